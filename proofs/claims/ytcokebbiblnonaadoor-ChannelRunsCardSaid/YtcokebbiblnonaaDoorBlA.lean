/-
  What the symbolic proofs stand on: the program's environment, and that what is proved of calls is known.
-/
import Derived.Test.YtcokebbiblnonaaDoorAbG
import Derived.Test.YtcokebbiblnonaaDoorProg
import Derived.Test.YtcokebbiblnonaaDoorAbF
set_option linter.all false
noncomputable section
namespace Go.Proofs.YtcokebbiblnonaaDoor
open Go Go.Ab
set_option maxRecDepth 100000
def nv:Nat:=2
abbrev E(b:Nat):Env2 Tryd.prog:=mkE Tryd.prog nv b
noncomputable def Qas(f:Nat):Code:=((Tryd.prog.funcs[f]?).bind (·.body)).getD .skip
theorem mixed:Tryd.prog.follows .mixedOrders=true:=by kernel_rfl
abbrev CP(b:Nat):CallP:=Y1o Tryd.prog (E b).G
def D0(b:Nat):CallF:=Yy2 (E b) Ywe 100 0
theorem Q4m(b:Nat):CallsSound Tryd.prog (E b).G (D0 b):=Y15 (E b) (Xxr _) Xkq mixed 100 0
theorem Qqz(b:Nat):CallsLow (D0 b):=Yvb (E b) Xkq 100 0
def DD(b:Nat):Xh0:=Ylw (E b) (D0 b) 100
theorem Q6d(b:Nat):Xml Tryd.prog (E b).G (DD b):=Y3y (E b) (Q4m b) (Qqz b) mixed
theorem Qv5(b:Nat):Yi7 (DD b):=Yzj (Qqz b)
end Go.Proofs.YtcokebbiblnonaaDoor
end
noncomputable section
namespace Go.Proofs.YtcokebbiblnonaaDoor
open Go Go.Ab
set_option maxRecDepth 1000000
theorem Zg8(b:Nat)(p0 p1 p2 p3 p4 p5 p6 p7 p8 p9 p10 p11 p12 p13 p14 p15 x y:Nat) :
  Ye8 nv ((Qsk Tryd.prog (mkE Tryd.prog nv b) Ywe 100 4).fn 71 [.pointer (some ⟨nv,0,none⟩),Qvp 0,Qvp 4,Qvp 8,Qvp 12, .agg #[Vq x,Vq y]] (Qoi nv [] true [(1,([p0,p1,p2,p3,p4,p5,p6,p7,p8,p9,p10,p11,p12,p13,p14,p15]:List Nat).map Vq)])) =
   some (.tuple #[],Ydx (.ofNat p0) (.ofNat p4) (.ofNat p8) (.ofNat p12) (.ofNat x) 16 20 fun a b c d=>Ydx a b c d (.ofNat y) 24 25 fun a b c d => [.int .u32 a,Vq p1,Vq p2,Vq p3, .int .u32 b,Vq p5,Vq p6,Vq p7, .int .u32 c,Vq p9,Vq p10,Vq p11, .int .u32 d,Vq p13,Vq p14,Vq p15]):=by kernel_rfl
theorem Zhv(b:Nat)(p0 p1 p2 p3 p4 p5 p6 p7 p8 p9 p10 p11 p12 p13 p14 p15 x y:Nat) :
  Ye8 nv ((Qsk Tryd.prog (mkE Tryd.prog nv b) Ywe 100 4).fn 71 [.pointer (some ⟨nv,0,none⟩),Qvp 1,Qvp 5,Qvp 9,Qvp 13, .agg #[Vq x,Vq y]] (Qoi nv [] true [(1,([p0,p1,p2,p3,p4,p5,p6,p7,p8,p9,p10,p11,p12,p13,p14,p15]:List Nat).map Vq)])) =
   some (.tuple #[],Ydx (.ofNat p1) (.ofNat p5) (.ofNat p9) (.ofNat p13) (.ofNat x) 16 20 fun a b c d=>Ydx a b c d (.ofNat y) 24 25 fun a b c d => [Vq p0, .int .u32 a,Vq p2,Vq p3,Vq p4, .int .u32 b,Vq p6,Vq p7,Vq p8, .int .u32 c,Vq p10,Vq p11,Vq p12, .int .u32 d,Vq p14,Vq p15]):=by kernel_rfl
theorem Zh9(b:Nat)(p0 p1 p2 p3 p4 p5 p6 p7 p8 p9 p10 p11 p12 p13 p14 p15 x y:Nat) :
  Ye8 nv ((Qsk Tryd.prog (mkE Tryd.prog nv b) Ywe 100 4).fn 71 [.pointer (some ⟨nv,0,none⟩),Qvp 2,Qvp 6,Qvp 10,Qvp 14, .agg #[Vq x,Vq y]] (Qoi nv [] true [(1,([p0,p1,p2,p3,p4,p5,p6,p7,p8,p9,p10,p11,p12,p13,p14,p15]:List Nat).map Vq)])) =
   some (.tuple #[],Ydx (.ofNat p2) (.ofNat p6) (.ofNat p10) (.ofNat p14) (.ofNat x) 16 20 fun a b c d=>Ydx a b c d (.ofNat y) 24 25 fun a b c d => [Vq p0,Vq p1, .int .u32 a,Vq p3,Vq p4,Vq p5, .int .u32 b,Vq p7,Vq p8,Vq p9, .int .u32 c,Vq p11,Vq p12,Vq p13, .int .u32 d,Vq p15]):=by kernel_rfl
theorem Zg3(b:Nat)(p0 p1 p2 p3 p4 p5 p6 p7 p8 p9 p10 p11 p12 p13 p14 p15 x y:Nat) :
  Ye8 nv ((Qsk Tryd.prog (mkE Tryd.prog nv b) Ywe 100 4).fn 71 [.pointer (some ⟨nv,0,none⟩),Qvp 3,Qvp 7,Qvp 11,Qvp 15, .agg #[Vq x,Vq y]] (Qoi nv [] true [(1,([p0,p1,p2,p3,p4,p5,p6,p7,p8,p9,p10,p11,p12,p13,p14,p15]:List Nat).map Vq)])) =
   some (.tuple #[],Ydx (.ofNat p3) (.ofNat p7) (.ofNat p11) (.ofNat p15) (.ofNat x) 16 20 fun a b c d=>Ydx a b c d (.ofNat y) 24 25 fun a b c d => [Vq p0,Vq p1,Vq p2, .int .u32 a,Vq p4,Vq p5,Vq p6, .int .u32 b,Vq p8,Vq p9,Vq p10, .int .u32 c,Vq p12,Vq p13,Vq p14, .int .u32 d]):=by kernel_rfl
theorem Zfu(b:Nat)(p0 p1 p2 p3 p4 p5 p6 p7 p8 p9 p10 p11 p12 p13 p14 p15 x y:Nat) :
  Ye8 nv ((Qsk Tryd.prog (mkE Tryd.prog nv b) Ywe 100 4).fn 71 [.pointer (some ⟨nv,0,none⟩),Qvp 0,Qvp 5,Qvp 10,Qvp 15, .agg #[Vq x,Vq y]] (Qoi nv [] true [(1,([p0,p1,p2,p3,p4,p5,p6,p7,p8,p9,p10,p11,p12,p13,p14,p15]:List Nat).map Vq)])) =
   some (.tuple #[],Ydx (.ofNat p0) (.ofNat p5) (.ofNat p10) (.ofNat p15) (.ofNat x) 16 20 fun a b c d=>Ydx a b c d (.ofNat y) 24 25 fun a b c d => [.int .u32 a,Vq p1,Vq p2,Vq p3,Vq p4, .int .u32 b,Vq p6,Vq p7,Vq p8,Vq p9, .int .u32 c,Vq p11,Vq p12,Vq p13,Vq p14, .int .u32 d]):=by kernel_rfl
theorem Zfz(b:Nat)(p0 p1 p2 p3 p4 p5 p6 p7 p8 p9 p10 p11 p12 p13 p14 p15 x y:Nat) :
  Ye8 nv ((Qsk Tryd.prog (mkE Tryd.prog nv b) Ywe 100 4).fn 71 [.pointer (some ⟨nv,0,none⟩),Qvp 1,Qvp 6,Qvp 11,Qvp 12, .agg #[Vq x,Vq y]] (Qoi nv [] true [(1,([p0,p1,p2,p3,p4,p5,p6,p7,p8,p9,p10,p11,p12,p13,p14,p15]:List Nat).map Vq)])) =
   some (.tuple #[],Ydx (.ofNat p1) (.ofNat p6) (.ofNat p11) (.ofNat p12) (.ofNat x) 16 20 fun a b c d=>Ydx a b c d (.ofNat y) 24 25 fun a b c d => [Vq p0, .int .u32 a,Vq p2,Vq p3,Vq p4,Vq p5, .int .u32 b,Vq p7,Vq p8,Vq p9,Vq p10, .int .u32 c, .int .u32 d,Vq p13,Vq p14,Vq p15]):=by kernel_rfl
theorem Zi2(b:Nat)(p0 p1 p2 p3 p4 p5 p6 p7 p8 p9 p10 p11 p12 p13 p14 p15 x y:Nat) :
  Ye8 nv ((Qsk Tryd.prog (mkE Tryd.prog nv b) Ywe 100 4).fn 71 [.pointer (some ⟨nv,0,none⟩),Qvp 2,Qvp 7,Qvp 8,Qvp 13, .agg #[Vq x,Vq y]] (Qoi nv [] true [(1,([p0,p1,p2,p3,p4,p5,p6,p7,p8,p9,p10,p11,p12,p13,p14,p15]:List Nat).map Vq)])) =
   some (.tuple #[],Ydx (.ofNat p2) (.ofNat p7) (.ofNat p8) (.ofNat p13) (.ofNat x) 16 20 fun a b c d=>Ydx a b c d (.ofNat y) 24 25 fun a b c d => [Vq p0,Vq p1, .int .u32 a,Vq p3,Vq p4,Vq p5,Vq p6, .int .u32 b, .int .u32 c,Vq p9,Vq p10,Vq p11,Vq p12, .int .u32 d,Vq p14,Vq p15]):=by kernel_rfl
theorem Zi1(b:Nat)(p0 p1 p2 p3 p4 p5 p6 p7 p8 p9 p10 p11 p12 p13 p14 p15 x y:Nat) :
  Ye8 nv ((Qsk Tryd.prog (mkE Tryd.prog nv b) Ywe 100 4).fn 71 [.pointer (some ⟨nv,0,none⟩),Qvp 3,Qvp 4,Qvp 9,Qvp 14, .agg #[Vq x,Vq y]] (Qoi nv [] true [(1,([p0,p1,p2,p3,p4,p5,p6,p7,p8,p9,p10,p11,p12,p13,p14,p15]:List Nat).map Vq)])) =
   some (.tuple #[],Ydx (.ofNat p3) (.ofNat p4) (.ofNat p9) (.ofNat p14) (.ofNat x) 16 20 fun a b c d=>Ydx a b c d (.ofNat y) 24 25 fun a b c d => [Vq p0,Vq p1,Vq p2, .int .u32 a, .int .u32 b,Vq p5,Vq p6,Vq p7,Vq p8, .int .u32 c,Vq p10,Vq p11,Vq p12,Vq p13, .int .u32 d,Vq p15]):=by kernel_rfl
def X9l(ix l:List Nat)(x y:Nat):Option (List Nat):=match l with
 | [p0,p1,p2,p3,p4,p5,p6,p7,p8,p9,p10,p11,p12,p13,p14,p15] =>
  bq (eqN ix [0,4,8,12]) (some (Bl.stir p0 p4 p8 p12 x y fun p0 p4 p8 p12 => [p0,p1,p2,p3,p4,p5,p6,p7,p8,p9,p10,p11,p12,p13,p14,p15])) <|
  bq (eqN ix [1,5,9,13]) (some (Bl.stir p1 p5 p9 p13 x y fun p1 p5 p9 p13 => [p0,p1,p2,p3,p4,p5,p6,p7,p8,p9,p10,p11,p12,p13,p14,p15])) <|
  bq (eqN ix [2,6,10,14]) (some (Bl.stir p2 p6 p10 p14 x y fun p2 p6 p10 p14 => [p0,p1,p2,p3,p4,p5,p6,p7,p8,p9,p10,p11,p12,p13,p14,p15])) <|
  bq (eqN ix [3,7,11,15]) (some (Bl.stir p3 p7 p11 p15 x y fun p3 p7 p11 p15 => [p0,p1,p2,p3,p4,p5,p6,p7,p8,p9,p10,p11,p12,p13,p14,p15])) <|
  bq (eqN ix [0,5,10,15]) (some (Bl.stir p0 p5 p10 p15 x y fun p0 p5 p10 p15 => [p0,p1,p2,p3,p4,p5,p6,p7,p8,p9,p10,p11,p12,p13,p14,p15])) <|
  bq (eqN ix [1,6,11,12]) (some (Bl.stir p1 p6 p11 p12 x y fun p1 p6 p11 p12 => [p0,p1,p2,p3,p4,p5,p6,p7,p8,p9,p10,p11,p12,p13,p14,p15])) <|
  bq (eqN ix [2,7,8,13]) (some (Bl.stir p2 p7 p8 p13 x y fun p2 p7 p8 p13 => [p0,p1,p2,p3,p4,p5,p6,p7,p8,p9,p10,p11,p12,p13,p14,p15])) <|
  bq (eqN ix [3,4,9,14]) (some (Bl.stir p3 p4 p9 p14 x y fun p3 p4 p9 p14 => [p0,p1,p2,p3,p4,p5,p6,p7,p8,p9,p10,p11,p12,p13,p14,p15])) <|
  none
 | _=>none
def You:X9c:=fun f args h=>bq (Nat.beq f 71) (match args with
 | [p,a,b,c,d, .agg ⟨[.int .u32 (.ofNat x), .int .u32 (.ofNat y)]⟩]=>ob (Yzg h p) fun q=>ob (Zm3 q.2) fun l=>ob (Y24 [a,b,c,d]) fun ix=>ob (X9l ix l x y) fun l'=>some (.ret (.tuple #[]),h.set q.1 (some (.cells true 1 (l'.map Vq))))
 | _=>none) none
theorem Zdt{ix l l':List Nat}{x y:Nat}(h:X9l ix l x y=some l') : ∃ p0 p1 p2 p3 p4 p5 p6 p7 p8 p9 p10 p11 p12 p13 p14 p15,l = [p0,p1,p2,p3,p4,p5,p6,p7,p8,p9,p10,p11,p12,p13,p14,p15]:=by
 unfold X9l at h
 split at h
 ·exact⟨_,_,_,_,_,_,_,_,_,_,_,_,_,_,_,_,rfl⟩
 ·cases h
theorem Zbb{a b c d:Value}{ix:List Nat}(h:Y24 [a,b,c,d]=some ix) : ∃ i j k l,ix = [i,j,k,l]∧a=Qvp i∧b=Qvp j∧c=Qvp k∧d=Qvp l:=by
 have:=Zcj h
 match ix,this with
 | [i,j,k,l],e=>simp only[List.map_cons,List.map_nil,List.cons.injEq,and_true]at e;exact⟨i,j,k,l,rfl,e.1,e.2.1,e.2.2.1,e.2.2.2⟩
theorem Xtv(n blk:Nat):Yzz (emb n [blk]) (.pointer (some ⟨n,0,none⟩)) (.pointer (some ⟨blk,0,none⟩)):=Yrn (by simp[emb])
theorem Zje(b:Nat){h:Heap}{blk:Nat}(p0 p1 p2 p3 p4 p5 p6 p7 p8 p9 p10 p11 p12 p13 p14 p15 x y:Nat)(hg:h.get blk=some (.cells true 1 (([p0,p1,p2,p3,p4,p5,p6,p7,p8,p9,p10,p11,p12,p13,p14,p15]:List Nat).map Vq))) :
  CallOK Tryd.prog ⟨nv,b⟩ 71 [.pointer (some ⟨blk,0,none⟩),Qvp 0,Qvp 4,Qvp 8,Qvp 12, .agg #[Vq x,Vq y]] h
   (fun r h1=>r = .ret (.tuple #[])∧h1=h.set blk (some (.cells true 1 ((Bl.stir p0 p4 p8 p12 x y fun p0 p4 p8 p12 => [p0,p1,p2,p3,p4,p5,p6,p7,p8,p9,p10,p11,p12,p13,p14,p15]).map Vq)))):=by
 refine Xuf (k:=100) (m:=4) mixed (fun b=>Xxr _) Xkq (fun b=>(Zg8 b p0 p1 p2 p3 p4 p5 p6 p7 p8 p9 p10 p11 p12 p13 p14 p15 x y).trans ?_) rfl (Qh6 _) (Qh6 _) hg (Yj (Xtv _ _) (Yj (Vd rfl) (Yj (Vd rfl) (Yj (Vd rfl) (Yj (Vd rfl) (Yj (Vd rfl) Qm4))))))
 rw[Qxd _ _ _ _ _ 16 20 (by decide) (by decide)]
 simp only[Bl.half,Qxd _ _ _ _ _ 24 25 (by decide) (by decide),Bl.stir,List.map_cons,List.map_nil,Vq]
theorem Zkm(b:Nat){h:Heap}{blk:Nat}(p0 p1 p2 p3 p4 p5 p6 p7 p8 p9 p10 p11 p12 p13 p14 p15 x y:Nat)(hg:h.get blk=some (.cells true 1 (([p0,p1,p2,p3,p4,p5,p6,p7,p8,p9,p10,p11,p12,p13,p14,p15]:List Nat).map Vq))) :
  CallOK Tryd.prog ⟨nv,b⟩ 71 [.pointer (some ⟨blk,0,none⟩),Qvp 1,Qvp 5,Qvp 9,Qvp 13, .agg #[Vq x,Vq y]] h
   (fun r h1=>r = .ret (.tuple #[])∧h1=h.set blk (some (.cells true 1 ((Bl.stir p1 p5 p9 p13 x y fun p1 p5 p9 p13 => [p0,p1,p2,p3,p4,p5,p6,p7,p8,p9,p10,p11,p12,p13,p14,p15]).map Vq)))):=by
 refine Xuf (k:=100) (m:=4) mixed (fun b=>Xxr _) Xkq (fun b=>(Zhv b p0 p1 p2 p3 p4 p5 p6 p7 p8 p9 p10 p11 p12 p13 p14 p15 x y).trans ?_) rfl (Qh6 _) (Qh6 _) hg (Yj (Xtv _ _) (Yj (Vd rfl) (Yj (Vd rfl) (Yj (Vd rfl) (Yj (Vd rfl) (Yj (Vd rfl) Qm4))))))
 rw[Qxd _ _ _ _ _ 16 20 (by decide) (by decide)]
 simp only[Bl.half,Qxd _ _ _ _ _ 24 25 (by decide) (by decide),Bl.stir,List.map_cons,List.map_nil,Vq]
theorem Zkt(b:Nat){h:Heap}{blk:Nat}(p0 p1 p2 p3 p4 p5 p6 p7 p8 p9 p10 p11 p12 p13 p14 p15 x y:Nat)(hg:h.get blk=some (.cells true 1 (([p0,p1,p2,p3,p4,p5,p6,p7,p8,p9,p10,p11,p12,p13,p14,p15]:List Nat).map Vq))) :
  CallOK Tryd.prog ⟨nv,b⟩ 71 [.pointer (some ⟨blk,0,none⟩),Qvp 2,Qvp 6,Qvp 10,Qvp 14, .agg #[Vq x,Vq y]] h
   (fun r h1=>r = .ret (.tuple #[])∧h1=h.set blk (some (.cells true 1 ((Bl.stir p2 p6 p10 p14 x y fun p2 p6 p10 p14 => [p0,p1,p2,p3,p4,p5,p6,p7,p8,p9,p10,p11,p12,p13,p14,p15]).map Vq)))):=by
 refine Xuf (k:=100) (m:=4) mixed (fun b=>Xxr _) Xkq (fun b=>(Zh9 b p0 p1 p2 p3 p4 p5 p6 p7 p8 p9 p10 p11 p12 p13 p14 p15 x y).trans ?_) rfl (Qh6 _) (Qh6 _) hg (Yj (Xtv _ _) (Yj (Vd rfl) (Yj (Vd rfl) (Yj (Vd rfl) (Yj (Vd rfl) (Yj (Vd rfl) Qm4))))))
 rw[Qxd _ _ _ _ _ 16 20 (by decide) (by decide)]
 simp only[Bl.half,Qxd _ _ _ _ _ 24 25 (by decide) (by decide),Bl.stir,List.map_cons,List.map_nil,Vq]
theorem Zkg(b:Nat){h:Heap}{blk:Nat}(p0 p1 p2 p3 p4 p5 p6 p7 p8 p9 p10 p11 p12 p13 p14 p15 x y:Nat)(hg:h.get blk=some (.cells true 1 (([p0,p1,p2,p3,p4,p5,p6,p7,p8,p9,p10,p11,p12,p13,p14,p15]:List Nat).map Vq))) :
  CallOK Tryd.prog ⟨nv,b⟩ 71 [.pointer (some ⟨blk,0,none⟩),Qvp 3,Qvp 7,Qvp 11,Qvp 15, .agg #[Vq x,Vq y]] h
   (fun r h1=>r = .ret (.tuple #[])∧h1=h.set blk (some (.cells true 1 ((Bl.stir p3 p7 p11 p15 x y fun p3 p7 p11 p15 => [p0,p1,p2,p3,p4,p5,p6,p7,p8,p9,p10,p11,p12,p13,p14,p15]).map Vq)))):=by
 refine Xuf (k:=100) (m:=4) mixed (fun b=>Xxr _) Xkq (fun b=>(Zg3 b p0 p1 p2 p3 p4 p5 p6 p7 p8 p9 p10 p11 p12 p13 p14 p15 x y).trans ?_) rfl (Qh6 _) (Qh6 _) hg (Yj (Xtv _ _) (Yj (Vd rfl) (Yj (Vd rfl) (Yj (Vd rfl) (Yj (Vd rfl) (Yj (Vd rfl) Qm4))))))
 rw[Qxd _ _ _ _ _ 16 20 (by decide) (by decide)]
 simp only[Bl.half,Qxd _ _ _ _ _ 24 25 (by decide) (by decide),Bl.stir,List.map_cons,List.map_nil,Vq]
theorem Zlb(b:Nat){h:Heap}{blk:Nat}(p0 p1 p2 p3 p4 p5 p6 p7 p8 p9 p10 p11 p12 p13 p14 p15 x y:Nat)(hg:h.get blk=some (.cells true 1 (([p0,p1,p2,p3,p4,p5,p6,p7,p8,p9,p10,p11,p12,p13,p14,p15]:List Nat).map Vq))) :
  CallOK Tryd.prog ⟨nv,b⟩ 71 [.pointer (some ⟨blk,0,none⟩),Qvp 0,Qvp 5,Qvp 10,Qvp 15, .agg #[Vq x,Vq y]] h
   (fun r h1=>r = .ret (.tuple #[])∧h1=h.set blk (some (.cells true 1 ((Bl.stir p0 p5 p10 p15 x y fun p0 p5 p10 p15 => [p0,p1,p2,p3,p4,p5,p6,p7,p8,p9,p10,p11,p12,p13,p14,p15]).map Vq)))):=by
 refine Xuf (k:=100) (m:=4) mixed (fun b=>Xxr _) Xkq (fun b=>(Zfu b p0 p1 p2 p3 p4 p5 p6 p7 p8 p9 p10 p11 p12 p13 p14 p15 x y).trans ?_) rfl (Qh6 _) (Qh6 _) hg (Yj (Xtv _ _) (Yj (Vd rfl) (Yj (Vd rfl) (Yj (Vd rfl) (Yj (Vd rfl) (Yj (Vd rfl) Qm4))))))
 rw[Qxd _ _ _ _ _ 16 20 (by decide) (by decide)]
 simp only[Bl.half,Qxd _ _ _ _ _ 24 25 (by decide) (by decide),Bl.stir,List.map_cons,List.map_nil,Vq]
theorem Zml(b:Nat){h:Heap}{blk:Nat}(p0 p1 p2 p3 p4 p5 p6 p7 p8 p9 p10 p11 p12 p13 p14 p15 x y:Nat)(hg:h.get blk=some (.cells true 1 (([p0,p1,p2,p3,p4,p5,p6,p7,p8,p9,p10,p11,p12,p13,p14,p15]:List Nat).map Vq))) :
  CallOK Tryd.prog ⟨nv,b⟩ 71 [.pointer (some ⟨blk,0,none⟩),Qvp 1,Qvp 6,Qvp 11,Qvp 12, .agg #[Vq x,Vq y]] h
   (fun r h1=>r = .ret (.tuple #[])∧h1=h.set blk (some (.cells true 1 ((Bl.stir p1 p6 p11 p12 x y fun p1 p6 p11 p12 => [p0,p1,p2,p3,p4,p5,p6,p7,p8,p9,p10,p11,p12,p13,p14,p15]).map Vq)))):=by
 refine Xuf (k:=100) (m:=4) mixed (fun b=>Xxr _) Xkq (fun b=>(Zfz b p0 p1 p2 p3 p4 p5 p6 p7 p8 p9 p10 p11 p12 p13 p14 p15 x y).trans ?_) rfl (Qh6 _) (Qh6 _) hg (Yj (Xtv _ _) (Yj (Vd rfl) (Yj (Vd rfl) (Yj (Vd rfl) (Yj (Vd rfl) (Yj (Vd rfl) Qm4))))))
 rw[Qxd _ _ _ _ _ 16 20 (by decide) (by decide)]
 simp only[Bl.half,Qxd _ _ _ _ _ 24 25 (by decide) (by decide),Bl.stir,List.map_cons,List.map_nil,Vq]
theorem Zli(b:Nat){h:Heap}{blk:Nat}(p0 p1 p2 p3 p4 p5 p6 p7 p8 p9 p10 p11 p12 p13 p14 p15 x y:Nat)(hg:h.get blk=some (.cells true 1 (([p0,p1,p2,p3,p4,p5,p6,p7,p8,p9,p10,p11,p12,p13,p14,p15]:List Nat).map Vq))) :
  CallOK Tryd.prog ⟨nv,b⟩ 71 [.pointer (some ⟨blk,0,none⟩),Qvp 2,Qvp 7,Qvp 8,Qvp 13, .agg #[Vq x,Vq y]] h
   (fun r h1=>r = .ret (.tuple #[])∧h1=h.set blk (some (.cells true 1 ((Bl.stir p2 p7 p8 p13 x y fun p2 p7 p8 p13 => [p0,p1,p2,p3,p4,p5,p6,p7,p8,p9,p10,p11,p12,p13,p14,p15]).map Vq)))):=by
 refine Xuf (k:=100) (m:=4) mixed (fun b=>Xxr _) Xkq (fun b=>(Zi2 b p0 p1 p2 p3 p4 p5 p6 p7 p8 p9 p10 p11 p12 p13 p14 p15 x y).trans ?_) rfl (Qh6 _) (Qh6 _) hg (Yj (Xtv _ _) (Yj (Vd rfl) (Yj (Vd rfl) (Yj (Vd rfl) (Yj (Vd rfl) (Yj (Vd rfl) Qm4))))))
 rw[Qxd _ _ _ _ _ 16 20 (by decide) (by decide)]
 simp only[Bl.half,Qxd _ _ _ _ _ 24 25 (by decide) (by decide),Bl.stir,List.map_cons,List.map_nil,Vq]
theorem Zl5(b:Nat){h:Heap}{blk:Nat}(p0 p1 p2 p3 p4 p5 p6 p7 p8 p9 p10 p11 p12 p13 p14 p15 x y:Nat)(hg:h.get blk=some (.cells true 1 (([p0,p1,p2,p3,p4,p5,p6,p7,p8,p9,p10,p11,p12,p13,p14,p15]:List Nat).map Vq))) :
  CallOK Tryd.prog ⟨nv,b⟩ 71 [.pointer (some ⟨blk,0,none⟩),Qvp 3,Qvp 4,Qvp 9,Qvp 14, .agg #[Vq x,Vq y]] h
   (fun r h1=>r = .ret (.tuple #[])∧h1=h.set blk (some (.cells true 1 ((Bl.stir p3 p4 p9 p14 x y fun p3 p4 p9 p14 => [p0,p1,p2,p3,p4,p5,p6,p7,p8,p9,p10,p11,p12,p13,p14,p15]).map Vq)))):=by
 refine Xuf (k:=100) (m:=4) mixed (fun b=>Xxr _) Xkq (fun b=>(Zi1 b p0 p1 p2 p3 p4 p5 p6 p7 p8 p9 p10 p11 p12 p13 p14 p15 x y).trans ?_) rfl (Qh6 _) (Qh6 _) hg (Yj (Xtv _ _) (Yj (Vd rfl) (Yj (Vd rfl) (Yj (Vd rfl) (Yj (Vd rfl) (Yj (Vd rfl) Qm4))))))
 rw[Qxd _ _ _ _ _ 16 20 (by decide) (by decide)]
 simp only[Bl.half,Qxd _ _ _ _ _ 24 25 (by decide) (by decide),Bl.stir,List.map_cons,List.map_nil,Vq]
theorem Xtg(b:Nat):Xhe Tryd.prog ⟨nv,b⟩ You:=by
 intro f args h r h' hx
 unfold You at hx
 obtain⟨hf,hx⟩:=Xbl hx
 have hf:=Nat.eq_of_beq_eq_true hf
 subst hf
 split at hx
 ·rename_i p a b' c d x y hq
  obtain⟨⟨blk,cs⟩,h1,hx⟩:=Qlh hx
  obtain⟨l,h2,hx⟩:=Qlh hx
  obtain⟨ix,h3,hx⟩:=Qlh hx
  obtain⟨l',h4,hx⟩:=Qlh hx
  cases hx
  obtain⟨rfl,hg⟩:=X9u h1
  have:=Yxn h2
  subst this
  obtain⟨i,j,k,q,rfl,rfl,rfl,rfl,rfl⟩:=Zbb h3
  obtain⟨p0,p1,p2,p3,p4,p5,p6,p7,p8,p9,p10,p11,p12,p13,p14,p15,rfl⟩:=Zdt h4
  unfold X9l at h4
  simp only at h4
  cases e0:eqN [i,j,k,q] [0,4,8,12]with
  | true =>
   rw[e0]at h4
   cases h4
   have:=Yhe e0
   simp only[List.cons.injEq,and_true]at this
   obtain⟨rfl,rfl,rfl,rfl⟩:=this
   exact Zje b p0 p1 p2 p3 p4 p5 p6 p7 p8 p9 p10 p11 p12 p13 p14 p15 x y hg
  | false =>
  rw[e0,bq_false]at h4
  cases e1:eqN [i,j,k,q] [1,5,9,13]with
  | true =>
   rw[e1]at h4
   cases h4
   have:=Yhe e1
   simp only[List.cons.injEq,and_true]at this
   obtain⟨rfl,rfl,rfl,rfl⟩:=this
   exact Zkm b p0 p1 p2 p3 p4 p5 p6 p7 p8 p9 p10 p11 p12 p13 p14 p15 x y hg
  | false =>
  rw[e1,bq_false]at h4
  cases e2:eqN [i,j,k,q] [2,6,10,14]with
  | true =>
   rw[e2]at h4
   cases h4
   have:=Yhe e2
   simp only[List.cons.injEq,and_true]at this
   obtain⟨rfl,rfl,rfl,rfl⟩:=this
   exact Zkt b p0 p1 p2 p3 p4 p5 p6 p7 p8 p9 p10 p11 p12 p13 p14 p15 x y hg
  | false =>
  rw[e2,bq_false]at h4
  cases e3:eqN [i,j,k,q] [3,7,11,15]with
  | true =>
   rw[e3]at h4
   cases h4
   have:=Yhe e3
   simp only[List.cons.injEq,and_true]at this
   obtain⟨rfl,rfl,rfl,rfl⟩:=this
   exact Zkg b p0 p1 p2 p3 p4 p5 p6 p7 p8 p9 p10 p11 p12 p13 p14 p15 x y hg
  | false =>
  rw[e3,bq_false]at h4
  cases e4:eqN [i,j,k,q] [0,5,10,15]with
  | true =>
   rw[e4]at h4
   cases h4
   have:=Yhe e4
   simp only[List.cons.injEq,and_true]at this
   obtain⟨rfl,rfl,rfl,rfl⟩:=this
   exact Zlb b p0 p1 p2 p3 p4 p5 p6 p7 p8 p9 p10 p11 p12 p13 p14 p15 x y hg
  | false =>
  rw[e4,bq_false]at h4
  cases e5:eqN [i,j,k,q] [1,6,11,12]with
  | true =>
   rw[e5]at h4
   cases h4
   have:=Yhe e5
   simp only[List.cons.injEq,and_true]at this
   obtain⟨rfl,rfl,rfl,rfl⟩:=this
   exact Zml b p0 p1 p2 p3 p4 p5 p6 p7 p8 p9 p10 p11 p12 p13 p14 p15 x y hg
  | false =>
  rw[e5,bq_false]at h4
  cases e6:eqN [i,j,k,q] [2,7,8,13]with
  | true =>
   rw[e6]at h4
   cases h4
   have:=Yhe e6
   simp only[List.cons.injEq,and_true]at this
   obtain⟨rfl,rfl,rfl,rfl⟩:=this
   exact Zli b p0 p1 p2 p3 p4 p5 p6 p7 p8 p9 p10 p11 p12 p13 p14 p15 x y hg
  | false =>
  rw[e6,bq_false]at h4
  cases e7:eqN [i,j,k,q] [3,4,9,14]with
  | true =>
   rw[e7]at h4
   cases h4
   have:=Yhe e7
   simp only[List.cons.injEq,and_true]at this
   obtain⟨rfl,rfl,rfl,rfl⟩:=this
   exact Zl5 b p0 p1 p2 p3 p4 p5 p6 p7 p8 p9 p10 p11 p12 p13 p14 p15 x y hg
  | false =>
  rw[e7,bq_false]at h4
  cases h4
 ·cases hx
theorem Xlz:Xtq You:=by
 intro f args h r h' hx
 unfold You at hx
 obtain⟨hf,hx⟩:=Xbl hx
 split at hx
 ·obtain⟨⟨blk,cs⟩,h1,hx⟩:=Qlh hx
  obtain⟨l,h2,hx⟩:=Qlh hx
  obtain⟨ix,h3,hx⟩:=Qlh hx
  obtain⟨l',h4,hx⟩:=Qlh hx
  cases hx
  obtain⟨_,hg⟩:=X9u h1
  exact LowOK.set _ _ _ (Heap.get_lt hg)
 ·cases hx
end Go.Proofs.YtcokebbiblnonaaDoor
end
noncomputable section
namespace Go.Proofs.YtcokebbiblnonaaDoor
open Go Go.Ab
set_option maxRecDepth 1000000
def Zp6:ByteArray:=⟨#[48,49,50,51,52,53,54,55,56,57,97,98,99,100,101,102]⟩
def Zow:ByteArray:=⟨#[101,97,52,56,57,102,100,54,49,99,48,50,98,55,53,51]⟩
def Zox:ByteArray:=⟨#[98,56,99,48,53,50,102,100,97,101,51,54,55,49,57,52]⟩
def Zp4:ByteArray:=⟨#[55,57,51,49,100,99,98,101,50,54,53,97,52,48,102,56]⟩
def Zp3:ByteArray:=⟨#[57,48,53,55,50,52,97,102,101,49,98,99,54,56,51,100]⟩
def Zou:ByteArray:=⟨#[50,99,54,97,48,98,56,51,52,100,55,53,102,101,49,57]⟩
def Zp1:ByteArray:=⟨#[99,53,49,102,101,100,52,97,48,55,54,51,57,50,56,98]⟩
def Zos:ByteArray:=⟨#[100,98,55,101,99,49,51,57,53,48,102,52,56,54,50,97]⟩
def Zov:ByteArray:=⟨#[54,102,101,57,98,51,48,56,99,50,100,55,49,52,97,53]⟩
def Zoq:ByteArray:=⟨#[97,50,56,52,55,54,49,53,102,98,57,101,51,99,100,48]⟩
def Qs5(l:List Nat)(x0 x1 x2 x3 x4 x5 x6 x7 x8 x9 x10 x11 x12 x13 x14 x15:Nat):Option (List Nat) :=
 ob (X9l [0,4,8,12] l x0 x1) fun l =>
 ob (X9l [1,5,9,13] l x2 x3) fun l =>
 ob (X9l [2,6,10,14] l x4 x5) fun l =>
 ob (X9l [3,7,11,15] l x6 x7) fun l =>
 ob (X9l [0,5,10,15] l x8 x9) fun l =>
 ob (X9l [1,6,11,12] l x10 x11) fun l =>
 ob (X9l [2,7,8,13] l x12 x13) fun l =>
 X9l [3,4,9,14] l x14 x15
theorem Zd4(b:Nat)(p0 p1 p2 p3 p4 p5 p6 p7 p8 p9 p10 p11 p12 p13 p14 p15 m0 m1 m2 m3 m4 m5 m6 m7 m8 m9 m10 m11 m12 m13 m14 m15:Nat) :
  Xsy nv (nv+1) ((Qsk Tryd.prog (mkE Tryd.prog nv b) You 100 4).fn 62 [.pointer (some ⟨nv,0,none⟩), .pointer (some ⟨nv+1,0,none⟩), .string Zp6] (Qoi nv [] true [(1,([p0,p1,p2,p3,p4,p5,p6,p7,p8,p9,p10,p11,p12,p13,p14,p15]:List Nat).map Vq),(1,([m0,m1,m2,m3,m4,m5,m6,m7,m8,m9,m10,m11,m12,m13,m14,m15]:List Nat).map Vq)])) =
   ob (Qs5 [p0,p1,p2,p3,p4,p5,p6,p7,p8,p9,p10,p11,p12,p13,p14,p15] m0 m1 m2 m3 m4 m5 m6 m7 m8 m9 m10 m11 m12 m13 m14 m15) fun l=>some (.tuple #[],l.map Vq,([m0,m1,m2,m3,m4,m5,m6,m7,m8,m9,m10,m11,m12,m13,m14,m15]:List Nat).map Vq):=by kernel_rfl
theorem Zbw(b:Nat)(p0 p1 p2 p3 p4 p5 p6 p7 p8 p9 p10 p11 p12 p13 p14 p15 m0 m1 m2 m3 m4 m5 m6 m7 m8 m9 m10 m11 m12 m13 m14 m15:Nat) :
  Xsy nv (nv+1) ((Qsk Tryd.prog (mkE Tryd.prog nv b) You 100 4).fn 62 [.pointer (some ⟨nv,0,none⟩), .pointer (some ⟨nv+1,0,none⟩), .string Zow] (Qoi nv [] true [(1,([p0,p1,p2,p3,p4,p5,p6,p7,p8,p9,p10,p11,p12,p13,p14,p15]:List Nat).map Vq),(1,([m0,m1,m2,m3,m4,m5,m6,m7,m8,m9,m10,m11,m12,m13,m14,m15]:List Nat).map Vq)])) =
   ob (Qs5 [p0,p1,p2,p3,p4,p5,p6,p7,p8,p9,p10,p11,p12,p13,p14,p15] m14 m10 m4 m8 m9 m15 m13 m6 m1 m12 m0 m2 m11 m7 m5 m3) fun l=>some (.tuple #[],l.map Vq,([m0,m1,m2,m3,m4,m5,m6,m7,m8,m9,m10,m11,m12,m13,m14,m15]:List Nat).map Vq):=by kernel_rfl
theorem Zb9(b:Nat)(p0 p1 p2 p3 p4 p5 p6 p7 p8 p9 p10 p11 p12 p13 p14 p15 m0 m1 m2 m3 m4 m5 m6 m7 m8 m9 m10 m11 m12 m13 m14 m15:Nat) :
  Xsy nv (nv+1) ((Qsk Tryd.prog (mkE Tryd.prog nv b) You 100 4).fn 62 [.pointer (some ⟨nv,0,none⟩), .pointer (some ⟨nv+1,0,none⟩), .string Zox] (Qoi nv [] true [(1,([p0,p1,p2,p3,p4,p5,p6,p7,p8,p9,p10,p11,p12,p13,p14,p15]:List Nat).map Vq),(1,([m0,m1,m2,m3,m4,m5,m6,m7,m8,m9,m10,m11,m12,m13,m14,m15]:List Nat).map Vq)])) =
   ob (Qs5 [p0,p1,p2,p3,p4,p5,p6,p7,p8,p9,p10,p11,p12,p13,p14,p15] m11 m8 m12 m0 m5 m2 m15 m13 m10 m14 m3 m6 m7 m1 m9 m4) fun l=>some (.tuple #[],l.map Vq,([m0,m1,m2,m3,m4,m5,m6,m7,m8,m9,m10,m11,m12,m13,m14,m15]:List Nat).map Vq):=by kernel_rfl
theorem Zf5(b:Nat)(p0 p1 p2 p3 p4 p5 p6 p7 p8 p9 p10 p11 p12 p13 p14 p15 m0 m1 m2 m3 m4 m5 m6 m7 m8 m9 m10 m11 m12 m13 m14 m15:Nat) :
  Xsy nv (nv+1) ((Qsk Tryd.prog (mkE Tryd.prog nv b) You 100 4).fn 62 [.pointer (some ⟨nv,0,none⟩), .pointer (some ⟨nv+1,0,none⟩), .string Zp4] (Qoi nv [] true [(1,([p0,p1,p2,p3,p4,p5,p6,p7,p8,p9,p10,p11,p12,p13,p14,p15]:List Nat).map Vq),(1,([m0,m1,m2,m3,m4,m5,m6,m7,m8,m9,m10,m11,m12,m13,m14,m15]:List Nat).map Vq)])) =
   ob (Qs5 [p0,p1,p2,p3,p4,p5,p6,p7,p8,p9,p10,p11,p12,p13,p14,p15] m7 m9 m3 m1 m13 m12 m11 m14 m2 m6 m5 m10 m4 m0 m15 m8) fun l=>some (.tuple #[],l.map Vq,([m0,m1,m2,m3,m4,m5,m6,m7,m8,m9,m10,m11,m12,m13,m14,m15]:List Nat).map Vq):=by kernel_rfl
theorem Zb6(b:Nat)(p0 p1 p2 p3 p4 p5 p6 p7 p8 p9 p10 p11 p12 p13 p14 p15 m0 m1 m2 m3 m4 m5 m6 m7 m8 m9 m10 m11 m12 m13 m14 m15:Nat) :
  Xsy nv (nv+1) ((Qsk Tryd.prog (mkE Tryd.prog nv b) You 100 4).fn 62 [.pointer (some ⟨nv,0,none⟩), .pointer (some ⟨nv+1,0,none⟩), .string Zp3] (Qoi nv [] true [(1,([p0,p1,p2,p3,p4,p5,p6,p7,p8,p9,p10,p11,p12,p13,p14,p15]:List Nat).map Vq),(1,([m0,m1,m2,m3,m4,m5,m6,m7,m8,m9,m10,m11,m12,m13,m14,m15]:List Nat).map Vq)])) =
   ob (Qs5 [p0,p1,p2,p3,p4,p5,p6,p7,p8,p9,p10,p11,p12,p13,p14,p15] m9 m0 m5 m7 m2 m4 m10 m15 m14 m1 m11 m12 m6 m8 m3 m13) fun l=>some (.tuple #[],l.map Vq,([m0,m1,m2,m3,m4,m5,m6,m7,m8,m9,m10,m11,m12,m13,m14,m15]:List Nat).map Vq):=by kernel_rfl
theorem Zde(b:Nat)(p0 p1 p2 p3 p4 p5 p6 p7 p8 p9 p10 p11 p12 p13 p14 p15 m0 m1 m2 m3 m4 m5 m6 m7 m8 m9 m10 m11 m12 m13 m14 m15:Nat) :
  Xsy nv (nv+1) ((Qsk Tryd.prog (mkE Tryd.prog nv b) You 100 4).fn 62 [.pointer (some ⟨nv,0,none⟩), .pointer (some ⟨nv+1,0,none⟩), .string Zou] (Qoi nv [] true [(1,([p0,p1,p2,p3,p4,p5,p6,p7,p8,p9,p10,p11,p12,p13,p14,p15]:List Nat).map Vq),(1,([m0,m1,m2,m3,m4,m5,m6,m7,m8,m9,m10,m11,m12,m13,m14,m15]:List Nat).map Vq)])) =
   ob (Qs5 [p0,p1,p2,p3,p4,p5,p6,p7,p8,p9,p10,p11,p12,p13,p14,p15] m2 m12 m6 m10 m0 m11 m8 m3 m4 m13 m7 m5 m15 m14 m1 m9) fun l=>some (.tuple #[],l.map Vq,([m0,m1,m2,m3,m4,m5,m6,m7,m8,m9,m10,m11,m12,m13,m14,m15]:List Nat).map Vq):=by kernel_rfl
theorem Zaz(b:Nat)(p0 p1 p2 p3 p4 p5 p6 p7 p8 p9 p10 p11 p12 p13 p14 p15 m0 m1 m2 m3 m4 m5 m6 m7 m8 m9 m10 m11 m12 m13 m14 m15:Nat) :
  Xsy nv (nv+1) ((Qsk Tryd.prog (mkE Tryd.prog nv b) You 100 4).fn 62 [.pointer (some ⟨nv,0,none⟩), .pointer (some ⟨nv+1,0,none⟩), .string Zp1] (Qoi nv [] true [(1,([p0,p1,p2,p3,p4,p5,p6,p7,p8,p9,p10,p11,p12,p13,p14,p15]:List Nat).map Vq),(1,([m0,m1,m2,m3,m4,m5,m6,m7,m8,m9,m10,m11,m12,m13,m14,m15]:List Nat).map Vq)])) =
   ob (Qs5 [p0,p1,p2,p3,p4,p5,p6,p7,p8,p9,p10,p11,p12,p13,p14,p15] m12 m5 m1 m15 m14 m13 m4 m10 m0 m7 m6 m3 m9 m2 m8 m11) fun l=>some (.tuple #[],l.map Vq,([m0,m1,m2,m3,m4,m5,m6,m7,m8,m9,m10,m11,m12,m13,m14,m15]:List Nat).map Vq):=by kernel_rfl
theorem Zbc(b:Nat)(p0 p1 p2 p3 p4 p5 p6 p7 p8 p9 p10 p11 p12 p13 p14 p15 m0 m1 m2 m3 m4 m5 m6 m7 m8 m9 m10 m11 m12 m13 m14 m15:Nat) :
  Xsy nv (nv+1) ((Qsk Tryd.prog (mkE Tryd.prog nv b) You 100 4).fn 62 [.pointer (some ⟨nv,0,none⟩), .pointer (some ⟨nv+1,0,none⟩), .string Zos] (Qoi nv [] true [(1,([p0,p1,p2,p3,p4,p5,p6,p7,p8,p9,p10,p11,p12,p13,p14,p15]:List Nat).map Vq),(1,([m0,m1,m2,m3,m4,m5,m6,m7,m8,m9,m10,m11,m12,m13,m14,m15]:List Nat).map Vq)])) =
   ob (Qs5 [p0,p1,p2,p3,p4,p5,p6,p7,p8,p9,p10,p11,p12,p13,p14,p15] m13 m11 m7 m14 m12 m1 m3 m9 m5 m0 m15 m4 m8 m6 m2 m10) fun l=>some (.tuple #[],l.map Vq,([m0,m1,m2,m3,m4,m5,m6,m7,m8,m9,m10,m11,m12,m13,m14,m15]:List Nat).map Vq):=by kernel_rfl
theorem Zbl(b:Nat)(p0 p1 p2 p3 p4 p5 p6 p7 p8 p9 p10 p11 p12 p13 p14 p15 m0 m1 m2 m3 m4 m5 m6 m7 m8 m9 m10 m11 m12 m13 m14 m15:Nat) :
  Xsy nv (nv+1) ((Qsk Tryd.prog (mkE Tryd.prog nv b) You 100 4).fn 62 [.pointer (some ⟨nv,0,none⟩), .pointer (some ⟨nv+1,0,none⟩), .string Zov] (Qoi nv [] true [(1,([p0,p1,p2,p3,p4,p5,p6,p7,p8,p9,p10,p11,p12,p13,p14,p15]:List Nat).map Vq),(1,([m0,m1,m2,m3,m4,m5,m6,m7,m8,m9,m10,m11,m12,m13,m14,m15]:List Nat).map Vq)])) =
   ob (Qs5 [p0,p1,p2,p3,p4,p5,p6,p7,p8,p9,p10,p11,p12,p13,p14,p15] m6 m15 m14 m9 m11 m3 m0 m8 m12 m2 m13 m7 m1 m4 m10 m5) fun l=>some (.tuple #[],l.map Vq,([m0,m1,m2,m3,m4,m5,m6,m7,m8,m9,m10,m11,m12,m13,m14,m15]:List Nat).map Vq):=by kernel_rfl
theorem Zej(b:Nat)(p0 p1 p2 p3 p4 p5 p6 p7 p8 p9 p10 p11 p12 p13 p14 p15 m0 m1 m2 m3 m4 m5 m6 m7 m8 m9 m10 m11 m12 m13 m14 m15:Nat) :
  Xsy nv (nv+1) ((Qsk Tryd.prog (mkE Tryd.prog nv b) You 100 4).fn 62 [.pointer (some ⟨nv,0,none⟩), .pointer (some ⟨nv+1,0,none⟩), .string Zoq] (Qoi nv [] true [(1,([p0,p1,p2,p3,p4,p5,p6,p7,p8,p9,p10,p11,p12,p13,p14,p15]:List Nat).map Vq),(1,([m0,m1,m2,m3,m4,m5,m6,m7,m8,m9,m10,m11,m12,m13,m14,m15]:List Nat).map Vq)])) =
   ob (Qs5 [p0,p1,p2,p3,p4,p5,p6,p7,p8,p9,p10,p11,p12,p13,p14,p15] m10 m2 m8 m4 m7 m6 m1 m5 m15 m11 m9 m14 m3 m12 m13 m0) fun l=>some (.tuple #[],l.map Vq,([m0,m1,m2,m3,m4,m5,m6,m7,m8,m9,m10,m11,m12,m13,m14,m15]:List Nat).map Vq):=by kernel_rfl
def Y8e(s:ByteArray)(l m:List Nat):Option (List Nat):=match l,m with
 | [p0,p1,p2,p3,p4,p5,p6,p7,p8,p9,p10,p11,p12,p13,p14,p15],[m0,m1,m2,m3,m4,m5,m6,m7,m8,m9,m10,m11,m12,m13,m14,m15] =>
  bq (eqN (s.data.toList.map UInt8.toNat) [48,49,50,51,52,53,54,55,56,57,97,98,99,100,101,102]) (Qs5 [p0,p1,p2,p3,p4,p5,p6,p7,p8,p9,p10,p11,p12,p13,p14,p15] m0 m1 m2 m3 m4 m5 m6 m7 m8 m9 m10 m11 m12 m13 m14 m15) <|
  bq (eqN (s.data.toList.map UInt8.toNat) [101,97,52,56,57,102,100,54,49,99,48,50,98,55,53,51]) (Qs5 [p0,p1,p2,p3,p4,p5,p6,p7,p8,p9,p10,p11,p12,p13,p14,p15] m14 m10 m4 m8 m9 m15 m13 m6 m1 m12 m0 m2 m11 m7 m5 m3) <|
  bq (eqN (s.data.toList.map UInt8.toNat) [98,56,99,48,53,50,102,100,97,101,51,54,55,49,57,52]) (Qs5 [p0,p1,p2,p3,p4,p5,p6,p7,p8,p9,p10,p11,p12,p13,p14,p15] m11 m8 m12 m0 m5 m2 m15 m13 m10 m14 m3 m6 m7 m1 m9 m4) <|
  bq (eqN (s.data.toList.map UInt8.toNat) [55,57,51,49,100,99,98,101,50,54,53,97,52,48,102,56]) (Qs5 [p0,p1,p2,p3,p4,p5,p6,p7,p8,p9,p10,p11,p12,p13,p14,p15] m7 m9 m3 m1 m13 m12 m11 m14 m2 m6 m5 m10 m4 m0 m15 m8) <|
  bq (eqN (s.data.toList.map UInt8.toNat) [57,48,53,55,50,52,97,102,101,49,98,99,54,56,51,100]) (Qs5 [p0,p1,p2,p3,p4,p5,p6,p7,p8,p9,p10,p11,p12,p13,p14,p15] m9 m0 m5 m7 m2 m4 m10 m15 m14 m1 m11 m12 m6 m8 m3 m13) <|
  bq (eqN (s.data.toList.map UInt8.toNat) [50,99,54,97,48,98,56,51,52,100,55,53,102,101,49,57]) (Qs5 [p0,p1,p2,p3,p4,p5,p6,p7,p8,p9,p10,p11,p12,p13,p14,p15] m2 m12 m6 m10 m0 m11 m8 m3 m4 m13 m7 m5 m15 m14 m1 m9) <|
  bq (eqN (s.data.toList.map UInt8.toNat) [99,53,49,102,101,100,52,97,48,55,54,51,57,50,56,98]) (Qs5 [p0,p1,p2,p3,p4,p5,p6,p7,p8,p9,p10,p11,p12,p13,p14,p15] m12 m5 m1 m15 m14 m13 m4 m10 m0 m7 m6 m3 m9 m2 m8 m11) <|
  bq (eqN (s.data.toList.map UInt8.toNat) [100,98,55,101,99,49,51,57,53,48,102,52,56,54,50,97]) (Qs5 [p0,p1,p2,p3,p4,p5,p6,p7,p8,p9,p10,p11,p12,p13,p14,p15] m13 m11 m7 m14 m12 m1 m3 m9 m5 m0 m15 m4 m8 m6 m2 m10) <|
  bq (eqN (s.data.toList.map UInt8.toNat) [54,102,101,57,98,51,48,56,99,50,100,55,49,52,97,53]) (Qs5 [p0,p1,p2,p3,p4,p5,p6,p7,p8,p9,p10,p11,p12,p13,p14,p15] m6 m15 m14 m9 m11 m3 m0 m8 m12 m2 m13 m7 m1 m4 m10 m5) <|
  bq (eqN (s.data.toList.map UInt8.toNat) [97,50,56,52,55,54,49,53,102,98,57,101,51,99,100,48]) (Qs5 [p0,p1,p2,p3,p4,p5,p6,p7,p8,p9,p10,p11,p12,p13,p14,p15] m10 m2 m8 m4 m7 m6 m1 m5 m15 m11 m9 m14 m3 m12 m13 m0) <|
  none
 | _,_=>none
theorem Zas{s:ByteArray}{l m l':List Nat}(h:Y8e s l m=some l') : ∃ p0 p1 p2 p3 p4 p5 p6 p7 p8 p9 p10 p11 p12 p13 p14 p15 m0 m1 m2 m3 m4 m5 m6 m7 m8 m9 m10 m11 m12 m13 m14 m15,l = [p0,p1,p2,p3,p4,p5,p6,p7,p8,p9,p10,p11,p12,p13,p14,p15]∧m = [m0,m1,m2,m3,m4,m5,m6,m7,m8,m9,m10,m11,m12,m13,m14,m15]:=by
 unfold Y8e at h
 split at h
 ·exact⟨_,_,_,_,_,_,_,_,_,_,_,_,_,_,_,_,_,_,_,_,_,_,_,_,_,_,_,_,_,_,_,_,rfl,rfl⟩
 ·cases h
theorem Xtz{s t:ByteArray}{l:List Nat}(h:eqN (s.data.toList.map UInt8.toNat) l=true)(ht:t.data.toList.map UInt8.toNat=l):s=t:=by
 have h1:=(Yhe h).trans ht.symm
 have h2:s.data.toList=t.data.toList:=(List.map_inj_right (fun x y h=>UInt8.toNat_inj.1 h)).1 h1
 cases s;cases t
 simp only[ByteArray.mk.injEq]
 exact Array.ext' h2
def X9e:X9c:=fun f args h=>bq (Nat.beq f 62) (match args with
 | [p,q, .string s]=>ob (Yzg h p) fun x=>ob (Yzg h q) fun y=>ob (Zm3 x.2) fun l=>ob (Zm3 y.2) fun m=>bq (Nat.beq x.1 y.1) none (ob (Y8e s l m) fun l'=>some (.ret (.tuple #[]),h.set x.1 (some (.cells true 1 (l'.map Vq)))))
 | _=>none) none
theorem Xlk(n blk c:Nat):Yzz (emb n [blk,c]) (.pointer (some ⟨n,0,none⟩)) (.pointer (some ⟨blk,0,none⟩)):=Yrn (by simp[emb])
theorem Xle(n blk c:Nat):Yzz (emb n [blk,c]) (.pointer (some ⟨n+1,0,none⟩)) (.pointer (some ⟨c,0,none⟩)):=Yrn (by unfold emb;rw[if_neg (by omega)];simp)
theorem Zg1(b:Nat){h:Heap}{blk c:Nat}(p0 p1 p2 p3 p4 p5 p6 p7 p8 p9 p10 p11 p12 p13 p14 p15 m0 m1 m2 m3 m4 m5 m6 m7 m8 m9 m10 m11 m12 m13 m14 m15:Nat){l':List Nat}(hl:Qs5 [p0,p1,p2,p3,p4,p5,p6,p7,p8,p9,p10,p11,p12,p13,p14,p15] m0 m1 m2 m3 m4 m5 m6 m7 m8 m9 m10 m11 m12 m13 m14 m15=some l')(hg:h.get blk=some (.cells true 1 (([p0,p1,p2,p3,p4,p5,p6,p7,p8,p9,p10,p11,p12,p13,p14,p15]:List Nat).map Vq)))(hg2:h.get c=some (.cells true 1 (([m0,m1,m2,m3,m4,m5,m6,m7,m8,m9,m10,m11,m12,m13,m14,m15]:List Nat).map Vq)))(hne:blk≠c) :
  CallOK Tryd.prog ⟨nv,b⟩ 62 [.pointer (some ⟨blk,0,none⟩), .pointer (some ⟨c,0,none⟩), .string Zp6] h
   (fun r h1=>r = .ret (.tuple #[])∧h1=h.set blk (some (.cells true 1 (l'.map Vq)))) :=
 Xbo (k:=100) (m:=4) mixed Xtg Xlz (fun b=>by rw[Zd4 b p0 p1 p2 p3 p4 p5 p6 p7 p8 p9 p10 p11 p12 p13 p14 p15 m0 m1 m2 m3 m4 m5 m6 m7 m8 m9 m10 m11 m12 m13 m14 m15,hl];rfl) rfl (Qh6 _) (Qh6 _) (Qh6 _) hg hg2 hne (Yj (Xlk _ _ _) (Yj (Xle _ _ _) (Yj (Vd rfl) Qm4)))
theorem Zho(b:Nat){h:Heap}{blk c:Nat}(p0 p1 p2 p3 p4 p5 p6 p7 p8 p9 p10 p11 p12 p13 p14 p15 m0 m1 m2 m3 m4 m5 m6 m7 m8 m9 m10 m11 m12 m13 m14 m15:Nat){l':List Nat}(hl:Qs5 [p0,p1,p2,p3,p4,p5,p6,p7,p8,p9,p10,p11,p12,p13,p14,p15] m14 m10 m4 m8 m9 m15 m13 m6 m1 m12 m0 m2 m11 m7 m5 m3=some l')(hg:h.get blk=some (.cells true 1 (([p0,p1,p2,p3,p4,p5,p6,p7,p8,p9,p10,p11,p12,p13,p14,p15]:List Nat).map Vq)))(hg2:h.get c=some (.cells true 1 (([m0,m1,m2,m3,m4,m5,m6,m7,m8,m9,m10,m11,m12,m13,m14,m15]:List Nat).map Vq)))(hne:blk≠c) :
  CallOK Tryd.prog ⟨nv,b⟩ 62 [.pointer (some ⟨blk,0,none⟩), .pointer (some ⟨c,0,none⟩), .string Zow] h
   (fun r h1=>r = .ret (.tuple #[])∧h1=h.set blk (some (.cells true 1 (l'.map Vq)))) :=
 Xbo (k:=100) (m:=4) mixed Xtg Xlz (fun b=>by rw[Zbw b p0 p1 p2 p3 p4 p5 p6 p7 p8 p9 p10 p11 p12 p13 p14 p15 m0 m1 m2 m3 m4 m5 m6 m7 m8 m9 m10 m11 m12 m13 m14 m15,hl];rfl) rfl (Qh6 _) (Qh6 _) (Qh6 _) hg hg2 hne (Yj (Xlk _ _ _) (Yj (Xle _ _ _) (Yj (Vd rfl) Qm4)))
theorem Zhm(b:Nat){h:Heap}{blk c:Nat}(p0 p1 p2 p3 p4 p5 p6 p7 p8 p9 p10 p11 p12 p13 p14 p15 m0 m1 m2 m3 m4 m5 m6 m7 m8 m9 m10 m11 m12 m13 m14 m15:Nat){l':List Nat}(hl:Qs5 [p0,p1,p2,p3,p4,p5,p6,p7,p8,p9,p10,p11,p12,p13,p14,p15] m11 m8 m12 m0 m5 m2 m15 m13 m10 m14 m3 m6 m7 m1 m9 m4=some l')(hg:h.get blk=some (.cells true 1 (([p0,p1,p2,p3,p4,p5,p6,p7,p8,p9,p10,p11,p12,p13,p14,p15]:List Nat).map Vq)))(hg2:h.get c=some (.cells true 1 (([m0,m1,m2,m3,m4,m5,m6,m7,m8,m9,m10,m11,m12,m13,m14,m15]:List Nat).map Vq)))(hne:blk≠c) :
  CallOK Tryd.prog ⟨nv,b⟩ 62 [.pointer (some ⟨blk,0,none⟩), .pointer (some ⟨c,0,none⟩), .string Zox] h
   (fun r h1=>r = .ret (.tuple #[])∧h1=h.set blk (some (.cells true 1 (l'.map Vq)))) :=
 Xbo (k:=100) (m:=4) mixed Xtg Xlz (fun b=>by rw[Zb9 b p0 p1 p2 p3 p4 p5 p6 p7 p8 p9 p10 p11 p12 p13 p14 p15 m0 m1 m2 m3 m4 m5 m6 m7 m8 m9 m10 m11 m12 m13 m14 m15,hl];rfl) rfl (Qh6 _) (Qh6 _) (Qh6 _) hg hg2 hne (Yj (Xlk _ _ _) (Yj (Xle _ _ _) (Yj (Vd rfl) Qm4)))
theorem Zig(b:Nat){h:Heap}{blk c:Nat}(p0 p1 p2 p3 p4 p5 p6 p7 p8 p9 p10 p11 p12 p13 p14 p15 m0 m1 m2 m3 m4 m5 m6 m7 m8 m9 m10 m11 m12 m13 m14 m15:Nat){l':List Nat}(hl:Qs5 [p0,p1,p2,p3,p4,p5,p6,p7,p8,p9,p10,p11,p12,p13,p14,p15] m7 m9 m3 m1 m13 m12 m11 m14 m2 m6 m5 m10 m4 m0 m15 m8=some l')(hg:h.get blk=some (.cells true 1 (([p0,p1,p2,p3,p4,p5,p6,p7,p8,p9,p10,p11,p12,p13,p14,p15]:List Nat).map Vq)))(hg2:h.get c=some (.cells true 1 (([m0,m1,m2,m3,m4,m5,m6,m7,m8,m9,m10,m11,m12,m13,m14,m15]:List Nat).map Vq)))(hne:blk≠c) :
  CallOK Tryd.prog ⟨nv,b⟩ 62 [.pointer (some ⟨blk,0,none⟩), .pointer (some ⟨c,0,none⟩), .string Zp4] h
   (fun r h1=>r = .ret (.tuple #[])∧h1=h.set blk (some (.cells true 1 (l'.map Vq)))) :=
 Xbo (k:=100) (m:=4) mixed Xtg Xlz (fun b=>by rw[Zf5 b p0 p1 p2 p3 p4 p5 p6 p7 p8 p9 p10 p11 p12 p13 p14 p15 m0 m1 m2 m3 m4 m5 m6 m7 m8 m9 m10 m11 m12 m13 m14 m15,hl];rfl) rfl (Qh6 _) (Qh6 _) (Qh6 _) hg hg2 hne (Yj (Xlk _ _ _) (Yj (Xle _ _ _) (Yj (Vd rfl) Qm4)))
theorem Zh5(b:Nat){h:Heap}{blk c:Nat}(p0 p1 p2 p3 p4 p5 p6 p7 p8 p9 p10 p11 p12 p13 p14 p15 m0 m1 m2 m3 m4 m5 m6 m7 m8 m9 m10 m11 m12 m13 m14 m15:Nat){l':List Nat}(hl:Qs5 [p0,p1,p2,p3,p4,p5,p6,p7,p8,p9,p10,p11,p12,p13,p14,p15] m9 m0 m5 m7 m2 m4 m10 m15 m14 m1 m11 m12 m6 m8 m3 m13=some l')(hg:h.get blk=some (.cells true 1 (([p0,p1,p2,p3,p4,p5,p6,p7,p8,p9,p10,p11,p12,p13,p14,p15]:List Nat).map Vq)))(hg2:h.get c=some (.cells true 1 (([m0,m1,m2,m3,m4,m5,m6,m7,m8,m9,m10,m11,m12,m13,m14,m15]:List Nat).map Vq)))(hne:blk≠c) :
  CallOK Tryd.prog ⟨nv,b⟩ 62 [.pointer (some ⟨blk,0,none⟩), .pointer (some ⟨c,0,none⟩), .string Zp3] h
   (fun r h1=>r = .ret (.tuple #[])∧h1=h.set blk (some (.cells true 1 (l'.map Vq)))) :=
 Xbo (k:=100) (m:=4) mixed Xtg Xlz (fun b=>by rw[Zb6 b p0 p1 p2 p3 p4 p5 p6 p7 p8 p9 p10 p11 p12 p13 p14 p15 m0 m1 m2 m3 m4 m5 m6 m7 m8 m9 m10 m11 m12 m13 m14 m15,hl];rfl) rfl (Qh6 _) (Qh6 _) (Qh6 _) hg hg2 hne (Yj (Xlk _ _ _) (Yj (Xle _ _ _) (Yj (Vd rfl) Qm4)))
theorem Zfp(b:Nat){h:Heap}{blk c:Nat}(p0 p1 p2 p3 p4 p5 p6 p7 p8 p9 p10 p11 p12 p13 p14 p15 m0 m1 m2 m3 m4 m5 m6 m7 m8 m9 m10 m11 m12 m13 m14 m15:Nat){l':List Nat}(hl:Qs5 [p0,p1,p2,p3,p4,p5,p6,p7,p8,p9,p10,p11,p12,p13,p14,p15] m2 m12 m6 m10 m0 m11 m8 m3 m4 m13 m7 m5 m15 m14 m1 m9=some l')(hg:h.get blk=some (.cells true 1 (([p0,p1,p2,p3,p4,p5,p6,p7,p8,p9,p10,p11,p12,p13,p14,p15]:List Nat).map Vq)))(hg2:h.get c=some (.cells true 1 (([m0,m1,m2,m3,m4,m5,m6,m7,m8,m9,m10,m11,m12,m13,m14,m15]:List Nat).map Vq)))(hne:blk≠c) :
  CallOK Tryd.prog ⟨nv,b⟩ 62 [.pointer (some ⟨blk,0,none⟩), .pointer (some ⟨c,0,none⟩), .string Zou] h
   (fun r h1=>r = .ret (.tuple #[])∧h1=h.set blk (some (.cells true 1 (l'.map Vq)))) :=
 Xbo (k:=100) (m:=4) mixed Xtg Xlz (fun b=>by rw[Zde b p0 p1 p2 p3 p4 p5 p6 p7 p8 p9 p10 p11 p12 p13 p14 p15 m0 m1 m2 m3 m4 m5 m6 m7 m8 m9 m10 m11 m12 m13 m14 m15,hl];rfl) rfl (Qh6 _) (Qh6 _) (Qh6 _) hg hg2 hne (Yj (Xlk _ _ _) (Yj (Xle _ _ _) (Yj (Vd rfl) Qm4)))
theorem Zfv(b:Nat){h:Heap}{blk c:Nat}(p0 p1 p2 p3 p4 p5 p6 p7 p8 p9 p10 p11 p12 p13 p14 p15 m0 m1 m2 m3 m4 m5 m6 m7 m8 m9 m10 m11 m12 m13 m14 m15:Nat){l':List Nat}(hl:Qs5 [p0,p1,p2,p3,p4,p5,p6,p7,p8,p9,p10,p11,p12,p13,p14,p15] m12 m5 m1 m15 m14 m13 m4 m10 m0 m7 m6 m3 m9 m2 m8 m11=some l')(hg:h.get blk=some (.cells true 1 (([p0,p1,p2,p3,p4,p5,p6,p7,p8,p9,p10,p11,p12,p13,p14,p15]:List Nat).map Vq)))(hg2:h.get c=some (.cells true 1 (([m0,m1,m2,m3,m4,m5,m6,m7,m8,m9,m10,m11,m12,m13,m14,m15]:List Nat).map Vq)))(hne:blk≠c) :
  CallOK Tryd.prog ⟨nv,b⟩ 62 [.pointer (some ⟨blk,0,none⟩), .pointer (some ⟨c,0,none⟩), .string Zp1] h
   (fun r h1=>r = .ret (.tuple #[])∧h1=h.set blk (some (.cells true 1 (l'.map Vq)))) :=
 Xbo (k:=100) (m:=4) mixed Xtg Xlz (fun b=>by rw[Zaz b p0 p1 p2 p3 p4 p5 p6 p7 p8 p9 p10 p11 p12 p13 p14 p15 m0 m1 m2 m3 m4 m5 m6 m7 m8 m9 m10 m11 m12 m13 m14 m15,hl];rfl) rfl (Qh6 _) (Qh6 _) (Qh6 _) hg hg2 hne (Yj (Xlk _ _ _) (Yj (Xle _ _ _) (Yj (Vd rfl) Qm4)))
theorem Zg2(b:Nat){h:Heap}{blk c:Nat}(p0 p1 p2 p3 p4 p5 p6 p7 p8 p9 p10 p11 p12 p13 p14 p15 m0 m1 m2 m3 m4 m5 m6 m7 m8 m9 m10 m11 m12 m13 m14 m15:Nat){l':List Nat}(hl:Qs5 [p0,p1,p2,p3,p4,p5,p6,p7,p8,p9,p10,p11,p12,p13,p14,p15] m13 m11 m7 m14 m12 m1 m3 m9 m5 m0 m15 m4 m8 m6 m2 m10=some l')(hg:h.get blk=some (.cells true 1 (([p0,p1,p2,p3,p4,p5,p6,p7,p8,p9,p10,p11,p12,p13,p14,p15]:List Nat).map Vq)))(hg2:h.get c=some (.cells true 1 (([m0,m1,m2,m3,m4,m5,m6,m7,m8,m9,m10,m11,m12,m13,m14,m15]:List Nat).map Vq)))(hne:blk≠c) :
  CallOK Tryd.prog ⟨nv,b⟩ 62 [.pointer (some ⟨blk,0,none⟩), .pointer (some ⟨c,0,none⟩), .string Zos] h
   (fun r h1=>r = .ret (.tuple #[])∧h1=h.set blk (some (.cells true 1 (l'.map Vq)))) :=
 Xbo (k:=100) (m:=4) mixed Xtg Xlz (fun b=>by rw[Zbc b p0 p1 p2 p3 p4 p5 p6 p7 p8 p9 p10 p11 p12 p13 p14 p15 m0 m1 m2 m3 m4 m5 m6 m7 m8 m9 m10 m11 m12 m13 m14 m15,hl];rfl) rfl (Qh6 _) (Qh6 _) (Qh6 _) hg hg2 hne (Yj (Xlk _ _ _) (Yj (Xle _ _ _) (Yj (Vd rfl) Qm4)))
theorem Zi7(b:Nat){h:Heap}{blk c:Nat}(p0 p1 p2 p3 p4 p5 p6 p7 p8 p9 p10 p11 p12 p13 p14 p15 m0 m1 m2 m3 m4 m5 m6 m7 m8 m9 m10 m11 m12 m13 m14 m15:Nat){l':List Nat}(hl:Qs5 [p0,p1,p2,p3,p4,p5,p6,p7,p8,p9,p10,p11,p12,p13,p14,p15] m6 m15 m14 m9 m11 m3 m0 m8 m12 m2 m13 m7 m1 m4 m10 m5=some l')(hg:h.get blk=some (.cells true 1 (([p0,p1,p2,p3,p4,p5,p6,p7,p8,p9,p10,p11,p12,p13,p14,p15]:List Nat).map Vq)))(hg2:h.get c=some (.cells true 1 (([m0,m1,m2,m3,m4,m5,m6,m7,m8,m9,m10,m11,m12,m13,m14,m15]:List Nat).map Vq)))(hne:blk≠c) :
  CallOK Tryd.prog ⟨nv,b⟩ 62 [.pointer (some ⟨blk,0,none⟩), .pointer (some ⟨c,0,none⟩), .string Zov] h
   (fun r h1=>r = .ret (.tuple #[])∧h1=h.set blk (some (.cells true 1 (l'.map Vq)))) :=
 Xbo (k:=100) (m:=4) mixed Xtg Xlz (fun b=>by rw[Zbl b p0 p1 p2 p3 p4 p5 p6 p7 p8 p9 p10 p11 p12 p13 p14 p15 m0 m1 m2 m3 m4 m5 m6 m7 m8 m9 m10 m11 m12 m13 m14 m15,hl];rfl) rfl (Qh6 _) (Qh6 _) (Qh6 _) hg hg2 hne (Yj (Xlk _ _ _) (Yj (Xle _ _ _) (Yj (Vd rfl) Qm4)))
theorem Zfo(b:Nat){h:Heap}{blk c:Nat}(p0 p1 p2 p3 p4 p5 p6 p7 p8 p9 p10 p11 p12 p13 p14 p15 m0 m1 m2 m3 m4 m5 m6 m7 m8 m9 m10 m11 m12 m13 m14 m15:Nat){l':List Nat}(hl:Qs5 [p0,p1,p2,p3,p4,p5,p6,p7,p8,p9,p10,p11,p12,p13,p14,p15] m10 m2 m8 m4 m7 m6 m1 m5 m15 m11 m9 m14 m3 m12 m13 m0=some l')(hg:h.get blk=some (.cells true 1 (([p0,p1,p2,p3,p4,p5,p6,p7,p8,p9,p10,p11,p12,p13,p14,p15]:List Nat).map Vq)))(hg2:h.get c=some (.cells true 1 (([m0,m1,m2,m3,m4,m5,m6,m7,m8,m9,m10,m11,m12,m13,m14,m15]:List Nat).map Vq)))(hne:blk≠c) :
  CallOK Tryd.prog ⟨nv,b⟩ 62 [.pointer (some ⟨blk,0,none⟩), .pointer (some ⟨c,0,none⟩), .string Zoq] h
   (fun r h1=>r = .ret (.tuple #[])∧h1=h.set blk (some (.cells true 1 (l'.map Vq)))) :=
 Xbo (k:=100) (m:=4) mixed Xtg Xlz (fun b=>by rw[Zej b p0 p1 p2 p3 p4 p5 p6 p7 p8 p9 p10 p11 p12 p13 p14 p15 m0 m1 m2 m3 m4 m5 m6 m7 m8 m9 m10 m11 m12 m13 m14 m15,hl];rfl) rfl (Qh6 _) (Qh6 _) (Qh6 _) hg hg2 hne (Yj (Xlk _ _ _) (Yj (Xle _ _ _) (Yj (Vd rfl) Qm4)))
theorem Y2l(b:Nat):Xhe Tryd.prog ⟨nv,b⟩ X9e:=by
 intro f args h r h' hx
 unfold X9e at hx
 obtain⟨hf,hx⟩:=Xbl hx
 have hf:=Nat.eq_of_beq_eq_true hf
 subst hf
 split at hx
 ·rename_i p q s hq
  obtain⟨⟨blk,cs⟩,h1,hx⟩:=Qlh hx
  obtain⟨⟨c,cs2⟩,h2,hx⟩:=Qlh hx
  obtain⟨l,h3,hx⟩:=Qlh hx
  obtain⟨m,h4,hx⟩:=Qlh hx
  cases hne:Nat.beq blk c with
  | true=>simp only at hx;rw[hne]at hx;cases hx
  | false =>
  simp only at hx
  rw[hne,bq_false]at hx
  have hne:=Nat.ne_of_beq_eq_false hne
  obtain⟨l',h5,hx⟩:=Qlh hx
  cases hx
  obtain⟨rfl,hg⟩:=X9u h1
  obtain⟨rfl,hg2⟩:=X9u h2
  have:=Yxn h3
  subst this
  have:=Yxn h4
  subst this
  obtain⟨p0,p1,p2,p3,p4,p5,p6,p7,p8,p9,p10,p11,p12,p13,p14,p15,m0,m1,m2,m3,m4,m5,m6,m7,m8,m9,m10,m11,m12,m13,m14,m15,rfl,rfl⟩:=Zas h5
  unfold Y8e at h5
  simp only at h5
  cases e0:eqN (s.data.toList.map UInt8.toNat) [48,49,50,51,52,53,54,55,56,57,97,98,99,100,101,102]with
  | true =>
   rw[e0,bq_true]at h5
   have:=Xtz (t:=Zp6) e0 rfl
   subst this
   exact Zg1 b p0 p1 p2 p3 p4 p5 p6 p7 p8 p9 p10 p11 p12 p13 p14 p15 m0 m1 m2 m3 m4 m5 m6 m7 m8 m9 m10 m11 m12 m13 m14 m15 h5 hg hg2 hne
  | false =>
  rw[e0,bq_false]at h5
  cases e1:eqN (s.data.toList.map UInt8.toNat) [101,97,52,56,57,102,100,54,49,99,48,50,98,55,53,51]with
  | true =>
   rw[e1,bq_true]at h5
   have:=Xtz (t:=Zow) e1 rfl
   subst this
   exact Zho b p0 p1 p2 p3 p4 p5 p6 p7 p8 p9 p10 p11 p12 p13 p14 p15 m0 m1 m2 m3 m4 m5 m6 m7 m8 m9 m10 m11 m12 m13 m14 m15 h5 hg hg2 hne
  | false =>
  rw[e1,bq_false]at h5
  cases e2:eqN (s.data.toList.map UInt8.toNat) [98,56,99,48,53,50,102,100,97,101,51,54,55,49,57,52]with
  | true =>
   rw[e2,bq_true]at h5
   have:=Xtz (t:=Zox) e2 rfl
   subst this
   exact Zhm b p0 p1 p2 p3 p4 p5 p6 p7 p8 p9 p10 p11 p12 p13 p14 p15 m0 m1 m2 m3 m4 m5 m6 m7 m8 m9 m10 m11 m12 m13 m14 m15 h5 hg hg2 hne
  | false =>
  rw[e2,bq_false]at h5
  cases e3:eqN (s.data.toList.map UInt8.toNat) [55,57,51,49,100,99,98,101,50,54,53,97,52,48,102,56]with
  | true =>
   rw[e3,bq_true]at h5
   have:=Xtz (t:=Zp4) e3 rfl
   subst this
   exact Zig b p0 p1 p2 p3 p4 p5 p6 p7 p8 p9 p10 p11 p12 p13 p14 p15 m0 m1 m2 m3 m4 m5 m6 m7 m8 m9 m10 m11 m12 m13 m14 m15 h5 hg hg2 hne
  | false =>
  rw[e3,bq_false]at h5
  cases e4:eqN (s.data.toList.map UInt8.toNat) [57,48,53,55,50,52,97,102,101,49,98,99,54,56,51,100]with
  | true =>
   rw[e4,bq_true]at h5
   have:=Xtz (t:=Zp3) e4 rfl
   subst this
   exact Zh5 b p0 p1 p2 p3 p4 p5 p6 p7 p8 p9 p10 p11 p12 p13 p14 p15 m0 m1 m2 m3 m4 m5 m6 m7 m8 m9 m10 m11 m12 m13 m14 m15 h5 hg hg2 hne
  | false =>
  rw[e4,bq_false]at h5
  cases e5:eqN (s.data.toList.map UInt8.toNat) [50,99,54,97,48,98,56,51,52,100,55,53,102,101,49,57]with
  | true =>
   rw[e5,bq_true]at h5
   have:=Xtz (t:=Zou) e5 rfl
   subst this
   exact Zfp b p0 p1 p2 p3 p4 p5 p6 p7 p8 p9 p10 p11 p12 p13 p14 p15 m0 m1 m2 m3 m4 m5 m6 m7 m8 m9 m10 m11 m12 m13 m14 m15 h5 hg hg2 hne
  | false =>
  rw[e5,bq_false]at h5
  cases e6:eqN (s.data.toList.map UInt8.toNat) [99,53,49,102,101,100,52,97,48,55,54,51,57,50,56,98]with
  | true =>
   rw[e6,bq_true]at h5
   have:=Xtz (t:=Zp1) e6 rfl
   subst this
   exact Zfv b p0 p1 p2 p3 p4 p5 p6 p7 p8 p9 p10 p11 p12 p13 p14 p15 m0 m1 m2 m3 m4 m5 m6 m7 m8 m9 m10 m11 m12 m13 m14 m15 h5 hg hg2 hne
  | false =>
  rw[e6,bq_false]at h5
  cases e7:eqN (s.data.toList.map UInt8.toNat) [100,98,55,101,99,49,51,57,53,48,102,52,56,54,50,97]with
  | true =>
   rw[e7,bq_true]at h5
   have:=Xtz (t:=Zos) e7 rfl
   subst this
   exact Zg2 b p0 p1 p2 p3 p4 p5 p6 p7 p8 p9 p10 p11 p12 p13 p14 p15 m0 m1 m2 m3 m4 m5 m6 m7 m8 m9 m10 m11 m12 m13 m14 m15 h5 hg hg2 hne
  | false =>
  rw[e7,bq_false]at h5
  cases e8:eqN (s.data.toList.map UInt8.toNat) [54,102,101,57,98,51,48,56,99,50,100,55,49,52,97,53]with
  | true =>
   rw[e8,bq_true]at h5
   have:=Xtz (t:=Zov) e8 rfl
   subst this
   exact Zi7 b p0 p1 p2 p3 p4 p5 p6 p7 p8 p9 p10 p11 p12 p13 p14 p15 m0 m1 m2 m3 m4 m5 m6 m7 m8 m9 m10 m11 m12 m13 m14 m15 h5 hg hg2 hne
  | false =>
  rw[e8,bq_false]at h5
  cases e9:eqN (s.data.toList.map UInt8.toNat) [97,50,56,52,55,54,49,53,102,98,57,101,51,99,100,48]with
  | true =>
   rw[e9,bq_true]at h5
   have:=Xtz (t:=Zoq) e9 rfl
   subst this
   exact Zfo b p0 p1 p2 p3 p4 p5 p6 p7 p8 p9 p10 p11 p12 p13 p14 p15 m0 m1 m2 m3 m4 m5 m6 m7 m8 m9 m10 m11 m12 m13 m14 m15 h5 hg hg2 hne
  | false =>
  rw[e9,bq_false]at h5
  cases h5
 ·cases hx
theorem Y03:Xtq X9e:=by
 intro f args h r h' hx
 unfold X9e at hx
 obtain⟨hf,hx⟩:=Xbl hx
 split at hx
 ·obtain⟨⟨blk,cs⟩,h1,hx⟩:=Qlh hx
  obtain⟨⟨c,cs2⟩,h2,hx⟩:=Qlh hx
  obtain⟨l,h3,hx⟩:=Qlh hx
  obtain⟨m,h4,hx⟩:=Qlh hx
  cases hne:Nat.beq blk c with
  | true=>simp only at hx;rw[hne]at hx;cases hx
  | false =>
  simp only at hx
  rw[hne,bq_false]at hx
  obtain⟨l',h5,hx⟩:=Qlh hx
  cases hx
  obtain⟨_,hg⟩:=X9u h1
  exact LowOK.set _ _ _ (Heap.get_lt hg)
 ·cases hx
end Go.Proofs.YtcokebbiblnonaaDoor
end
noncomputable section
namespace Go.Proofs.YtcokebbiblnonaaDoor
open Go Go.Ab
set_option maxRecDepth 1000000
def Qza:List Value := [.int .u32 1779033703, .int .u32 3144134277, .int .u32 1013904242, .int .u32 2773480762, .int .u32 1359893119, .int .u32 2600822924, .int .u32 528734635, .int .u32 1541459225]
def Yki:List Value := [.string Zp6, .string Zow, .string Zox, .string Zp4, .string Zp3, .string Zou, .string Zp1, .string Zos, .string Zov, .string Zoq]
def Qz5:List (Nat × List Value) := [(0,Qza),(1,Yki)]
def Zd3(h0 h1 h2 h3 h4 h5 h6 h7 p12 p13 p14 m0 m1 m2 m3 m4 m5 m6 m7 m8 m9 m10 m11 m12 m13 m14 m15:Nat):Option (List Nat) :=
 ob (Qs5 [h0,h1,h2,h3,h4,h5,h6,h7,1779033703,3144134277,1013904242,2773480762,p12,p13,p14,1541459225] m0 m1 m2 m3 m4 m5 m6 m7 m8 m9 m10 m11 m12 m13 m14 m15) fun l =>
 ob (Qs5 l m14 m10 m4 m8 m9 m15 m13 m6 m1 m12 m0 m2 m11 m7 m5 m3) fun l =>
 ob (Qs5 l m11 m8 m12 m0 m5 m2 m15 m13 m10 m14 m3 m6 m7 m1 m9 m4) fun l =>
 ob (Qs5 l m7 m9 m3 m1 m13 m12 m11 m14 m2 m6 m5 m10 m4 m0 m15 m8) fun l =>
 ob (Qs5 l m9 m0 m5 m7 m2 m4 m10 m15 m14 m1 m11 m12 m6 m8 m3 m13) fun l =>
 ob (Qs5 l m2 m12 m6 m10 m0 m11 m8 m3 m4 m13 m7 m5 m15 m14 m1 m9) fun l =>
 ob (Qs5 l m12 m5 m1 m15 m14 m13 m4 m10 m0 m7 m6 m3 m9 m2 m8 m11) fun l =>
 ob (Qs5 l m13 m11 m7 m14 m12 m1 m3 m9 m5 m0 m15 m4 m8 m6 m2 m10) fun l =>
 ob (Qs5 l m6 m15 m14 m9 m11 m3 m0 m8 m12 m2 m13 m7 m1 m4 m10 m5) fun l =>
 Qs5 l m10 m2 m8 m4 m7 m6 m1 m5 m15 m11 m9 m14 m3 m12 m13 m0
def Zor(h0 h1 h2 h3 h4 h5 h6 h7:Nat)(l:List Nat):Option Value:=match l with
 | [p0,p1,p2,p3,p4,p5,p6,p7,p8,p9,p10,p11,p12,p13,p14,p15]=>some (.agg ⟨[.int .u32 (X93 (.ofNat h0) (X93 (.ofNat p0) (.ofNat p8))), .int .u32 (X93 (.ofNat h1) (X93 (.ofNat p1) (.ofNat p9))), .int .u32 (X93 (.ofNat h2) (X93 (.ofNat p2) (.ofNat p10))), .int .u32 (X93 (.ofNat h3) (X93 (.ofNat p3) (.ofNat p11))), .int .u32 (X93 (.ofNat h4) (X93 (.ofNat p4) (.ofNat p12))), .int .u32 (X93 (.ofNat h5) (X93 (.ofNat p5) (.ofNat p13))), .int .u32 (X93 (.ofNat h6) (X93 (.ofNat p6) (.ofNat p14))), .int .u32 (X93 (.ofNat h7) (X93 (.ofNat p7) (.ofNat p15)))]⟩)
 | _=>none
noncomputable def Y5e:Func:=(Tryd.prog.funcs[50]?).getD default
noncomputable def Zak:Code:=Y5e.body.getD .skip
theorem Y1u(b:Nat)(h0 h1 h2 h3 h4 h5 h6 h7 b0 b1 b2 b3 b4 b5 b6 b7 b8 b9 b10 b11 b12 b13 b14 b15 b16 b17 b18 b19 b20 b21 b22 b23 b24 b25 b26 b27 b28 b29 b30 b31 b32 b33 b34 b35 b36 b37 b38 b39 b40 b41 b42 b43 b44 b45 b46 b47 b48 b49 b50 b51 b52 b53 b54 b55 b56 b57 b58 b59 b60 b61 b62 b63 count:Nat):(X59 Tryd.prog (mkE Tryd.prog nv b) (Qsk Tryd.prog (mkE Tryd.prog nv b) X9e 100 3) none 100 (Zj2 8 Zak) ⟨Ji Y5e [.agg ⟨[Vq h0,Vq h1,Vq h2,Vq h3,Vq h4,Vq h5,Vq h6,Vq h7]⟩, .pointer (some ⟨nv,0,none⟩), .int .u64 (.ofNat count), .bool true],[],(Qoi nv Qz5 false [(1,[u8v b0,u8v b1,u8v b2,u8v b3,u8v b4,u8v b5,u8v b6,u8v b7,u8v b8,u8v b9,u8v b10,u8v b11,u8v b12,u8v b13,u8v b14,u8v b15,u8v b16,u8v b17,u8v b18,u8v b19,u8v b20,u8v b21,u8v b22,u8v b23,u8v b24,u8v b25,u8v b26,u8v b27,u8v b28,u8v b29,u8v b30,u8v b31,u8v b32,u8v b33,u8v b34,u8v b35,u8v b36,u8v b37,u8v b38,u8v b39,u8v b40,u8v b41,u8v b42,u8v b43,u8v b44,u8v b45,u8v b46,u8v b47,u8v b48,u8v b49,u8v b50,u8v b51,u8v b52,u8v b53,u8v b54,u8v b55,u8v b56,u8v b57,u8v b58,u8v b59,u8v b60,u8v b61,u8v b62,u8v b63])])⟩)=Y7x (nv+4) [Vq h0,Vq h1,Vq h2,Vq h3,Vq h4,Vq h5,Vq h6,Vq h7,Vq 1779033703,Vq 3144134277,Vq 1013904242,Vq 2773480762, .int .u32 (X93 (.ofNat 1359893119) (Y0u count)), .int .u32 (X93 (.ofNat 2600822924) (IntKind.wrap .u32 (Int.fdiv (.ofNat count) (2 ^ 32)))), .int .u32 (X93 (.ofNat 4294967295) (.ofNat 528734635)),Vq 1541459225] (Y7x (nv+3) [.int .u32 (Ykh b0 b1 b2 b3), .int .u32 (Ykh b4 b5 b6 b7), .int .u32 (Ykh b8 b9 b10 b11), .int .u32 (Ykh b12 b13 b14 b15), .int .u32 (Ykh b16 b17 b18 b19), .int .u32 (Ykh b20 b21 b22 b23), .int .u32 (Ykh b24 b25 b26 b27), .int .u32 (Ykh b28 b29 b30 b31), .int .u32 (Ykh b32 b33 b34 b35), .int .u32 (Ykh b36 b37 b38 b39), .int .u32 (Ykh b40 b41 b42 b43), .int .u32 (Ykh b44 b45 b46 b47), .int .u32 (Ykh b48 b49 b50 b51), .int .u32 (Ykh b52 b53 b54 b55), .int .u32 (Ykh b56 b57 b58 b59), .int .u32 (Ykh b60 b61 b62 b63)] (X59 Tryd.prog (mkE Tryd.prog nv b) (Qsk Tryd.prog (mkE Tryd.prog nv b) X9e 100 3) none 100 (Zj2 8 Zak) ⟨Ji Y5e [.agg ⟨[Vq h0,Vq h1,Vq h2,Vq h3,Vq h4,Vq h5,Vq h6,Vq h7]⟩, .pointer (some ⟨nv,0,none⟩), .int .u64 (.ofNat count), .bool true],[],(Qoi nv Qz5 false [(1,[u8v b0,u8v b1,u8v b2,u8v b3,u8v b4,u8v b5,u8v b6,u8v b7,u8v b8,u8v b9,u8v b10,u8v b11,u8v b12,u8v b13,u8v b14,u8v b15,u8v b16,u8v b17,u8v b18,u8v b19,u8v b20,u8v b21,u8v b22,u8v b23,u8v b24,u8v b25,u8v b26,u8v b27,u8v b28,u8v b29,u8v b30,u8v b31,u8v b32,u8v b33,u8v b34,u8v b35,u8v b36,u8v b37,u8v b38,u8v b39,u8v b40,u8v b41,u8v b42,u8v b43,u8v b44,u8v b45,u8v b46,u8v b47,u8v b48,u8v b49,u8v b50,u8v b51,u8v b52,u8v b53,u8v b54,u8v b55,u8v b56,u8v b57,u8v b58,u8v b59,u8v b60,u8v b61,u8v b62,u8v b63])])⟩)):=by kernel_rfl
theorem Y3m(b:Nat)(h0 h1 h2 h3 h4 h5 h6 h7 b0 b1 b2 b3 b4 b5 b6 b7 b8 b9 b10 b11 b12 b13 b14 b15 b16 b17 b18 b19 b20 b21 b22 b23 b24 b25 b26 b27 b28 b29 b30 b31 b32 b33 b34 b35 b36 b37 b38 b39 b40 b41 b42 b43 b44 b45 b46 b47 b48 b49 b50 b51 b52 b53 b54 b55 b56 b57 b58 b59 b60 b61 b62 b63 count:Nat) :
  Zh7 ((Qsk Tryd.prog (mkE Tryd.prog nv b) X9e 100 4).fn 50 [.agg ⟨[Vq h0,Vq h1,Vq h2,Vq h3,Vq h4,Vq h5,Vq h6,Vq h7]⟩, .pointer (some ⟨nv,0,none⟩), .int .u64 (.ofNat count), .bool true] (Qoi nv Qz5 false [(1,[u8v b0,u8v b1,u8v b2,u8v b3,u8v b4,u8v b5,u8v b6,u8v b7,u8v b8,u8v b9,u8v b10,u8v b11,u8v b12,u8v b13,u8v b14,u8v b15,u8v b16,u8v b17,u8v b18,u8v b19,u8v b20,u8v b21,u8v b22,u8v b23,u8v b24,u8v b25,u8v b26,u8v b27,u8v b28,u8v b29,u8v b30,u8v b31,u8v b32,u8v b33,u8v b34,u8v b35,u8v b36,u8v b37,u8v b38,u8v b39,u8v b40,u8v b41,u8v b42,u8v b43,u8v b44,u8v b45,u8v b46,u8v b47,u8v b48,u8v b49,u8v b50,u8v b51,u8v b52,u8v b53,u8v b54,u8v b55,u8v b56,u8v b57,u8v b58,u8v b59,u8v b60,u8v b61,u8v b62,u8v b63])])) =
   ob (Zd3 h0 h1 h2 h3 h4 h5 h6 h7 (Bl.xr 1359893119 (Bl.w32 count)) (Bl.xr 2600822924 (Bl.w32 (Nat.div count 4294967296))) (Bl.xr 4294967295 528734635) (Bl.le4 b0 b1 b2 b3) (Bl.le4 b4 b5 b6 b7) (Bl.le4 b8 b9 b10 b11) (Bl.le4 b12 b13 b14 b15) (Bl.le4 b16 b17 b18 b19) (Bl.le4 b20 b21 b22 b23) (Bl.le4 b24 b25 b26 b27) (Bl.le4 b28 b29 b30 b31) (Bl.le4 b32 b33 b34 b35) (Bl.le4 b36 b37 b38 b39) (Bl.le4 b40 b41 b42 b43) (Bl.le4 b44 b45 b46 b47) (Bl.le4 b48 b49 b50 b51) (Bl.le4 b52 b53 b54 b55) (Bl.le4 b56 b57 b58 b59) (Bl.le4 b60 b61 b62 b63)) (Zor h0 h1 h2 h3 h4 h5 h6 h7):=by
 have e12:Value.int .u32 (X93 (.ofNat 1359893119) (Y0u count))=Vq (Bl.xr 1359893119 (Bl.w32 count)):=by rw[Yxo,Xtj];rfl
 have e13:Value.int .u32 (X93 (.ofNat 2600822924) (IntKind.wrap .u32 (Int.fdiv (.ofNat count) (2 ^ 32))))=Vq (Bl.xr 2600822924 (Bl.w32 (Nat.div count 4294967296))):=by rw[Y76,Qwf];exact congrArg (Value.int .u32) (Xtj _ _)
 have e14:Value.int .u32 (X93 (.ofNat 4294967295) (.ofNat 528734635))=Vq (Bl.xr 4294967295 528734635):=by first | rfl | (rw[Xtj];rfl)
 rw[Y8p (n0:=8) (F:=Y5e) (c:=Zak) (by kernel_rfl) (by kernel_rfl) (by kernel_rfl) (by kernel_rfl) (by kernel_rfl),Y1u,e12,e13,e14]
 simp only[Y8c]
 show _=_
 kernel_rfl
theorem Yyf(b:Nat)(h0 h1 h2 h3 h4 h5 h6 h7 b0 b1 b2 b3 b4 b5 b6 b7 b8 b9 b10 b11 b12 b13 b14 b15 b16 b17 b18 b19 b20 b21 b22 b23 b24 b25 b26 b27 b28 b29 b30 b31 b32 b33 b34 b35 b36 b37 b38 b39 b40 b41 b42 b43 b44 b45 b46 b47 b48 b49 b50 b51 b52 b53 b54 b55 b56 b57 b58 b59 b60 b61 b62 b63 count:Nat):(X59 Tryd.prog (mkE Tryd.prog nv b) (Qsk Tryd.prog (mkE Tryd.prog nv b) X9e 100 3) none 100 (Zj2 8 Zak) ⟨Ji Y5e [.agg ⟨[Vq h0,Vq h1,Vq h2,Vq h3,Vq h4,Vq h5,Vq h6,Vq h7]⟩, .pointer (some ⟨nv,0,none⟩), .int .u64 (.ofNat count), .bool false],[],(Qoi nv Qz5 false [(1,[u8v b0,u8v b1,u8v b2,u8v b3,u8v b4,u8v b5,u8v b6,u8v b7,u8v b8,u8v b9,u8v b10,u8v b11,u8v b12,u8v b13,u8v b14,u8v b15,u8v b16,u8v b17,u8v b18,u8v b19,u8v b20,u8v b21,u8v b22,u8v b23,u8v b24,u8v b25,u8v b26,u8v b27,u8v b28,u8v b29,u8v b30,u8v b31,u8v b32,u8v b33,u8v b34,u8v b35,u8v b36,u8v b37,u8v b38,u8v b39,u8v b40,u8v b41,u8v b42,u8v b43,u8v b44,u8v b45,u8v b46,u8v b47,u8v b48,u8v b49,u8v b50,u8v b51,u8v b52,u8v b53,u8v b54,u8v b55,u8v b56,u8v b57,u8v b58,u8v b59,u8v b60,u8v b61,u8v b62,u8v b63])])⟩)=Y7x (nv+4) [Vq h0,Vq h1,Vq h2,Vq h3,Vq h4,Vq h5,Vq h6,Vq h7,Vq 1779033703,Vq 3144134277,Vq 1013904242,Vq 2773480762, .int .u32 (X93 (.ofNat 1359893119) (Y0u count)), .int .u32 (X93 (.ofNat 2600822924) (IntKind.wrap .u32 (Int.fdiv (.ofNat count) (2 ^ 32)))), .int .u32 (.ofNat 528734635),Vq 1541459225] (Y7x (nv+3) [.int .u32 (Ykh b0 b1 b2 b3), .int .u32 (Ykh b4 b5 b6 b7), .int .u32 (Ykh b8 b9 b10 b11), .int .u32 (Ykh b12 b13 b14 b15), .int .u32 (Ykh b16 b17 b18 b19), .int .u32 (Ykh b20 b21 b22 b23), .int .u32 (Ykh b24 b25 b26 b27), .int .u32 (Ykh b28 b29 b30 b31), .int .u32 (Ykh b32 b33 b34 b35), .int .u32 (Ykh b36 b37 b38 b39), .int .u32 (Ykh b40 b41 b42 b43), .int .u32 (Ykh b44 b45 b46 b47), .int .u32 (Ykh b48 b49 b50 b51), .int .u32 (Ykh b52 b53 b54 b55), .int .u32 (Ykh b56 b57 b58 b59), .int .u32 (Ykh b60 b61 b62 b63)] (X59 Tryd.prog (mkE Tryd.prog nv b) (Qsk Tryd.prog (mkE Tryd.prog nv b) X9e 100 3) none 100 (Zj2 8 Zak) ⟨Ji Y5e [.agg ⟨[Vq h0,Vq h1,Vq h2,Vq h3,Vq h4,Vq h5,Vq h6,Vq h7]⟩, .pointer (some ⟨nv,0,none⟩), .int .u64 (.ofNat count), .bool false],[],(Qoi nv Qz5 false [(1,[u8v b0,u8v b1,u8v b2,u8v b3,u8v b4,u8v b5,u8v b6,u8v b7,u8v b8,u8v b9,u8v b10,u8v b11,u8v b12,u8v b13,u8v b14,u8v b15,u8v b16,u8v b17,u8v b18,u8v b19,u8v b20,u8v b21,u8v b22,u8v b23,u8v b24,u8v b25,u8v b26,u8v b27,u8v b28,u8v b29,u8v b30,u8v b31,u8v b32,u8v b33,u8v b34,u8v b35,u8v b36,u8v b37,u8v b38,u8v b39,u8v b40,u8v b41,u8v b42,u8v b43,u8v b44,u8v b45,u8v b46,u8v b47,u8v b48,u8v b49,u8v b50,u8v b51,u8v b52,u8v b53,u8v b54,u8v b55,u8v b56,u8v b57,u8v b58,u8v b59,u8v b60,u8v b61,u8v b62,u8v b63])])⟩)):=by kernel_rfl
theorem Y1z(b:Nat)(h0 h1 h2 h3 h4 h5 h6 h7 b0 b1 b2 b3 b4 b5 b6 b7 b8 b9 b10 b11 b12 b13 b14 b15 b16 b17 b18 b19 b20 b21 b22 b23 b24 b25 b26 b27 b28 b29 b30 b31 b32 b33 b34 b35 b36 b37 b38 b39 b40 b41 b42 b43 b44 b45 b46 b47 b48 b49 b50 b51 b52 b53 b54 b55 b56 b57 b58 b59 b60 b61 b62 b63 count:Nat) :
  Zh7 ((Qsk Tryd.prog (mkE Tryd.prog nv b) X9e 100 4).fn 50 [.agg ⟨[Vq h0,Vq h1,Vq h2,Vq h3,Vq h4,Vq h5,Vq h6,Vq h7]⟩, .pointer (some ⟨nv,0,none⟩), .int .u64 (.ofNat count), .bool false] (Qoi nv Qz5 false [(1,[u8v b0,u8v b1,u8v b2,u8v b3,u8v b4,u8v b5,u8v b6,u8v b7,u8v b8,u8v b9,u8v b10,u8v b11,u8v b12,u8v b13,u8v b14,u8v b15,u8v b16,u8v b17,u8v b18,u8v b19,u8v b20,u8v b21,u8v b22,u8v b23,u8v b24,u8v b25,u8v b26,u8v b27,u8v b28,u8v b29,u8v b30,u8v b31,u8v b32,u8v b33,u8v b34,u8v b35,u8v b36,u8v b37,u8v b38,u8v b39,u8v b40,u8v b41,u8v b42,u8v b43,u8v b44,u8v b45,u8v b46,u8v b47,u8v b48,u8v b49,u8v b50,u8v b51,u8v b52,u8v b53,u8v b54,u8v b55,u8v b56,u8v b57,u8v b58,u8v b59,u8v b60,u8v b61,u8v b62,u8v b63])])) =
   ob (Zd3 h0 h1 h2 h3 h4 h5 h6 h7 (Bl.xr 1359893119 (Bl.w32 count)) (Bl.xr 2600822924 (Bl.w32 (Nat.div count 4294967296))) 528734635 (Bl.le4 b0 b1 b2 b3) (Bl.le4 b4 b5 b6 b7) (Bl.le4 b8 b9 b10 b11) (Bl.le4 b12 b13 b14 b15) (Bl.le4 b16 b17 b18 b19) (Bl.le4 b20 b21 b22 b23) (Bl.le4 b24 b25 b26 b27) (Bl.le4 b28 b29 b30 b31) (Bl.le4 b32 b33 b34 b35) (Bl.le4 b36 b37 b38 b39) (Bl.le4 b40 b41 b42 b43) (Bl.le4 b44 b45 b46 b47) (Bl.le4 b48 b49 b50 b51) (Bl.le4 b52 b53 b54 b55) (Bl.le4 b56 b57 b58 b59) (Bl.le4 b60 b61 b62 b63)) (Zor h0 h1 h2 h3 h4 h5 h6 h7):=by
 have e12:Value.int .u32 (X93 (.ofNat 1359893119) (Y0u count))=Vq (Bl.xr 1359893119 (Bl.w32 count)):=by rw[Yxo,Xtj];rfl
 have e13:Value.int .u32 (X93 (.ofNat 2600822924) (IntKind.wrap .u32 (Int.fdiv (.ofNat count) (2 ^ 32))))=Vq (Bl.xr 2600822924 (Bl.w32 (Nat.div count 4294967296))):=by rw[Y76,Qwf];exact congrArg (Value.int .u32) (Xtj _ _)
 have e14:Value.int .u32 (.ofNat 528734635)=Vq 528734635:=by first | rfl | (rw[Xtj];rfl)
 rw[Y8p (n0:=8) (F:=Y5e) (c:=Zak) (by kernel_rfl) (by kernel_rfl) (by kernel_rfl) (by kernel_rfl) (by kernel_rfl),Yyf,e12,e13,e14]
 simp only[Y8c]
 show _=_
 kernel_rfl
theorem Zay{A:Type}(a b c d x y:Nat)(K:Nat→Nat→Nat→Nat→Option (List Nat))(f:List Nat→Option A):ob (Bl.stir a b c d x y K) f=Bl.stir a b c d x y (fun a b c d=>ob (K a b c d) f):=rfl
theorem Zn4(p0 p1 p2 p3 p4 p5 p6 p7 p8 p9 p10 p11 p12 p13 p14 p15 x y:Nat):X9l [0,4,8,12] [p0,p1,p2,p3,p4,p5,p6,p7,p8,p9,p10,p11,p12,p13,p14,p15] x y=Bl.stir p0 p4 p8 p12 x y fun p0 p4 p8 p12=>some [p0,p1,p2,p3,p4,p5,p6,p7,p8,p9,p10,p11,p12,p13,p14,p15]:=rfl
theorem Zoe(p0 p1 p2 p3 p4 p5 p6 p7 p8 p9 p10 p11 p12 p13 p14 p15 x y:Nat):X9l [1,5,9,13] [p0,p1,p2,p3,p4,p5,p6,p7,p8,p9,p10,p11,p12,p13,p14,p15] x y=Bl.stir p1 p5 p9 p13 x y fun p1 p5 p9 p13=>some [p0,p1,p2,p3,p4,p5,p6,p7,p8,p9,p10,p11,p12,p13,p14,p15]:=rfl
theorem Zng(p0 p1 p2 p3 p4 p5 p6 p7 p8 p9 p10 p11 p12 p13 p14 p15 x y:Nat):X9l [2,6,10,14] [p0,p1,p2,p3,p4,p5,p6,p7,p8,p9,p10,p11,p12,p13,p14,p15] x y=Bl.stir p2 p6 p10 p14 x y fun p2 p6 p10 p14=>some [p0,p1,p2,p3,p4,p5,p6,p7,p8,p9,p10,p11,p12,p13,p14,p15]:=rfl
theorem Zok(p0 p1 p2 p3 p4 p5 p6 p7 p8 p9 p10 p11 p12 p13 p14 p15 x y:Nat):X9l [3,7,11,15] [p0,p1,p2,p3,p4,p5,p6,p7,p8,p9,p10,p11,p12,p13,p14,p15] x y=Bl.stir p3 p7 p11 p15 x y fun p3 p7 p11 p15=>some [p0,p1,p2,p3,p4,p5,p6,p7,p8,p9,p10,p11,p12,p13,p14,p15]:=rfl
theorem Zo0(p0 p1 p2 p3 p4 p5 p6 p7 p8 p9 p10 p11 p12 p13 p14 p15 x y:Nat):X9l [0,5,10,15] [p0,p1,p2,p3,p4,p5,p6,p7,p8,p9,p10,p11,p12,p13,p14,p15] x y=Bl.stir p0 p5 p10 p15 x y fun p0 p5 p10 p15=>some [p0,p1,p2,p3,p4,p5,p6,p7,p8,p9,p10,p11,p12,p13,p14,p15]:=rfl
theorem Zoh(p0 p1 p2 p3 p4 p5 p6 p7 p8 p9 p10 p11 p12 p13 p14 p15 x y:Nat):X9l [1,6,11,12] [p0,p1,p2,p3,p4,p5,p6,p7,p8,p9,p10,p11,p12,p13,p14,p15] x y=Bl.stir p1 p6 p11 p12 x y fun p1 p6 p11 p12=>some [p0,p1,p2,p3,p4,p5,p6,p7,p8,p9,p10,p11,p12,p13,p14,p15]:=rfl
theorem Znu(p0 p1 p2 p3 p4 p5 p6 p7 p8 p9 p10 p11 p12 p13 p14 p15 x y:Nat):X9l [2,7,8,13] [p0,p1,p2,p3,p4,p5,p6,p7,p8,p9,p10,p11,p12,p13,p14,p15] x y=Bl.stir p2 p7 p8 p13 x y fun p2 p7 p8 p13=>some [p0,p1,p2,p3,p4,p5,p6,p7,p8,p9,p10,p11,p12,p13,p14,p15]:=rfl
theorem Zn8(p0 p1 p2 p3 p4 p5 p6 p7 p8 p9 p10 p11 p12 p13 p14 p15 x y:Nat):X9l [3,4,9,14] [p0,p1,p2,p3,p4,p5,p6,p7,p8,p9,p10,p11,p12,p13,p14,p15] x y=Bl.stir p3 p4 p9 p14 x y fun p3 p4 p9 p14=>some [p0,p1,p2,p3,p4,p5,p6,p7,p8,p9,p10,p11,p12,p13,p14,p15]:=rfl
theorem Zbg(p0 p1 p2 p3 p4 p5 p6 p7 p8 p9 p10 p11 p12 p13 p14 p15 x0 x1 x2 x3 x4 x5 x6 x7 x8 x9 x10 x11 x12 x13 x14 x15:Nat):Qs5 [p0,p1,p2,p3,p4,p5,p6,p7,p8,p9,p10,p11,p12,p13,p14,p15] x0 x1 x2 x3 x4 x5 x6 x7 x8 x9 x10 x11 x12 x13 x14 x15=Bl.round p0 p1 p2 p3 p4 p5 p6 p7 p8 p9 p10 p11 p12 p13 p14 p15 x0 x1 x2 x3 x4 x5 x6 x7 x8 x9 x10 x11 x12 x13 x14 x15 fun p0 p1 p2 p3 p4 p5 p6 p7 p8 p9 p10 p11 p12 p13 p14 p15=>some [p0,p1,p2,p3,p4,p5,p6,p7,p8,p9,p10,p11,p12,p13,p14,p15]:=by
 simp only[Qs5,Bl.round,Zay,ob_some,Zn4,Zoe,Zng,Zok,Zo0,Zoh,Znu,Zn8]
theorem Zgm{A:Type}(p0 p1 p2 p3 p4 p5 p6 p7 p8 p9 p10 p11 p12 p13 p14 p15 x0 x1 x2 x3 x4 x5 x6 x7 x8 x9 x10 x11 x12 x13 x14 x15:Nat)(K:Nat→Nat→Nat→Nat→Nat→Nat→Nat→Nat→Nat→Nat→Nat→Nat→Nat→Nat→Nat→Nat→Option (List Nat))(f:List Nat→Option A):ob (Bl.round p0 p1 p2 p3 p4 p5 p6 p7 p8 p9 p10 p11 p12 p13 p14 p15 x0 x1 x2 x3 x4 x5 x6 x7 x8 x9 x10 x11 x12 x13 x14 x15 K) f=Bl.round p0 p1 p2 p3 p4 p5 p6 p7 p8 p9 p10 p11 p12 p13 p14 p15 x0 x1 x2 x3 x4 x5 x6 x7 x8 x9 x10 x11 x12 x13 x14 x15 (fun p0 p1 p2 p3 p4 p5 p6 p7 p8 p9 p10 p11 p12 p13 p14 p15=>ob (K p0 p1 p2 p3 p4 p5 p6 p7 p8 p9 p10 p11 p12 p13 p14 p15) f):=by
 simp only[Bl.round,Zay]
theorem Zh3{A B C:Type}(x:Option A)(g:A→Option B)(f:B→Option C):ob (ob x g) f=ob x (fun a=>ob (g a) f):=by cases x <;> rfl
theorem Zcz{A:Type}(R:Nat→Nat→Nat→Nat→Nat→Nat→Nat→Nat→Nat→Nat→Nat→Nat→Nat→Nat→Nat→Nat→Nat→Nat→Nat→Nat→Nat→Nat→Nat→Nat→Nat→Nat→Nat→Nat→Nat→Nat→Nat→Nat→(Nat→Nat→Nat→Nat→Nat→Nat→Nat→Nat→Nat→Nat→Nat→Nat→Nat→Nat→Nat→Nat→Option A)→Option A)(hR : ∀ (p0 p1 p2 p3 p4 p5 p6 p7 p8 p9 p10 p11 p12 p13 p14 p15 x0 x1 x2 x3 x4 x5 x6 x7 x8 x9 x10 x11 x12 x13 x14 x15:Nat) (f:List Nat→Option A),ob (Qs5 [p0,p1,p2,p3,p4,p5,p6,p7,p8,p9,p10,p11,p12,p13,p14,p15] x0 x1 x2 x3 x4 x5 x6 x7 x8 x9 x10 x11 x12 x13 x14 x15) f=R p0 p1 p2 p3 p4 p5 p6 p7 p8 p9 p10 p11 p12 p13 p14 p15 x0 x1 x2 x3 x4 x5 x6 x7 x8 x9 x10 x11 x12 x13 x14 x15 fun p0 p1 p2 p3 p4 p5 p6 p7 p8 p9 p10 p11 p12 p13 p14 p15=>f [p0,p1,p2,p3,p4,p5,p6,p7,p8,p9,p10,p11,p12,p13,p14,p15])
  (h0 h1 h2 h3 h4 h5 h6 h7 p12 p13 p14 m0 m1 m2 m3 m4 m5 m6 m7 m8 m9 m10 m11 m12 m13 m14 m15:Nat) (f:List Nat→Option A):ob (Zd3 h0 h1 h2 h3 h4 h5 h6 h7 p12 p13 p14 m0 m1 m2 m3 m4 m5 m6 m7 m8 m9 m10 m11 m12 m13 m14 m15) f =
  R h0 h1 h2 h3 h4 h5 h6 h7 1779033703 3144134277 1013904242 2773480762 p12 p13 p14 1541459225 m0 m1 m2 m3 m4 m5 m6 m7 m8 m9 m10 m11 m12 m13 m14 m15 fun p0 p1 p2 p3 p4 p5 p6 p7 p8 p9 p10 p11 p12 p13 p14 p15 =>
  R p0 p1 p2 p3 p4 p5 p6 p7 p8 p9 p10 p11 p12 p13 p14 p15 m14 m10 m4 m8 m9 m15 m13 m6 m1 m12 m0 m2 m11 m7 m5 m3 fun p0 p1 p2 p3 p4 p5 p6 p7 p8 p9 p10 p11 p12 p13 p14 p15 =>
  R p0 p1 p2 p3 p4 p5 p6 p7 p8 p9 p10 p11 p12 p13 p14 p15 m11 m8 m12 m0 m5 m2 m15 m13 m10 m14 m3 m6 m7 m1 m9 m4 fun p0 p1 p2 p3 p4 p5 p6 p7 p8 p9 p10 p11 p12 p13 p14 p15 =>
  R p0 p1 p2 p3 p4 p5 p6 p7 p8 p9 p10 p11 p12 p13 p14 p15 m7 m9 m3 m1 m13 m12 m11 m14 m2 m6 m5 m10 m4 m0 m15 m8 fun p0 p1 p2 p3 p4 p5 p6 p7 p8 p9 p10 p11 p12 p13 p14 p15 =>
  R p0 p1 p2 p3 p4 p5 p6 p7 p8 p9 p10 p11 p12 p13 p14 p15 m9 m0 m5 m7 m2 m4 m10 m15 m14 m1 m11 m12 m6 m8 m3 m13 fun p0 p1 p2 p3 p4 p5 p6 p7 p8 p9 p10 p11 p12 p13 p14 p15 =>
  R p0 p1 p2 p3 p4 p5 p6 p7 p8 p9 p10 p11 p12 p13 p14 p15 m2 m12 m6 m10 m0 m11 m8 m3 m4 m13 m7 m5 m15 m14 m1 m9 fun p0 p1 p2 p3 p4 p5 p6 p7 p8 p9 p10 p11 p12 p13 p14 p15 =>
  R p0 p1 p2 p3 p4 p5 p6 p7 p8 p9 p10 p11 p12 p13 p14 p15 m12 m5 m1 m15 m14 m13 m4 m10 m0 m7 m6 m3 m9 m2 m8 m11 fun p0 p1 p2 p3 p4 p5 p6 p7 p8 p9 p10 p11 p12 p13 p14 p15 =>
  R p0 p1 p2 p3 p4 p5 p6 p7 p8 p9 p10 p11 p12 p13 p14 p15 m13 m11 m7 m14 m12 m1 m3 m9 m5 m0 m15 m4 m8 m6 m2 m10 fun p0 p1 p2 p3 p4 p5 p6 p7 p8 p9 p10 p11 p12 p13 p14 p15 =>
  R p0 p1 p2 p3 p4 p5 p6 p7 p8 p9 p10 p11 p12 p13 p14 p15 m6 m15 m14 m9 m11 m3 m0 m8 m12 m2 m13 m7 m1 m4 m10 m5 fun p0 p1 p2 p3 p4 p5 p6 p7 p8 p9 p10 p11 p12 p13 p14 p15 =>
  R p0 p1 p2 p3 p4 p5 p6 p7 p8 p9 p10 p11 p12 p13 p14 p15 m10 m2 m8 m4 m7 m6 m1 m5 m15 m11 m9 m14 m3 m12 m13 m0 fun p0 p1 p2 p3 p4 p5 p6 p7 p8 p9 p10 p11 p12 p13 p14 p15 =>
  f [p0,p1,p2,p3,p4,p5,p6,p7,p8,p9,p10,p11,p12,p13,p14,p15]:=by
 simp only[Zd3,Zh3,hR]
theorem Y78(h0 h1 h2 h3 h4 h5 h6 h7 p12 p13 p14 m0 m1 m2 m3 m4 m5 m6 m7 m8 m9 m10 m11 m12 m13 m14 m15:Nat){A:Type}(f:List Nat→Option A):ob (Zd3 h0 h1 h2 h3 h4 h5 h6 h7 p12 p13 p14 m0 m1 m2 m3 m4 m5 m6 m7 m8 m9 m10 m11 m12 m13 m14 m15) f=Bl.rounds h0 h1 h2 h3 h4 h5 h6 h7 1779033703 3144134277 1013904242 2773480762 p12 p13 p14 1541459225 m0 m1 m2 m3 m4 m5 m6 m7 m8 m9 m10 m11 m12 m13 m14 m15 fun p0 p1 p2 p3 p4 p5 p6 p7 p8 p9 p10 p11 p12 p13 p14 p15=>f [p0,p1,p2,p3,p4,p5,p6,p7,p8,p9,p10,p11,p12,p13,p14,p15]:=by
 unfold Bl.rounds
 exact Zcz (fun p0 p1 p2 p3 p4 p5 p6 p7 p8 p9 p10 p11 p12 p13 p14 p15 x0 x1 x2 x3 x4 x5 x6 x7 x8 x9 x10 x11 x12 x13 x14 x15 K=>Bl.round p0 p1 p2 p3 p4 p5 p6 p7 p8 p9 p10 p11 p12 p13 p14 p15 x0 x1 x2 x3 x4 x5 x6 x7 x8 x9 x10 x11 x12 x13 x14 x15 K) (fun p0 p1 p2 p3 p4 p5 p6 p7 p8 p9 p10 p11 p12 p13 p14 p15 x0 x1 x2 x3 x4 x5 x6 x7 x8 x9 x10 x11 x12 x13 x14 x15 f=>by rw[Zbg,Zgm];rfl) _ _ _ _ _ _ _ _ _ _ _ _ _ _ _ _ _ _ _ _ _ _ _ _ _ _ _ f
theorem Zbr(h0 h1 h2 h3 h4 h5 h6 h7 p0 p1 p2 p3 p4 p5 p6 p7 p8 p9 p10 p11 p12 p13 p14 p15:Nat):Zor h0 h1 h2 h3 h4 h5 h6 h7 [p0,p1,p2,p3,p4,p5,p6,p7,p8,p9,p10,p11,p12,p13,p14,p15]=some (p8v ⟨Bl.xr h0 (Bl.xr p0 p8),Bl.xr h1 (Bl.xr p1 p9),Bl.xr h2 (Bl.xr p2 p10),Bl.xr h3 (Bl.xr p3 p11),Bl.xr h4 (Bl.xr p4 p12),Bl.xr h5 (Bl.xr p5 p13),Bl.xr h6 (Bl.xr p6 p14),Bl.xr h7 (Bl.xr p7 p15)⟩):=by
 simp only[Zor,Xtj,p8v,Vq]
theorem Zf3{A B:Type}(f:A→B)(a b c d x y:Nat)(K:Nat→Nat→Nat→Nat→A):f (Bl.stir a b c d x y K)=Bl.stir a b c d x y (fun a b c d=>f (K a b c d)):=rfl
theorem Y9r{A B:Type}(f:A→B)(p0 p1 p2 p3 p4 p5 p6 p7 p8 p9 p10 p11 p12 p13 p14 p15 x0 x1 x2 x3 x4 x5 x6 x7 x8 x9 x10 x11 x12 x13 x14 x15:Nat)(K:Nat→Nat→Nat→Nat→Nat→Nat→Nat→Nat→Nat→Nat→Nat→Nat→Nat→Nat→Nat→Nat→A):f (Bl.round p0 p1 p2 p3 p4 p5 p6 p7 p8 p9 p10 p11 p12 p13 p14 p15 x0 x1 x2 x3 x4 x5 x6 x7 x8 x9 x10 x11 x12 x13 x14 x15 K)=Bl.round p0 p1 p2 p3 p4 p5 p6 p7 p8 p9 p10 p11 p12 p13 p14 p15 x0 x1 x2 x3 x4 x5 x6 x7 x8 x9 x10 x11 x12 x13 x14 x15 (fun p0 p1 p2 p3 p4 p5 p6 p7 p8 p9 p10 p11 p12 p13 p14 p15=>f (K p0 p1 p2 p3 p4 p5 p6 p7 p8 p9 p10 p11 p12 p13 p14 p15)):=by
 simp only[Bl.round,Zf3 f]
theorem Yvj{A B:Type}(f:A→B)(p0 p1 p2 p3 p4 p5 p6 p7 p8 p9 p10 p11 p12 p13 p14 p15 m0 m1 m2 m3 m4 m5 m6 m7 m8 m9 m10 m11 m12 m13 m14 m15:Nat)(K:Nat→Nat→Nat→Nat→Nat→Nat→Nat→Nat→Nat→Nat→Nat→Nat→Nat→Nat→Nat→Nat→A):f (Bl.rounds p0 p1 p2 p3 p4 p5 p6 p7 p8 p9 p10 p11 p12 p13 p14 p15 m0 m1 m2 m3 m4 m5 m6 m7 m8 m9 m10 m11 m12 m13 m14 m15 K)=Bl.rounds p0 p1 p2 p3 p4 p5 p6 p7 p8 p9 p10 p11 p12 p13 p14 p15 m0 m1 m2 m3 m4 m5 m6 m7 m8 m9 m10 m11 m12 m13 m14 m15 (fun p0 p1 p2 p3 p4 p5 p6 p7 p8 p9 p10 p11 p12 p13 p14 p15=>f (K p0 p1 p2 p3 p4 p5 p6 p7 p8 p9 p10 p11 p12 p13 p14 p15)):=by
 simp only[Bl.rounds,Y9r f]
theorem Y6b(b:Nat)(h0 h1 h2 h3 h4 h5 h6 h7 b0 b1 b2 b3 b4 b5 b6 b7 b8 b9 b10 b11 b12 b13 b14 b15 b16 b17 b18 b19 b20 b21 b22 b23 b24 b25 b26 b27 b28 b29 b30 b31 b32 b33 b34 b35 b36 b37 b38 b39 b40 b41 b42 b43 b44 b45 b46 b47 b48 b49 b50 b51 b52 b53 b54 b55 b56 b57 b58 b59 b60 b61 b62 b63 count:Nat) :
  Zh7 ((Qsk Tryd.prog (mkE Tryd.prog nv b) X9e 100 4).fn 50 [.agg ⟨[Vq h0,Vq h1,Vq h2,Vq h3,Vq h4,Vq h5,Vq h6,Vq h7]⟩, .pointer (some ⟨nv,0,none⟩), .int .u64 (.ofNat count), .bool true] (Qoi nv Qz5 false [(1,[u8v b0,u8v b1,u8v b2,u8v b3,u8v b4,u8v b5,u8v b6,u8v b7,u8v b8,u8v b9,u8v b10,u8v b11,u8v b12,u8v b13,u8v b14,u8v b15,u8v b16,u8v b17,u8v b18,u8v b19,u8v b20,u8v b21,u8v b22,u8v b23,u8v b24,u8v b25,u8v b26,u8v b27,u8v b28,u8v b29,u8v b30,u8v b31,u8v b32,u8v b33,u8v b34,u8v b35,u8v b36,u8v b37,u8v b38,u8v b39,u8v b40,u8v b41,u8v b42,u8v b43,u8v b44,u8v b45,u8v b46,u8v b47,u8v b48,u8v b49,u8v b50,u8v b51,u8v b52,u8v b53,u8v b54,u8v b55,u8v b56,u8v b57,u8v b58,u8v b59,u8v b60,u8v b61,u8v b62,u8v b63])])) =
   some (p8v (Bl.take ⟨h0,h1,h2,h3,h4,h5,h6,h7⟩ [b0,b1,b2,b3,b4,b5,b6,b7,b8,b9,b10,b11,b12,b13,b14,b15,b16,b17,b18,b19,b20,b21,b22,b23,b24,b25,b26,b27,b28,b29,b30,b31,b32,b33,b34,b35,b36,b37,b38,b39,b40,b41,b42,b43,b44,b45,b46,b47,b48,b49,b50,b51,b52,b53,b54,b55,b56,b57,b58,b59,b60,b61,b62,b63] count true)):=by
 rw[Y3m,Y78]
 simp only[Zbr,Bl.take,Bl.words,Bl.nx]
 exact(Yvj (fun x=>some (p8v x)) _ _ _ _ _ _ _ _ _ _ _ _ _ _ _ _ _ _ _ _ _ _ _ _ _ _ _ _ _ _ _ _ _).symm
theorem Y47(b:Nat)(h0 h1 h2 h3 h4 h5 h6 h7 b0 b1 b2 b3 b4 b5 b6 b7 b8 b9 b10 b11 b12 b13 b14 b15 b16 b17 b18 b19 b20 b21 b22 b23 b24 b25 b26 b27 b28 b29 b30 b31 b32 b33 b34 b35 b36 b37 b38 b39 b40 b41 b42 b43 b44 b45 b46 b47 b48 b49 b50 b51 b52 b53 b54 b55 b56 b57 b58 b59 b60 b61 b62 b63 count:Nat) :
  Zh7 ((Qsk Tryd.prog (mkE Tryd.prog nv b) X9e 100 4).fn 50 [.agg ⟨[Vq h0,Vq h1,Vq h2,Vq h3,Vq h4,Vq h5,Vq h6,Vq h7]⟩, .pointer (some ⟨nv,0,none⟩), .int .u64 (.ofNat count), .bool false] (Qoi nv Qz5 false [(1,[u8v b0,u8v b1,u8v b2,u8v b3,u8v b4,u8v b5,u8v b6,u8v b7,u8v b8,u8v b9,u8v b10,u8v b11,u8v b12,u8v b13,u8v b14,u8v b15,u8v b16,u8v b17,u8v b18,u8v b19,u8v b20,u8v b21,u8v b22,u8v b23,u8v b24,u8v b25,u8v b26,u8v b27,u8v b28,u8v b29,u8v b30,u8v b31,u8v b32,u8v b33,u8v b34,u8v b35,u8v b36,u8v b37,u8v b38,u8v b39,u8v b40,u8v b41,u8v b42,u8v b43,u8v b44,u8v b45,u8v b46,u8v b47,u8v b48,u8v b49,u8v b50,u8v b51,u8v b52,u8v b53,u8v b54,u8v b55,u8v b56,u8v b57,u8v b58,u8v b59,u8v b60,u8v b61,u8v b62,u8v b63])])) =
   some (p8v (Bl.take ⟨h0,h1,h2,h3,h4,h5,h6,h7⟩ [b0,b1,b2,b3,b4,b5,b6,b7,b8,b9,b10,b11,b12,b13,b14,b15,b16,b17,b18,b19,b20,b21,b22,b23,b24,b25,b26,b27,b28,b29,b30,b31,b32,b33,b34,b35,b36,b37,b38,b39,b40,b41,b42,b43,b44,b45,b46,b47,b48,b49,b50,b51,b52,b53,b54,b55,b56,b57,b58,b59,b60,b61,b62,b63] count false)):=by
 rw[Y1z,Y78]
 simp only[Zbr,Bl.take,Bl.words,Bl.nx]
 exact(Yvj (fun x=>some (p8v x)) _ _ _ _ _ _ _ _ _ _ _ _ _ _ _ _ _ _ _ _ _ _ _ _ _ _ _ _ _ _ _ _ _).symm
theorem Zpo{l0:List Nat}(h0:l0.length=64) : ∃ b0 b1 b2 b3 b4 b5 b6 b7 b8 b9 b10 b11 b12 b13 b14 b15 b16 b17 b18 b19 b20 b21 b22 b23 b24 b25 b26 b27 b28 b29 b30 b31 b32 b33 b34 b35 b36 b37 b38 b39 b40 b41 b42 b43 b44 b45 b46 b47 b48 b49 b50 b51 b52 b53 b54 b55 b56 b57 b58 b59 b60 b61 b62 b63,l0 = [b0,b1,b2,b3,b4,b5,b6,b7,b8,b9,b10,b11,b12,b13,b14,b15,b16,b17,b18,b19,b20,b21,b22,b23,b24,b25,b26,b27,b28,b29,b30,b31,b32,b33,b34,b35,b36,b37,b38,b39,b40,b41,b42,b43,b44,b45,b46,b47,b48,b49,b50,b51,b52,b53,b54,b55,b56,b57,b58,b59,b60,b61,b62,b63]:=by
 obtain⟨b0,l1,rfl,h1⟩:=Qb7 h0
 obtain⟨b1,l2,rfl,h2⟩:=Qb7 h1
 obtain⟨b2,l3,rfl,h3⟩:=Qb7 h2
 obtain⟨b3,l4,rfl,h4⟩:=Qb7 h3
 obtain⟨b4,l5,rfl,h5⟩:=Qb7 h4
 obtain⟨b5,l6,rfl,h6⟩:=Qb7 h5
 obtain⟨b6,l7,rfl,h7⟩:=Qb7 h6
 obtain⟨b7,l8,rfl,h8⟩:=Qb7 h7
 obtain⟨b8,l9,rfl,h9⟩:=Qb7 h8
 obtain⟨b9,l10,rfl,h10⟩:=Qb7 h9
 obtain⟨b10,l11,rfl,h11⟩:=Qb7 h10
 obtain⟨b11,l12,rfl,h12⟩:=Qb7 h11
 obtain⟨b12,l13,rfl,h13⟩:=Qb7 h12
 obtain⟨b13,l14,rfl,h14⟩:=Qb7 h13
 obtain⟨b14,l15,rfl,h15⟩:=Qb7 h14
 obtain⟨b15,l16,rfl,h16⟩:=Qb7 h15
 obtain⟨b16,l17,rfl,h17⟩:=Qb7 h16
 obtain⟨b17,l18,rfl,h18⟩:=Qb7 h17
 obtain⟨b18,l19,rfl,h19⟩:=Qb7 h18
 obtain⟨b19,l20,rfl,h20⟩:=Qb7 h19
 obtain⟨b20,l21,rfl,h21⟩:=Qb7 h20
 obtain⟨b21,l22,rfl,h22⟩:=Qb7 h21
 obtain⟨b22,l23,rfl,h23⟩:=Qb7 h22
 obtain⟨b23,l24,rfl,h24⟩:=Qb7 h23
 obtain⟨b24,l25,rfl,h25⟩:=Qb7 h24
 obtain⟨b25,l26,rfl,h26⟩:=Qb7 h25
 obtain⟨b26,l27,rfl,h27⟩:=Qb7 h26
 obtain⟨b27,l28,rfl,h28⟩:=Qb7 h27
 obtain⟨b28,l29,rfl,h29⟩:=Qb7 h28
 obtain⟨b29,l30,rfl,h30⟩:=Qb7 h29
 obtain⟨b30,l31,rfl,h31⟩:=Qb7 h30
 obtain⟨b31,l32,rfl,h32⟩:=Qb7 h31
 obtain⟨b32,l33,rfl,h33⟩:=Qb7 h32
 obtain⟨b33,l34,rfl,h34⟩:=Qb7 h33
 obtain⟨b34,l35,rfl,h35⟩:=Qb7 h34
 obtain⟨b35,l36,rfl,h36⟩:=Qb7 h35
 obtain⟨b36,l37,rfl,h37⟩:=Qb7 h36
 obtain⟨b37,l38,rfl,h38⟩:=Qb7 h37
 obtain⟨b38,l39,rfl,h39⟩:=Qb7 h38
 obtain⟨b39,l40,rfl,h40⟩:=Qb7 h39
 obtain⟨b40,l41,rfl,h41⟩:=Qb7 h40
 obtain⟨b41,l42,rfl,h42⟩:=Qb7 h41
 obtain⟨b42,l43,rfl,h43⟩:=Qb7 h42
 obtain⟨b43,l44,rfl,h44⟩:=Qb7 h43
 obtain⟨b44,l45,rfl,h45⟩:=Qb7 h44
 obtain⟨b45,l46,rfl,h46⟩:=Qb7 h45
 obtain⟨b46,l47,rfl,h47⟩:=Qb7 h46
 obtain⟨b47,l48,rfl,h48⟩:=Qb7 h47
 obtain⟨b48,l49,rfl,h49⟩:=Qb7 h48
 obtain⟨b49,l50,rfl,h50⟩:=Qb7 h49
 obtain⟨b50,l51,rfl,h51⟩:=Qb7 h50
 obtain⟨b51,l52,rfl,h52⟩:=Qb7 h51
 obtain⟨b52,l53,rfl,h53⟩:=Qb7 h52
 obtain⟨b53,l54,rfl,h54⟩:=Qb7 h53
 obtain⟨b54,l55,rfl,h55⟩:=Qb7 h54
 obtain⟨b55,l56,rfl,h56⟩:=Qb7 h55
 obtain⟨b56,l57,rfl,h57⟩:=Qb7 h56
 obtain⟨b57,l58,rfl,h58⟩:=Qb7 h57
 obtain⟨b58,l59,rfl,h59⟩:=Qb7 h58
 obtain⟨b59,l60,rfl,h60⟩:=Qb7 h59
 obtain⟨b60,l61,rfl,h61⟩:=Qb7 h60
 obtain⟨b61,l62,rfl,h62⟩:=Qb7 h61
 obtain⟨b62,l63,rfl,h63⟩:=Qb7 h62
 obtain⟨b63,l64,rfl,h64⟩:=Qb7 h63
 have e:=List.eq_nil_of_length_eq_zero h64
 subst e
 exact⟨_,_,_,_,_,_,_,_,_,_,_,_,_,_,_,_,_,_,_,_,_,_,_,_,_,_,_,_,_,_,_,_,_,_,_,_,_,_,_,_,_,_,_,_,_,_,_,_,_,_,_,_,_,_,_,_,_,_,_,_,_,_,_,_,rfl⟩
theorem Ziq(b:Nat)(h0 h1 h2 h3 h4 h5 h6 h7 count:Nat)(l:List Nat)(hl:l.length=64)(last:Bool) :
  Zh7 ((Qsk Tryd.prog (mkE Tryd.prog nv b) X9e 100 4).fn 50 [.agg ⟨[Vq h0,Vq h1,Vq h2,Vq h3,Vq h4,Vq h5,Vq h6,Vq h7]⟩, .pointer (some ⟨nv,0,none⟩), .int .u64 (.ofNat count), .bool last] (Qoi nv Qz5 false [(1,l.map u8v)])) =
   some (p8v (Bl.take ⟨h0,h1,h2,h3,h4,h5,h6,h7⟩ l count last)):=by
 obtain⟨b0,b1,b2,b3,b4,b5,b6,b7,b8,b9,b10,b11,b12,b13,b14,b15,b16,b17,b18,b19,b20,b21,b22,b23,b24,b25,b26,b27,b28,b29,b30,b31,b32,b33,b34,b35,b36,b37,b38,b39,b40,b41,b42,b43,b44,b45,b46,b47,b48,b49,b50,b51,b52,b53,b54,b55,b56,b57,b58,b59,b60,b61,b62,b63,rfl⟩:=Zpo hl
 cases last with
 | true=>exact Y6b b h0 h1 h2 h3 h4 h5 h6 h7 b0 b1 b2 b3 b4 b5 b6 b7 b8 b9 b10 b11 b12 b13 b14 b15 b16 b17 b18 b19 b20 b21 b22 b23 b24 b25 b26 b27 b28 b29 b30 b31 b32 b33 b34 b35 b36 b37 b38 b39 b40 b41 b42 b43 b44 b45 b46 b47 b48 b49 b50 b51 b52 b53 b54 b55 b56 b57 b58 b59 b60 b61 b62 b63 count
 | false=>exact Y47 b h0 h1 h2 h3 h4 h5 h6 h7 b0 b1 b2 b3 b4 b5 b6 b7 b8 b9 b10 b11 b12 b13 b14 b15 b16 b17 b18 b19 b20 b21 b22 b23 b24 b25 b26 b27 b28 b29 b30 b31 b32 b33 b34 b35 b36 b37 b38 b39 b40 b41 b42 b43 b44 b45 b46 b47 b48 b49 b50 b51 b52 b53 b54 b55 b56 b57 b58 b59 b60 b61 b62 b63 count
def Zcx:X9c:=fun f args h=>bq (Nat.beq f 50) (match args with
 | [.agg ⟨hv⟩,p, .int .u64 (.ofNat count), .bool last]=>ob (Zm3 hv) fun hl=>ob (Yzg h p) fun q=>ob (u8s q.2) fun bl=>bq (Nat.beq bl.length 64) (bq (Zid h Qz5) (ob (Zpu hl) fun h8=>some (.ret (p8v (Bl.take h8 bl count last)),h)) none) none
 | _=>none) none
theorem Yvl : ∀ x ∈ Qz5,x.2 ≠ []∧Yi0 x.2:=by
 intro x hx
 rcases List.mem_cons.1 hx with rfl | hx
 ·exact⟨by simp[Qza],Yhm (by kernel_rfl)⟩
 ·rcases List.mem_cons.1 hx with rfl | hx
  ·exact⟨by simp[Yki],Yhm (by kernel_rfl)⟩
  ·cases hx
theorem Zhs(b:Nat):Xhe Tryd.prog ⟨nv,b⟩ Zcx:=by
 intro f args h r h' hx
 unfold Zcx at hx
 obtain⟨hf,hx⟩:=Xbl hx
 have hf:=Nat.eq_of_beq_eq_true hf
 subst hf
 split at hx
 ·rename_i hv p count last hq
  obtain⟨hl,h1,hx⟩:=Qlh hx
  obtain⟨⟨blk,cs⟩,h2,hx⟩:=Qlh hx
  obtain⟨bl,h3,hx⟩:=Qlh hx
  obtain⟨h4,hx⟩:=Xbl hx
  obtain⟨h5,hx⟩:=Xbl hx
  obtain⟨h8,h6,hx⟩:=Qlh hx
  cases hx
  have e1:=Yxn h1
  subst e1
  have e0:Value.agg {toList:=List.map Vq hl}=p8v h8:=Zju h6
  obtain⟨rfl,hg⟩:=X9u h2
  have e2:=Zir h3
  simp only at e2 hg
  subst e2
  rw[e0]
  refine Ysq (k:=100) (m:=4) mixed Y2l Y03 (fun b=>Ziq b h8.h0 h8.h1 h8.h2 h8.h3 h8.h4 h8.h5 h8.h6 h8.h7 count bl (Nat.eq_of_beq_eq_true h4) last) rfl (Y1e h5) Yvl (bs := [blk]) rfl (by simp) (fun k d r hd hr => ?_)
   (Yj (Vd rfl) (Yj (Xtv _ _) (Yj (Vd rfl) (Yj (Vd rfl) Qm4))))
  cases k with
  | zero=>simp at hd hr;subst hd;subst hr;exact⟨hg,Y7r _⟩
  | succ k=>simp at hd
 ·cases hx
theorem Zf0:Xtq Zcx:=by
 intro f args h r h' hx
 unfold Zcx at hx
 obtain⟨hf,hx⟩:=Xbl hx
 split at hx
 ·obtain⟨hl,h1,hx⟩:=Qlh hx
  obtain⟨⟨blk,cs⟩,h2,hx⟩:=Qlh hx
  obtain⟨bl,h3,hx⟩:=Qlh hx
  obtain⟨h4,hx⟩:=Xbl hx
  obtain⟨h5,hx⟩:=Xbl hx
  obtain⟨h8,h6,hx⟩:=Qlh hx
  cases hx;exact LowOK.refl _
 ·cases hx
end Go.Proofs.YtcokebbiblnonaaDoor
end
noncomputable section
namespace Go.Proofs.YtcokebbiblnonaaDoor
open Go Go.Ab
set_option maxRecDepth 1000000
theorem Yy8(b:Nat):Zh7 ((Qsk Tryd.prog (mkE Tryd.prog nv b) Zcx 10000 30).fn 9 [] (Qoi nv Qz5 false []))=some (.bool true):=by kernel_rfl
end Go.Proofs.YtcokebbiblnonaaDoor
end
noncomputable section
namespace Go.Ab
variable{P:Program}{E:Env2 P}{C:CallP}{rd:Option Nat}{D0:CallF}
theorem kNN(F:St→Prop)(K:Exit→St→Prop)(s:St):Y19 F K .normal s=F s:=Eq.trans rfl rfl
theorem kNP(F:St→Prop)(K:Exit→St→Prop)(ch:List PanicEntry)(s:St):Y19 F K (.panic ch) s=K (.panic ch) s:=Eq.trans rfl rfl
theorem kRR(d:Option Tmp)(s:St)(K:Exit→St→Prop)(v:Value)(h:Heap):Zmw d s K (.ret v) h=K .normal (s.put d v h):=Eq.trans rfl rfl
theorem kRP(d:Option Tmp)(s:St)(K:Exit→St→Prop)(ch:List PanicEntry)(h:Heap):Zmw d s K (.panic ch) h=K (.panic ch) {s with h:=h}:=Eq.trans rfl rfl
theorem kTN(F:St→Prop)(K:Exit→St→Prop)(s:St):Yg F K .normal s=F s:=Eq.trans rfl rfl
theorem kTR(F:St→Prop)(K:Exit→St→Prop)(s:St):Yg F K .ret s=K .ret s:=Eq.trans rfl rfl
theorem kTX(F:St→Prop)(K:Exit→St→Prop)(id:Nat)(s:St):Yg F K (.exit id) s=K (.exit id) s:=Eq.trans rfl rfl
theorem kTP(F:St→Prop)(K:Exit→St→Prop)(ch:List PanicEntry)(s:St):Yg F K (.panic ch) s=K (.panic ch) s:=Eq.trans rfl rfl
theorem kBN(id:Nat)(K:Exit→St→Prop)(s:St):Ql8 id K .normal s=K .normal s:=Eq.trans rfl rfl
theorem kBR(id:Nat)(K:Exit→St→Prop)(s:St):Ql8 id K .ret s=K .ret s:=Eq.trans rfl rfl
theorem kBP(id:Nat)(K:Exit→St→Prop)(ch:List PanicEntry)(s:St):Ql8 id K (.panic ch) s=K (.panic ch) s:=Eq.trans rfl rfl
theorem kBX(id id':Nat)(K:Exit→St→Prop)(s:St):Ql8 id K (.exit id') s=if id'=id then K .normal s else K (.exit id') s:=Eq.trans rfl rfl
theorem kAM(y:Code)(K:Exit→St→Prop)(t:Tm)(ds:List Deferred)(h:Heap):Vr E C D0 rd y K ⟨t,ds,h⟩=Q0 E C D0 rd y ⟨t,ds,h⟩ K:=Eq.trans rfl rfl
theorem kEN(D:Xh0)(fn:Func)(K:AEnd→Heap→Prop)(s:St):Yyp E D fn K .normal s=X99 E D fn K .returning s:=Eq.trans rfl rfl
theorem kER(D:Xh0)(fn:Func)(K:AEnd→Heap→Prop)(s:St):Yyp E D fn K .ret s=X99 E D fn K .returning s:=Eq.trans rfl rfl
theorem kON(ops:List Oper)(K:Exit→St→Prop)(t:Tm)(ds:List Deferred)(h:Heap):Qac E C rd ops K [] ⟨t,ds,h⟩=K .normal ⟨t,ds,h⟩:=Eq.trans rfl rfl
theorem kOC(ops:List Oper)(K:Exit→St→Prop)(o:Oper)(r:List Oper)(t:Tm)(ds:List Deferred)(h:Heap):Qac E C rd ops K (o::r) ⟨t,ds,h⟩ =
 (match Qf ops t o with
  | some true=>Jx E C rd o ⟨t,ds,h⟩ (Y19 (Qac E C rd ops K r) K)
  | some false=>if Qw0 ⟨t,ds,h⟩ o.dst then Qac E C rd ops K r (St.put ⟨t,ds,h⟩ o.dst Ya h)else False
  | none=>False):=Eq.trans rfl rfl
theorem kCS(s:St)(K:Exit→St→Prop):Q0 E C D0 rd .skip s K=K .normal s:=Eq.trans rfl rfl
theorem kCR(s:St)(K:Exit→St→Prop):Q0 E C D0 rd .ret s K=K .ret s:=Eq.trans rfl rfl
theorem kCE(id:Nat)(s:St)(K:Exit→St→Prop):Q0 E C D0 rd (.exit id) s K=K (.exit id) s:=Eq.trans rfl rfl
end Go.Ab
end
