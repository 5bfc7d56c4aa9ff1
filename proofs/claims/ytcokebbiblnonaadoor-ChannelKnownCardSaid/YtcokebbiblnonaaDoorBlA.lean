/-
  What the symbolic proofs stand on: the program's environment, and that what is proved of calls is known.
-/
import Derived.Test.YtcokebbiblnonaaDoorAbG
import Derived.Test.YtcokebbiblnonaaDoorProg
import Derived.Test.YtcokebbiblnonaaDoorAbF
set_option linter.all false
noncomputable section
namespace Go.Proofs.YtcokebbiblnonaaDoor
open Go Go.Ab
set_option maxRecDepth 100000
def nv:Nat:=2
abbrev E(b:Nat):Env2 Tryd.prog:=mkE Tryd.prog nv b
noncomputable def V7(f:Nat):Code:=((Tryd.prog.funcs[f]?).bind (·.body)).getD .skip
theorem mixed:Tryd.prog.follows .mixedOrders=true:=by kernel_rfl
abbrev CP(b:Nat):CallP:=Qsz Tryd.prog (E b).G
def D0(b:Nat):CallF:=Ye4 (E b) X4b 100 0
theorem Qh9(b:Nat):CallsSound Tryd.prog (E b).G (D0 b):=Yk5 (E b) (Qwx _) Qow mixed 100 0
theorem Qc4(b:Nat):CallsLow (D0 b):=X4x (E b) Qow 100 0
def DD(b:Nat):Qmc:=Xs6 (E b) (D0 b) 100
theorem Qhf(b:Nat):Qpd Tryd.prog (E b).G (DD b):=Ymp (E b) (Qh9 b) (Qc4 b) mixed
theorem Qf4(b:Nat):Xkh (DD b):=Yh4 (Qc4 b)
end Go.Proofs.YtcokebbiblnonaaDoor
end
noncomputable section
namespace Go.Proofs.YtcokebbiblnonaaDoor
open Go Go.Ab
set_option maxRecDepth 1000000
theorem Y0f(b:Nat)(p0 p1 p2 p3 p4 p5 p6 p7 p8 p9 p10 p11 p12 p13 p14 p15 x y:Nat) :
  Xlm nv ((Qdi Tryd.prog (mkE Tryd.prog nv b) X4b 100 4).fn 71 [.pointer (some ⟨nv,0,none⟩),Qfn 0,Qfn 4,Qfn 8,Qfn 12,.agg #[V1 x,V1 y]] (Qcf nv [] true [(1,([p0,p1,p2,p3,p4,p5,p6,p7,p8,p9,p10,p11,p12,p13,p14,p15]:List Nat).map V1)])) =
   some (.tuple #[],Xfx (.ofNat p0) (.ofNat p4) (.ofNat p8) (.ofNat p12) (.ofNat x) 16 20 fun a b c d=>Xfx a b c d (.ofNat y) 24 25 fun a b c d=>[.int .u32 a,V1 p1,V1 p2,V1 p3,.int .u32 b,V1 p5,V1 p6,V1 p7,.int .u32 c,V1 p9,V1 p10,V1 p11,.int .u32 d,V1 p13,V1 p14,V1 p15]):=by kernel_rfl
theorem Yzs(b:Nat)(p0 p1 p2 p3 p4 p5 p6 p7 p8 p9 p10 p11 p12 p13 p14 p15 x y:Nat) :
  Xlm nv ((Qdi Tryd.prog (mkE Tryd.prog nv b) X4b 100 4).fn 71 [.pointer (some ⟨nv,0,none⟩),Qfn 1,Qfn 5,Qfn 9,Qfn 13,.agg #[V1 x,V1 y]] (Qcf nv [] true [(1,([p0,p1,p2,p3,p4,p5,p6,p7,p8,p9,p10,p11,p12,p13,p14,p15]:List Nat).map V1)])) =
   some (.tuple #[],Xfx (.ofNat p1) (.ofNat p5) (.ofNat p9) (.ofNat p13) (.ofNat x) 16 20 fun a b c d=>Xfx a b c d (.ofNat y) 24 25 fun a b c d=>[V1 p0,.int .u32 a,V1 p2,V1 p3,V1 p4,.int .u32 b,V1 p6,V1 p7,V1 p8,.int .u32 c,V1 p10,V1 p11,V1 p12,.int .u32 d,V1 p14,V1 p15]):=by kernel_rfl
theorem Y0b(b:Nat)(p0 p1 p2 p3 p4 p5 p6 p7 p8 p9 p10 p11 p12 p13 p14 p15 x y:Nat) :
  Xlm nv ((Qdi Tryd.prog (mkE Tryd.prog nv b) X4b 100 4).fn 71 [.pointer (some ⟨nv,0,none⟩),Qfn 2,Qfn 6,Qfn 10,Qfn 14,.agg #[V1 x,V1 y]] (Qcf nv [] true [(1,([p0,p1,p2,p3,p4,p5,p6,p7,p8,p9,p10,p11,p12,p13,p14,p15]:List Nat).map V1)])) =
   some (.tuple #[],Xfx (.ofNat p2) (.ofNat p6) (.ofNat p10) (.ofNat p14) (.ofNat x) 16 20 fun a b c d=>Xfx a b c d (.ofNat y) 24 25 fun a b c d=>[V1 p0,V1 p1,.int .u32 a,V1 p3,V1 p4,V1 p5,.int .u32 b,V1 p7,V1 p8,V1 p9,.int .u32 c,V1 p11,V1 p12,V1 p13,.int .u32 d,V1 p15]):=by kernel_rfl
theorem Y19(b:Nat)(p0 p1 p2 p3 p4 p5 p6 p7 p8 p9 p10 p11 p12 p13 p14 p15 x y:Nat) :
  Xlm nv ((Qdi Tryd.prog (mkE Tryd.prog nv b) X4b 100 4).fn 71 [.pointer (some ⟨nv,0,none⟩),Qfn 3,Qfn 7,Qfn 11,Qfn 15,.agg #[V1 x,V1 y]] (Qcf nv [] true [(1,([p0,p1,p2,p3,p4,p5,p6,p7,p8,p9,p10,p11,p12,p13,p14,p15]:List Nat).map V1)])) =
   some (.tuple #[],Xfx (.ofNat p3) (.ofNat p7) (.ofNat p11) (.ofNat p15) (.ofNat x) 16 20 fun a b c d=>Xfx a b c d (.ofNat y) 24 25 fun a b c d=>[V1 p0,V1 p1,V1 p2,.int .u32 a,V1 p4,V1 p5,V1 p6,.int .u32 b,V1 p8,V1 p9,V1 p10,.int .u32 c,V1 p12,V1 p13,V1 p14,.int .u32 d]):=by kernel_rfl
theorem Y16(b:Nat)(p0 p1 p2 p3 p4 p5 p6 p7 p8 p9 p10 p11 p12 p13 p14 p15 x y:Nat) :
  Xlm nv ((Qdi Tryd.prog (mkE Tryd.prog nv b) X4b 100 4).fn 71 [.pointer (some ⟨nv,0,none⟩),Qfn 0,Qfn 5,Qfn 10,Qfn 15,.agg #[V1 x,V1 y]] (Qcf nv [] true [(1,([p0,p1,p2,p3,p4,p5,p6,p7,p8,p9,p10,p11,p12,p13,p14,p15]:List Nat).map V1)])) =
   some (.tuple #[],Xfx (.ofNat p0) (.ofNat p5) (.ofNat p10) (.ofNat p15) (.ofNat x) 16 20 fun a b c d=>Xfx a b c d (.ofNat y) 24 25 fun a b c d=>[.int .u32 a,V1 p1,V1 p2,V1 p3,V1 p4,.int .u32 b,V1 p6,V1 p7,V1 p8,V1 p9,.int .u32 c,V1 p11,V1 p12,V1 p13,V1 p14,.int .u32 d]):=by kernel_rfl
theorem Y1y(b:Nat)(p0 p1 p2 p3 p4 p5 p6 p7 p8 p9 p10 p11 p12 p13 p14 p15 x y:Nat) :
  Xlm nv ((Qdi Tryd.prog (mkE Tryd.prog nv b) X4b 100 4).fn 71 [.pointer (some ⟨nv,0,none⟩),Qfn 1,Qfn 6,Qfn 11,Qfn 12,.agg #[V1 x,V1 y]] (Qcf nv [] true [(1,([p0,p1,p2,p3,p4,p5,p6,p7,p8,p9,p10,p11,p12,p13,p14,p15]:List Nat).map V1)])) =
   some (.tuple #[],Xfx (.ofNat p1) (.ofNat p6) (.ofNat p11) (.ofNat p12) (.ofNat x) 16 20 fun a b c d=>Xfx a b c d (.ofNat y) 24 25 fun a b c d=>[V1 p0,.int .u32 a,V1 p2,V1 p3,V1 p4,V1 p5,.int .u32 b,V1 p7,V1 p8,V1 p9,V1 p10,.int .u32 c,.int .u32 d,V1 p13,V1 p14,V1 p15]):=by kernel_rfl
theorem Y00(b:Nat)(p0 p1 p2 p3 p4 p5 p6 p7 p8 p9 p10 p11 p12 p13 p14 p15 x y:Nat) :
  Xlm nv ((Qdi Tryd.prog (mkE Tryd.prog nv b) X4b 100 4).fn 71 [.pointer (some ⟨nv,0,none⟩),Qfn 2,Qfn 7,Qfn 8,Qfn 13,.agg #[V1 x,V1 y]] (Qcf nv [] true [(1,([p0,p1,p2,p3,p4,p5,p6,p7,p8,p9,p10,p11,p12,p13,p14,p15]:List Nat).map V1)])) =
   some (.tuple #[],Xfx (.ofNat p2) (.ofNat p7) (.ofNat p8) (.ofNat p13) (.ofNat x) 16 20 fun a b c d=>Xfx a b c d (.ofNat y) 24 25 fun a b c d=>[V1 p0,V1 p1,.int .u32 a,V1 p3,V1 p4,V1 p5,V1 p6,.int .u32 b,.int .u32 c,V1 p9,V1 p10,V1 p11,V1 p12,.int .u32 d,V1 p14,V1 p15]):=by kernel_rfl
theorem Yzo(b:Nat)(p0 p1 p2 p3 p4 p5 p6 p7 p8 p9 p10 p11 p12 p13 p14 p15 x y:Nat) :
  Xlm nv ((Qdi Tryd.prog (mkE Tryd.prog nv b) X4b 100 4).fn 71 [.pointer (some ⟨nv,0,none⟩),Qfn 3,Qfn 4,Qfn 9,Qfn 14,.agg #[V1 x,V1 y]] (Qcf nv [] true [(1,([p0,p1,p2,p3,p4,p5,p6,p7,p8,p9,p10,p11,p12,p13,p14,p15]:List Nat).map V1)])) =
   some (.tuple #[],Xfx (.ofNat p3) (.ofNat p4) (.ofNat p9) (.ofNat p14) (.ofNat x) 16 20 fun a b c d=>Xfx a b c d (.ofNat y) 24 25 fun a b c d=>[V1 p0,V1 p1,V1 p2,.int .u32 a,.int .u32 b,V1 p5,V1 p6,V1 p7,V1 p8,.int .u32 c,V1 p10,V1 p11,V1 p12,V1 p13,.int .u32 d,V1 p15]):=by kernel_rfl
def Q9n(ix l:List Nat)(x y:Nat):Option (List Nat):=match l with
 | [p0,p1,p2,p3,p4,p5,p6,p7,p8,p9,p10,p11,p12,p13,p14,p15] =>
  bq (eqN ix [0,4,8,12]) (some (Bl.stir p0 p4 p8 p12 x y fun p0 p4 p8 p12=>[p0,p1,p2,p3,p4,p5,p6,p7,p8,p9,p10,p11,p12,p13,p14,p15])) <|
  bq (eqN ix [1,5,9,13]) (some (Bl.stir p1 p5 p9 p13 x y fun p1 p5 p9 p13=>[p0,p1,p2,p3,p4,p5,p6,p7,p8,p9,p10,p11,p12,p13,p14,p15])) <|
  bq (eqN ix [2,6,10,14]) (some (Bl.stir p2 p6 p10 p14 x y fun p2 p6 p10 p14=>[p0,p1,p2,p3,p4,p5,p6,p7,p8,p9,p10,p11,p12,p13,p14,p15])) <|
  bq (eqN ix [3,7,11,15]) (some (Bl.stir p3 p7 p11 p15 x y fun p3 p7 p11 p15=>[p0,p1,p2,p3,p4,p5,p6,p7,p8,p9,p10,p11,p12,p13,p14,p15])) <|
  bq (eqN ix [0,5,10,15]) (some (Bl.stir p0 p5 p10 p15 x y fun p0 p5 p10 p15=>[p0,p1,p2,p3,p4,p5,p6,p7,p8,p9,p10,p11,p12,p13,p14,p15])) <|
  bq (eqN ix [1,6,11,12]) (some (Bl.stir p1 p6 p11 p12 x y fun p1 p6 p11 p12=>[p0,p1,p2,p3,p4,p5,p6,p7,p8,p9,p10,p11,p12,p13,p14,p15])) <|
  bq (eqN ix [2,7,8,13]) (some (Bl.stir p2 p7 p8 p13 x y fun p2 p7 p8 p13=>[p0,p1,p2,p3,p4,p5,p6,p7,p8,p9,p10,p11,p12,p13,p14,p15])) <|
  bq (eqN ix [3,4,9,14]) (some (Bl.stir p3 p4 p9 p14 x y fun p3 p4 p9 p14=>[p0,p1,p2,p3,p4,p5,p6,p7,p8,p9,p10,p11,p12,p13,p14,p15])) <|
  none
 | _=>none
def Xv2:Q6i:=fun f args h=>bq (Nat.beq f 71) (match args with
 | [p,a,b,c,d,.agg ⟨[.int .u32 (.ofNat x),.int .u32 (.ofNat y)]⟩]=>ob (Yh3 h p) fun q=>ob (Y6c q.2) fun l=>ob (Xu9 [a,b,c,d]) fun ix=>ob (Q9n ix l x y) fun l'=>some (.ret (.tuple #[]),h.set q.1 (some (.cells true 1 (l'.map V1))))
 | _=>none) none
theorem Yuw{ix l l':List Nat}{x y:Nat}(h:Q9n ix l x y=some l'):∃ p0 p1 p2 p3 p4 p5 p6 p7 p8 p9 p10 p11 p12 p13 p14 p15,l=[p0,p1,p2,p3,p4,p5,p6,p7,p8,p9,p10,p11,p12,p13,p14,p15]:=by
 unfold Q9n at h
 split at h
 ·exact⟨_,_,_,_,_,_,_,_,_,_,_,_,_,_,_,_,rfl⟩
 ·cases h
theorem Yxe{a b c d:Value}{ix:List Nat}(h:Xu9 [a,b,c,d]=some ix):∃ i j k l,ix=[i,j,k,l]∧a=Qfn i∧b=Qfn j∧c=Qfn k∧d=Qfn l:=by
 have:=Yxa h
 match ix,this with
 | [i,j,k,l],e=>simp only[List.map_cons,List.map_nil,List.cons.injEq,and_true]at e;exact⟨i,j,k,l,rfl,e.1,e.2.1,e.2.2.1,e.2.2.2⟩
theorem Qtq(n blk:Nat):Ygc (emb n [blk]) (.pointer (some ⟨n,0,none⟩)) (.pointer (some ⟨blk,0,none⟩)):=Xwy (by simp[emb])
theorem Y4r(b:Nat){h:Heap}{blk:Nat}(p0 p1 p2 p3 p4 p5 p6 p7 p8 p9 p10 p11 p12 p13 p14 p15 x y:Nat)(hg:h.get blk=some (.cells true 1 (([p0,p1,p2,p3,p4,p5,p6,p7,p8,p9,p10,p11,p12,p13,p14,p15]:List Nat).map V1))) :
  CallOK Tryd.prog ⟨nv,b⟩ 71 [.pointer (some ⟨blk,0,none⟩),Qfn 0,Qfn 4,Qfn 8,Qfn 12,.agg #[V1 x,V1 y]] h
   (fun r h1=>r=.ret (.tuple #[])∧h1=h.set blk (some (.cells true 1 ((Bl.stir p0 p4 p8 p12 x y fun p0 p4 p8 p12=>[p0,p1,p2,p3,p4,p5,p6,p7,p8,p9,p10,p11,p12,p13,p14,p15]).map V1)))):=by
 refine Quk (k:=100) (m:=4) mixed (fun b=>Qwx _) Qow (fun b=>(Y0f b p0 p1 p2 p3 p4 p5 p6 p7 p8 p9 p10 p11 p12 p13 p14 p15 x y).trans ?_) rfl (Ux _) (Ux _) hg (Ys (Qtq _ _) (Ys (Jl rfl) (Ys (Jl rfl) (Ys (Jl rfl) (Ys (Jl rfl) (Ys (Jl rfl) Qay))))))
 rw[Qgl _ _ _ _ _ 16 20 (by decide) (by decide)]
 simp only[Bl.half,Qgl _ _ _ _ _ 24 25 (by decide) (by decide),Bl.stir,List.map_cons,List.map_nil,V1]
theorem Y3s(b:Nat){h:Heap}{blk:Nat}(p0 p1 p2 p3 p4 p5 p6 p7 p8 p9 p10 p11 p12 p13 p14 p15 x y:Nat)(hg:h.get blk=some (.cells true 1 (([p0,p1,p2,p3,p4,p5,p6,p7,p8,p9,p10,p11,p12,p13,p14,p15]:List Nat).map V1))) :
  CallOK Tryd.prog ⟨nv,b⟩ 71 [.pointer (some ⟨blk,0,none⟩),Qfn 1,Qfn 5,Qfn 9,Qfn 13,.agg #[V1 x,V1 y]] h
   (fun r h1=>r=.ret (.tuple #[])∧h1=h.set blk (some (.cells true 1 ((Bl.stir p1 p5 p9 p13 x y fun p1 p5 p9 p13=>[p0,p1,p2,p3,p4,p5,p6,p7,p8,p9,p10,p11,p12,p13,p14,p15]).map V1)))):=by
 refine Quk (k:=100) (m:=4) mixed (fun b=>Qwx _) Qow (fun b=>(Yzs b p0 p1 p2 p3 p4 p5 p6 p7 p8 p9 p10 p11 p12 p13 p14 p15 x y).trans ?_) rfl (Ux _) (Ux _) hg (Ys (Qtq _ _) (Ys (Jl rfl) (Ys (Jl rfl) (Ys (Jl rfl) (Ys (Jl rfl) (Ys (Jl rfl) Qay))))))
 rw[Qgl _ _ _ _ _ 16 20 (by decide) (by decide)]
 simp only[Bl.half,Qgl _ _ _ _ _ 24 25 (by decide) (by decide),Bl.stir,List.map_cons,List.map_nil,V1]
theorem Y41(b:Nat){h:Heap}{blk:Nat}(p0 p1 p2 p3 p4 p5 p6 p7 p8 p9 p10 p11 p12 p13 p14 p15 x y:Nat)(hg:h.get blk=some (.cells true 1 (([p0,p1,p2,p3,p4,p5,p6,p7,p8,p9,p10,p11,p12,p13,p14,p15]:List Nat).map V1))) :
  CallOK Tryd.prog ⟨nv,b⟩ 71 [.pointer (some ⟨blk,0,none⟩),Qfn 2,Qfn 6,Qfn 10,Qfn 14,.agg #[V1 x,V1 y]] h
   (fun r h1=>r=.ret (.tuple #[])∧h1=h.set blk (some (.cells true 1 ((Bl.stir p2 p6 p10 p14 x y fun p2 p6 p10 p14=>[p0,p1,p2,p3,p4,p5,p6,p7,p8,p9,p10,p11,p12,p13,p14,p15]).map V1)))):=by
 refine Quk (k:=100) (m:=4) mixed (fun b=>Qwx _) Qow (fun b=>(Y0b b p0 p1 p2 p3 p4 p5 p6 p7 p8 p9 p10 p11 p12 p13 p14 p15 x y).trans ?_) rfl (Ux _) (Ux _) hg (Ys (Qtq _ _) (Ys (Jl rfl) (Ys (Jl rfl) (Ys (Jl rfl) (Ys (Jl rfl) (Ys (Jl rfl) Qay))))))
 rw[Qgl _ _ _ _ _ 16 20 (by decide) (by decide)]
 simp only[Bl.half,Qgl _ _ _ _ _ 24 25 (by decide) (by decide),Bl.stir,List.map_cons,List.map_nil,V1]
theorem Y5p(b:Nat){h:Heap}{blk:Nat}(p0 p1 p2 p3 p4 p5 p6 p7 p8 p9 p10 p11 p12 p13 p14 p15 x y:Nat)(hg:h.get blk=some (.cells true 1 (([p0,p1,p2,p3,p4,p5,p6,p7,p8,p9,p10,p11,p12,p13,p14,p15]:List Nat).map V1))) :
  CallOK Tryd.prog ⟨nv,b⟩ 71 [.pointer (some ⟨blk,0,none⟩),Qfn 3,Qfn 7,Qfn 11,Qfn 15,.agg #[V1 x,V1 y]] h
   (fun r h1=>r=.ret (.tuple #[])∧h1=h.set blk (some (.cells true 1 ((Bl.stir p3 p7 p11 p15 x y fun p3 p7 p11 p15=>[p0,p1,p2,p3,p4,p5,p6,p7,p8,p9,p10,p11,p12,p13,p14,p15]).map V1)))):=by
 refine Quk (k:=100) (m:=4) mixed (fun b=>Qwx _) Qow (fun b=>(Y19 b p0 p1 p2 p3 p4 p5 p6 p7 p8 p9 p10 p11 p12 p13 p14 p15 x y).trans ?_) rfl (Ux _) (Ux _) hg (Ys (Qtq _ _) (Ys (Jl rfl) (Ys (Jl rfl) (Ys (Jl rfl) (Ys (Jl rfl) (Ys (Jl rfl) Qay))))))
 rw[Qgl _ _ _ _ _ 16 20 (by decide) (by decide)]
 simp only[Bl.half,Qgl _ _ _ _ _ 24 25 (by decide) (by decide),Bl.stir,List.map_cons,List.map_nil,V1]
theorem Y5d(b:Nat){h:Heap}{blk:Nat}(p0 p1 p2 p3 p4 p5 p6 p7 p8 p9 p10 p11 p12 p13 p14 p15 x y:Nat)(hg:h.get blk=some (.cells true 1 (([p0,p1,p2,p3,p4,p5,p6,p7,p8,p9,p10,p11,p12,p13,p14,p15]:List Nat).map V1))) :
  CallOK Tryd.prog ⟨nv,b⟩ 71 [.pointer (some ⟨blk,0,none⟩),Qfn 0,Qfn 5,Qfn 10,Qfn 15,.agg #[V1 x,V1 y]] h
   (fun r h1=>r=.ret (.tuple #[])∧h1=h.set blk (some (.cells true 1 ((Bl.stir p0 p5 p10 p15 x y fun p0 p5 p10 p15=>[p0,p1,p2,p3,p4,p5,p6,p7,p8,p9,p10,p11,p12,p13,p14,p15]).map V1)))):=by
 refine Quk (k:=100) (m:=4) mixed (fun b=>Qwx _) Qow (fun b=>(Y16 b p0 p1 p2 p3 p4 p5 p6 p7 p8 p9 p10 p11 p12 p13 p14 p15 x y).trans ?_) rfl (Ux _) (Ux _) hg (Ys (Qtq _ _) (Ys (Jl rfl) (Ys (Jl rfl) (Ys (Jl rfl) (Ys (Jl rfl) (Ys (Jl rfl) Qay))))))
 rw[Qgl _ _ _ _ _ 16 20 (by decide) (by decide)]
 simp only[Bl.half,Qgl _ _ _ _ _ 24 25 (by decide) (by decide),Bl.stir,List.map_cons,List.map_nil,V1]
theorem Y3i(b:Nat){h:Heap}{blk:Nat}(p0 p1 p2 p3 p4 p5 p6 p7 p8 p9 p10 p11 p12 p13 p14 p15 x y:Nat)(hg:h.get blk=some (.cells true 1 (([p0,p1,p2,p3,p4,p5,p6,p7,p8,p9,p10,p11,p12,p13,p14,p15]:List Nat).map V1))) :
  CallOK Tryd.prog ⟨nv,b⟩ 71 [.pointer (some ⟨blk,0,none⟩),Qfn 1,Qfn 6,Qfn 11,Qfn 12,.agg #[V1 x,V1 y]] h
   (fun r h1=>r=.ret (.tuple #[])∧h1=h.set blk (some (.cells true 1 ((Bl.stir p1 p6 p11 p12 x y fun p1 p6 p11 p12=>[p0,p1,p2,p3,p4,p5,p6,p7,p8,p9,p10,p11,p12,p13,p14,p15]).map V1)))):=by
 refine Quk (k:=100) (m:=4) mixed (fun b=>Qwx _) Qow (fun b=>(Y1y b p0 p1 p2 p3 p4 p5 p6 p7 p8 p9 p10 p11 p12 p13 p14 p15 x y).trans ?_) rfl (Ux _) (Ux _) hg (Ys (Qtq _ _) (Ys (Jl rfl) (Ys (Jl rfl) (Ys (Jl rfl) (Ys (Jl rfl) (Ys (Jl rfl) Qay))))))
 rw[Qgl _ _ _ _ _ 16 20 (by decide) (by decide)]
 simp only[Bl.half,Qgl _ _ _ _ _ 24 25 (by decide) (by decide),Bl.stir,List.map_cons,List.map_nil,V1]
theorem Y68(b:Nat){h:Heap}{blk:Nat}(p0 p1 p2 p3 p4 p5 p6 p7 p8 p9 p10 p11 p12 p13 p14 p15 x y:Nat)(hg:h.get blk=some (.cells true 1 (([p0,p1,p2,p3,p4,p5,p6,p7,p8,p9,p10,p11,p12,p13,p14,p15]:List Nat).map V1))) :
  CallOK Tryd.prog ⟨nv,b⟩ 71 [.pointer (some ⟨blk,0,none⟩),Qfn 2,Qfn 7,Qfn 8,Qfn 13,.agg #[V1 x,V1 y]] h
   (fun r h1=>r=.ret (.tuple #[])∧h1=h.set blk (some (.cells true 1 ((Bl.stir p2 p7 p8 p13 x y fun p2 p7 p8 p13=>[p0,p1,p2,p3,p4,p5,p6,p7,p8,p9,p10,p11,p12,p13,p14,p15]).map V1)))):=by
 refine Quk (k:=100) (m:=4) mixed (fun b=>Qwx _) Qow (fun b=>(Y00 b p0 p1 p2 p3 p4 p5 p6 p7 p8 p9 p10 p11 p12 p13 p14 p15 x y).trans ?_) rfl (Ux _) (Ux _) hg (Ys (Qtq _ _) (Ys (Jl rfl) (Ys (Jl rfl) (Ys (Jl rfl) (Ys (Jl rfl) (Ys (Jl rfl) Qay))))))
 rw[Qgl _ _ _ _ _ 16 20 (by decide) (by decide)]
 simp only[Bl.half,Qgl _ _ _ _ _ 24 25 (by decide) (by decide),Bl.stir,List.map_cons,List.map_nil,V1]
theorem Y3m(b:Nat){h:Heap}{blk:Nat}(p0 p1 p2 p3 p4 p5 p6 p7 p8 p9 p10 p11 p12 p13 p14 p15 x y:Nat)(hg:h.get blk=some (.cells true 1 (([p0,p1,p2,p3,p4,p5,p6,p7,p8,p9,p10,p11,p12,p13,p14,p15]:List Nat).map V1))) :
  CallOK Tryd.prog ⟨nv,b⟩ 71 [.pointer (some ⟨blk,0,none⟩),Qfn 3,Qfn 4,Qfn 9,Qfn 14,.agg #[V1 x,V1 y]] h
   (fun r h1=>r=.ret (.tuple #[])∧h1=h.set blk (some (.cells true 1 ((Bl.stir p3 p4 p9 p14 x y fun p3 p4 p9 p14=>[p0,p1,p2,p3,p4,p5,p6,p7,p8,p9,p10,p11,p12,p13,p14,p15]).map V1)))):=by
 refine Quk (k:=100) (m:=4) mixed (fun b=>Qwx _) Qow (fun b=>(Yzo b p0 p1 p2 p3 p4 p5 p6 p7 p8 p9 p10 p11 p12 p13 p14 p15 x y).trans ?_) rfl (Ux _) (Ux _) hg (Ys (Qtq _ _) (Ys (Jl rfl) (Ys (Jl rfl) (Ys (Jl rfl) (Ys (Jl rfl) (Ys (Jl rfl) Qay))))))
 rw[Qgl _ _ _ _ _ 16 20 (by decide) (by decide)]
 simp only[Bl.half,Qgl _ _ _ _ _ 24 25 (by decide) (by decide),Bl.stir,List.map_cons,List.map_nil,V1]
theorem Qtx(b:Nat):Qna Tryd.prog ⟨nv,b⟩ Xv2:=by
 intro f args h r h' hx
 unfold Xv2 at hx
 obtain⟨hf,hx⟩:=Qlk hx
 have hf:=Nat.eq_of_beq_eq_true hf
 subst hf
 split at hx
 ·rename_i p a b' c d x y hq
  obtain⟨⟨blk,cs⟩,h1,hx⟩:=Qam hx
  obtain⟨l,h2,hx⟩:=Qam hx
  obtain⟨ix,h3,hx⟩:=Qam hx
  obtain⟨l',h4,hx⟩:=Qam hx
  cases hx
  obtain⟨rfl,hg⟩:=Q68 h1
  have:=X94 h2
  subst this
  obtain⟨i,j,k,q,rfl,rfl,rfl,rfl,rfl⟩:=Yxe h3
  obtain⟨p0,p1,p2,p3,p4,p5,p6,p7,p8,p9,p10,p11,p12,p13,p14,p15,rfl⟩:=Yuw h4
  unfold Q9n at h4
  simp only at h4
  cases e0:eqN [i,j,k,q] [0,4,8,12]with
  | true =>
   rw[e0]at h4
   cases h4
   have:=Xn1 e0
   simp only[List.cons.injEq,and_true]at this
   obtain⟨rfl,rfl,rfl,rfl⟩:=this
   exact Y4r b p0 p1 p2 p3 p4 p5 p6 p7 p8 p9 p10 p11 p12 p13 p14 p15 x y hg
  | false =>
  rw[e0,bq_false]at h4
  cases e1:eqN [i,j,k,q] [1,5,9,13]with
  | true =>
   rw[e1]at h4
   cases h4
   have:=Xn1 e1
   simp only[List.cons.injEq,and_true]at this
   obtain⟨rfl,rfl,rfl,rfl⟩:=this
   exact Y3s b p0 p1 p2 p3 p4 p5 p6 p7 p8 p9 p10 p11 p12 p13 p14 p15 x y hg
  | false =>
  rw[e1,bq_false]at h4
  cases e2:eqN [i,j,k,q] [2,6,10,14]with
  | true =>
   rw[e2]at h4
   cases h4
   have:=Xn1 e2
   simp only[List.cons.injEq,and_true]at this
   obtain⟨rfl,rfl,rfl,rfl⟩:=this
   exact Y41 b p0 p1 p2 p3 p4 p5 p6 p7 p8 p9 p10 p11 p12 p13 p14 p15 x y hg
  | false =>
  rw[e2,bq_false]at h4
  cases e3:eqN [i,j,k,q] [3,7,11,15]with
  | true =>
   rw[e3]at h4
   cases h4
   have:=Xn1 e3
   simp only[List.cons.injEq,and_true]at this
   obtain⟨rfl,rfl,rfl,rfl⟩:=this
   exact Y5p b p0 p1 p2 p3 p4 p5 p6 p7 p8 p9 p10 p11 p12 p13 p14 p15 x y hg
  | false =>
  rw[e3,bq_false]at h4
  cases e4:eqN [i,j,k,q] [0,5,10,15]with
  | true =>
   rw[e4]at h4
   cases h4
   have:=Xn1 e4
   simp only[List.cons.injEq,and_true]at this
   obtain⟨rfl,rfl,rfl,rfl⟩:=this
   exact Y5d b p0 p1 p2 p3 p4 p5 p6 p7 p8 p9 p10 p11 p12 p13 p14 p15 x y hg
  | false =>
  rw[e4,bq_false]at h4
  cases e5:eqN [i,j,k,q] [1,6,11,12]with
  | true =>
   rw[e5]at h4
   cases h4
   have:=Xn1 e5
   simp only[List.cons.injEq,and_true]at this
   obtain⟨rfl,rfl,rfl,rfl⟩:=this
   exact Y3i b p0 p1 p2 p3 p4 p5 p6 p7 p8 p9 p10 p11 p12 p13 p14 p15 x y hg
  | false =>
  rw[e5,bq_false]at h4
  cases e6:eqN [i,j,k,q] [2,7,8,13]with
  | true =>
   rw[e6]at h4
   cases h4
   have:=Xn1 e6
   simp only[List.cons.injEq,and_true]at this
   obtain⟨rfl,rfl,rfl,rfl⟩:=this
   exact Y68 b p0 p1 p2 p3 p4 p5 p6 p7 p8 p9 p10 p11 p12 p13 p14 p15 x y hg
  | false =>
  rw[e6,bq_false]at h4
  cases e7:eqN [i,j,k,q] [3,4,9,14]with
  | true =>
   rw[e7]at h4
   cases h4
   have:=Xn1 e7
   simp only[List.cons.injEq,and_true]at this
   obtain⟨rfl,rfl,rfl,rfl⟩:=this
   exact Y3m b p0 p1 p2 p3 p4 p5 p6 p7 p8 p9 p10 p11 p12 p13 p14 p15 x y hg
  | false =>
  rw[e7,bq_false]at h4
  cases h4
 ·cases hx
theorem Qon:Qth Xv2:=by
 intro f args h r h' hx
 unfold Xv2 at hx
 obtain⟨hf,hx⟩:=Qlk hx
 split at hx
 ·obtain⟨⟨blk,cs⟩,h1,hx⟩:=Qam hx
  obtain⟨l,h2,hx⟩:=Qam hx
  obtain⟨ix,h3,hx⟩:=Qam hx
  obtain⟨l',h4,hx⟩:=Qam hx
  cases hx
  obtain⟨_,hg⟩:=Q68 h1
  exact LowOK.set _ _ _ (Heap.get_lt hg)
 ·cases hx
end Go.Proofs.YtcokebbiblnonaaDoor
end
noncomputable section
namespace Go.Proofs.YtcokebbiblnonaaDoor
open Go Go.Ab
set_option maxRecDepth 1000000
def Y8x:ByteArray:=⟨#[48,49,50,51,52,53,54,55,56,57,97,98,99,100,101,102]⟩
def Y99:ByteArray:=⟨#[101,97,52,56,57,102,100,54,49,99,48,50,98,55,53,51]⟩
def Y8z:ByteArray:=⟨#[98,56,99,48,53,50,102,100,97,101,51,54,55,49,57,52]⟩
def Y9a:ByteArray:=⟨#[55,57,51,49,100,99,98,101,50,54,53,97,52,48,102,56]⟩
def Y8u:ByteArray:=⟨#[57,48,53,55,50,52,97,102,101,49,98,99,54,56,51,100]⟩
def Y96:ByteArray:=⟨#[50,99,54,97,48,98,56,51,52,100,55,53,102,101,49,57]⟩
def Y91:ByteArray:=⟨#[99,53,49,102,101,100,52,97,48,55,54,51,57,50,56,98]⟩
def Y95:ByteArray:=⟨#[100,98,55,101,99,49,51,57,53,48,102,52,56,54,50,97]⟩
def Y98:ByteArray:=⟨#[54,102,101,57,98,51,48,56,99,50,100,55,49,52,97,53]⟩
def Y9b:ByteArray:=⟨#[97,50,56,52,55,54,49,53,102,98,57,101,51,99,100,48]⟩
def Qdb(l:List Nat)(x0 x1 x2 x3 x4 x5 x6 x7 x8 x9 x10 x11 x12 x13 x14 x15:Nat):Option (List Nat) :=
 ob (Q9n [0,4,8,12] l x0 x1) fun l =>
 ob (Q9n [1,5,9,13] l x2 x3) fun l =>
 ob (Q9n [2,6,10,14] l x4 x5) fun l =>
 ob (Q9n [3,7,11,15] l x6 x7) fun l =>
 ob (Q9n [0,5,10,15] l x8 x9) fun l =>
 ob (Q9n [1,6,11,12] l x10 x11) fun l =>
 ob (Q9n [2,7,8,13] l x12 x13) fun l =>
 Q9n [3,4,9,14] l x14 x15
theorem Yxx(b:Nat)(p0 p1 p2 p3 p4 p5 p6 p7 p8 p9 p10 p11 p12 p13 p14 p15 m0 m1 m2 m3 m4 m5 m6 m7 m8 m9 m10 m11 m12 m13 m14 m15:Nat) :
  Qsu nv (nv+1) ((Qdi Tryd.prog (mkE Tryd.prog nv b) Xv2 100 4).fn 62 [.pointer (some ⟨nv,0,none⟩),.pointer (some ⟨nv+1,0,none⟩),.string Y8x] (Qcf nv [] true [(1,([p0,p1,p2,p3,p4,p5,p6,p7,p8,p9,p10,p11,p12,p13,p14,p15]:List Nat).map V1),(1,([m0,m1,m2,m3,m4,m5,m6,m7,m8,m9,m10,m11,m12,m13,m14,m15]:List Nat).map V1)])) =
   ob (Qdb [p0,p1,p2,p3,p4,p5,p6,p7,p8,p9,p10,p11,p12,p13,p14,p15] m0 m1 m2 m3 m4 m5 m6 m7 m8 m9 m10 m11 m12 m13 m14 m15) fun l=>some (.tuple #[],l.map V1,([m0,m1,m2,m3,m4,m5,m6,m7,m8,m9,m10,m11,m12,m13,m14,m15]:List Nat).map V1):=by kernel_rfl
theorem Yyk(b:Nat)(p0 p1 p2 p3 p4 p5 p6 p7 p8 p9 p10 p11 p12 p13 p14 p15 m0 m1 m2 m3 m4 m5 m6 m7 m8 m9 m10 m11 m12 m13 m14 m15:Nat) :
  Qsu nv (nv+1) ((Qdi Tryd.prog (mkE Tryd.prog nv b) Xv2 100 4).fn 62 [.pointer (some ⟨nv,0,none⟩),.pointer (some ⟨nv+1,0,none⟩),.string Y99] (Qcf nv [] true [(1,([p0,p1,p2,p3,p4,p5,p6,p7,p8,p9,p10,p11,p12,p13,p14,p15]:List Nat).map V1),(1,([m0,m1,m2,m3,m4,m5,m6,m7,m8,m9,m10,m11,m12,m13,m14,m15]:List Nat).map V1)])) =
   ob (Qdb [p0,p1,p2,p3,p4,p5,p6,p7,p8,p9,p10,p11,p12,p13,p14,p15] m14 m10 m4 m8 m9 m15 m13 m6 m1 m12 m0 m2 m11 m7 m5 m3) fun l=>some (.tuple #[],l.map V1,([m0,m1,m2,m3,m4,m5,m6,m7,m8,m9,m10,m11,m12,m13,m14,m15]:List Nat).map V1):=by kernel_rfl
theorem Ywg(b:Nat)(p0 p1 p2 p3 p4 p5 p6 p7 p8 p9 p10 p11 p12 p13 p14 p15 m0 m1 m2 m3 m4 m5 m6 m7 m8 m9 m10 m11 m12 m13 m14 m15:Nat) :
  Qsu nv (nv+1) ((Qdi Tryd.prog (mkE Tryd.prog nv b) Xv2 100 4).fn 62 [.pointer (some ⟨nv,0,none⟩),.pointer (some ⟨nv+1,0,none⟩),.string Y8z] (Qcf nv [] true [(1,([p0,p1,p2,p3,p4,p5,p6,p7,p8,p9,p10,p11,p12,p13,p14,p15]:List Nat).map V1),(1,([m0,m1,m2,m3,m4,m5,m6,m7,m8,m9,m10,m11,m12,m13,m14,m15]:List Nat).map V1)])) =
   ob (Qdb [p0,p1,p2,p3,p4,p5,p6,p7,p8,p9,p10,p11,p12,p13,p14,p15] m11 m8 m12 m0 m5 m2 m15 m13 m10 m14 m3 m6 m7 m1 m9 m4) fun l=>some (.tuple #[],l.map V1,([m0,m1,m2,m3,m4,m5,m6,m7,m8,m9,m10,m11,m12,m13,m14,m15]:List Nat).map V1):=by kernel_rfl
theorem Yyn(b:Nat)(p0 p1 p2 p3 p4 p5 p6 p7 p8 p9 p10 p11 p12 p13 p14 p15 m0 m1 m2 m3 m4 m5 m6 m7 m8 m9 m10 m11 m12 m13 m14 m15:Nat) :
  Qsu nv (nv+1) ((Qdi Tryd.prog (mkE Tryd.prog nv b) Xv2 100 4).fn 62 [.pointer (some ⟨nv,0,none⟩),.pointer (some ⟨nv+1,0,none⟩),.string Y9a] (Qcf nv [] true [(1,([p0,p1,p2,p3,p4,p5,p6,p7,p8,p9,p10,p11,p12,p13,p14,p15]:List Nat).map V1),(1,([m0,m1,m2,m3,m4,m5,m6,m7,m8,m9,m10,m11,m12,m13,m14,m15]:List Nat).map V1)])) =
   ob (Qdb [p0,p1,p2,p3,p4,p5,p6,p7,p8,p9,p10,p11,p12,p13,p14,p15] m7 m9 m3 m1 m13 m12 m11 m14 m2 m6 m5 m10 m4 m0 m15 m8) fun l=>some (.tuple #[],l.map V1,([m0,m1,m2,m3,m4,m5,m6,m7,m8,m9,m10,m11,m12,m13,m14,m15]:List Nat).map V1):=by kernel_rfl
theorem Ywd(b:Nat)(p0 p1 p2 p3 p4 p5 p6 p7 p8 p9 p10 p11 p12 p13 p14 p15 m0 m1 m2 m3 m4 m5 m6 m7 m8 m9 m10 m11 m12 m13 m14 m15:Nat) :
  Qsu nv (nv+1) ((Qdi Tryd.prog (mkE Tryd.prog nv b) Xv2 100 4).fn 62 [.pointer (some ⟨nv,0,none⟩),.pointer (some ⟨nv+1,0,none⟩),.string Y8u] (Qcf nv [] true [(1,([p0,p1,p2,p3,p4,p5,p6,p7,p8,p9,p10,p11,p12,p13,p14,p15]:List Nat).map V1),(1,([m0,m1,m2,m3,m4,m5,m6,m7,m8,m9,m10,m11,m12,m13,m14,m15]:List Nat).map V1)])) =
   ob (Qdb [p0,p1,p2,p3,p4,p5,p6,p7,p8,p9,p10,p11,p12,p13,p14,p15] m9 m0 m5 m7 m2 m4 m10 m15 m14 m1 m11 m12 m6 m8 m3 m13) fun l=>some (.tuple #[],l.map V1,([m0,m1,m2,m3,m4,m5,m6,m7,m8,m9,m10,m11,m12,m13,m14,m15]:List Nat).map V1):=by kernel_rfl
theorem Yxk(b:Nat)(p0 p1 p2 p3 p4 p5 p6 p7 p8 p9 p10 p11 p12 p13 p14 p15 m0 m1 m2 m3 m4 m5 m6 m7 m8 m9 m10 m11 m12 m13 m14 m15:Nat) :
  Qsu nv (nv+1) ((Qdi Tryd.prog (mkE Tryd.prog nv b) Xv2 100 4).fn 62 [.pointer (some ⟨nv,0,none⟩),.pointer (some ⟨nv+1,0,none⟩),.string Y96] (Qcf nv [] true [(1,([p0,p1,p2,p3,p4,p5,p6,p7,p8,p9,p10,p11,p12,p13,p14,p15]:List Nat).map V1),(1,([m0,m1,m2,m3,m4,m5,m6,m7,m8,m9,m10,m11,m12,m13,m14,m15]:List Nat).map V1)])) =
   ob (Qdb [p0,p1,p2,p3,p4,p5,p6,p7,p8,p9,p10,p11,p12,p13,p14,p15] m2 m12 m6 m10 m0 m11 m8 m3 m4 m13 m7 m5 m15 m14 m1 m9) fun l=>some (.tuple #[],l.map V1,([m0,m1,m2,m3,m4,m5,m6,m7,m8,m9,m10,m11,m12,m13,m14,m15]:List Nat).map V1):=by kernel_rfl
theorem Yw4(b:Nat)(p0 p1 p2 p3 p4 p5 p6 p7 p8 p9 p10 p11 p12 p13 p14 p15 m0 m1 m2 m3 m4 m5 m6 m7 m8 m9 m10 m11 m12 m13 m14 m15:Nat) :
  Qsu nv (nv+1) ((Qdi Tryd.prog (mkE Tryd.prog nv b) Xv2 100 4).fn 62 [.pointer (some ⟨nv,0,none⟩),.pointer (some ⟨nv+1,0,none⟩),.string Y91] (Qcf nv [] true [(1,([p0,p1,p2,p3,p4,p5,p6,p7,p8,p9,p10,p11,p12,p13,p14,p15]:List Nat).map V1),(1,([m0,m1,m2,m3,m4,m5,m6,m7,m8,m9,m10,m11,m12,m13,m14,m15]:List Nat).map V1)])) =
   ob (Qdb [p0,p1,p2,p3,p4,p5,p6,p7,p8,p9,p10,p11,p12,p13,p14,p15] m12 m5 m1 m15 m14 m13 m4 m10 m0 m7 m6 m3 m9 m2 m8 m11) fun l=>some (.tuple #[],l.map V1,([m0,m1,m2,m3,m4,m5,m6,m7,m8,m9,m10,m11,m12,m13,m14,m15]:List Nat).map V1):=by kernel_rfl
theorem Ywx(b:Nat)(p0 p1 p2 p3 p4 p5 p6 p7 p8 p9 p10 p11 p12 p13 p14 p15 m0 m1 m2 m3 m4 m5 m6 m7 m8 m9 m10 m11 m12 m13 m14 m15:Nat) :
  Qsu nv (nv+1) ((Qdi Tryd.prog (mkE Tryd.prog nv b) Xv2 100 4).fn 62 [.pointer (some ⟨nv,0,none⟩),.pointer (some ⟨nv+1,0,none⟩),.string Y95] (Qcf nv [] true [(1,([p0,p1,p2,p3,p4,p5,p6,p7,p8,p9,p10,p11,p12,p13,p14,p15]:List Nat).map V1),(1,([m0,m1,m2,m3,m4,m5,m6,m7,m8,m9,m10,m11,m12,m13,m14,m15]:List Nat).map V1)])) =
   ob (Qdb [p0,p1,p2,p3,p4,p5,p6,p7,p8,p9,p10,p11,p12,p13,p14,p15] m13 m11 m7 m14 m12 m1 m3 m9 m5 m0 m15 m4 m8 m6 m2 m10) fun l=>some (.tuple #[],l.map V1,([m0,m1,m2,m3,m4,m5,m6,m7,m8,m9,m10,m11,m12,m13,m14,m15]:List Nat).map V1):=by kernel_rfl
theorem Yxi(b:Nat)(p0 p1 p2 p3 p4 p5 p6 p7 p8 p9 p10 p11 p12 p13 p14 p15 m0 m1 m2 m3 m4 m5 m6 m7 m8 m9 m10 m11 m12 m13 m14 m15:Nat) :
  Qsu nv (nv+1) ((Qdi Tryd.prog (mkE Tryd.prog nv b) Xv2 100 4).fn 62 [.pointer (some ⟨nv,0,none⟩),.pointer (some ⟨nv+1,0,none⟩),.string Y98] (Qcf nv [] true [(1,([p0,p1,p2,p3,p4,p5,p6,p7,p8,p9,p10,p11,p12,p13,p14,p15]:List Nat).map V1),(1,([m0,m1,m2,m3,m4,m5,m6,m7,m8,m9,m10,m11,m12,m13,m14,m15]:List Nat).map V1)])) =
   ob (Qdb [p0,p1,p2,p3,p4,p5,p6,p7,p8,p9,p10,p11,p12,p13,p14,p15] m6 m15 m14 m9 m11 m3 m0 m8 m12 m2 m13 m7 m1 m4 m10 m5) fun l=>some (.tuple #[],l.map V1,([m0,m1,m2,m3,m4,m5,m6,m7,m8,m9,m10,m11,m12,m13,m14,m15]:List Nat).map V1):=by kernel_rfl
theorem Yvf(b:Nat)(p0 p1 p2 p3 p4 p5 p6 p7 p8 p9 p10 p11 p12 p13 p14 p15 m0 m1 m2 m3 m4 m5 m6 m7 m8 m9 m10 m11 m12 m13 m14 m15:Nat) :
  Qsu nv (nv+1) ((Qdi Tryd.prog (mkE Tryd.prog nv b) Xv2 100 4).fn 62 [.pointer (some ⟨nv,0,none⟩),.pointer (some ⟨nv+1,0,none⟩),.string Y9b] (Qcf nv [] true [(1,([p0,p1,p2,p3,p4,p5,p6,p7,p8,p9,p10,p11,p12,p13,p14,p15]:List Nat).map V1),(1,([m0,m1,m2,m3,m4,m5,m6,m7,m8,m9,m10,m11,m12,m13,m14,m15]:List Nat).map V1)])) =
   ob (Qdb [p0,p1,p2,p3,p4,p5,p6,p7,p8,p9,p10,p11,p12,p13,p14,p15] m10 m2 m8 m4 m7 m6 m1 m5 m15 m11 m9 m14 m3 m12 m13 m0) fun l=>some (.tuple #[],l.map V1,([m0,m1,m2,m3,m4,m5,m6,m7,m8,m9,m10,m11,m12,m13,m14,m15]:List Nat).map V1):=by kernel_rfl
def Ys3(s:ByteArray)(l m:List Nat):Option (List Nat):=match l,m with
 | [p0,p1,p2,p3,p4,p5,p6,p7,p8,p9,p10,p11,p12,p13,p14,p15],[m0,m1,m2,m3,m4,m5,m6,m7,m8,m9,m10,m11,m12,m13,m14,m15] =>
  bq (eqN (s.data.toList.map UInt8.toNat) [48,49,50,51,52,53,54,55,56,57,97,98,99,100,101,102]) (Qdb [p0,p1,p2,p3,p4,p5,p6,p7,p8,p9,p10,p11,p12,p13,p14,p15] m0 m1 m2 m3 m4 m5 m6 m7 m8 m9 m10 m11 m12 m13 m14 m15) <|
  bq (eqN (s.data.toList.map UInt8.toNat) [101,97,52,56,57,102,100,54,49,99,48,50,98,55,53,51]) (Qdb [p0,p1,p2,p3,p4,p5,p6,p7,p8,p9,p10,p11,p12,p13,p14,p15] m14 m10 m4 m8 m9 m15 m13 m6 m1 m12 m0 m2 m11 m7 m5 m3) <|
  bq (eqN (s.data.toList.map UInt8.toNat) [98,56,99,48,53,50,102,100,97,101,51,54,55,49,57,52]) (Qdb [p0,p1,p2,p3,p4,p5,p6,p7,p8,p9,p10,p11,p12,p13,p14,p15] m11 m8 m12 m0 m5 m2 m15 m13 m10 m14 m3 m6 m7 m1 m9 m4) <|
  bq (eqN (s.data.toList.map UInt8.toNat) [55,57,51,49,100,99,98,101,50,54,53,97,52,48,102,56]) (Qdb [p0,p1,p2,p3,p4,p5,p6,p7,p8,p9,p10,p11,p12,p13,p14,p15] m7 m9 m3 m1 m13 m12 m11 m14 m2 m6 m5 m10 m4 m0 m15 m8) <|
  bq (eqN (s.data.toList.map UInt8.toNat) [57,48,53,55,50,52,97,102,101,49,98,99,54,56,51,100]) (Qdb [p0,p1,p2,p3,p4,p5,p6,p7,p8,p9,p10,p11,p12,p13,p14,p15] m9 m0 m5 m7 m2 m4 m10 m15 m14 m1 m11 m12 m6 m8 m3 m13) <|
  bq (eqN (s.data.toList.map UInt8.toNat) [50,99,54,97,48,98,56,51,52,100,55,53,102,101,49,57]) (Qdb [p0,p1,p2,p3,p4,p5,p6,p7,p8,p9,p10,p11,p12,p13,p14,p15] m2 m12 m6 m10 m0 m11 m8 m3 m4 m13 m7 m5 m15 m14 m1 m9) <|
  bq (eqN (s.data.toList.map UInt8.toNat) [99,53,49,102,101,100,52,97,48,55,54,51,57,50,56,98]) (Qdb [p0,p1,p2,p3,p4,p5,p6,p7,p8,p9,p10,p11,p12,p13,p14,p15] m12 m5 m1 m15 m14 m13 m4 m10 m0 m7 m6 m3 m9 m2 m8 m11) <|
  bq (eqN (s.data.toList.map UInt8.toNat) [100,98,55,101,99,49,51,57,53,48,102,52,56,54,50,97]) (Qdb [p0,p1,p2,p3,p4,p5,p6,p7,p8,p9,p10,p11,p12,p13,p14,p15] m13 m11 m7 m14 m12 m1 m3 m9 m5 m0 m15 m4 m8 m6 m2 m10) <|
  bq (eqN (s.data.toList.map UInt8.toNat) [54,102,101,57,98,51,48,56,99,50,100,55,49,52,97,53]) (Qdb [p0,p1,p2,p3,p4,p5,p6,p7,p8,p9,p10,p11,p12,p13,p14,p15] m6 m15 m14 m9 m11 m3 m0 m8 m12 m2 m13 m7 m1 m4 m10 m5) <|
  bq (eqN (s.data.toList.map UInt8.toNat) [97,50,56,52,55,54,49,53,102,98,57,101,51,99,100,48]) (Qdb [p0,p1,p2,p3,p4,p5,p6,p7,p8,p9,p10,p11,p12,p13,p14,p15] m10 m2 m8 m4 m7 m6 m1 m5 m15 m11 m9 m14 m3 m12 m13 m0) <|
  none
 | _,_=>none
theorem Ytc{s:ByteArray}{l m l':List Nat}(h:Ys3 s l m=some l'):∃ p0 p1 p2 p3 p4 p5 p6 p7 p8 p9 p10 p11 p12 p13 p14 p15 m0 m1 m2 m3 m4 m5 m6 m7 m8 m9 m10 m11 m12 m13 m14 m15,l=[p0,p1,p2,p3,p4,p5,p6,p7,p8,p9,p10,p11,p12,p13,p14,p15]∧m=[m0,m1,m2,m3,m4,m5,m6,m7,m8,m9,m10,m11,m12,m13,m14,m15]:=by
 unfold Ys3 at h
 split at h
 ·exact⟨_,_,_,_,_,_,_,_,_,_,_,_,_,_,_,_,_,_,_,_,_,_,_,_,_,_,_,_,_,_,_,_,rfl,rfl⟩
 ·cases h
theorem Qto{s t:ByteArray}{l:List Nat}(h:eqN (s.data.toList.map UInt8.toNat) l=true)(ht:t.data.toList.map UInt8.toNat=l):s=t:=by
 have h1:=(Xn1 h).trans ht.symm
 have h2:s.data.toList=t.data.toList:=(List.map_inj_right (fun x y h=>UInt8.toNat_inj.1 h)).1 h1
 cases s;cases t
 simp only[ByteArray.mk.injEq]
 exact Array.ext' h2
def Q6n:Q6i:=fun f args h=>bq (Nat.beq f 62) (match args with
 | [p,q,.string s]=>ob (Yh3 h p) fun x=>ob (Yh3 h q) fun y=>ob (Y6c x.2) fun l=>ob (Y6c y.2) fun m=>bq (Nat.beq x.1 y.1) none (ob (Ys3 s l m) fun l'=>some (.ret (.tuple #[]),h.set x.1 (some (.cells true 1 (l'.map V1)))))
 | _=>none) none
theorem Qog(n blk c:Nat):Ygc (emb n [blk,c]) (.pointer (some ⟨n,0,none⟩)) (.pointer (some ⟨blk,0,none⟩)):=Xwy (by simp[emb])
theorem Qp5(n blk c:Nat):Ygc (emb n [blk,c]) (.pointer (some ⟨n+1,0,none⟩)) (.pointer (some ⟨c,0,none⟩)):=Xwy (by unfold emb;rw[if_neg (by omega)];simp)
theorem Y25(b:Nat){h:Heap}{blk c:Nat}(p0 p1 p2 p3 p4 p5 p6 p7 p8 p9 p10 p11 p12 p13 p14 p15 m0 m1 m2 m3 m4 m5 m6 m7 m8 m9 m10 m11 m12 m13 m14 m15:Nat){l':List Nat}(hl:Qdb [p0,p1,p2,p3,p4,p5,p6,p7,p8,p9,p10,p11,p12,p13,p14,p15] m0 m1 m2 m3 m4 m5 m6 m7 m8 m9 m10 m11 m12 m13 m14 m15=some l')(hg:h.get blk=some (.cells true 1 (([p0,p1,p2,p3,p4,p5,p6,p7,p8,p9,p10,p11,p12,p13,p14,p15]:List Nat).map V1)))(hg2:h.get c=some (.cells true 1 (([m0,m1,m2,m3,m4,m5,m6,m7,m8,m9,m10,m11,m12,m13,m14,m15]:List Nat).map V1)))(hne:blk≠c) :
  CallOK Tryd.prog ⟨nv,b⟩ 62 [.pointer (some ⟨blk,0,none⟩),.pointer (some ⟨c,0,none⟩),.string Y8x] h
   (fun r h1=>r=.ret (.tuple #[])∧h1=h.set blk (some (.cells true 1 (l'.map V1)))) :=
 Qlf (k:=100) (m:=4) mixed Qtx Qon (fun b=>by rw[Yxx b p0 p1 p2 p3 p4 p5 p6 p7 p8 p9 p10 p11 p12 p13 p14 p15 m0 m1 m2 m3 m4 m5 m6 m7 m8 m9 m10 m11 m12 m13 m14 m15,hl];rfl) rfl (Ux _) (Ux _) (Ux _) hg hg2 hne (Ys (Qog _ _ _) (Ys (Qp5 _ _ _) (Ys (Jl rfl) Qay)))
theorem Y1a(b:Nat){h:Heap}{blk c:Nat}(p0 p1 p2 p3 p4 p5 p6 p7 p8 p9 p10 p11 p12 p13 p14 p15 m0 m1 m2 m3 m4 m5 m6 m7 m8 m9 m10 m11 m12 m13 m14 m15:Nat){l':List Nat}(hl:Qdb [p0,p1,p2,p3,p4,p5,p6,p7,p8,p9,p10,p11,p12,p13,p14,p15] m14 m10 m4 m8 m9 m15 m13 m6 m1 m12 m0 m2 m11 m7 m5 m3=some l')(hg:h.get blk=some (.cells true 1 (([p0,p1,p2,p3,p4,p5,p6,p7,p8,p9,p10,p11,p12,p13,p14,p15]:List Nat).map V1)))(hg2:h.get c=some (.cells true 1 (([m0,m1,m2,m3,m4,m5,m6,m7,m8,m9,m10,m11,m12,m13,m14,m15]:List Nat).map V1)))(hne:blk≠c) :
  CallOK Tryd.prog ⟨nv,b⟩ 62 [.pointer (some ⟨blk,0,none⟩),.pointer (some ⟨c,0,none⟩),.string Y99] h
   (fun r h1=>r=.ret (.tuple #[])∧h1=h.set blk (some (.cells true 1 (l'.map V1)))) :=
 Qlf (k:=100) (m:=4) mixed Qtx Qon (fun b=>by rw[Yyk b p0 p1 p2 p3 p4 p5 p6 p7 p8 p9 p10 p11 p12 p13 p14 p15 m0 m1 m2 m3 m4 m5 m6 m7 m8 m9 m10 m11 m12 m13 m14 m15,hl];rfl) rfl (Ux _) (Ux _) (Ux _) hg hg2 hne (Ys (Qog _ _ _) (Ys (Qp5 _ _ _) (Ys (Jl rfl) Qay)))
theorem Y02(b:Nat){h:Heap}{blk c:Nat}(p0 p1 p2 p3 p4 p5 p6 p7 p8 p9 p10 p11 p12 p13 p14 p15 m0 m1 m2 m3 m4 m5 m6 m7 m8 m9 m10 m11 m12 m13 m14 m15:Nat){l':List Nat}(hl:Qdb [p0,p1,p2,p3,p4,p5,p6,p7,p8,p9,p10,p11,p12,p13,p14,p15] m11 m8 m12 m0 m5 m2 m15 m13 m10 m14 m3 m6 m7 m1 m9 m4=some l')(hg:h.get blk=some (.cells true 1 (([p0,p1,p2,p3,p4,p5,p6,p7,p8,p9,p10,p11,p12,p13,p14,p15]:List Nat).map V1)))(hg2:h.get c=some (.cells true 1 (([m0,m1,m2,m3,m4,m5,m6,m7,m8,m9,m10,m11,m12,m13,m14,m15]:List Nat).map V1)))(hne:blk≠c) :
  CallOK Tryd.prog ⟨nv,b⟩ 62 [.pointer (some ⟨blk,0,none⟩),.pointer (some ⟨c,0,none⟩),.string Y8z] h
   (fun r h1=>r=.ret (.tuple #[])∧h1=h.set blk (some (.cells true 1 (l'.map V1)))) :=
 Qlf (k:=100) (m:=4) mixed Qtx Qon (fun b=>by rw[Ywg b p0 p1 p2 p3 p4 p5 p6 p7 p8 p9 p10 p11 p12 p13 p14 p15 m0 m1 m2 m3 m4 m5 m6 m7 m8 m9 m10 m11 m12 m13 m14 m15,hl];rfl) rfl (Ux _) (Ux _) (Ux _) hg hg2 hne (Ys (Qog _ _ _) (Ys (Qp5 _ _ _) (Ys (Jl rfl) Qay)))
theorem Y2g(b:Nat){h:Heap}{blk c:Nat}(p0 p1 p2 p3 p4 p5 p6 p7 p8 p9 p10 p11 p12 p13 p14 p15 m0 m1 m2 m3 m4 m5 m6 m7 m8 m9 m10 m11 m12 m13 m14 m15:Nat){l':List Nat}(hl:Qdb [p0,p1,p2,p3,p4,p5,p6,p7,p8,p9,p10,p11,p12,p13,p14,p15] m7 m9 m3 m1 m13 m12 m11 m14 m2 m6 m5 m10 m4 m0 m15 m8=some l')(hg:h.get blk=some (.cells true 1 (([p0,p1,p2,p3,p4,p5,p6,p7,p8,p9,p10,p11,p12,p13,p14,p15]:List Nat).map V1)))(hg2:h.get c=some (.cells true 1 (([m0,m1,m2,m3,m4,m5,m6,m7,m8,m9,m10,m11,m12,m13,m14,m15]:List Nat).map V1)))(hne:blk≠c) :
  CallOK Tryd.prog ⟨nv,b⟩ 62 [.pointer (some ⟨blk,0,none⟩),.pointer (some ⟨c,0,none⟩),.string Y9a] h
   (fun r h1=>r=.ret (.tuple #[])∧h1=h.set blk (some (.cells true 1 (l'.map V1)))) :=
 Qlf (k:=100) (m:=4) mixed Qtx Qon (fun b=>by rw[Yyn b p0 p1 p2 p3 p4 p5 p6 p7 p8 p9 p10 p11 p12 p13 p14 p15 m0 m1 m2 m3 m4 m5 m6 m7 m8 m9 m10 m11 m12 m13 m14 m15,hl];rfl) rfl (Ux _) (Ux _) (Ux _) hg hg2 hne (Ys (Qog _ _ _) (Ys (Qp5 _ _ _) (Ys (Jl rfl) Qay)))
theorem Y1f(b:Nat){h:Heap}{blk c:Nat}(p0 p1 p2 p3 p4 p5 p6 p7 p8 p9 p10 p11 p12 p13 p14 p15 m0 m1 m2 m3 m4 m5 m6 m7 m8 m9 m10 m11 m12 m13 m14 m15:Nat){l':List Nat}(hl:Qdb [p0,p1,p2,p3,p4,p5,p6,p7,p8,p9,p10,p11,p12,p13,p14,p15] m9 m0 m5 m7 m2 m4 m10 m15 m14 m1 m11 m12 m6 m8 m3 m13=some l')(hg:h.get blk=some (.cells true 1 (([p0,p1,p2,p3,p4,p5,p6,p7,p8,p9,p10,p11,p12,p13,p14,p15]:List Nat).map V1)))(hg2:h.get c=some (.cells true 1 (([m0,m1,m2,m3,m4,m5,m6,m7,m8,m9,m10,m11,m12,m13,m14,m15]:List Nat).map V1)))(hne:blk≠c) :
  CallOK Tryd.prog ⟨nv,b⟩ 62 [.pointer (some ⟨blk,0,none⟩),.pointer (some ⟨c,0,none⟩),.string Y8u] h
   (fun r h1=>r=.ret (.tuple #[])∧h1=h.set blk (some (.cells true 1 (l'.map V1)))) :=
 Qlf (k:=100) (m:=4) mixed Qtx Qon (fun b=>by rw[Ywd b p0 p1 p2 p3 p4 p5 p6 p7 p8 p9 p10 p11 p12 p13 p14 p15 m0 m1 m2 m3 m4 m5 m6 m7 m8 m9 m10 m11 m12 m13 m14 m15,hl];rfl) rfl (Ux _) (Ux _) (Ux _) hg hg2 hne (Ys (Qog _ _ _) (Ys (Qp5 _ _ _) (Ys (Jl rfl) Qay)))
theorem Y2e(b:Nat){h:Heap}{blk c:Nat}(p0 p1 p2 p3 p4 p5 p6 p7 p8 p9 p10 p11 p12 p13 p14 p15 m0 m1 m2 m3 m4 m5 m6 m7 m8 m9 m10 m11 m12 m13 m14 m15:Nat){l':List Nat}(hl:Qdb [p0,p1,p2,p3,p4,p5,p6,p7,p8,p9,p10,p11,p12,p13,p14,p15] m2 m12 m6 m10 m0 m11 m8 m3 m4 m13 m7 m5 m15 m14 m1 m9=some l')(hg:h.get blk=some (.cells true 1 (([p0,p1,p2,p3,p4,p5,p6,p7,p8,p9,p10,p11,p12,p13,p14,p15]:List Nat).map V1)))(hg2:h.get c=some (.cells true 1 (([m0,m1,m2,m3,m4,m5,m6,m7,m8,m9,m10,m11,m12,m13,m14,m15]:List Nat).map V1)))(hne:blk≠c) :
  CallOK Tryd.prog ⟨nv,b⟩ 62 [.pointer (some ⟨blk,0,none⟩),.pointer (some ⟨c,0,none⟩),.string Y96] h
   (fun r h1=>r=.ret (.tuple #[])∧h1=h.set blk (some (.cells true 1 (l'.map V1)))) :=
 Qlf (k:=100) (m:=4) mixed Qtx Qon (fun b=>by rw[Yxk b p0 p1 p2 p3 p4 p5 p6 p7 p8 p9 p10 p11 p12 p13 p14 p15 m0 m1 m2 m3 m4 m5 m6 m7 m8 m9 m10 m11 m12 m13 m14 m15,hl];rfl) rfl (Ux _) (Ux _) (Ux _) hg hg2 hne (Ys (Qog _ _ _) (Ys (Qp5 _ _ _) (Ys (Jl rfl) Qay)))
theorem Yzh(b:Nat){h:Heap}{blk c:Nat}(p0 p1 p2 p3 p4 p5 p6 p7 p8 p9 p10 p11 p12 p13 p14 p15 m0 m1 m2 m3 m4 m5 m6 m7 m8 m9 m10 m11 m12 m13 m14 m15:Nat){l':List Nat}(hl:Qdb [p0,p1,p2,p3,p4,p5,p6,p7,p8,p9,p10,p11,p12,p13,p14,p15] m12 m5 m1 m15 m14 m13 m4 m10 m0 m7 m6 m3 m9 m2 m8 m11=some l')(hg:h.get blk=some (.cells true 1 (([p0,p1,p2,p3,p4,p5,p6,p7,p8,p9,p10,p11,p12,p13,p14,p15]:List Nat).map V1)))(hg2:h.get c=some (.cells true 1 (([m0,m1,m2,m3,m4,m5,m6,m7,m8,m9,m10,m11,m12,m13,m14,m15]:List Nat).map V1)))(hne:blk≠c) :
  CallOK Tryd.prog ⟨nv,b⟩ 62 [.pointer (some ⟨blk,0,none⟩),.pointer (some ⟨c,0,none⟩),.string Y91] h
   (fun r h1=>r=.ret (.tuple #[])∧h1=h.set blk (some (.cells true 1 (l'.map V1)))) :=
 Qlf (k:=100) (m:=4) mixed Qtx Qon (fun b=>by rw[Yw4 b p0 p1 p2 p3 p4 p5 p6 p7 p8 p9 p10 p11 p12 p13 p14 p15 m0 m1 m2 m3 m4 m5 m6 m7 m8 m9 m10 m11 m12 m13 m14 m15,hl];rfl) rfl (Ux _) (Ux _) (Ux _) hg hg2 hne (Ys (Qog _ _ _) (Ys (Qp5 _ _ _) (Ys (Jl rfl) Qay)))
theorem Y2m(b:Nat){h:Heap}{blk c:Nat}(p0 p1 p2 p3 p4 p5 p6 p7 p8 p9 p10 p11 p12 p13 p14 p15 m0 m1 m2 m3 m4 m5 m6 m7 m8 m9 m10 m11 m12 m13 m14 m15:Nat){l':List Nat}(hl:Qdb [p0,p1,p2,p3,p4,p5,p6,p7,p8,p9,p10,p11,p12,p13,p14,p15] m13 m11 m7 m14 m12 m1 m3 m9 m5 m0 m15 m4 m8 m6 m2 m10=some l')(hg:h.get blk=some (.cells true 1 (([p0,p1,p2,p3,p4,p5,p6,p7,p8,p9,p10,p11,p12,p13,p14,p15]:List Nat).map V1)))(hg2:h.get c=some (.cells true 1 (([m0,m1,m2,m3,m4,m5,m6,m7,m8,m9,m10,m11,m12,m13,m14,m15]:List Nat).map V1)))(hne:blk≠c) :
  CallOK Tryd.prog ⟨nv,b⟩ 62 [.pointer (some ⟨blk,0,none⟩),.pointer (some ⟨c,0,none⟩),.string Y95] h
   (fun r h1=>r=.ret (.tuple #[])∧h1=h.set blk (some (.cells true 1 (l'.map V1)))) :=
 Qlf (k:=100) (m:=4) mixed Qtx Qon (fun b=>by rw[Ywx b p0 p1 p2 p3 p4 p5 p6 p7 p8 p9 p10 p11 p12 p13 p14 p15 m0 m1 m2 m3 m4 m5 m6 m7 m8 m9 m10 m11 m12 m13 m14 m15,hl];rfl) rfl (Ux _) (Ux _) (Ux _) hg hg2 hne (Ys (Qog _ _ _) (Ys (Qp5 _ _ _) (Ys (Jl rfl) Qay)))
theorem Y04(b:Nat){h:Heap}{blk c:Nat}(p0 p1 p2 p3 p4 p5 p6 p7 p8 p9 p10 p11 p12 p13 p14 p15 m0 m1 m2 m3 m4 m5 m6 m7 m8 m9 m10 m11 m12 m13 m14 m15:Nat){l':List Nat}(hl:Qdb [p0,p1,p2,p3,p4,p5,p6,p7,p8,p9,p10,p11,p12,p13,p14,p15] m6 m15 m14 m9 m11 m3 m0 m8 m12 m2 m13 m7 m1 m4 m10 m5=some l')(hg:h.get blk=some (.cells true 1 (([p0,p1,p2,p3,p4,p5,p6,p7,p8,p9,p10,p11,p12,p13,p14,p15]:List Nat).map V1)))(hg2:h.get c=some (.cells true 1 (([m0,m1,m2,m3,m4,m5,m6,m7,m8,m9,m10,m11,m12,m13,m14,m15]:List Nat).map V1)))(hne:blk≠c) :
  CallOK Tryd.prog ⟨nv,b⟩ 62 [.pointer (some ⟨blk,0,none⟩),.pointer (some ⟨c,0,none⟩),.string Y98] h
   (fun r h1=>r=.ret (.tuple #[])∧h1=h.set blk (some (.cells true 1 (l'.map V1)))) :=
 Qlf (k:=100) (m:=4) mixed Qtx Qon (fun b=>by rw[Yxi b p0 p1 p2 p3 p4 p5 p6 p7 p8 p9 p10 p11 p12 p13 p14 p15 m0 m1 m2 m3 m4 m5 m6 m7 m8 m9 m10 m11 m12 m13 m14 m15,hl];rfl) rfl (Ux _) (Ux _) (Ux _) hg hg2 hne (Ys (Qog _ _ _) (Ys (Qp5 _ _ _) (Ys (Jl rfl) Qay)))
theorem Y1s(b:Nat){h:Heap}{blk c:Nat}(p0 p1 p2 p3 p4 p5 p6 p7 p8 p9 p10 p11 p12 p13 p14 p15 m0 m1 m2 m3 m4 m5 m6 m7 m8 m9 m10 m11 m12 m13 m14 m15:Nat){l':List Nat}(hl:Qdb [p0,p1,p2,p3,p4,p5,p6,p7,p8,p9,p10,p11,p12,p13,p14,p15] m10 m2 m8 m4 m7 m6 m1 m5 m15 m11 m9 m14 m3 m12 m13 m0=some l')(hg:h.get blk=some (.cells true 1 (([p0,p1,p2,p3,p4,p5,p6,p7,p8,p9,p10,p11,p12,p13,p14,p15]:List Nat).map V1)))(hg2:h.get c=some (.cells true 1 (([m0,m1,m2,m3,m4,m5,m6,m7,m8,m9,m10,m11,m12,m13,m14,m15]:List Nat).map V1)))(hne:blk≠c) :
  CallOK Tryd.prog ⟨nv,b⟩ 62 [.pointer (some ⟨blk,0,none⟩),.pointer (some ⟨c,0,none⟩),.string Y9b] h
   (fun r h1=>r=.ret (.tuple #[])∧h1=h.set blk (some (.cells true 1 (l'.map V1)))) :=
 Qlf (k:=100) (m:=4) mixed Qtx Qon (fun b=>by rw[Yvf b p0 p1 p2 p3 p4 p5 p6 p7 p8 p9 p10 p11 p12 p13 p14 p15 m0 m1 m2 m3 m4 m5 m6 m7 m8 m9 m10 m11 m12 m13 m14 m15,hl];rfl) rfl (Ux _) (Ux _) (Ux _) hg hg2 hne (Ys (Qog _ _ _) (Ys (Qp5 _ _ _) (Ys (Jl rfl) Qay)))
theorem Yl3(b:Nat):Qna Tryd.prog ⟨nv,b⟩ Q6n:=by
 intro f args h r h' hx
 unfold Q6n at hx
 obtain⟨hf,hx⟩:=Qlk hx
 have hf:=Nat.eq_of_beq_eq_true hf
 subst hf
 split at hx
 ·rename_i p q s hq
  obtain⟨⟨blk,cs⟩,h1,hx⟩:=Qam hx
  obtain⟨⟨c,cs2⟩,h2,hx⟩:=Qam hx
  obtain⟨l,h3,hx⟩:=Qam hx
  obtain⟨m,h4,hx⟩:=Qam hx
  cases hne:Nat.beq blk c with
  | true=>simp only at hx;rw[hne]at hx;cases hx
  | false =>
  simp only at hx
  rw[hne,bq_false]at hx
  have hne:=Nat.ne_of_beq_eq_false hne
  obtain⟨l',h5,hx⟩:=Qam hx
  cases hx
  obtain⟨rfl,hg⟩:=Q68 h1
  obtain⟨rfl,hg2⟩:=Q68 h2
  have:=X94 h3
  subst this
  have:=X94 h4
  subst this
  obtain⟨p0,p1,p2,p3,p4,p5,p6,p7,p8,p9,p10,p11,p12,p13,p14,p15,m0,m1,m2,m3,m4,m5,m6,m7,m8,m9,m10,m11,m12,m13,m14,m15,rfl,rfl⟩:=Ytc h5
  unfold Ys3 at h5
  simp only at h5
  cases e0:eqN (s.data.toList.map UInt8.toNat) [48,49,50,51,52,53,54,55,56,57,97,98,99,100,101,102]with
  | true =>
   rw[e0,bq_true]at h5
   have:=Qto (t:=Y8x) e0 rfl
   subst this
   exact Y25 b p0 p1 p2 p3 p4 p5 p6 p7 p8 p9 p10 p11 p12 p13 p14 p15 m0 m1 m2 m3 m4 m5 m6 m7 m8 m9 m10 m11 m12 m13 m14 m15 h5 hg hg2 hne
  | false =>
  rw[e0,bq_false]at h5
  cases e1:eqN (s.data.toList.map UInt8.toNat) [101,97,52,56,57,102,100,54,49,99,48,50,98,55,53,51]with
  | true =>
   rw[e1,bq_true]at h5
   have:=Qto (t:=Y99) e1 rfl
   subst this
   exact Y1a b p0 p1 p2 p3 p4 p5 p6 p7 p8 p9 p10 p11 p12 p13 p14 p15 m0 m1 m2 m3 m4 m5 m6 m7 m8 m9 m10 m11 m12 m13 m14 m15 h5 hg hg2 hne
  | false =>
  rw[e1,bq_false]at h5
  cases e2:eqN (s.data.toList.map UInt8.toNat) [98,56,99,48,53,50,102,100,97,101,51,54,55,49,57,52]with
  | true =>
   rw[e2,bq_true]at h5
   have:=Qto (t:=Y8z) e2 rfl
   subst this
   exact Y02 b p0 p1 p2 p3 p4 p5 p6 p7 p8 p9 p10 p11 p12 p13 p14 p15 m0 m1 m2 m3 m4 m5 m6 m7 m8 m9 m10 m11 m12 m13 m14 m15 h5 hg hg2 hne
  | false =>
  rw[e2,bq_false]at h5
  cases e3:eqN (s.data.toList.map UInt8.toNat) [55,57,51,49,100,99,98,101,50,54,53,97,52,48,102,56]with
  | true =>
   rw[e3,bq_true]at h5
   have:=Qto (t:=Y9a) e3 rfl
   subst this
   exact Y2g b p0 p1 p2 p3 p4 p5 p6 p7 p8 p9 p10 p11 p12 p13 p14 p15 m0 m1 m2 m3 m4 m5 m6 m7 m8 m9 m10 m11 m12 m13 m14 m15 h5 hg hg2 hne
  | false =>
  rw[e3,bq_false]at h5
  cases e4:eqN (s.data.toList.map UInt8.toNat) [57,48,53,55,50,52,97,102,101,49,98,99,54,56,51,100]with
  | true =>
   rw[e4,bq_true]at h5
   have:=Qto (t:=Y8u) e4 rfl
   subst this
   exact Y1f b p0 p1 p2 p3 p4 p5 p6 p7 p8 p9 p10 p11 p12 p13 p14 p15 m0 m1 m2 m3 m4 m5 m6 m7 m8 m9 m10 m11 m12 m13 m14 m15 h5 hg hg2 hne
  | false =>
  rw[e4,bq_false]at h5
  cases e5:eqN (s.data.toList.map UInt8.toNat) [50,99,54,97,48,98,56,51,52,100,55,53,102,101,49,57]with
  | true =>
   rw[e5,bq_true]at h5
   have:=Qto (t:=Y96) e5 rfl
   subst this
   exact Y2e b p0 p1 p2 p3 p4 p5 p6 p7 p8 p9 p10 p11 p12 p13 p14 p15 m0 m1 m2 m3 m4 m5 m6 m7 m8 m9 m10 m11 m12 m13 m14 m15 h5 hg hg2 hne
  | false =>
  rw[e5,bq_false]at h5
  cases e6:eqN (s.data.toList.map UInt8.toNat) [99,53,49,102,101,100,52,97,48,55,54,51,57,50,56,98]with
  | true =>
   rw[e6,bq_true]at h5
   have:=Qto (t:=Y91) e6 rfl
   subst this
   exact Yzh b p0 p1 p2 p3 p4 p5 p6 p7 p8 p9 p10 p11 p12 p13 p14 p15 m0 m1 m2 m3 m4 m5 m6 m7 m8 m9 m10 m11 m12 m13 m14 m15 h5 hg hg2 hne
  | false =>
  rw[e6,bq_false]at h5
  cases e7:eqN (s.data.toList.map UInt8.toNat) [100,98,55,101,99,49,51,57,53,48,102,52,56,54,50,97]with
  | true =>
   rw[e7,bq_true]at h5
   have:=Qto (t:=Y95) e7 rfl
   subst this
   exact Y2m b p0 p1 p2 p3 p4 p5 p6 p7 p8 p9 p10 p11 p12 p13 p14 p15 m0 m1 m2 m3 m4 m5 m6 m7 m8 m9 m10 m11 m12 m13 m14 m15 h5 hg hg2 hne
  | false =>
  rw[e7,bq_false]at h5
  cases e8:eqN (s.data.toList.map UInt8.toNat) [54,102,101,57,98,51,48,56,99,50,100,55,49,52,97,53]with
  | true =>
   rw[e8,bq_true]at h5
   have:=Qto (t:=Y98) e8 rfl
   subst this
   exact Y04 b p0 p1 p2 p3 p4 p5 p6 p7 p8 p9 p10 p11 p12 p13 p14 p15 m0 m1 m2 m3 m4 m5 m6 m7 m8 m9 m10 m11 m12 m13 m14 m15 h5 hg hg2 hne
  | false =>
  rw[e8,bq_false]at h5
  cases e9:eqN (s.data.toList.map UInt8.toNat) [97,50,56,52,55,54,49,53,102,98,57,101,51,99,100,48]with
  | true =>
   rw[e9,bq_true]at h5
   have:=Qto (t:=Y9b) e9 rfl
   subst this
   exact Y1s b p0 p1 p2 p3 p4 p5 p6 p7 p8 p9 p10 p11 p12 p13 p14 p15 m0 m1 m2 m3 m4 m5 m6 m7 m8 m9 m10 m11 m12 m13 m14 m15 h5 hg hg2 hne
  | false =>
  rw[e9,bq_false]at h5
  cases h5
 ·cases hx
theorem Ygh:Qth Q6n:=by
 intro f args h r h' hx
 unfold Q6n at hx
 obtain⟨hf,hx⟩:=Qlk hx
 split at hx
 ·obtain⟨⟨blk,cs⟩,h1,hx⟩:=Qam hx
  obtain⟨⟨c,cs2⟩,h2,hx⟩:=Qam hx
  obtain⟨l,h3,hx⟩:=Qam hx
  obtain⟨m,h4,hx⟩:=Qam hx
  cases hne:Nat.beq blk c with
  | true=>simp only at hx;rw[hne]at hx;cases hx
  | false =>
  simp only at hx
  rw[hne,bq_false]at hx
  obtain⟨l',h5,hx⟩:=Qam hx
  cases hx
  obtain⟨_,hg⟩:=Q68 h1
  exact LowOK.set _ _ _ (Heap.get_lt hg)
 ·cases hx
end Go.Proofs.YtcokebbiblnonaaDoor
end
noncomputable section
namespace Go.Proofs.YtcokebbiblnonaaDoor
open Go Go.Ab
set_option maxRecDepth 1000000
def Qh7:List Value:=[.int .u32 1779033703,.int .u32 3144134277,.int .u32 1013904242,.int .u32 2773480762,.int .u32 1359893119,.int .u32 2600822924,.int .u32 528734635,.int .u32 1541459225]
def Qx1:List Value:=[.string Y8x,.string Y99,.string Y8z,.string Y9a,.string Y8u,.string Y96,.string Y91,.string Y95,.string Y98,.string Y9b]
def Qbj:List (Nat × List Value):=[(0,Qh7),(1,Qx1)]
def Ywb(h0 h1 h2 h3 h4 h5 h6 h7 p12 p13 p14 m0 m1 m2 m3 m4 m5 m6 m7 m8 m9 m10 m11 m12 m13 m14 m15:Nat):Option (List Nat) :=
 ob (Qdb [h0,h1,h2,h3,h4,h5,h6,h7,1779033703,3144134277,1013904242,2773480762,p12,p13,p14,1541459225] m0 m1 m2 m3 m4 m5 m6 m7 m8 m9 m10 m11 m12 m13 m14 m15) fun l =>
 ob (Qdb l m14 m10 m4 m8 m9 m15 m13 m6 m1 m12 m0 m2 m11 m7 m5 m3) fun l =>
 ob (Qdb l m11 m8 m12 m0 m5 m2 m15 m13 m10 m14 m3 m6 m7 m1 m9 m4) fun l =>
 ob (Qdb l m7 m9 m3 m1 m13 m12 m11 m14 m2 m6 m5 m10 m4 m0 m15 m8) fun l =>
 ob (Qdb l m9 m0 m5 m7 m2 m4 m10 m15 m14 m1 m11 m12 m6 m8 m3 m13) fun l =>
 ob (Qdb l m2 m12 m6 m10 m0 m11 m8 m3 m4 m13 m7 m5 m15 m14 m1 m9) fun l =>
 ob (Qdb l m12 m5 m1 m15 m14 m13 m4 m10 m0 m7 m6 m3 m9 m2 m8 m11) fun l =>
 ob (Qdb l m13 m11 m7 m14 m12 m1 m3 m9 m5 m0 m15 m4 m8 m6 m2 m10) fun l =>
 ob (Qdb l m6 m15 m14 m9 m11 m3 m0 m8 m12 m2 m13 m7 m1 m4 m10 m5) fun l =>
 Qdb l m10 m2 m8 m4 m7 m6 m1 m5 m15 m11 m9 m14 m3 m12 m13 m0
def Y92(h0 h1 h2 h3 h4 h5 h6 h7:Nat)(l:List Nat):Option Value:=match l with
 | [p0,p1,p2,p3,p4,p5,p6,p7,p8,p9,p10,p11,p12,p13,p14,p15]=>some (.agg ⟨[.int .u32 (Q7j (.ofNat h0) (Q7j (.ofNat p0) (.ofNat p8))),.int .u32 (Q7j (.ofNat h1) (Q7j (.ofNat p1) (.ofNat p9))),.int .u32 (Q7j (.ofNat h2) (Q7j (.ofNat p2) (.ofNat p10))),.int .u32 (Q7j (.ofNat h3) (Q7j (.ofNat p3) (.ofNat p11))),.int .u32 (Q7j (.ofNat h4) (Q7j (.ofNat p4) (.ofNat p12))),.int .u32 (Q7j (.ofNat h5) (Q7j (.ofNat p5) (.ofNat p13))),.int .u32 (Q7j (.ofNat h6) (Q7j (.ofNat p6) (.ofNat p14))),.int .u32 (Q7j (.ofNat h7) (Q7j (.ofNat p7) (.ofNat p15)))]⟩)
 | _=>none
noncomputable def Ypx:Func:=(Tryd.prog.funcs[50]?).getD default
noncomputable def Yuc:Code:=Ypx.body.getD .skip
theorem Yjw(b:Nat)(h0 h1 h2 h3 h4 h5 h6 h7 b0 b1 b2 b3 b4 b5 b6 b7 b8 b9 b10 b11 b12 b13 b14 b15 b16 b17 b18 b19 b20 b21 b22 b23 b24 b25 b26 b27 b28 b29 b30 b31 b32 b33 b34 b35 b36 b37 b38 b39 b40 b41 b42 b43 b44 b45 b46 b47 b48 b49 b50 b51 b52 b53 b54 b55 b56 b57 b58 b59 b60 b61 b62 b63 count:Nat):(Qxe Tryd.prog (mkE Tryd.prog nv b) (Qdi Tryd.prog (mkE Tryd.prog nv b) Q6n 100 3) none 100 (Y2o 8 Yuc) ⟨Yh Ypx [.agg ⟨[V1 h0,V1 h1,V1 h2,V1 h3,V1 h4,V1 h5,V1 h6,V1 h7]⟩,.pointer (some ⟨nv,0,none⟩),.int .u64 (.ofNat count),.bool true],[],(Qcf nv Qbj false [(1,[u8v b0,u8v b1,u8v b2,u8v b3,u8v b4,u8v b5,u8v b6,u8v b7,u8v b8,u8v b9,u8v b10,u8v b11,u8v b12,u8v b13,u8v b14,u8v b15,u8v b16,u8v b17,u8v b18,u8v b19,u8v b20,u8v b21,u8v b22,u8v b23,u8v b24,u8v b25,u8v b26,u8v b27,u8v b28,u8v b29,u8v b30,u8v b31,u8v b32,u8v b33,u8v b34,u8v b35,u8v b36,u8v b37,u8v b38,u8v b39,u8v b40,u8v b41,u8v b42,u8v b43,u8v b44,u8v b45,u8v b46,u8v b47,u8v b48,u8v b49,u8v b50,u8v b51,u8v b52,u8v b53,u8v b54,u8v b55,u8v b56,u8v b57,u8v b58,u8v b59,u8v b60,u8v b61,u8v b62,u8v b63])])⟩)=Yrg (nv+4) [V1 h0,V1 h1,V1 h2,V1 h3,V1 h4,V1 h5,V1 h6,V1 h7,V1 1779033703,V1 3144134277,V1 1013904242,V1 2773480762,.int .u32 (Q7j (.ofNat 1359893119) (Yj7 count)),.int .u32 (Q7j (.ofNat 2600822924) (IntKind.wrap .u32 (Int.fdiv (.ofNat count) (2 ^ 32)))),.int .u32 (Q7j (.ofNat 4294967295) (.ofNat 528734635)),V1 1541459225] (Yrg (nv+3) [.int .u32 (Xq3 b0 b1 b2 b3),.int .u32 (Xq3 b4 b5 b6 b7),.int .u32 (Xq3 b8 b9 b10 b11),.int .u32 (Xq3 b12 b13 b14 b15),.int .u32 (Xq3 b16 b17 b18 b19),.int .u32 (Xq3 b20 b21 b22 b23),.int .u32 (Xq3 b24 b25 b26 b27),.int .u32 (Xq3 b28 b29 b30 b31),.int .u32 (Xq3 b32 b33 b34 b35),.int .u32 (Xq3 b36 b37 b38 b39),.int .u32 (Xq3 b40 b41 b42 b43),.int .u32 (Xq3 b44 b45 b46 b47),.int .u32 (Xq3 b48 b49 b50 b51),.int .u32 (Xq3 b52 b53 b54 b55),.int .u32 (Xq3 b56 b57 b58 b59),.int .u32 (Xq3 b60 b61 b62 b63)] (Qxe Tryd.prog (mkE Tryd.prog nv b) (Qdi Tryd.prog (mkE Tryd.prog nv b) Q6n 100 3) none 100 (Y2o 8 Yuc) ⟨Yh Ypx [.agg ⟨[V1 h0,V1 h1,V1 h2,V1 h3,V1 h4,V1 h5,V1 h6,V1 h7]⟩,.pointer (some ⟨nv,0,none⟩),.int .u64 (.ofNat count),.bool true],[],(Qcf nv Qbj false [(1,[u8v b0,u8v b1,u8v b2,u8v b3,u8v b4,u8v b5,u8v b6,u8v b7,u8v b8,u8v b9,u8v b10,u8v b11,u8v b12,u8v b13,u8v b14,u8v b15,u8v b16,u8v b17,u8v b18,u8v b19,u8v b20,u8v b21,u8v b22,u8v b23,u8v b24,u8v b25,u8v b26,u8v b27,u8v b28,u8v b29,u8v b30,u8v b31,u8v b32,u8v b33,u8v b34,u8v b35,u8v b36,u8v b37,u8v b38,u8v b39,u8v b40,u8v b41,u8v b42,u8v b43,u8v b44,u8v b45,u8v b46,u8v b47,u8v b48,u8v b49,u8v b50,u8v b51,u8v b52,u8v b53,u8v b54,u8v b55,u8v b56,u8v b57,u8v b58,u8v b59,u8v b60,u8v b61,u8v b62,u8v b63])])⟩)):=by kernel_rfl
theorem Ynu(b:Nat)(h0 h1 h2 h3 h4 h5 h6 h7 b0 b1 b2 b3 b4 b5 b6 b7 b8 b9 b10 b11 b12 b13 b14 b15 b16 b17 b18 b19 b20 b21 b22 b23 b24 b25 b26 b27 b28 b29 b30 b31 b32 b33 b34 b35 b36 b37 b38 b39 b40 b41 b42 b43 b44 b45 b46 b47 b48 b49 b50 b51 b52 b53 b54 b55 b56 b57 b58 b59 b60 b61 b62 b63 count:Nat) :
  Y03 ((Qdi Tryd.prog (mkE Tryd.prog nv b) Q6n 100 4).fn 50 [.agg ⟨[V1 h0,V1 h1,V1 h2,V1 h3,V1 h4,V1 h5,V1 h6,V1 h7]⟩,.pointer (some ⟨nv,0,none⟩),.int .u64 (.ofNat count),.bool true] (Qcf nv Qbj false [(1,[u8v b0,u8v b1,u8v b2,u8v b3,u8v b4,u8v b5,u8v b6,u8v b7,u8v b8,u8v b9,u8v b10,u8v b11,u8v b12,u8v b13,u8v b14,u8v b15,u8v b16,u8v b17,u8v b18,u8v b19,u8v b20,u8v b21,u8v b22,u8v b23,u8v b24,u8v b25,u8v b26,u8v b27,u8v b28,u8v b29,u8v b30,u8v b31,u8v b32,u8v b33,u8v b34,u8v b35,u8v b36,u8v b37,u8v b38,u8v b39,u8v b40,u8v b41,u8v b42,u8v b43,u8v b44,u8v b45,u8v b46,u8v b47,u8v b48,u8v b49,u8v b50,u8v b51,u8v b52,u8v b53,u8v b54,u8v b55,u8v b56,u8v b57,u8v b58,u8v b59,u8v b60,u8v b61,u8v b62,u8v b63])])) =
   ob (Ywb h0 h1 h2 h3 h4 h5 h6 h7 (Bl.xr 1359893119 (Bl.w32 count)) (Bl.xr 2600822924 (Bl.w32 (Nat.div count 4294967296))) (Bl.xr 4294967295 528734635) (Bl.le4 b0 b1 b2 b3) (Bl.le4 b4 b5 b6 b7) (Bl.le4 b8 b9 b10 b11) (Bl.le4 b12 b13 b14 b15) (Bl.le4 b16 b17 b18 b19) (Bl.le4 b20 b21 b22 b23) (Bl.le4 b24 b25 b26 b27) (Bl.le4 b28 b29 b30 b31) (Bl.le4 b32 b33 b34 b35) (Bl.le4 b36 b37 b38 b39) (Bl.le4 b40 b41 b42 b43) (Bl.le4 b44 b45 b46 b47) (Bl.le4 b48 b49 b50 b51) (Bl.le4 b52 b53 b54 b55) (Bl.le4 b56 b57 b58 b59) (Bl.le4 b60 b61 b62 b63)) (Y92 h0 h1 h2 h3 h4 h5 h6 h7):=by
 have e12:Value.int .u32 (Q7j (.ofNat 1359893119) (Yj7 count))=V1 (Bl.xr 1359893119 (Bl.w32 count)):=by rw[X6z,Qti];rfl
 have e13:Value.int .u32 (Q7j (.ofNat 2600822924) (IntKind.wrap .u32 (Int.fdiv (.ofNat count) (2 ^ 32))))=V1 (Bl.xr 2600822924 (Bl.w32 (Nat.div count 4294967296))):=by rw[Yr3,Qg2];exact congrArg (Value.int .u32) (Qti _ _)
 have e14:Value.int .u32 (Q7j (.ofNat 4294967295) (.ofNat 528734635))=V1 (Bl.xr 4294967295 528734635):=by first | rfl | (rw[Qti];rfl)
 rw[Yqz (n0:=8) (F:=Ypx) (c:=Yuc) (by kernel_rfl) (by kernel_rfl) (by kernel_rfl) (by kernel_rfl) (by kernel_rfl),Yjw,e12,e13,e14]
 simp only[Ys8]
 show _=_
 kernel_rfl
theorem Yfr(b:Nat)(h0 h1 h2 h3 h4 h5 h6 h7 b0 b1 b2 b3 b4 b5 b6 b7 b8 b9 b10 b11 b12 b13 b14 b15 b16 b17 b18 b19 b20 b21 b22 b23 b24 b25 b26 b27 b28 b29 b30 b31 b32 b33 b34 b35 b36 b37 b38 b39 b40 b41 b42 b43 b44 b45 b46 b47 b48 b49 b50 b51 b52 b53 b54 b55 b56 b57 b58 b59 b60 b61 b62 b63 count:Nat):(Qxe Tryd.prog (mkE Tryd.prog nv b) (Qdi Tryd.prog (mkE Tryd.prog nv b) Q6n 100 3) none 100 (Y2o 8 Yuc) ⟨Yh Ypx [.agg ⟨[V1 h0,V1 h1,V1 h2,V1 h3,V1 h4,V1 h5,V1 h6,V1 h7]⟩,.pointer (some ⟨nv,0,none⟩),.int .u64 (.ofNat count),.bool false],[],(Qcf nv Qbj false [(1,[u8v b0,u8v b1,u8v b2,u8v b3,u8v b4,u8v b5,u8v b6,u8v b7,u8v b8,u8v b9,u8v b10,u8v b11,u8v b12,u8v b13,u8v b14,u8v b15,u8v b16,u8v b17,u8v b18,u8v b19,u8v b20,u8v b21,u8v b22,u8v b23,u8v b24,u8v b25,u8v b26,u8v b27,u8v b28,u8v b29,u8v b30,u8v b31,u8v b32,u8v b33,u8v b34,u8v b35,u8v b36,u8v b37,u8v b38,u8v b39,u8v b40,u8v b41,u8v b42,u8v b43,u8v b44,u8v b45,u8v b46,u8v b47,u8v b48,u8v b49,u8v b50,u8v b51,u8v b52,u8v b53,u8v b54,u8v b55,u8v b56,u8v b57,u8v b58,u8v b59,u8v b60,u8v b61,u8v b62,u8v b63])])⟩)=Yrg (nv+4) [V1 h0,V1 h1,V1 h2,V1 h3,V1 h4,V1 h5,V1 h6,V1 h7,V1 1779033703,V1 3144134277,V1 1013904242,V1 2773480762,.int .u32 (Q7j (.ofNat 1359893119) (Yj7 count)),.int .u32 (Q7j (.ofNat 2600822924) (IntKind.wrap .u32 (Int.fdiv (.ofNat count) (2 ^ 32)))),.int .u32 (.ofNat 528734635),V1 1541459225] (Yrg (nv+3) [.int .u32 (Xq3 b0 b1 b2 b3),.int .u32 (Xq3 b4 b5 b6 b7),.int .u32 (Xq3 b8 b9 b10 b11),.int .u32 (Xq3 b12 b13 b14 b15),.int .u32 (Xq3 b16 b17 b18 b19),.int .u32 (Xq3 b20 b21 b22 b23),.int .u32 (Xq3 b24 b25 b26 b27),.int .u32 (Xq3 b28 b29 b30 b31),.int .u32 (Xq3 b32 b33 b34 b35),.int .u32 (Xq3 b36 b37 b38 b39),.int .u32 (Xq3 b40 b41 b42 b43),.int .u32 (Xq3 b44 b45 b46 b47),.int .u32 (Xq3 b48 b49 b50 b51),.int .u32 (Xq3 b52 b53 b54 b55),.int .u32 (Xq3 b56 b57 b58 b59),.int .u32 (Xq3 b60 b61 b62 b63)] (Qxe Tryd.prog (mkE Tryd.prog nv b) (Qdi Tryd.prog (mkE Tryd.prog nv b) Q6n 100 3) none 100 (Y2o 8 Yuc) ⟨Yh Ypx [.agg ⟨[V1 h0,V1 h1,V1 h2,V1 h3,V1 h4,V1 h5,V1 h6,V1 h7]⟩,.pointer (some ⟨nv,0,none⟩),.int .u64 (.ofNat count),.bool false],[],(Qcf nv Qbj false [(1,[u8v b0,u8v b1,u8v b2,u8v b3,u8v b4,u8v b5,u8v b6,u8v b7,u8v b8,u8v b9,u8v b10,u8v b11,u8v b12,u8v b13,u8v b14,u8v b15,u8v b16,u8v b17,u8v b18,u8v b19,u8v b20,u8v b21,u8v b22,u8v b23,u8v b24,u8v b25,u8v b26,u8v b27,u8v b28,u8v b29,u8v b30,u8v b31,u8v b32,u8v b33,u8v b34,u8v b35,u8v b36,u8v b37,u8v b38,u8v b39,u8v b40,u8v b41,u8v b42,u8v b43,u8v b44,u8v b45,u8v b46,u8v b47,u8v b48,u8v b49,u8v b50,u8v b51,u8v b52,u8v b53,u8v b54,u8v b55,u8v b56,u8v b57,u8v b58,u8v b59,u8v b60,u8v b61,u8v b62,u8v b63])])⟩)):=by kernel_rfl
theorem Yj5(b:Nat)(h0 h1 h2 h3 h4 h5 h6 h7 b0 b1 b2 b3 b4 b5 b6 b7 b8 b9 b10 b11 b12 b13 b14 b15 b16 b17 b18 b19 b20 b21 b22 b23 b24 b25 b26 b27 b28 b29 b30 b31 b32 b33 b34 b35 b36 b37 b38 b39 b40 b41 b42 b43 b44 b45 b46 b47 b48 b49 b50 b51 b52 b53 b54 b55 b56 b57 b58 b59 b60 b61 b62 b63 count:Nat) :
  Y03 ((Qdi Tryd.prog (mkE Tryd.prog nv b) Q6n 100 4).fn 50 [.agg ⟨[V1 h0,V1 h1,V1 h2,V1 h3,V1 h4,V1 h5,V1 h6,V1 h7]⟩,.pointer (some ⟨nv,0,none⟩),.int .u64 (.ofNat count),.bool false] (Qcf nv Qbj false [(1,[u8v b0,u8v b1,u8v b2,u8v b3,u8v b4,u8v b5,u8v b6,u8v b7,u8v b8,u8v b9,u8v b10,u8v b11,u8v b12,u8v b13,u8v b14,u8v b15,u8v b16,u8v b17,u8v b18,u8v b19,u8v b20,u8v b21,u8v b22,u8v b23,u8v b24,u8v b25,u8v b26,u8v b27,u8v b28,u8v b29,u8v b30,u8v b31,u8v b32,u8v b33,u8v b34,u8v b35,u8v b36,u8v b37,u8v b38,u8v b39,u8v b40,u8v b41,u8v b42,u8v b43,u8v b44,u8v b45,u8v b46,u8v b47,u8v b48,u8v b49,u8v b50,u8v b51,u8v b52,u8v b53,u8v b54,u8v b55,u8v b56,u8v b57,u8v b58,u8v b59,u8v b60,u8v b61,u8v b62,u8v b63])])) =
   ob (Ywb h0 h1 h2 h3 h4 h5 h6 h7 (Bl.xr 1359893119 (Bl.w32 count)) (Bl.xr 2600822924 (Bl.w32 (Nat.div count 4294967296))) 528734635 (Bl.le4 b0 b1 b2 b3) (Bl.le4 b4 b5 b6 b7) (Bl.le4 b8 b9 b10 b11) (Bl.le4 b12 b13 b14 b15) (Bl.le4 b16 b17 b18 b19) (Bl.le4 b20 b21 b22 b23) (Bl.le4 b24 b25 b26 b27) (Bl.le4 b28 b29 b30 b31) (Bl.le4 b32 b33 b34 b35) (Bl.le4 b36 b37 b38 b39) (Bl.le4 b40 b41 b42 b43) (Bl.le4 b44 b45 b46 b47) (Bl.le4 b48 b49 b50 b51) (Bl.le4 b52 b53 b54 b55) (Bl.le4 b56 b57 b58 b59) (Bl.le4 b60 b61 b62 b63)) (Y92 h0 h1 h2 h3 h4 h5 h6 h7):=by
 have e12:Value.int .u32 (Q7j (.ofNat 1359893119) (Yj7 count))=V1 (Bl.xr 1359893119 (Bl.w32 count)):=by rw[X6z,Qti];rfl
 have e13:Value.int .u32 (Q7j (.ofNat 2600822924) (IntKind.wrap .u32 (Int.fdiv (.ofNat count) (2 ^ 32))))=V1 (Bl.xr 2600822924 (Bl.w32 (Nat.div count 4294967296))):=by rw[Yr3,Qg2];exact congrArg (Value.int .u32) (Qti _ _)
 have e14:Value.int .u32 (.ofNat 528734635)=V1 528734635:=by first | rfl | (rw[Qti];rfl)
 rw[Yqz (n0:=8) (F:=Ypx) (c:=Yuc) (by kernel_rfl) (by kernel_rfl) (by kernel_rfl) (by kernel_rfl) (by kernel_rfl),Yfr,e12,e13,e14]
 simp only[Ys8]
 show _=_
 kernel_rfl
theorem Yut{A:Type}(a b c d x y:Nat)(K:Nat→Nat→Nat→Nat→Option (List Nat))(f:List Nat→Option A):ob (Bl.stir a b c d x y K) f=Bl.stir a b c d x y (fun a b c d=>ob (K a b c d) f):=rfl
theorem Y8d(p0 p1 p2 p3 p4 p5 p6 p7 p8 p9 p10 p11 p12 p13 p14 p15 x y:Nat):Q9n [0,4,8,12] [p0,p1,p2,p3,p4,p5,p6,p7,p8,p9,p10,p11,p12,p13,p14,p15] x y=Bl.stir p0 p4 p8 p12 x y fun p0 p4 p8 p12=>some [p0,p1,p2,p3,p4,p5,p6,p7,p8,p9,p10,p11,p12,p13,p14,p15]:=rfl
theorem Y78(p0 p1 p2 p3 p4 p5 p6 p7 p8 p9 p10 p11 p12 p13 p14 p15 x y:Nat):Q9n [1,5,9,13] [p0,p1,p2,p3,p4,p5,p6,p7,p8,p9,p10,p11,p12,p13,p14,p15] x y=Bl.stir p1 p5 p9 p13 x y fun p1 p5 p9 p13=>some [p0,p1,p2,p3,p4,p5,p6,p7,p8,p9,p10,p11,p12,p13,p14,p15]:=rfl
theorem Y7p(p0 p1 p2 p3 p4 p5 p6 p7 p8 p9 p10 p11 p12 p13 p14 p15 x y:Nat):Q9n [2,6,10,14] [p0,p1,p2,p3,p4,p5,p6,p7,p8,p9,p10,p11,p12,p13,p14,p15] x y=Bl.stir p2 p6 p10 p14 x y fun p2 p6 p10 p14=>some [p0,p1,p2,p3,p4,p5,p6,p7,p8,p9,p10,p11,p12,p13,p14,p15]:=rfl
theorem Y82(p0 p1 p2 p3 p4 p5 p6 p7 p8 p9 p10 p11 p12 p13 p14 p15 x y:Nat):Q9n [3,7,11,15] [p0,p1,p2,p3,p4,p5,p6,p7,p8,p9,p10,p11,p12,p13,p14,p15] x y=Bl.stir p3 p7 p11 p15 x y fun p3 p7 p11 p15=>some [p0,p1,p2,p3,p4,p5,p6,p7,p8,p9,p10,p11,p12,p13,p14,p15]:=rfl
theorem Y76(p0 p1 p2 p3 p4 p5 p6 p7 p8 p9 p10 p11 p12 p13 p14 p15 x y:Nat):Q9n [0,5,10,15] [p0,p1,p2,p3,p4,p5,p6,p7,p8,p9,p10,p11,p12,p13,p14,p15] x y=Bl.stir p0 p5 p10 p15 x y fun p0 p5 p10 p15=>some [p0,p1,p2,p3,p4,p5,p6,p7,p8,p9,p10,p11,p12,p13,p14,p15]:=rfl
theorem Y7i(p0 p1 p2 p3 p4 p5 p6 p7 p8 p9 p10 p11 p12 p13 p14 p15 x y:Nat):Q9n [1,6,11,12] [p0,p1,p2,p3,p4,p5,p6,p7,p8,p9,p10,p11,p12,p13,p14,p15] x y=Bl.stir p1 p6 p11 p12 x y fun p1 p6 p11 p12=>some [p0,p1,p2,p3,p4,p5,p6,p7,p8,p9,p10,p11,p12,p13,p14,p15]:=rfl
theorem Y81(p0 p1 p2 p3 p4 p5 p6 p7 p8 p9 p10 p11 p12 p13 p14 p15 x y:Nat):Q9n [2,7,8,13] [p0,p1,p2,p3,p4,p5,p6,p7,p8,p9,p10,p11,p12,p13,p14,p15] x y=Bl.stir p2 p7 p8 p13 x y fun p2 p7 p8 p13=>some [p0,p1,p2,p3,p4,p5,p6,p7,p8,p9,p10,p11,p12,p13,p14,p15]:=rfl
theorem Y73(p0 p1 p2 p3 p4 p5 p6 p7 p8 p9 p10 p11 p12 p13 p14 p15 x y:Nat):Q9n [3,4,9,14] [p0,p1,p2,p3,p4,p5,p6,p7,p8,p9,p10,p11,p12,p13,p14,p15] x y=Bl.stir p3 p4 p9 p14 x y fun p3 p4 p9 p14=>some [p0,p1,p2,p3,p4,p5,p6,p7,p8,p9,p10,p11,p12,p13,p14,p15]:=rfl
theorem Yvz(p0 p1 p2 p3 p4 p5 p6 p7 p8 p9 p10 p11 p12 p13 p14 p15 x0 x1 x2 x3 x4 x5 x6 x7 x8 x9 x10 x11 x12 x13 x14 x15:Nat):Qdb [p0,p1,p2,p3,p4,p5,p6,p7,p8,p9,p10,p11,p12,p13,p14,p15] x0 x1 x2 x3 x4 x5 x6 x7 x8 x9 x10 x11 x12 x13 x14 x15=Bl.round p0 p1 p2 p3 p4 p5 p6 p7 p8 p9 p10 p11 p12 p13 p14 p15 x0 x1 x2 x3 x4 x5 x6 x7 x8 x9 x10 x11 x12 x13 x14 x15 fun p0 p1 p2 p3 p4 p5 p6 p7 p8 p9 p10 p11 p12 p13 p14 p15=>some [p0,p1,p2,p3,p4,p5,p6,p7,p8,p9,p10,p11,p12,p13,p14,p15]:=by
 simp only[Qdb,Bl.round,Yut,ob_some,Y8d,Y78,Y7p,Y82,Y76,Y7i,Y81,Y73]
theorem Yzj{A:Type}(p0 p1 p2 p3 p4 p5 p6 p7 p8 p9 p10 p11 p12 p13 p14 p15 x0 x1 x2 x3 x4 x5 x6 x7 x8 x9 x10 x11 x12 x13 x14 x15:Nat)(K:Nat→Nat→Nat→Nat→Nat→Nat→Nat→Nat→Nat→Nat→Nat→Nat→Nat→Nat→Nat→Nat→Option (List Nat))(f:List Nat→Option A):ob (Bl.round p0 p1 p2 p3 p4 p5 p6 p7 p8 p9 p10 p11 p12 p13 p14 p15 x0 x1 x2 x3 x4 x5 x6 x7 x8 x9 x10 x11 x12 x13 x14 x15 K) f=Bl.round p0 p1 p2 p3 p4 p5 p6 p7 p8 p9 p10 p11 p12 p13 p14 p15 x0 x1 x2 x3 x4 x5 x6 x7 x8 x9 x10 x11 x12 x13 x14 x15 (fun p0 p1 p2 p3 p4 p5 p6 p7 p8 p9 p10 p11 p12 p13 p14 p15=>ob (K p0 p1 p2 p3 p4 p5 p6 p7 p8 p9 p10 p11 p12 p13 p14 p15) f):=by
 simp only[Bl.round,Yut]
theorem Y26{A B C:Type}(x:Option A)(g:A→Option B)(f:B→Option C):ob (ob x g) f=ob x (fun a=>ob (g a) f):=by cases x <;> rfl
theorem Yy1{A:Type}(R:Nat→Nat→Nat→Nat→Nat→Nat→Nat→Nat→Nat→Nat→Nat→Nat→Nat→Nat→Nat→Nat→Nat→Nat→Nat→Nat→Nat→Nat→Nat→Nat→Nat→Nat→Nat→Nat→Nat→Nat→Nat→Nat→(Nat→Nat→Nat→Nat→Nat→Nat→Nat→Nat→Nat→Nat→Nat→Nat→Nat→Nat→Nat→Nat→Option A)→Option A)(hR:∀ (p0 p1 p2 p3 p4 p5 p6 p7 p8 p9 p10 p11 p12 p13 p14 p15 x0 x1 x2 x3 x4 x5 x6 x7 x8 x9 x10 x11 x12 x13 x14 x15:Nat) (f:List Nat→Option A),ob (Qdb [p0,p1,p2,p3,p4,p5,p6,p7,p8,p9,p10,p11,p12,p13,p14,p15] x0 x1 x2 x3 x4 x5 x6 x7 x8 x9 x10 x11 x12 x13 x14 x15) f=R p0 p1 p2 p3 p4 p5 p6 p7 p8 p9 p10 p11 p12 p13 p14 p15 x0 x1 x2 x3 x4 x5 x6 x7 x8 x9 x10 x11 x12 x13 x14 x15 fun p0 p1 p2 p3 p4 p5 p6 p7 p8 p9 p10 p11 p12 p13 p14 p15=>f [p0,p1,p2,p3,p4,p5,p6,p7,p8,p9,p10,p11,p12,p13,p14,p15])
  (h0 h1 h2 h3 h4 h5 h6 h7 p12 p13 p14 m0 m1 m2 m3 m4 m5 m6 m7 m8 m9 m10 m11 m12 m13 m14 m15:Nat) (f:List Nat→Option A):ob (Ywb h0 h1 h2 h3 h4 h5 h6 h7 p12 p13 p14 m0 m1 m2 m3 m4 m5 m6 m7 m8 m9 m10 m11 m12 m13 m14 m15) f =
  R h0 h1 h2 h3 h4 h5 h6 h7 1779033703 3144134277 1013904242 2773480762 p12 p13 p14 1541459225 m0 m1 m2 m3 m4 m5 m6 m7 m8 m9 m10 m11 m12 m13 m14 m15 fun p0 p1 p2 p3 p4 p5 p6 p7 p8 p9 p10 p11 p12 p13 p14 p15 =>
  R p0 p1 p2 p3 p4 p5 p6 p7 p8 p9 p10 p11 p12 p13 p14 p15 m14 m10 m4 m8 m9 m15 m13 m6 m1 m12 m0 m2 m11 m7 m5 m3 fun p0 p1 p2 p3 p4 p5 p6 p7 p8 p9 p10 p11 p12 p13 p14 p15 =>
  R p0 p1 p2 p3 p4 p5 p6 p7 p8 p9 p10 p11 p12 p13 p14 p15 m11 m8 m12 m0 m5 m2 m15 m13 m10 m14 m3 m6 m7 m1 m9 m4 fun p0 p1 p2 p3 p4 p5 p6 p7 p8 p9 p10 p11 p12 p13 p14 p15 =>
  R p0 p1 p2 p3 p4 p5 p6 p7 p8 p9 p10 p11 p12 p13 p14 p15 m7 m9 m3 m1 m13 m12 m11 m14 m2 m6 m5 m10 m4 m0 m15 m8 fun p0 p1 p2 p3 p4 p5 p6 p7 p8 p9 p10 p11 p12 p13 p14 p15 =>
  R p0 p1 p2 p3 p4 p5 p6 p7 p8 p9 p10 p11 p12 p13 p14 p15 m9 m0 m5 m7 m2 m4 m10 m15 m14 m1 m11 m12 m6 m8 m3 m13 fun p0 p1 p2 p3 p4 p5 p6 p7 p8 p9 p10 p11 p12 p13 p14 p15 =>
  R p0 p1 p2 p3 p4 p5 p6 p7 p8 p9 p10 p11 p12 p13 p14 p15 m2 m12 m6 m10 m0 m11 m8 m3 m4 m13 m7 m5 m15 m14 m1 m9 fun p0 p1 p2 p3 p4 p5 p6 p7 p8 p9 p10 p11 p12 p13 p14 p15 =>
  R p0 p1 p2 p3 p4 p5 p6 p7 p8 p9 p10 p11 p12 p13 p14 p15 m12 m5 m1 m15 m14 m13 m4 m10 m0 m7 m6 m3 m9 m2 m8 m11 fun p0 p1 p2 p3 p4 p5 p6 p7 p8 p9 p10 p11 p12 p13 p14 p15 =>
  R p0 p1 p2 p3 p4 p5 p6 p7 p8 p9 p10 p11 p12 p13 p14 p15 m13 m11 m7 m14 m12 m1 m3 m9 m5 m0 m15 m4 m8 m6 m2 m10 fun p0 p1 p2 p3 p4 p5 p6 p7 p8 p9 p10 p11 p12 p13 p14 p15 =>
  R p0 p1 p2 p3 p4 p5 p6 p7 p8 p9 p10 p11 p12 p13 p14 p15 m6 m15 m14 m9 m11 m3 m0 m8 m12 m2 m13 m7 m1 m4 m10 m5 fun p0 p1 p2 p3 p4 p5 p6 p7 p8 p9 p10 p11 p12 p13 p14 p15 =>
  R p0 p1 p2 p3 p4 p5 p6 p7 p8 p9 p10 p11 p12 p13 p14 p15 m10 m2 m8 m4 m7 m6 m1 m5 m15 m11 m9 m14 m3 m12 m13 m0 fun p0 p1 p2 p3 p4 p5 p6 p7 p8 p9 p10 p11 p12 p13 p14 p15 =>
  f [p0,p1,p2,p3,p4,p5,p6,p7,p8,p9,p10,p11,p12,p13,p14,p15]:=by
 simp only[Ywb,Y26,hR]
theorem Yrp(h0 h1 h2 h3 h4 h5 h6 h7 p12 p13 p14 m0 m1 m2 m3 m4 m5 m6 m7 m8 m9 m10 m11 m12 m13 m14 m15:Nat){A:Type}(f:List Nat→Option A):ob (Ywb h0 h1 h2 h3 h4 h5 h6 h7 p12 p13 p14 m0 m1 m2 m3 m4 m5 m6 m7 m8 m9 m10 m11 m12 m13 m14 m15) f=Bl.rounds h0 h1 h2 h3 h4 h5 h6 h7 1779033703 3144134277 1013904242 2773480762 p12 p13 p14 1541459225 m0 m1 m2 m3 m4 m5 m6 m7 m8 m9 m10 m11 m12 m13 m14 m15 fun p0 p1 p2 p3 p4 p5 p6 p7 p8 p9 p10 p11 p12 p13 p14 p15=>f [p0,p1,p2,p3,p4,p5,p6,p7,p8,p9,p10,p11,p12,p13,p14,p15]:=by
 unfold Bl.rounds
 exact Yy1 (fun p0 p1 p2 p3 p4 p5 p6 p7 p8 p9 p10 p11 p12 p13 p14 p15 x0 x1 x2 x3 x4 x5 x6 x7 x8 x9 x10 x11 x12 x13 x14 x15 K=>Bl.round p0 p1 p2 p3 p4 p5 p6 p7 p8 p9 p10 p11 p12 p13 p14 p15 x0 x1 x2 x3 x4 x5 x6 x7 x8 x9 x10 x11 x12 x13 x14 x15 K) (fun p0 p1 p2 p3 p4 p5 p6 p7 p8 p9 p10 p11 p12 p13 p14 p15 x0 x1 x2 x3 x4 x5 x6 x7 x8 x9 x10 x11 x12 x13 x14 x15 f=>by rw[Yvz,Yzj];rfl) _ _ _ _ _ _ _ _ _ _ _ _ _ _ _ _ _ _ _ _ _ _ _ _ _ _ _ f
theorem Yvi(h0 h1 h2 h3 h4 h5 h6 h7 p0 p1 p2 p3 p4 p5 p6 p7 p8 p9 p10 p11 p12 p13 p14 p15:Nat):Y92 h0 h1 h2 h3 h4 h5 h6 h7 [p0,p1,p2,p3,p4,p5,p6,p7,p8,p9,p10,p11,p12,p13,p14,p15]=some (p8v ⟨Bl.xr h0 (Bl.xr p0 p8),Bl.xr h1 (Bl.xr p1 p9),Bl.xr h2 (Bl.xr p2 p10),Bl.xr h3 (Bl.xr p3 p11),Bl.xr h4 (Bl.xr p4 p12),Bl.xr h5 (Bl.xr p5 p13),Bl.xr h6 (Bl.xr p6 p14),Bl.xr h7 (Bl.xr p7 p15)⟩):=by
 simp only[Y92,Qti,p8v,V1]
theorem Yxq{A B:Type}(f:A→B)(a b c d x y:Nat)(K:Nat→Nat→Nat→Nat→A):f (Bl.stir a b c d x y K)=Bl.stir a b c d x y (fun a b c d=>f (K a b c d)):=rfl
theorem Yue{A B:Type}(f:A→B)(p0 p1 p2 p3 p4 p5 p6 p7 p8 p9 p10 p11 p12 p13 p14 p15 x0 x1 x2 x3 x4 x5 x6 x7 x8 x9 x10 x11 x12 x13 x14 x15:Nat)(K:Nat→Nat→Nat→Nat→Nat→Nat→Nat→Nat→Nat→Nat→Nat→Nat→Nat→Nat→Nat→Nat→A):f (Bl.round p0 p1 p2 p3 p4 p5 p6 p7 p8 p9 p10 p11 p12 p13 p14 p15 x0 x1 x2 x3 x4 x5 x6 x7 x8 x9 x10 x11 x12 x13 x14 x15 K)=Bl.round p0 p1 p2 p3 p4 p5 p6 p7 p8 p9 p10 p11 p12 p13 p14 p15 x0 x1 x2 x3 x4 x5 x6 x7 x8 x9 x10 x11 x12 x13 x14 x15 (fun p0 p1 p2 p3 p4 p5 p6 p7 p8 p9 p10 p11 p12 p13 p14 p15=>f (K p0 p1 p2 p3 p4 p5 p6 p7 p8 p9 p10 p11 p12 p13 p14 p15)):=by
 simp only[Bl.round,Yxq f]
theorem Yc6{A B:Type}(f:A→B)(p0 p1 p2 p3 p4 p5 p6 p7 p8 p9 p10 p11 p12 p13 p14 p15 m0 m1 m2 m3 m4 m5 m6 m7 m8 m9 m10 m11 m12 m13 m14 m15:Nat)(K:Nat→Nat→Nat→Nat→Nat→Nat→Nat→Nat→Nat→Nat→Nat→Nat→Nat→Nat→Nat→Nat→A):f (Bl.rounds p0 p1 p2 p3 p4 p5 p6 p7 p8 p9 p10 p11 p12 p13 p14 p15 m0 m1 m2 m3 m4 m5 m6 m7 m8 m9 m10 m11 m12 m13 m14 m15 K)=Bl.rounds p0 p1 p2 p3 p4 p5 p6 p7 p8 p9 p10 p11 p12 p13 p14 p15 m0 m1 m2 m3 m4 m5 m6 m7 m8 m9 m10 m11 m12 m13 m14 m15 (fun p0 p1 p2 p3 p4 p5 p6 p7 p8 p9 p10 p11 p12 p13 p14 p15=>f (K p0 p1 p2 p3 p4 p5 p6 p7 p8 p9 p10 p11 p12 p13 p14 p15)):=by
 simp only[Bl.rounds,Yue f]
theorem Yod(b:Nat)(h0 h1 h2 h3 h4 h5 h6 h7 b0 b1 b2 b3 b4 b5 b6 b7 b8 b9 b10 b11 b12 b13 b14 b15 b16 b17 b18 b19 b20 b21 b22 b23 b24 b25 b26 b27 b28 b29 b30 b31 b32 b33 b34 b35 b36 b37 b38 b39 b40 b41 b42 b43 b44 b45 b46 b47 b48 b49 b50 b51 b52 b53 b54 b55 b56 b57 b58 b59 b60 b61 b62 b63 count:Nat) :
  Y03 ((Qdi Tryd.prog (mkE Tryd.prog nv b) Q6n 100 4).fn 50 [.agg ⟨[V1 h0,V1 h1,V1 h2,V1 h3,V1 h4,V1 h5,V1 h6,V1 h7]⟩,.pointer (some ⟨nv,0,none⟩),.int .u64 (.ofNat count),.bool true] (Qcf nv Qbj false [(1,[u8v b0,u8v b1,u8v b2,u8v b3,u8v b4,u8v b5,u8v b6,u8v b7,u8v b8,u8v b9,u8v b10,u8v b11,u8v b12,u8v b13,u8v b14,u8v b15,u8v b16,u8v b17,u8v b18,u8v b19,u8v b20,u8v b21,u8v b22,u8v b23,u8v b24,u8v b25,u8v b26,u8v b27,u8v b28,u8v b29,u8v b30,u8v b31,u8v b32,u8v b33,u8v b34,u8v b35,u8v b36,u8v b37,u8v b38,u8v b39,u8v b40,u8v b41,u8v b42,u8v b43,u8v b44,u8v b45,u8v b46,u8v b47,u8v b48,u8v b49,u8v b50,u8v b51,u8v b52,u8v b53,u8v b54,u8v b55,u8v b56,u8v b57,u8v b58,u8v b59,u8v b60,u8v b61,u8v b62,u8v b63])])) =
   some (p8v (Bl.take ⟨h0,h1,h2,h3,h4,h5,h6,h7⟩ [b0,b1,b2,b3,b4,b5,b6,b7,b8,b9,b10,b11,b12,b13,b14,b15,b16,b17,b18,b19,b20,b21,b22,b23,b24,b25,b26,b27,b28,b29,b30,b31,b32,b33,b34,b35,b36,b37,b38,b39,b40,b41,b42,b43,b44,b45,b46,b47,b48,b49,b50,b51,b52,b53,b54,b55,b56,b57,b58,b59,b60,b61,b62,b63] count true)):=by
 rw[Ynu,Yrp]
 simp only[Yvi,Bl.take,Bl.words,Bl.nx]
 exact(Yc6 (fun x=>some (p8v x)) _ _ _ _ _ _ _ _ _ _ _ _ _ _ _ _ _ _ _ _ _ _ _ _ _ _ _ _ _ _ _ _ _).symm
theorem Ylt(b:Nat)(h0 h1 h2 h3 h4 h5 h6 h7 b0 b1 b2 b3 b4 b5 b6 b7 b8 b9 b10 b11 b12 b13 b14 b15 b16 b17 b18 b19 b20 b21 b22 b23 b24 b25 b26 b27 b28 b29 b30 b31 b32 b33 b34 b35 b36 b37 b38 b39 b40 b41 b42 b43 b44 b45 b46 b47 b48 b49 b50 b51 b52 b53 b54 b55 b56 b57 b58 b59 b60 b61 b62 b63 count:Nat) :
  Y03 ((Qdi Tryd.prog (mkE Tryd.prog nv b) Q6n 100 4).fn 50 [.agg ⟨[V1 h0,V1 h1,V1 h2,V1 h3,V1 h4,V1 h5,V1 h6,V1 h7]⟩,.pointer (some ⟨nv,0,none⟩),.int .u64 (.ofNat count),.bool false] (Qcf nv Qbj false [(1,[u8v b0,u8v b1,u8v b2,u8v b3,u8v b4,u8v b5,u8v b6,u8v b7,u8v b8,u8v b9,u8v b10,u8v b11,u8v b12,u8v b13,u8v b14,u8v b15,u8v b16,u8v b17,u8v b18,u8v b19,u8v b20,u8v b21,u8v b22,u8v b23,u8v b24,u8v b25,u8v b26,u8v b27,u8v b28,u8v b29,u8v b30,u8v b31,u8v b32,u8v b33,u8v b34,u8v b35,u8v b36,u8v b37,u8v b38,u8v b39,u8v b40,u8v b41,u8v b42,u8v b43,u8v b44,u8v b45,u8v b46,u8v b47,u8v b48,u8v b49,u8v b50,u8v b51,u8v b52,u8v b53,u8v b54,u8v b55,u8v b56,u8v b57,u8v b58,u8v b59,u8v b60,u8v b61,u8v b62,u8v b63])])) =
   some (p8v (Bl.take ⟨h0,h1,h2,h3,h4,h5,h6,h7⟩ [b0,b1,b2,b3,b4,b5,b6,b7,b8,b9,b10,b11,b12,b13,b14,b15,b16,b17,b18,b19,b20,b21,b22,b23,b24,b25,b26,b27,b28,b29,b30,b31,b32,b33,b34,b35,b36,b37,b38,b39,b40,b41,b42,b43,b44,b45,b46,b47,b48,b49,b50,b51,b52,b53,b54,b55,b56,b57,b58,b59,b60,b61,b62,b63] count false)):=by
 rw[Yj5,Yrp]
 simp only[Yvi,Bl.take,Bl.words,Bl.nx]
 exact(Yc6 (fun x=>some (p8v x)) _ _ _ _ _ _ _ _ _ _ _ _ _ _ _ _ _ _ _ _ _ _ _ _ _ _ _ _ _ _ _ _ _).symm
theorem Y9p{l0:List Nat}(h0:l0.length=64):∃ b0 b1 b2 b3 b4 b5 b6 b7 b8 b9 b10 b11 b12 b13 b14 b15 b16 b17 b18 b19 b20 b21 b22 b23 b24 b25 b26 b27 b28 b29 b30 b31 b32 b33 b34 b35 b36 b37 b38 b39 b40 b41 b42 b43 b44 b45 b46 b47 b48 b49 b50 b51 b52 b53 b54 b55 b56 b57 b58 b59 b60 b61 b62 b63,l0=[b0,b1,b2,b3,b4,b5,b6,b7,b8,b9,b10,b11,b12,b13,b14,b15,b16,b17,b18,b19,b20,b21,b22,b23,b24,b25,b26,b27,b28,b29,b30,b31,b32,b33,b34,b35,b36,b37,b38,b39,b40,b41,b42,b43,b44,b45,b46,b47,b48,b49,b50,b51,b52,b53,b54,b55,b56,b57,b58,b59,b60,b61,b62,b63]:=by
 obtain⟨b0,l1,rfl,h1⟩:=Vu h0
 obtain⟨b1,l2,rfl,h2⟩:=Vu h1
 obtain⟨b2,l3,rfl,h3⟩:=Vu h2
 obtain⟨b3,l4,rfl,h4⟩:=Vu h3
 obtain⟨b4,l5,rfl,h5⟩:=Vu h4
 obtain⟨b5,l6,rfl,h6⟩:=Vu h5
 obtain⟨b6,l7,rfl,h7⟩:=Vu h6
 obtain⟨b7,l8,rfl,h8⟩:=Vu h7
 obtain⟨b8,l9,rfl,h9⟩:=Vu h8
 obtain⟨b9,l10,rfl,h10⟩:=Vu h9
 obtain⟨b10,l11,rfl,h11⟩:=Vu h10
 obtain⟨b11,l12,rfl,h12⟩:=Vu h11
 obtain⟨b12,l13,rfl,h13⟩:=Vu h12
 obtain⟨b13,l14,rfl,h14⟩:=Vu h13
 obtain⟨b14,l15,rfl,h15⟩:=Vu h14
 obtain⟨b15,l16,rfl,h16⟩:=Vu h15
 obtain⟨b16,l17,rfl,h17⟩:=Vu h16
 obtain⟨b17,l18,rfl,h18⟩:=Vu h17
 obtain⟨b18,l19,rfl,h19⟩:=Vu h18
 obtain⟨b19,l20,rfl,h20⟩:=Vu h19
 obtain⟨b20,l21,rfl,h21⟩:=Vu h20
 obtain⟨b21,l22,rfl,h22⟩:=Vu h21
 obtain⟨b22,l23,rfl,h23⟩:=Vu h22
 obtain⟨b23,l24,rfl,h24⟩:=Vu h23
 obtain⟨b24,l25,rfl,h25⟩:=Vu h24
 obtain⟨b25,l26,rfl,h26⟩:=Vu h25
 obtain⟨b26,l27,rfl,h27⟩:=Vu h26
 obtain⟨b27,l28,rfl,h28⟩:=Vu h27
 obtain⟨b28,l29,rfl,h29⟩:=Vu h28
 obtain⟨b29,l30,rfl,h30⟩:=Vu h29
 obtain⟨b30,l31,rfl,h31⟩:=Vu h30
 obtain⟨b31,l32,rfl,h32⟩:=Vu h31
 obtain⟨b32,l33,rfl,h33⟩:=Vu h32
 obtain⟨b33,l34,rfl,h34⟩:=Vu h33
 obtain⟨b34,l35,rfl,h35⟩:=Vu h34
 obtain⟨b35,l36,rfl,h36⟩:=Vu h35
 obtain⟨b36,l37,rfl,h37⟩:=Vu h36
 obtain⟨b37,l38,rfl,h38⟩:=Vu h37
 obtain⟨b38,l39,rfl,h39⟩:=Vu h38
 obtain⟨b39,l40,rfl,h40⟩:=Vu h39
 obtain⟨b40,l41,rfl,h41⟩:=Vu h40
 obtain⟨b41,l42,rfl,h42⟩:=Vu h41
 obtain⟨b42,l43,rfl,h43⟩:=Vu h42
 obtain⟨b43,l44,rfl,h44⟩:=Vu h43
 obtain⟨b44,l45,rfl,h45⟩:=Vu h44
 obtain⟨b45,l46,rfl,h46⟩:=Vu h45
 obtain⟨b46,l47,rfl,h47⟩:=Vu h46
 obtain⟨b47,l48,rfl,h48⟩:=Vu h47
 obtain⟨b48,l49,rfl,h49⟩:=Vu h48
 obtain⟨b49,l50,rfl,h50⟩:=Vu h49
 obtain⟨b50,l51,rfl,h51⟩:=Vu h50
 obtain⟨b51,l52,rfl,h52⟩:=Vu h51
 obtain⟨b52,l53,rfl,h53⟩:=Vu h52
 obtain⟨b53,l54,rfl,h54⟩:=Vu h53
 obtain⟨b54,l55,rfl,h55⟩:=Vu h54
 obtain⟨b55,l56,rfl,h56⟩:=Vu h55
 obtain⟨b56,l57,rfl,h57⟩:=Vu h56
 obtain⟨b57,l58,rfl,h58⟩:=Vu h57
 obtain⟨b58,l59,rfl,h59⟩:=Vu h58
 obtain⟨b59,l60,rfl,h60⟩:=Vu h59
 obtain⟨b60,l61,rfl,h61⟩:=Vu h60
 obtain⟨b61,l62,rfl,h62⟩:=Vu h61
 obtain⟨b62,l63,rfl,h63⟩:=Vu h62
 obtain⟨b63,l64,rfl,h64⟩:=Vu h63
 have e:=List.eq_nil_of_length_eq_zero h64
 subst e
 exact⟨_,_,_,_,_,_,_,_,_,_,_,_,_,_,_,_,_,_,_,_,_,_,_,_,_,_,_,_,_,_,_,_,_,_,_,_,_,_,_,_,_,_,_,_,_,_,_,_,_,_,_,_,_,_,_,_,_,_,_,_,_,_,_,_,rfl⟩
theorem Y2x(b:Nat)(h0 h1 h2 h3 h4 h5 h6 h7 count:Nat)(l:List Nat)(hl:l.length=64)(last:Bool) :
  Y03 ((Qdi Tryd.prog (mkE Tryd.prog nv b) Q6n 100 4).fn 50 [.agg ⟨[V1 h0,V1 h1,V1 h2,V1 h3,V1 h4,V1 h5,V1 h6,V1 h7]⟩,.pointer (some ⟨nv,0,none⟩),.int .u64 (.ofNat count),.bool last] (Qcf nv Qbj false [(1,l.map u8v)])) =
   some (p8v (Bl.take ⟨h0,h1,h2,h3,h4,h5,h6,h7⟩ l count last)):=by
 obtain⟨b0,b1,b2,b3,b4,b5,b6,b7,b8,b9,b10,b11,b12,b13,b14,b15,b16,b17,b18,b19,b20,b21,b22,b23,b24,b25,b26,b27,b28,b29,b30,b31,b32,b33,b34,b35,b36,b37,b38,b39,b40,b41,b42,b43,b44,b45,b46,b47,b48,b49,b50,b51,b52,b53,b54,b55,b56,b57,b58,b59,b60,b61,b62,b63,rfl⟩:=Y9p hl
 cases last with
 | true=>exact Yod b h0 h1 h2 h3 h4 h5 h6 h7 b0 b1 b2 b3 b4 b5 b6 b7 b8 b9 b10 b11 b12 b13 b14 b15 b16 b17 b18 b19 b20 b21 b22 b23 b24 b25 b26 b27 b28 b29 b30 b31 b32 b33 b34 b35 b36 b37 b38 b39 b40 b41 b42 b43 b44 b45 b46 b47 b48 b49 b50 b51 b52 b53 b54 b55 b56 b57 b58 b59 b60 b61 b62 b63 count
 | false=>exact Ylt b h0 h1 h2 h3 h4 h5 h6 h7 b0 b1 b2 b3 b4 b5 b6 b7 b8 b9 b10 b11 b12 b13 b14 b15 b16 b17 b18 b19 b20 b21 b22 b23 b24 b25 b26 b27 b28 b29 b30 b31 b32 b33 b34 b35 b36 b37 b38 b39 b40 b41 b42 b43 b44 b45 b46 b47 b48 b49 b50 b51 b52 b53 b54 b55 b56 b57 b58 b59 b60 b61 b62 b63 count
def Yyw:Q6i:=fun f args h=>bq (Nat.beq f 50) (match args with
 | [.agg ⟨hv⟩,p,.int .u64 (.ofNat count),.bool last]=>ob (Y6c hv) fun hl=>ob (Yh3 h p) fun q=>ob (u8s q.2) fun bl=>bq (Nat.beq bl.length 64) (bq (Y20 h Qbj) (ob (Zab hl) fun h8=>some (.ret (p8v (Bl.take h8 bl count last)),h)) none) none
 | _=>none) none
theorem X90:∀ x ∈ Qbj,x.2 ≠ []∧Xt4 x.2:=by
 intro x hx
 rcases List.mem_cons.1 hx with rfl | hx
 ·exact⟨by simp[Qh7],Xkg (by kernel_rfl)⟩
 ·rcases List.mem_cons.1 hx with rfl | hx
  ·exact⟨by simp[Qx1],Xkg (by kernel_rfl)⟩
  ·cases hx
theorem Y01(b:Nat):Qna Tryd.prog ⟨nv,b⟩ Yyw:=by
 intro f args h r h' hx
 unfold Yyw at hx
 obtain⟨hf,hx⟩:=Qlk hx
 have hf:=Nat.eq_of_beq_eq_true hf
 subst hf
 split at hx
 ·rename_i hv p count last hq
  obtain⟨hl,h1,hx⟩:=Qam hx
  obtain⟨⟨blk,cs⟩,h2,hx⟩:=Qam hx
  obtain⟨bl,h3,hx⟩:=Qam hx
  obtain⟨h4,hx⟩:=Qlk hx
  obtain⟨h5,hx⟩:=Qlk hx
  obtain⟨h8,h6,hx⟩:=Qam hx
  cases hx
  have e1:=X94 h1
  subst e1
  have e0:Value.agg {toList:=List.map V1 hl}=p8v h8:=Y6g h6
  obtain⟨rfl,hg⟩:=Q68 h2
  have e2:=Y2w h3
  simp only at e2 hg
  subst e2
  rw[e0]
  refine Xwh (k:=100) (m:=4) mixed Yl3 Ygh (fun b=>Y2x b h8.h0 h8.h1 h8.h2 h8.h3 h8.h4 h8.h5 h8.h6 h8.h7 count bl (Nat.eq_of_beq_eq_true h4) last) rfl (Yi8 h5) X90 (bs:=[blk]) rfl (by simp) (fun k d r hd hr => ?_)
   (Ys (Jl rfl) (Ys (Qtq _ _) (Ys (Jl rfl) (Ys (Jl rfl) Qay))))
  cases k with
  | zero=>simp at hd hr;subst hd;subst hr;exact⟨hg,Yrs _⟩
  | succ k=>simp at hd
 ·cases hx
theorem Yw5:Qth Yyw:=by
 intro f args h r h' hx
 unfold Yyw at hx
 obtain⟨hf,hx⟩:=Qlk hx
 split at hx
 ·obtain⟨hl,h1,hx⟩:=Qam hx
  obtain⟨⟨blk,cs⟩,h2,hx⟩:=Qam hx
  obtain⟨bl,h3,hx⟩:=Qam hx
  obtain⟨h4,hx⟩:=Qlk hx
  obtain⟨h5,hx⟩:=Qlk hx
  obtain⟨h8,h6,hx⟩:=Qam hx
  cases hx;exact LowOK.refl _
 ·cases hx
end Go.Proofs.YtcokebbiblnonaaDoor
end
noncomputable section
namespace Go.Proofs.YtcokebbiblnonaaDoor
open Go Go.Ab
set_option maxRecDepth 1000000
theorem Yfj(b:Nat):Y03 ((Qdi Tryd.prog (mkE Tryd.prog nv b) Yyw 10000 30).fn 9 [] (Qcf nv Qbj false []))=some (.bool true):=by kernel_rfl
end Go.Proofs.YtcokebbiblnonaaDoor
end
noncomputable section
namespace Go.Ab
variable{P:Program}{E:Env2 P}{C:CallP}{rd:Option Nat}{D0:CallF}
theorem kNN(F:St→Prop)(K:Exit→St→Prop)(s:St):X4w F K .normal s=F s:=Eq.trans rfl rfl
theorem kNP(F:St→Prop)(K:Exit→St→Prop)(ch:List PanicEntry)(s:St):X4w F K (.panic ch) s=K (.panic ch) s:=Eq.trans rfl rfl
theorem kRR(d:Option Tmp)(s:St)(K:Exit→St→Prop)(v:Value)(h:Heap):Y6v d s K (.ret v) h=K .normal (s.put d v h):=Eq.trans rfl rfl
theorem kRP(d:Option Tmp)(s:St)(K:Exit→St→Prop)(ch:List PanicEntry)(h:Heap):Y6v d s K (.panic ch) h=K (.panic ch) {s with h:=h}:=Eq.trans rfl rfl
theorem kTN(F:St→Prop)(K:Exit→St→Prop)(s:St):Xn7 F K .normal s=F s:=Eq.trans rfl rfl
theorem kTR(F:St→Prop)(K:Exit→St→Prop)(s:St):Xn7 F K .ret s=K .ret s:=Eq.trans rfl rfl
theorem kTX(F:St→Prop)(K:Exit→St→Prop)(id:Nat)(s:St):Xn7 F K (.exit id) s=K (.exit id) s:=Eq.trans rfl rfl
theorem kTP(F:St→Prop)(K:Exit→St→Prop)(ch:List PanicEntry)(s:St):Xn7 F K (.panic ch) s=K (.panic ch) s:=Eq.trans rfl rfl
theorem kBN(id:Nat)(K:Exit→St→Prop)(s:St):Qya id K .normal s=K .normal s:=Eq.trans rfl rfl
theorem kBR(id:Nat)(K:Exit→St→Prop)(s:St):Qya id K .ret s=K .ret s:=Eq.trans rfl rfl
theorem kBP(id:Nat)(K:Exit→St→Prop)(ch:List PanicEntry)(s:St):Qya id K (.panic ch) s=K (.panic ch) s:=Eq.trans rfl rfl
theorem kBX(id id':Nat)(K:Exit→St→Prop)(s:St):Qya id K (.exit id') s=if id'=id then K .normal s else K (.exit id') s:=Eq.trans rfl rfl
theorem kAM(y:Code)(K:Exit→St→Prop)(t:Tm)(ds:List Deferred)(h:Heap):Y6y E C D0 rd y K ⟨t,ds,h⟩=Wt E C D0 rd y ⟨t,ds,h⟩ K:=Eq.trans rfl rfl
theorem kEN(D:Qmc)(fn:Func)(K:AEnd→Heap→Prop)(s:St):X1u E D fn K .normal s=Xaa E D fn K .returning s:=Eq.trans rfl rfl
theorem kER(D:Qmc)(fn:Func)(K:AEnd→Heap→Prop)(s:St):X1u E D fn K .ret s=Xaa E D fn K .returning s:=Eq.trans rfl rfl
theorem kON(ops:List Oper)(K:Exit→St→Prop)(t:Tm)(ds:List Deferred)(h:Heap):Xx4 E C rd ops K [] ⟨t,ds,h⟩=K .normal ⟨t,ds,h⟩:=Eq.trans rfl rfl
theorem kOC(ops:List Oper)(K:Exit→St→Prop)(o:Oper)(r:List Oper)(t:Tm)(ds:List Deferred)(h:Heap):Xx4 E C rd ops K (o::r) ⟨t,ds,h⟩ =
 (match Qh ops t o with
  | some true=>Yi E C rd o ⟨t,ds,h⟩ (X4w (Xx4 E C rd ops K r) K)
  | some false=>if Qf9 ⟨t,ds,h⟩ o.dst then Xx4 E C rd ops K r (St.put ⟨t,ds,h⟩ o.dst Qu h)else False
  | none=>False):=Eq.trans rfl rfl
theorem kCS(s:St)(K:Exit→St→Prop):Wt E C D0 rd .skip s K=K .normal s:=Eq.trans rfl rfl
theorem kCR(s:St)(K:Exit→St→Prop):Wt E C D0 rd .ret s K=K .ret s:=Eq.trans rfl rfl
theorem kCE(id:Nat)(s:St)(K:Exit→St→Prop):Wt E C D0 rd (.exit id) s K=K (.exit id) s:=Eq.trans rfl rfl
end Go.Ab
end
