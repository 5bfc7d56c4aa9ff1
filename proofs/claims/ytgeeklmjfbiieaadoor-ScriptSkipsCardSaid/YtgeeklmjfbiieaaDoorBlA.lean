/-
  What the symbolic proofs stand on: the program's environment, and that what is proved of calls is known.
-/
import Derived.Test.YtgeeklmjfbiieaaDoorAbG
import Derived.Test.YtgeeklmjfbiieaaDoorProg
import Derived.Test.YtgeeklmjfbiieaaDoorAbF
set_option linter.all false
noncomputable section
namespace Go.Proofs.YtgeeklmjfbiieaaDoor
open Go Go.Ab
set_option maxRecDepth 100000
def nv:Nat:=3
abbrev E(b:Nat):Env2 Tryd.prog:=mkE Tryd.prog nv b
noncomputable def J2(f:Nat):Code:=((Tryd.prog.funcs[f]?).bind (·.body)).getD .skip
theorem Vm:Tryd.prog.follows .mixedOrders=true:=by kernel_rfl
def D0(b:Nat):CallF:=Xd2 (E b) Xay 100 0
theorem Wp(b:Nat):CallsSound Tryd.prog (E b).G (D0 b):=Xh3 (E b) (Qjd _) Qev Vm 100 0
theorem V2(b:Nat):CallsLow (D0 b):=Q9u (E b) Qev 100 0
def DD(b:Nat):Qdo:=Qrp (E b) (D0 b) 100
theorem Wv(b:Nat):Qf2 Tryd.prog (E b).G (DD b):=Xj8 (E b) (Wp b) (V2 b) Vm
theorem Qak(b:Nat):Qud (DD b):=Xfn (V2 b)
end Go.Proofs.YtgeeklmjfbiieaaDoor
end
noncomputable section
namespace Go.Proofs.YtgeeklmjfbiieaaDoor
open Go Go.Ab
set_option maxRecDepth 1000000
theorem Xws(b:Nat)(p0 p1 p2 p3 p4 p5 p6 p7 p8 p9 p10 p11 p12 p13 p14 p15 x y:Nat) :
  Qu1 nv ((Ud Tryd.prog (mkE Tryd.prog nv b) Xay 100 4).fn 165 [.pointer (some ⟨nv,0,none⟩),Qe2 0,Qe2 4,Qe2 8,Qe2 12,.agg #[Yx x,Yx y]] (Vt nv [] true [(1,([p0,p1,p2,p3,p4,p5,p6,p7,p8,p9,p10,p11,p12,p13,p14,p15]:List Nat).map Yx)])) =
   some (.tuple #[],Qte (.ofNat p0) (.ofNat p4) (.ofNat p8) (.ofNat p12) (.ofNat x) 16 20 fun a b c d=>Qte a b c d (.ofNat y) 24 25 fun a b c d=>[.int .u32 a,Yx p1,Yx p2,Yx p3,.int .u32 b,Yx p5,Yx p6,Yx p7,.int .u32 c,Yx p9,Yx p10,Yx p11,.int .u32 d,Yx p13,Yx p14,Yx p15]):=by kernel_rfl
theorem Xw4(b:Nat)(p0 p1 p2 p3 p4 p5 p6 p7 p8 p9 p10 p11 p12 p13 p14 p15 x y:Nat) :
  Qu1 nv ((Ud Tryd.prog (mkE Tryd.prog nv b) Xay 100 4).fn 165 [.pointer (some ⟨nv,0,none⟩),Qe2 1,Qe2 5,Qe2 9,Qe2 13,.agg #[Yx x,Yx y]] (Vt nv [] true [(1,([p0,p1,p2,p3,p4,p5,p6,p7,p8,p9,p10,p11,p12,p13,p14,p15]:List Nat).map Yx)])) =
   some (.tuple #[],Qte (.ofNat p1) (.ofNat p5) (.ofNat p9) (.ofNat p13) (.ofNat x) 16 20 fun a b c d=>Qte a b c d (.ofNat y) 24 25 fun a b c d=>[Yx p0,.int .u32 a,Yx p2,Yx p3,Yx p4,.int .u32 b,Yx p6,Yx p7,Yx p8,.int .u32 c,Yx p10,Yx p11,Yx p12,.int .u32 d,Yx p14,Yx p15]):=by kernel_rfl
theorem Xx8(b:Nat)(p0 p1 p2 p3 p4 p5 p6 p7 p8 p9 p10 p11 p12 p13 p14 p15 x y:Nat) :
  Qu1 nv ((Ud Tryd.prog (mkE Tryd.prog nv b) Xay 100 4).fn 165 [.pointer (some ⟨nv,0,none⟩),Qe2 2,Qe2 6,Qe2 10,Qe2 14,.agg #[Yx x,Yx y]] (Vt nv [] true [(1,([p0,p1,p2,p3,p4,p5,p6,p7,p8,p9,p10,p11,p12,p13,p14,p15]:List Nat).map Yx)])) =
   some (.tuple #[],Qte (.ofNat p2) (.ofNat p6) (.ofNat p10) (.ofNat p14) (.ofNat x) 16 20 fun a b c d=>Qte a b c d (.ofNat y) 24 25 fun a b c d=>[Yx p0,Yx p1,.int .u32 a,Yx p3,Yx p4,Yx p5,.int .u32 b,Yx p7,Yx p8,Yx p9,.int .u32 c,Yx p11,Yx p12,Yx p13,.int .u32 d,Yx p15]):=by kernel_rfl
theorem Xxa(b:Nat)(p0 p1 p2 p3 p4 p5 p6 p7 p8 p9 p10 p11 p12 p13 p14 p15 x y:Nat) :
  Qu1 nv ((Ud Tryd.prog (mkE Tryd.prog nv b) Xay 100 4).fn 165 [.pointer (some ⟨nv,0,none⟩),Qe2 3,Qe2 7,Qe2 11,Qe2 15,.agg #[Yx x,Yx y]] (Vt nv [] true [(1,([p0,p1,p2,p3,p4,p5,p6,p7,p8,p9,p10,p11,p12,p13,p14,p15]:List Nat).map Yx)])) =
   some (.tuple #[],Qte (.ofNat p3) (.ofNat p7) (.ofNat p11) (.ofNat p15) (.ofNat x) 16 20 fun a b c d=>Qte a b c d (.ofNat y) 24 25 fun a b c d=>[Yx p0,Yx p1,Yx p2,.int .u32 a,Yx p4,Yx p5,Yx p6,.int .u32 b,Yx p8,Yx p9,Yx p10,.int .u32 c,Yx p12,Yx p13,Yx p14,.int .u32 d]):=by kernel_rfl
theorem Xwg(b:Nat)(p0 p1 p2 p3 p4 p5 p6 p7 p8 p9 p10 p11 p12 p13 p14 p15 x y:Nat) :
  Qu1 nv ((Ud Tryd.prog (mkE Tryd.prog nv b) Xay 100 4).fn 165 [.pointer (some ⟨nv,0,none⟩),Qe2 0,Qe2 5,Qe2 10,Qe2 15,.agg #[Yx x,Yx y]] (Vt nv [] true [(1,([p0,p1,p2,p3,p4,p5,p6,p7,p8,p9,p10,p11,p12,p13,p14,p15]:List Nat).map Yx)])) =
   some (.tuple #[],Qte (.ofNat p0) (.ofNat p5) (.ofNat p10) (.ofNat p15) (.ofNat x) 16 20 fun a b c d=>Qte a b c d (.ofNat y) 24 25 fun a b c d=>[.int .u32 a,Yx p1,Yx p2,Yx p3,Yx p4,.int .u32 b,Yx p6,Yx p7,Yx p8,Yx p9,.int .u32 c,Yx p11,Yx p12,Yx p13,Yx p14,.int .u32 d]):=by kernel_rfl
theorem Xvk(b:Nat)(p0 p1 p2 p3 p4 p5 p6 p7 p8 p9 p10 p11 p12 p13 p14 p15 x y:Nat) :
  Qu1 nv ((Ud Tryd.prog (mkE Tryd.prog nv b) Xay 100 4).fn 165 [.pointer (some ⟨nv,0,none⟩),Qe2 1,Qe2 6,Qe2 11,Qe2 12,.agg #[Yx x,Yx y]] (Vt nv [] true [(1,([p0,p1,p2,p3,p4,p5,p6,p7,p8,p9,p10,p11,p12,p13,p14,p15]:List Nat).map Yx)])) =
   some (.tuple #[],Qte (.ofNat p1) (.ofNat p6) (.ofNat p11) (.ofNat p12) (.ofNat x) 16 20 fun a b c d=>Qte a b c d (.ofNat y) 24 25 fun a b c d=>[Yx p0,.int .u32 a,Yx p2,Yx p3,Yx p4,Yx p5,.int .u32 b,Yx p7,Yx p8,Yx p9,Yx p10,.int .u32 c,.int .u32 d,Yx p13,Yx p14,Yx p15]):=by kernel_rfl
theorem Xvz(b:Nat)(p0 p1 p2 p3 p4 p5 p6 p7 p8 p9 p10 p11 p12 p13 p14 p15 x y:Nat) :
  Qu1 nv ((Ud Tryd.prog (mkE Tryd.prog nv b) Xay 100 4).fn 165 [.pointer (some ⟨nv,0,none⟩),Qe2 2,Qe2 7,Qe2 8,Qe2 13,.agg #[Yx x,Yx y]] (Vt nv [] true [(1,([p0,p1,p2,p3,p4,p5,p6,p7,p8,p9,p10,p11,p12,p13,p14,p15]:List Nat).map Yx)])) =
   some (.tuple #[],Qte (.ofNat p2) (.ofNat p7) (.ofNat p8) (.ofNat p13) (.ofNat x) 16 20 fun a b c d=>Qte a b c d (.ofNat y) 24 25 fun a b c d=>[Yx p0,Yx p1,.int .u32 a,Yx p3,Yx p4,Yx p5,Yx p6,.int .u32 b,.int .u32 c,Yx p9,Yx p10,Yx p11,Yx p12,.int .u32 d,Yx p14,Yx p15]):=by kernel_rfl
theorem Xve(b:Nat)(p0 p1 p2 p3 p4 p5 p6 p7 p8 p9 p10 p11 p12 p13 p14 p15 x y:Nat) :
  Qu1 nv ((Ud Tryd.prog (mkE Tryd.prog nv b) Xay 100 4).fn 165 [.pointer (some ⟨nv,0,none⟩),Qe2 3,Qe2 4,Qe2 9,Qe2 14,.agg #[Yx x,Yx y]] (Vt nv [] true [(1,([p0,p1,p2,p3,p4,p5,p6,p7,p8,p9,p10,p11,p12,p13,p14,p15]:List Nat).map Yx)])) =
   some (.tuple #[],Qte (.ofNat p3) (.ofNat p4) (.ofNat p9) (.ofNat p14) (.ofNat x) 16 20 fun a b c d=>Qte a b c d (.ofNat y) 24 25 fun a b c d=>[Yx p0,Yx p1,Yx p2,.int .u32 a,.int .u32 b,Yx p5,Yx p6,Yx p7,Yx p8,.int .u32 c,Yx p10,Yx p11,Yx p12,Yx p13,.int .u32 d,Yx p15]):=by kernel_rfl
def Qow(ix l:List Nat)(x y:Nat):Option (List Nat):=match l with
 | [p0,p1,p2,p3,p4,p5,p6,p7,p8,p9,p10,p11,p12,p13,p14,p15] =>
  bq (eqN ix [0,4,8,12]) (some (Bl.stir p0 p4 p8 p12 x y fun p0 p4 p8 p12=>[p0,p1,p2,p3,p4,p5,p6,p7,p8,p9,p10,p11,p12,p13,p14,p15])) <|
  bq (eqN ix [1,5,9,13]) (some (Bl.stir p1 p5 p9 p13 x y fun p1 p5 p9 p13=>[p0,p1,p2,p3,p4,p5,p6,p7,p8,p9,p10,p11,p12,p13,p14,p15])) <|
  bq (eqN ix [2,6,10,14]) (some (Bl.stir p2 p6 p10 p14 x y fun p2 p6 p10 p14=>[p0,p1,p2,p3,p4,p5,p6,p7,p8,p9,p10,p11,p12,p13,p14,p15])) <|
  bq (eqN ix [3,7,11,15]) (some (Bl.stir p3 p7 p11 p15 x y fun p3 p7 p11 p15=>[p0,p1,p2,p3,p4,p5,p6,p7,p8,p9,p10,p11,p12,p13,p14,p15])) <|
  bq (eqN ix [0,5,10,15]) (some (Bl.stir p0 p5 p10 p15 x y fun p0 p5 p10 p15=>[p0,p1,p2,p3,p4,p5,p6,p7,p8,p9,p10,p11,p12,p13,p14,p15])) <|
  bq (eqN ix [1,6,11,12]) (some (Bl.stir p1 p6 p11 p12 x y fun p1 p6 p11 p12=>[p0,p1,p2,p3,p4,p5,p6,p7,p8,p9,p10,p11,p12,p13,p14,p15])) <|
  bq (eqN ix [2,7,8,13]) (some (Bl.stir p2 p7 p8 p13 x y fun p2 p7 p8 p13=>[p0,p1,p2,p3,p4,p5,p6,p7,p8,p9,p10,p11,p12,p13,p14,p15])) <|
  bq (eqN ix [3,4,9,14]) (some (Bl.stir p3 p4 p9 p14 x y fun p3 p4 p9 p14=>[p0,p1,p2,p3,p4,p5,p6,p7,p8,p9,p10,p11,p12,p13,p14,p15])) <|
  none
 | _=>none
def Qyw:Qm3:=fun f args h=>bq (Nat.beq f 165) (match args with
 | [p,a,b,c,d,.agg ⟨[.int .u32 (.ofNat x),.int .u32 (.ofNat y)]⟩]=>ob (Xa0 h p) fun q=>ob (Xzn q.2) fun l=>ob (X1x [a,b,c,d]) fun ix=>ob (Qow ix l x y) fun l'=>some (.ret (.tuple #[]),h.set q.1 (some (.cells true 1 (l'.map Yx))))
 | _=>none) none
theorem Xsa{ix l l':List Nat}{x y:Nat}(h:Qow ix l x y=some l'):∃ p0 p1 p2 p3 p4 p5 p6 p7 p8 p9 p10 p11 p12 p13 p14 p15,l=[p0,p1,p2,p3,p4,p5,p6,p7,p8,p9,p10,p11,p12,p13,p14,p15]:=by
 unfold Qow at h
 split at h
 ·exact⟨_,_,_,_,_,_,_,_,_,_,_,_,_,_,_,_,rfl⟩
 ·cases h
theorem Xtv{a b c d:Value}{ix:List Nat}(h:X1x [a,b,c,d]=some ix):∃ i j k l,ix=[i,j,k,l]∧a=Qe2 i∧b=Qe2 j∧c=Qe2 k∧d=Qe2 l:=by
 have:=Xsg h
 match ix,this with
 | [i,j,k,l],e=>simp only[List.map_cons,List.map_nil,List.cons.injEq,and_true]at e;exact⟨i,j,k,l,rfl,e.1,e.2.1,e.2.2.1,e.2.2.2⟩
theorem Qhp(n blk:Nat):Q89 (emb n [blk]) (.pointer (some ⟨n,0,none⟩)) (.pointer (some ⟨blk,0,none⟩)):=Q1d (by simp[emb])
theorem Xyp(b:Nat){h:Heap}{blk:Nat}(p0 p1 p2 p3 p4 p5 p6 p7 p8 p9 p10 p11 p12 p13 p14 p15 x y:Nat)(hg:h.get blk=some (.cells true 1 (([p0,p1,p2,p3,p4,p5,p6,p7,p8,p9,p10,p11,p12,p13,p14,p15]:List Nat).map Yx))) :
  CallOK Tryd.prog ⟨nv,b⟩ 165 [.pointer (some ⟨blk,0,none⟩),Qe2 0,Qe2 4,Qe2 8,Qe2 12,.agg #[Yx x,Yx y]] h
   (fun r h1=>r=.ret (.tuple #[])∧h1=h.set blk (some (.cells true 1 ((Bl.stir p0 p4 p8 p12 x y fun p0 p4 p8 p12=>[p0,p1,p2,p3,p4,p5,p6,p7,p8,p9,p10,p11,p12,p13,p14,p15]).map Yx)))):=by
 refine Qi8 (k:=100) (m:=4) Vm (fun b=>Qjd _) Qev (fun b=>(Xws b p0 p1 p2 p3 p4 p5 p6 p7 p8 p9 p10 p11 p12 p13 p14 p15 x y).trans ?_) rfl (Zg _) (Zg _) hg (Y7 (Qhp _ _) (Y7 (Yp rfl) (Y7 (Yp rfl) (Y7 (Yp rfl) (Y7 (Yp rfl) (Y7 (Yp rfl) Ji))))))
 rw[Qa7 _ _ _ _ _ 16 20 (by decide) (by decide)]
 simp only[Bl.half,Qa7 _ _ _ _ _ 24 25 (by decide) (by decide),Bl.stir,List.map_cons,List.map_nil,Yx]
theorem Xyn(b:Nat){h:Heap}{blk:Nat}(p0 p1 p2 p3 p4 p5 p6 p7 p8 p9 p10 p11 p12 p13 p14 p15 x y:Nat)(hg:h.get blk=some (.cells true 1 (([p0,p1,p2,p3,p4,p5,p6,p7,p8,p9,p10,p11,p12,p13,p14,p15]:List Nat).map Yx))) :
  CallOK Tryd.prog ⟨nv,b⟩ 165 [.pointer (some ⟨blk,0,none⟩),Qe2 1,Qe2 5,Qe2 9,Qe2 13,.agg #[Yx x,Yx y]] h
   (fun r h1=>r=.ret (.tuple #[])∧h1=h.set blk (some (.cells true 1 ((Bl.stir p1 p5 p9 p13 x y fun p1 p5 p9 p13=>[p0,p1,p2,p3,p4,p5,p6,p7,p8,p9,p10,p11,p12,p13,p14,p15]).map Yx)))):=by
 refine Qi8 (k:=100) (m:=4) Vm (fun b=>Qjd _) Qev (fun b=>(Xw4 b p0 p1 p2 p3 p4 p5 p6 p7 p8 p9 p10 p11 p12 p13 p14 p15 x y).trans ?_) rfl (Zg _) (Zg _) hg (Y7 (Qhp _ _) (Y7 (Yp rfl) (Y7 (Yp rfl) (Y7 (Yp rfl) (Y7 (Yp rfl) (Y7 (Yp rfl) Ji))))))
 rw[Qa7 _ _ _ _ _ 16 20 (by decide) (by decide)]
 simp only[Bl.half,Qa7 _ _ _ _ _ 24 25 (by decide) (by decide),Bl.stir,List.map_cons,List.map_nil,Yx]
theorem Xym(b:Nat){h:Heap}{blk:Nat}(p0 p1 p2 p3 p4 p5 p6 p7 p8 p9 p10 p11 p12 p13 p14 p15 x y:Nat)(hg:h.get blk=some (.cells true 1 (([p0,p1,p2,p3,p4,p5,p6,p7,p8,p9,p10,p11,p12,p13,p14,p15]:List Nat).map Yx))) :
  CallOK Tryd.prog ⟨nv,b⟩ 165 [.pointer (some ⟨blk,0,none⟩),Qe2 2,Qe2 6,Qe2 10,Qe2 14,.agg #[Yx x,Yx y]] h
   (fun r h1=>r=.ret (.tuple #[])∧h1=h.set blk (some (.cells true 1 ((Bl.stir p2 p6 p10 p14 x y fun p2 p6 p10 p14=>[p0,p1,p2,p3,p4,p5,p6,p7,p8,p9,p10,p11,p12,p13,p14,p15]).map Yx)))):=by
 refine Qi8 (k:=100) (m:=4) Vm (fun b=>Qjd _) Qev (fun b=>(Xx8 b p0 p1 p2 p3 p4 p5 p6 p7 p8 p9 p10 p11 p12 p13 p14 p15 x y).trans ?_) rfl (Zg _) (Zg _) hg (Y7 (Qhp _ _) (Y7 (Yp rfl) (Y7 (Yp rfl) (Y7 (Yp rfl) (Y7 (Yp rfl) (Y7 (Yp rfl) Ji))))))
 rw[Qa7 _ _ _ _ _ 16 20 (by decide) (by decide)]
 simp only[Bl.half,Qa7 _ _ _ _ _ 24 25 (by decide) (by decide),Bl.stir,List.map_cons,List.map_nil,Yx]
theorem X0b(b:Nat){h:Heap}{blk:Nat}(p0 p1 p2 p3 p4 p5 p6 p7 p8 p9 p10 p11 p12 p13 p14 p15 x y:Nat)(hg:h.get blk=some (.cells true 1 (([p0,p1,p2,p3,p4,p5,p6,p7,p8,p9,p10,p11,p12,p13,p14,p15]:List Nat).map Yx))) :
  CallOK Tryd.prog ⟨nv,b⟩ 165 [.pointer (some ⟨blk,0,none⟩),Qe2 3,Qe2 7,Qe2 11,Qe2 15,.agg #[Yx x,Yx y]] h
   (fun r h1=>r=.ret (.tuple #[])∧h1=h.set blk (some (.cells true 1 ((Bl.stir p3 p7 p11 p15 x y fun p3 p7 p11 p15=>[p0,p1,p2,p3,p4,p5,p6,p7,p8,p9,p10,p11,p12,p13,p14,p15]).map Yx)))):=by
 refine Qi8 (k:=100) (m:=4) Vm (fun b=>Qjd _) Qev (fun b=>(Xxa b p0 p1 p2 p3 p4 p5 p6 p7 p8 p9 p10 p11 p12 p13 p14 p15 x y).trans ?_) rfl (Zg _) (Zg _) hg (Y7 (Qhp _ _) (Y7 (Yp rfl) (Y7 (Yp rfl) (Y7 (Yp rfl) (Y7 (Yp rfl) (Y7 (Yp rfl) Ji))))))
 rw[Qa7 _ _ _ _ _ 16 20 (by decide) (by decide)]
 simp only[Bl.half,Qa7 _ _ _ _ _ 24 25 (by decide) (by decide),Bl.stir,List.map_cons,List.map_nil,Yx]
theorem X08(b:Nat){h:Heap}{blk:Nat}(p0 p1 p2 p3 p4 p5 p6 p7 p8 p9 p10 p11 p12 p13 p14 p15 x y:Nat)(hg:h.get blk=some (.cells true 1 (([p0,p1,p2,p3,p4,p5,p6,p7,p8,p9,p10,p11,p12,p13,p14,p15]:List Nat).map Yx))) :
  CallOK Tryd.prog ⟨nv,b⟩ 165 [.pointer (some ⟨blk,0,none⟩),Qe2 0,Qe2 5,Qe2 10,Qe2 15,.agg #[Yx x,Yx y]] h
   (fun r h1=>r=.ret (.tuple #[])∧h1=h.set blk (some (.cells true 1 ((Bl.stir p0 p5 p10 p15 x y fun p0 p5 p10 p15=>[p0,p1,p2,p3,p4,p5,p6,p7,p8,p9,p10,p11,p12,p13,p14,p15]).map Yx)))):=by
 refine Qi8 (k:=100) (m:=4) Vm (fun b=>Qjd _) Qev (fun b=>(Xwg b p0 p1 p2 p3 p4 p5 p6 p7 p8 p9 p10 p11 p12 p13 p14 p15 x y).trans ?_) rfl (Zg _) (Zg _) hg (Y7 (Qhp _ _) (Y7 (Yp rfl) (Y7 (Yp rfl) (Y7 (Yp rfl) (Y7 (Yp rfl) (Y7 (Yp rfl) Ji))))))
 rw[Qa7 _ _ _ _ _ 16 20 (by decide) (by decide)]
 simp only[Bl.half,Qa7 _ _ _ _ _ 24 25 (by decide) (by decide),Bl.stir,List.map_cons,List.map_nil,Yx]
theorem Xyy(b:Nat){h:Heap}{blk:Nat}(p0 p1 p2 p3 p4 p5 p6 p7 p8 p9 p10 p11 p12 p13 p14 p15 x y:Nat)(hg:h.get blk=some (.cells true 1 (([p0,p1,p2,p3,p4,p5,p6,p7,p8,p9,p10,p11,p12,p13,p14,p15]:List Nat).map Yx))) :
  CallOK Tryd.prog ⟨nv,b⟩ 165 [.pointer (some ⟨blk,0,none⟩),Qe2 1,Qe2 6,Qe2 11,Qe2 12,.agg #[Yx x,Yx y]] h
   (fun r h1=>r=.ret (.tuple #[])∧h1=h.set blk (some (.cells true 1 ((Bl.stir p1 p6 p11 p12 x y fun p1 p6 p11 p12=>[p0,p1,p2,p3,p4,p5,p6,p7,p8,p9,p10,p11,p12,p13,p14,p15]).map Yx)))):=by
 refine Qi8 (k:=100) (m:=4) Vm (fun b=>Qjd _) Qev (fun b=>(Xvk b p0 p1 p2 p3 p4 p5 p6 p7 p8 p9 p10 p11 p12 p13 p14 p15 x y).trans ?_) rfl (Zg _) (Zg _) hg (Y7 (Qhp _ _) (Y7 (Yp rfl) (Y7 (Yp rfl) (Y7 (Yp rfl) (Y7 (Yp rfl) (Y7 (Yp rfl) Ji))))))
 rw[Qa7 _ _ _ _ _ 16 20 (by decide) (by decide)]
 simp only[Bl.half,Qa7 _ _ _ _ _ 24 25 (by decide) (by decide),Bl.stir,List.map_cons,List.map_nil,Yx]
theorem Xz8(b:Nat){h:Heap}{blk:Nat}(p0 p1 p2 p3 p4 p5 p6 p7 p8 p9 p10 p11 p12 p13 p14 p15 x y:Nat)(hg:h.get blk=some (.cells true 1 (([p0,p1,p2,p3,p4,p5,p6,p7,p8,p9,p10,p11,p12,p13,p14,p15]:List Nat).map Yx))) :
  CallOK Tryd.prog ⟨nv,b⟩ 165 [.pointer (some ⟨blk,0,none⟩),Qe2 2,Qe2 7,Qe2 8,Qe2 13,.agg #[Yx x,Yx y]] h
   (fun r h1=>r=.ret (.tuple #[])∧h1=h.set blk (some (.cells true 1 ((Bl.stir p2 p7 p8 p13 x y fun p2 p7 p8 p13=>[p0,p1,p2,p3,p4,p5,p6,p7,p8,p9,p10,p11,p12,p13,p14,p15]).map Yx)))):=by
 refine Qi8 (k:=100) (m:=4) Vm (fun b=>Qjd _) Qev (fun b=>(Xvz b p0 p1 p2 p3 p4 p5 p6 p7 p8 p9 p10 p11 p12 p13 p14 p15 x y).trans ?_) rfl (Zg _) (Zg _) hg (Y7 (Qhp _ _) (Y7 (Yp rfl) (Y7 (Yp rfl) (Y7 (Yp rfl) (Y7 (Yp rfl) (Y7 (Yp rfl) Ji))))))
 rw[Qa7 _ _ _ _ _ 16 20 (by decide) (by decide)]
 simp only[Bl.half,Qa7 _ _ _ _ _ 24 25 (by decide) (by decide),Bl.stir,List.map_cons,List.map_nil,Yx]
theorem Xzi(b:Nat){h:Heap}{blk:Nat}(p0 p1 p2 p3 p4 p5 p6 p7 p8 p9 p10 p11 p12 p13 p14 p15 x y:Nat)(hg:h.get blk=some (.cells true 1 (([p0,p1,p2,p3,p4,p5,p6,p7,p8,p9,p10,p11,p12,p13,p14,p15]:List Nat).map Yx))) :
  CallOK Tryd.prog ⟨nv,b⟩ 165 [.pointer (some ⟨blk,0,none⟩),Qe2 3,Qe2 4,Qe2 9,Qe2 14,.agg #[Yx x,Yx y]] h
   (fun r h1=>r=.ret (.tuple #[])∧h1=h.set blk (some (.cells true 1 ((Bl.stir p3 p4 p9 p14 x y fun p3 p4 p9 p14=>[p0,p1,p2,p3,p4,p5,p6,p7,p8,p9,p10,p11,p12,p13,p14,p15]).map Yx)))):=by
 refine Qi8 (k:=100) (m:=4) Vm (fun b=>Qjd _) Qev (fun b=>(Xve b p0 p1 p2 p3 p4 p5 p6 p7 p8 p9 p10 p11 p12 p13 p14 p15 x y).trans ?_) rfl (Zg _) (Zg _) hg (Y7 (Qhp _ _) (Y7 (Yp rfl) (Y7 (Yp rfl) (Y7 (Yp rfl) (Y7 (Yp rfl) (Y7 (Yp rfl) Ji))))))
 rw[Qa7 _ _ _ _ _ 16 20 (by decide) (by decide)]
 simp only[Bl.half,Qa7 _ _ _ _ _ 24 25 (by decide) (by decide),Bl.stir,List.map_cons,List.map_nil,Yx]
theorem Qhq(b:Nat):Qc1 Tryd.prog ⟨nv,b⟩ Qyw:=by
 intro f args h r h' hx
 unfold Qyw at hx
 obtain⟨hf,hx⟩:=Qb6 hx
 have hf:=Nat.eq_of_beq_eq_true hf
 subst hf
 split at hx
 ·rename_i p a b' c d x y hq
  obtain⟨⟨blk,cs⟩,h1,hx⟩:=J6 hx
  obtain⟨l,h2,hx⟩:=J6 hx
  obtain⟨ix,h3,hx⟩:=J6 hx
  obtain⟨l',h4,hx⟩:=J6 hx
  cases hx
  obtain⟨rfl,hg⟩:=Qjr h1
  have:=Q9i h2
  subst this
  obtain⟨i,j,k,q,rfl,rfl,rfl,rfl,rfl⟩:=Xtv h3
  obtain⟨p0,p1,p2,p3,p4,p5,p6,p7,p8,p9,p10,p11,p12,p13,p14,p15,rfl⟩:=Xsa h4
  unfold Qow at h4
  simp only at h4
  cases e0:eqN [i,j,k,q] [0,4,8,12]with
  | true =>
   rw[e0]at h4
   cases h4
   have:=Qru e0
   simp only[List.cons.injEq,and_true]at this
   obtain⟨rfl,rfl,rfl,rfl⟩:=this
   exact Xyp b p0 p1 p2 p3 p4 p5 p6 p7 p8 p9 p10 p11 p12 p13 p14 p15 x y hg
  | false =>
  rw[e0,bq_false]at h4
  cases e1:eqN [i,j,k,q] [1,5,9,13]with
  | true =>
   rw[e1]at h4
   cases h4
   have:=Qru e1
   simp only[List.cons.injEq,and_true]at this
   obtain⟨rfl,rfl,rfl,rfl⟩:=this
   exact Xyn b p0 p1 p2 p3 p4 p5 p6 p7 p8 p9 p10 p11 p12 p13 p14 p15 x y hg
  | false =>
  rw[e1,bq_false]at h4
  cases e2:eqN [i,j,k,q] [2,6,10,14]with
  | true =>
   rw[e2]at h4
   cases h4
   have:=Qru e2
   simp only[List.cons.injEq,and_true]at this
   obtain⟨rfl,rfl,rfl,rfl⟩:=this
   exact Xym b p0 p1 p2 p3 p4 p5 p6 p7 p8 p9 p10 p11 p12 p13 p14 p15 x y hg
  | false =>
  rw[e2,bq_false]at h4
  cases e3:eqN [i,j,k,q] [3,7,11,15]with
  | true =>
   rw[e3]at h4
   cases h4
   have:=Qru e3
   simp only[List.cons.injEq,and_true]at this
   obtain⟨rfl,rfl,rfl,rfl⟩:=this
   exact X0b b p0 p1 p2 p3 p4 p5 p6 p7 p8 p9 p10 p11 p12 p13 p14 p15 x y hg
  | false =>
  rw[e3,bq_false]at h4
  cases e4:eqN [i,j,k,q] [0,5,10,15]with
  | true =>
   rw[e4]at h4
   cases h4
   have:=Qru e4
   simp only[List.cons.injEq,and_true]at this
   obtain⟨rfl,rfl,rfl,rfl⟩:=this
   exact X08 b p0 p1 p2 p3 p4 p5 p6 p7 p8 p9 p10 p11 p12 p13 p14 p15 x y hg
  | false =>
  rw[e4,bq_false]at h4
  cases e5:eqN [i,j,k,q] [1,6,11,12]with
  | true =>
   rw[e5]at h4
   cases h4
   have:=Qru e5
   simp only[List.cons.injEq,and_true]at this
   obtain⟨rfl,rfl,rfl,rfl⟩:=this
   exact Xyy b p0 p1 p2 p3 p4 p5 p6 p7 p8 p9 p10 p11 p12 p13 p14 p15 x y hg
  | false =>
  rw[e5,bq_false]at h4
  cases e6:eqN [i,j,k,q] [2,7,8,13]with
  | true =>
   rw[e6]at h4
   cases h4
   have:=Qru e6
   simp only[List.cons.injEq,and_true]at this
   obtain⟨rfl,rfl,rfl,rfl⟩:=this
   exact Xz8 b p0 p1 p2 p3 p4 p5 p6 p7 p8 p9 p10 p11 p12 p13 p14 p15 x y hg
  | false =>
  rw[e6,bq_false]at h4
  cases e7:eqN [i,j,k,q] [3,4,9,14]with
  | true =>
   rw[e7]at h4
   cases h4
   have:=Qru e7
   simp only[List.cons.injEq,and_true]at this
   obtain⟨rfl,rfl,rfl,rfl⟩:=this
   exact Xzi b p0 p1 p2 p3 p4 p5 p6 p7 p8 p9 p10 p11 p12 p13 p14 p15 x y hg
  | false =>
  rw[e7,bq_false]at h4
  cases h4
 ·cases hx
theorem Qej:Qey Qyw:=by
 intro f args h r h' hx
 unfold Qyw at hx
 obtain⟨hf,hx⟩:=Qb6 hx
 split at hx
 ·obtain⟨⟨blk,cs⟩,h1,hx⟩:=J6 hx
  obtain⟨l,h2,hx⟩:=J6 hx
  obtain⟨ix,h3,hx⟩:=J6 hx
  obtain⟨l',h4,hx⟩:=J6 hx
  cases hx
  obtain⟨_,hg⟩:=Qjr h1
  exact LowOK.set _ _ _ (Heap.get_lt hg)
 ·cases hx
end Go.Proofs.YtgeeklmjfbiieaaDoor
end
noncomputable section
namespace Go.Proofs.YtgeeklmjfbiieaaDoor
open Go Go.Ab
set_option maxRecDepth 1000000
def X2s:ByteArray:=⟨#[48,49,50,51,52,53,54,55,56,57,97,98,99,100,101,102]⟩
def X2v:ByteArray:=⟨#[101,97,52,56,57,102,100,54,49,99,48,50,98,55,53,51]⟩
def X34:ByteArray:=⟨#[98,56,99,48,53,50,102,100,97,101,51,54,55,49,57,52]⟩
def X30:ByteArray:=⟨#[55,57,51,49,100,99,98,101,50,54,53,97,52,48,102,56]⟩
def X2q:ByteArray:=⟨#[57,48,53,55,50,52,97,102,101,49,98,99,54,56,51,100]⟩
def X2o:ByteArray:=⟨#[50,99,54,97,48,98,56,51,52,100,55,53,102,101,49,57]⟩
def X37:ByteArray:=⟨#[99,53,49,102,101,100,52,97,48,55,54,51,57,50,56,98]⟩
def X2z:ByteArray:=⟨#[100,98,55,101,99,49,51,57,53,48,102,52,56,54,50,97]⟩
def X2t:ByteArray:=⟨#[54,102,101,57,98,51,48,56,99,50,100,55,49,52,97,53]⟩
def X33:ByteArray:=⟨#[97,50,56,52,55,54,49,53,102,98,57,101,51,99,100,48]⟩
def Uk(l:List Nat)(x0 x1 x2 x3 x4 x5 x6 x7 x8 x9 x10 x11 x12 x13 x14 x15:Nat):Option (List Nat) :=
 ob (Qow [0,4,8,12] l x0 x1) fun l =>
 ob (Qow [1,5,9,13] l x2 x3) fun l =>
 ob (Qow [2,6,10,14] l x4 x5) fun l =>
 ob (Qow [3,7,11,15] l x6 x7) fun l =>
 ob (Qow [0,5,10,15] l x8 x9) fun l =>
 ob (Qow [1,6,11,12] l x10 x11) fun l =>
 ob (Qow [2,7,8,13] l x12 x13) fun l =>
 Qow [3,4,9,14] l x14 x15
theorem Xtz(b:Nat)(p0 p1 p2 p3 p4 p5 p6 p7 p8 p9 p10 p11 p12 p13 p14 p15 m0 m1 m2 m3 m4 m5 m6 m7 m8 m9 m10 m11 m12 m13 m14 m15:Nat) :
  Qhf nv (nv+1) ((Ud Tryd.prog (mkE Tryd.prog nv b) Qyw 100 4).fn 131 [.pointer (some ⟨nv,0,none⟩),.pointer (some ⟨nv+1,0,none⟩),.string X2s] (Vt nv [] true [(1,([p0,p1,p2,p3,p4,p5,p6,p7,p8,p9,p10,p11,p12,p13,p14,p15]:List Nat).map Yx),(1,([m0,m1,m2,m3,m4,m5,m6,m7,m8,m9,m10,m11,m12,m13,m14,m15]:List Nat).map Yx)])) =
   ob (Uk [p0,p1,p2,p3,p4,p5,p6,p7,p8,p9,p10,p11,p12,p13,p14,p15] m0 m1 m2 m3 m4 m5 m6 m7 m8 m9 m10 m11 m12 m13 m14 m15) fun l=>some (.tuple #[],l.map Yx,([m0,m1,m2,m3,m4,m5,m6,m7,m8,m9,m10,m11,m12,m13,m14,m15]:List Nat).map Yx):=by kernel_rfl
theorem Xt8(b:Nat)(p0 p1 p2 p3 p4 p5 p6 p7 p8 p9 p10 p11 p12 p13 p14 p15 m0 m1 m2 m3 m4 m5 m6 m7 m8 m9 m10 m11 m12 m13 m14 m15:Nat) :
  Qhf nv (nv+1) ((Ud Tryd.prog (mkE Tryd.prog nv b) Qyw 100 4).fn 131 [.pointer (some ⟨nv,0,none⟩),.pointer (some ⟨nv+1,0,none⟩),.string X2v] (Vt nv [] true [(1,([p0,p1,p2,p3,p4,p5,p6,p7,p8,p9,p10,p11,p12,p13,p14,p15]:List Nat).map Yx),(1,([m0,m1,m2,m3,m4,m5,m6,m7,m8,m9,m10,m11,m12,m13,m14,m15]:List Nat).map Yx)])) =
   ob (Uk [p0,p1,p2,p3,p4,p5,p6,p7,p8,p9,p10,p11,p12,p13,p14,p15] m14 m10 m4 m8 m9 m15 m13 m6 m1 m12 m0 m2 m11 m7 m5 m3) fun l=>some (.tuple #[],l.map Yx,([m0,m1,m2,m3,m4,m5,m6,m7,m8,m9,m10,m11,m12,m13,m14,m15]:List Nat).map Yx):=by kernel_rfl
theorem Xsh(b:Nat)(p0 p1 p2 p3 p4 p5 p6 p7 p8 p9 p10 p11 p12 p13 p14 p15 m0 m1 m2 m3 m4 m5 m6 m7 m8 m9 m10 m11 m12 m13 m14 m15:Nat) :
  Qhf nv (nv+1) ((Ud Tryd.prog (mkE Tryd.prog nv b) Qyw 100 4).fn 131 [.pointer (some ⟨nv,0,none⟩),.pointer (some ⟨nv+1,0,none⟩),.string X34] (Vt nv [] true [(1,([p0,p1,p2,p3,p4,p5,p6,p7,p8,p9,p10,p11,p12,p13,p14,p15]:List Nat).map Yx),(1,([m0,m1,m2,m3,m4,m5,m6,m7,m8,m9,m10,m11,m12,m13,m14,m15]:List Nat).map Yx)])) =
   ob (Uk [p0,p1,p2,p3,p4,p5,p6,p7,p8,p9,p10,p11,p12,p13,p14,p15] m11 m8 m12 m0 m5 m2 m15 m13 m10 m14 m3 m6 m7 m1 m9 m4) fun l=>some (.tuple #[],l.map Yx,([m0,m1,m2,m3,m4,m5,m6,m7,m8,m9,m10,m11,m12,m13,m14,m15]:List Nat).map Yx):=by kernel_rfl
theorem Xri(b:Nat)(p0 p1 p2 p3 p4 p5 p6 p7 p8 p9 p10 p11 p12 p13 p14 p15 m0 m1 m2 m3 m4 m5 m6 m7 m8 m9 m10 m11 m12 m13 m14 m15:Nat) :
  Qhf nv (nv+1) ((Ud Tryd.prog (mkE Tryd.prog nv b) Qyw 100 4).fn 131 [.pointer (some ⟨nv,0,none⟩),.pointer (some ⟨nv+1,0,none⟩),.string X30] (Vt nv [] true [(1,([p0,p1,p2,p3,p4,p5,p6,p7,p8,p9,p10,p11,p12,p13,p14,p15]:List Nat).map Yx),(1,([m0,m1,m2,m3,m4,m5,m6,m7,m8,m9,m10,m11,m12,m13,m14,m15]:List Nat).map Yx)])) =
   ob (Uk [p0,p1,p2,p3,p4,p5,p6,p7,p8,p9,p10,p11,p12,p13,p14,p15] m7 m9 m3 m1 m13 m12 m11 m14 m2 m6 m5 m10 m4 m0 m15 m8) fun l=>some (.tuple #[],l.map Yx,([m0,m1,m2,m3,m4,m5,m6,m7,m8,m9,m10,m11,m12,m13,m14,m15]:List Nat).map Yx):=by kernel_rfl
theorem Xrk(b:Nat)(p0 p1 p2 p3 p4 p5 p6 p7 p8 p9 p10 p11 p12 p13 p14 p15 m0 m1 m2 m3 m4 m5 m6 m7 m8 m9 m10 m11 m12 m13 m14 m15:Nat) :
  Qhf nv (nv+1) ((Ud Tryd.prog (mkE Tryd.prog nv b) Qyw 100 4).fn 131 [.pointer (some ⟨nv,0,none⟩),.pointer (some ⟨nv+1,0,none⟩),.string X2q] (Vt nv [] true [(1,([p0,p1,p2,p3,p4,p5,p6,p7,p8,p9,p10,p11,p12,p13,p14,p15]:List Nat).map Yx),(1,([m0,m1,m2,m3,m4,m5,m6,m7,m8,m9,m10,m11,m12,m13,m14,m15]:List Nat).map Yx)])) =
   ob (Uk [p0,p1,p2,p3,p4,p5,p6,p7,p8,p9,p10,p11,p12,p13,p14,p15] m9 m0 m5 m7 m2 m4 m10 m15 m14 m1 m11 m12 m6 m8 m3 m13) fun l=>some (.tuple #[],l.map Yx,([m0,m1,m2,m3,m4,m5,m6,m7,m8,m9,m10,m11,m12,m13,m14,m15]:List Nat).map Yx):=by kernel_rfl
theorem Xro(b:Nat)(p0 p1 p2 p3 p4 p5 p6 p7 p8 p9 p10 p11 p12 p13 p14 p15 m0 m1 m2 m3 m4 m5 m6 m7 m8 m9 m10 m11 m12 m13 m14 m15:Nat) :
  Qhf nv (nv+1) ((Ud Tryd.prog (mkE Tryd.prog nv b) Qyw 100 4).fn 131 [.pointer (some ⟨nv,0,none⟩),.pointer (some ⟨nv+1,0,none⟩),.string X2o] (Vt nv [] true [(1,([p0,p1,p2,p3,p4,p5,p6,p7,p8,p9,p10,p11,p12,p13,p14,p15]:List Nat).map Yx),(1,([m0,m1,m2,m3,m4,m5,m6,m7,m8,m9,m10,m11,m12,m13,m14,m15]:List Nat).map Yx)])) =
   ob (Uk [p0,p1,p2,p3,p4,p5,p6,p7,p8,p9,p10,p11,p12,p13,p14,p15] m2 m12 m6 m10 m0 m11 m8 m3 m4 m13 m7 m5 m15 m14 m1 m9) fun l=>some (.tuple #[],l.map Yx,([m0,m1,m2,m3,m4,m5,m6,m7,m8,m9,m10,m11,m12,m13,m14,m15]:List Nat).map Yx):=by kernel_rfl
theorem Xr4(b:Nat)(p0 p1 p2 p3 p4 p5 p6 p7 p8 p9 p10 p11 p12 p13 p14 p15 m0 m1 m2 m3 m4 m5 m6 m7 m8 m9 m10 m11 m12 m13 m14 m15:Nat) :
  Qhf nv (nv+1) ((Ud Tryd.prog (mkE Tryd.prog nv b) Qyw 100 4).fn 131 [.pointer (some ⟨nv,0,none⟩),.pointer (some ⟨nv+1,0,none⟩),.string X37] (Vt nv [] true [(1,([p0,p1,p2,p3,p4,p5,p6,p7,p8,p9,p10,p11,p12,p13,p14,p15]:List Nat).map Yx),(1,([m0,m1,m2,m3,m4,m5,m6,m7,m8,m9,m10,m11,m12,m13,m14,m15]:List Nat).map Yx)])) =
   ob (Uk [p0,p1,p2,p3,p4,p5,p6,p7,p8,p9,p10,p11,p12,p13,p14,p15] m12 m5 m1 m15 m14 m13 m4 m10 m0 m7 m6 m3 m9 m2 m8 m11) fun l=>some (.tuple #[],l.map Yx,([m0,m1,m2,m3,m4,m5,m6,m7,m8,m9,m10,m11,m12,m13,m14,m15]:List Nat).map Yx):=by kernel_rfl
theorem Xt4(b:Nat)(p0 p1 p2 p3 p4 p5 p6 p7 p8 p9 p10 p11 p12 p13 p14 p15 m0 m1 m2 m3 m4 m5 m6 m7 m8 m9 m10 m11 m12 m13 m14 m15:Nat) :
  Qhf nv (nv+1) ((Ud Tryd.prog (mkE Tryd.prog nv b) Qyw 100 4).fn 131 [.pointer (some ⟨nv,0,none⟩),.pointer (some ⟨nv+1,0,none⟩),.string X2z] (Vt nv [] true [(1,([p0,p1,p2,p3,p4,p5,p6,p7,p8,p9,p10,p11,p12,p13,p14,p15]:List Nat).map Yx),(1,([m0,m1,m2,m3,m4,m5,m6,m7,m8,m9,m10,m11,m12,m13,m14,m15]:List Nat).map Yx)])) =
   ob (Uk [p0,p1,p2,p3,p4,p5,p6,p7,p8,p9,p10,p11,p12,p13,p14,p15] m13 m11 m7 m14 m12 m1 m3 m9 m5 m0 m15 m4 m8 m6 m2 m10) fun l=>some (.tuple #[],l.map Yx,([m0,m1,m2,m3,m4,m5,m6,m7,m8,m9,m10,m11,m12,m13,m14,m15]:List Nat).map Yx):=by kernel_rfl
theorem Xr1(b:Nat)(p0 p1 p2 p3 p4 p5 p6 p7 p8 p9 p10 p11 p12 p13 p14 p15 m0 m1 m2 m3 m4 m5 m6 m7 m8 m9 m10 m11 m12 m13 m14 m15:Nat) :
  Qhf nv (nv+1) ((Ud Tryd.prog (mkE Tryd.prog nv b) Qyw 100 4).fn 131 [.pointer (some ⟨nv,0,none⟩),.pointer (some ⟨nv+1,0,none⟩),.string X2t] (Vt nv [] true [(1,([p0,p1,p2,p3,p4,p5,p6,p7,p8,p9,p10,p11,p12,p13,p14,p15]:List Nat).map Yx),(1,([m0,m1,m2,m3,m4,m5,m6,m7,m8,m9,m10,m11,m12,m13,m14,m15]:List Nat).map Yx)])) =
   ob (Uk [p0,p1,p2,p3,p4,p5,p6,p7,p8,p9,p10,p11,p12,p13,p14,p15] m6 m15 m14 m9 m11 m3 m0 m8 m12 m2 m13 m7 m1 m4 m10 m5) fun l=>some (.tuple #[],l.map Yx,([m0,m1,m2,m3,m4,m5,m6,m7,m8,m9,m10,m11,m12,m13,m14,m15]:List Nat).map Yx):=by kernel_rfl
theorem Xrf(b:Nat)(p0 p1 p2 p3 p4 p5 p6 p7 p8 p9 p10 p11 p12 p13 p14 p15 m0 m1 m2 m3 m4 m5 m6 m7 m8 m9 m10 m11 m12 m13 m14 m15:Nat) :
  Qhf nv (nv+1) ((Ud Tryd.prog (mkE Tryd.prog nv b) Qyw 100 4).fn 131 [.pointer (some ⟨nv,0,none⟩),.pointer (some ⟨nv+1,0,none⟩),.string X33] (Vt nv [] true [(1,([p0,p1,p2,p3,p4,p5,p6,p7,p8,p9,p10,p11,p12,p13,p14,p15]:List Nat).map Yx),(1,([m0,m1,m2,m3,m4,m5,m6,m7,m8,m9,m10,m11,m12,m13,m14,m15]:List Nat).map Yx)])) =
   ob (Uk [p0,p1,p2,p3,p4,p5,p6,p7,p8,p9,p10,p11,p12,p13,p14,p15] m10 m2 m8 m4 m7 m6 m1 m5 m15 m11 m9 m14 m3 m12 m13 m0) fun l=>some (.tuple #[],l.map Yx,([m0,m1,m2,m3,m4,m5,m6,m7,m8,m9,m10,m11,m12,m13,m14,m15]:List Nat).map Yx):=by kernel_rfl
def Xof(s:ByteArray)(l m:List Nat):Option (List Nat):=match l,m with
 | [p0,p1,p2,p3,p4,p5,p6,p7,p8,p9,p10,p11,p12,p13,p14,p15],[m0,m1,m2,m3,m4,m5,m6,m7,m8,m9,m10,m11,m12,m13,m14,m15] =>
  bq (eqN (s.data.toList.map UInt8.toNat) [48,49,50,51,52,53,54,55,56,57,97,98,99,100,101,102]) (Uk [p0,p1,p2,p3,p4,p5,p6,p7,p8,p9,p10,p11,p12,p13,p14,p15] m0 m1 m2 m3 m4 m5 m6 m7 m8 m9 m10 m11 m12 m13 m14 m15) <|
  bq (eqN (s.data.toList.map UInt8.toNat) [101,97,52,56,57,102,100,54,49,99,48,50,98,55,53,51]) (Uk [p0,p1,p2,p3,p4,p5,p6,p7,p8,p9,p10,p11,p12,p13,p14,p15] m14 m10 m4 m8 m9 m15 m13 m6 m1 m12 m0 m2 m11 m7 m5 m3) <|
  bq (eqN (s.data.toList.map UInt8.toNat) [98,56,99,48,53,50,102,100,97,101,51,54,55,49,57,52]) (Uk [p0,p1,p2,p3,p4,p5,p6,p7,p8,p9,p10,p11,p12,p13,p14,p15] m11 m8 m12 m0 m5 m2 m15 m13 m10 m14 m3 m6 m7 m1 m9 m4) <|
  bq (eqN (s.data.toList.map UInt8.toNat) [55,57,51,49,100,99,98,101,50,54,53,97,52,48,102,56]) (Uk [p0,p1,p2,p3,p4,p5,p6,p7,p8,p9,p10,p11,p12,p13,p14,p15] m7 m9 m3 m1 m13 m12 m11 m14 m2 m6 m5 m10 m4 m0 m15 m8) <|
  bq (eqN (s.data.toList.map UInt8.toNat) [57,48,53,55,50,52,97,102,101,49,98,99,54,56,51,100]) (Uk [p0,p1,p2,p3,p4,p5,p6,p7,p8,p9,p10,p11,p12,p13,p14,p15] m9 m0 m5 m7 m2 m4 m10 m15 m14 m1 m11 m12 m6 m8 m3 m13) <|
  bq (eqN (s.data.toList.map UInt8.toNat) [50,99,54,97,48,98,56,51,52,100,55,53,102,101,49,57]) (Uk [p0,p1,p2,p3,p4,p5,p6,p7,p8,p9,p10,p11,p12,p13,p14,p15] m2 m12 m6 m10 m0 m11 m8 m3 m4 m13 m7 m5 m15 m14 m1 m9) <|
  bq (eqN (s.data.toList.map UInt8.toNat) [99,53,49,102,101,100,52,97,48,55,54,51,57,50,56,98]) (Uk [p0,p1,p2,p3,p4,p5,p6,p7,p8,p9,p10,p11,p12,p13,p14,p15] m12 m5 m1 m15 m14 m13 m4 m10 m0 m7 m6 m3 m9 m2 m8 m11) <|
  bq (eqN (s.data.toList.map UInt8.toNat) [100,98,55,101,99,49,51,57,53,48,102,52,56,54,50,97]) (Uk [p0,p1,p2,p3,p4,p5,p6,p7,p8,p9,p10,p11,p12,p13,p14,p15] m13 m11 m7 m14 m12 m1 m3 m9 m5 m0 m15 m4 m8 m6 m2 m10) <|
  bq (eqN (s.data.toList.map UInt8.toNat) [54,102,101,57,98,51,48,56,99,50,100,55,49,52,97,53]) (Uk [p0,p1,p2,p3,p4,p5,p6,p7,p8,p9,p10,p11,p12,p13,p14,p15] m6 m15 m14 m9 m11 m3 m0 m8 m12 m2 m13 m7 m1 m4 m10 m5) <|
  bq (eqN (s.data.toList.map UInt8.toNat) [97,50,56,52,55,54,49,53,102,98,57,101,51,99,100,48]) (Uk [p0,p1,p2,p3,p4,p5,p6,p7,p8,p9,p10,p11,p12,p13,p14,p15] m10 m2 m8 m4 m7 m6 m1 m5 m15 m11 m9 m14 m3 m12 m13 m0) <|
  none
 | _,_=>none
theorem Xpq{s:ByteArray}{l m l':List Nat}(h:Xof s l m=some l'):∃ p0 p1 p2 p3 p4 p5 p6 p7 p8 p9 p10 p11 p12 p13 p14 p15 m0 m1 m2 m3 m4 m5 m6 m7 m8 m9 m10 m11 m12 m13 m14 m15,l=[p0,p1,p2,p3,p4,p5,p6,p7,p8,p9,p10,p11,p12,p13,p14,p15]∧m=[m0,m1,m2,m3,m4,m5,m6,m7,m8,m9,m10,m11,m12,m13,m14,m15]:=by
 unfold Xof at h
 split at h
 ·exact⟨_,_,_,_,_,_,_,_,_,_,_,_,_,_,_,_,_,_,_,_,_,_,_,_,_,_,_,_,_,_,_,_,rfl,rfl⟩
 ·cases h
theorem Qhu{s t:ByteArray}{l:List Nat}(h:eqN (s.data.toList.map UInt8.toNat) l=true)(ht:t.data.toList.map UInt8.toNat=l):s=t:=by
 have h1:=(Qru h).trans ht.symm
 have h2:s.data.toList=t.data.toList:=(List.map_inj_right (fun x y h=>UInt8.toNat_inj.1 h)).1 h1
 cases s;cases t
 simp only[ByteArray.mk.injEq]
 exact Array.ext' h2
def Qod:Qm3:=fun f args h=>bq (Nat.beq f 131) (match args with
 | [p,q,.string s]=>ob (Xa0 h p) fun x=>ob (Xa0 h q) fun y=>ob (Xzn x.2) fun l=>ob (Xzn y.2) fun m=>bq (Nat.beq x.1 y.1) none (ob (Xof s l m) fun l'=>some (.ret (.tuple #[]),h.set x.1 (some (.cells true 1 (l'.map Yx)))))
 | _=>none) none
theorem Qew(n blk c:Nat):Q89 (emb n [blk,c]) (.pointer (some ⟨n,0,none⟩)) (.pointer (some ⟨blk,0,none⟩)):=Q1d (by simp[emb])
theorem Qen(n blk c:Nat):Q89 (emb n [blk,c]) (.pointer (some ⟨n+1,0,none⟩)) (.pointer (some ⟨c,0,none⟩)):=Q1d (by unfold emb;rw[if_neg (by omega)];simp)
theorem Xw6(b:Nat){h:Heap}{blk c:Nat}(p0 p1 p2 p3 p4 p5 p6 p7 p8 p9 p10 p11 p12 p13 p14 p15 m0 m1 m2 m3 m4 m5 m6 m7 m8 m9 m10 m11 m12 m13 m14 m15:Nat){l':List Nat}(hl:Uk [p0,p1,p2,p3,p4,p5,p6,p7,p8,p9,p10,p11,p12,p13,p14,p15] m0 m1 m2 m3 m4 m5 m6 m7 m8 m9 m10 m11 m12 m13 m14 m15=some l')(hg:h.get blk=some (.cells true 1 (([p0,p1,p2,p3,p4,p5,p6,p7,p8,p9,p10,p11,p12,p13,p14,p15]:List Nat).map Yx)))(hg2:h.get c=some (.cells true 1 (([m0,m1,m2,m3,m4,m5,m6,m7,m8,m9,m10,m11,m12,m13,m14,m15]:List Nat).map Yx)))(hne:blk≠c) :
  CallOK Tryd.prog ⟨nv,b⟩ 131 [.pointer (some ⟨blk,0,none⟩),.pointer (some ⟨c,0,none⟩),.string X2s] h
   (fun r h1=>r=.ret (.tuple #[])∧h1=h.set blk (some (.cells true 1 (l'.map Yx)))) :=
 Qd0 (k:=100) (m:=4) Vm Qhq Qej (fun b=>by rw[Xtz b p0 p1 p2 p3 p4 p5 p6 p7 p8 p9 p10 p11 p12 p13 p14 p15 m0 m1 m2 m3 m4 m5 m6 m7 m8 m9 m10 m11 m12 m13 m14 m15,hl];rfl) rfl (Zg _) (Zg _) (Zg _) hg hg2 hne (Y7 (Qew _ _ _) (Y7 (Qen _ _ _) (Y7 (Yp rfl) Ji)))
theorem Xvy(b:Nat){h:Heap}{blk c:Nat}(p0 p1 p2 p3 p4 p5 p6 p7 p8 p9 p10 p11 p12 p13 p14 p15 m0 m1 m2 m3 m4 m5 m6 m7 m8 m9 m10 m11 m12 m13 m14 m15:Nat){l':List Nat}(hl:Uk [p0,p1,p2,p3,p4,p5,p6,p7,p8,p9,p10,p11,p12,p13,p14,p15] m14 m10 m4 m8 m9 m15 m13 m6 m1 m12 m0 m2 m11 m7 m5 m3=some l')(hg:h.get blk=some (.cells true 1 (([p0,p1,p2,p3,p4,p5,p6,p7,p8,p9,p10,p11,p12,p13,p14,p15]:List Nat).map Yx)))(hg2:h.get c=some (.cells true 1 (([m0,m1,m2,m3,m4,m5,m6,m7,m8,m9,m10,m11,m12,m13,m14,m15]:List Nat).map Yx)))(hne:blk≠c) :
  CallOK Tryd.prog ⟨nv,b⟩ 131 [.pointer (some ⟨blk,0,none⟩),.pointer (some ⟨c,0,none⟩),.string X2v] h
   (fun r h1=>r=.ret (.tuple #[])∧h1=h.set blk (some (.cells true 1 (l'.map Yx)))) :=
 Qd0 (k:=100) (m:=4) Vm Qhq Qej (fun b=>by rw[Xt8 b p0 p1 p2 p3 p4 p5 p6 p7 p8 p9 p10 p11 p12 p13 p14 p15 m0 m1 m2 m3 m4 m5 m6 m7 m8 m9 m10 m11 m12 m13 m14 m15,hl];rfl) rfl (Zg _) (Zg _) (Zg _) hg hg2 hne (Y7 (Qew _ _ _) (Y7 (Qen _ _ _) (Y7 (Yp rfl) Ji)))
theorem Xwp(b:Nat){h:Heap}{blk c:Nat}(p0 p1 p2 p3 p4 p5 p6 p7 p8 p9 p10 p11 p12 p13 p14 p15 m0 m1 m2 m3 m4 m5 m6 m7 m8 m9 m10 m11 m12 m13 m14 m15:Nat){l':List Nat}(hl:Uk [p0,p1,p2,p3,p4,p5,p6,p7,p8,p9,p10,p11,p12,p13,p14,p15] m11 m8 m12 m0 m5 m2 m15 m13 m10 m14 m3 m6 m7 m1 m9 m4=some l')(hg:h.get blk=some (.cells true 1 (([p0,p1,p2,p3,p4,p5,p6,p7,p8,p9,p10,p11,p12,p13,p14,p15]:List Nat).map Yx)))(hg2:h.get c=some (.cells true 1 (([m0,m1,m2,m3,m4,m5,m6,m7,m8,m9,m10,m11,m12,m13,m14,m15]:List Nat).map Yx)))(hne:blk≠c) :
  CallOK Tryd.prog ⟨nv,b⟩ 131 [.pointer (some ⟨blk,0,none⟩),.pointer (some ⟨c,0,none⟩),.string X34] h
   (fun r h1=>r=.ret (.tuple #[])∧h1=h.set blk (some (.cells true 1 (l'.map Yx)))) :=
 Qd0 (k:=100) (m:=4) Vm Qhq Qej (fun b=>by rw[Xsh b p0 p1 p2 p3 p4 p5 p6 p7 p8 p9 p10 p11 p12 p13 p14 p15 m0 m1 m2 m3 m4 m5 m6 m7 m8 m9 m10 m11 m12 m13 m14 m15,hl];rfl) rfl (Zg _) (Zg _) (Zg _) hg hg2 hne (Y7 (Qew _ _ _) (Y7 (Qen _ _ _) (Y7 (Yp rfl) Ji)))
theorem Xv4(b:Nat){h:Heap}{blk c:Nat}(p0 p1 p2 p3 p4 p5 p6 p7 p8 p9 p10 p11 p12 p13 p14 p15 m0 m1 m2 m3 m4 m5 m6 m7 m8 m9 m10 m11 m12 m13 m14 m15:Nat){l':List Nat}(hl:Uk [p0,p1,p2,p3,p4,p5,p6,p7,p8,p9,p10,p11,p12,p13,p14,p15] m7 m9 m3 m1 m13 m12 m11 m14 m2 m6 m5 m10 m4 m0 m15 m8=some l')(hg:h.get blk=some (.cells true 1 (([p0,p1,p2,p3,p4,p5,p6,p7,p8,p9,p10,p11,p12,p13,p14,p15]:List Nat).map Yx)))(hg2:h.get c=some (.cells true 1 (([m0,m1,m2,m3,m4,m5,m6,m7,m8,m9,m10,m11,m12,m13,m14,m15]:List Nat).map Yx)))(hne:blk≠c) :
  CallOK Tryd.prog ⟨nv,b⟩ 131 [.pointer (some ⟨blk,0,none⟩),.pointer (some ⟨c,0,none⟩),.string X30] h
   (fun r h1=>r=.ret (.tuple #[])∧h1=h.set blk (some (.cells true 1 (l'.map Yx)))) :=
 Qd0 (k:=100) (m:=4) Vm Qhq Qej (fun b=>by rw[Xri b p0 p1 p2 p3 p4 p5 p6 p7 p8 p9 p10 p11 p12 p13 p14 p15 m0 m1 m2 m3 m4 m5 m6 m7 m8 m9 m10 m11 m12 m13 m14 m15,hl];rfl) rfl (Zg _) (Zg _) (Zg _) hg hg2 hne (Y7 (Qew _ _ _) (Y7 (Qen _ _ _) (Y7 (Yp rfl) Ji)))
theorem Xxo(b:Nat){h:Heap}{blk c:Nat}(p0 p1 p2 p3 p4 p5 p6 p7 p8 p9 p10 p11 p12 p13 p14 p15 m0 m1 m2 m3 m4 m5 m6 m7 m8 m9 m10 m11 m12 m13 m14 m15:Nat){l':List Nat}(hl:Uk [p0,p1,p2,p3,p4,p5,p6,p7,p8,p9,p10,p11,p12,p13,p14,p15] m9 m0 m5 m7 m2 m4 m10 m15 m14 m1 m11 m12 m6 m8 m3 m13=some l')(hg:h.get blk=some (.cells true 1 (([p0,p1,p2,p3,p4,p5,p6,p7,p8,p9,p10,p11,p12,p13,p14,p15]:List Nat).map Yx)))(hg2:h.get c=some (.cells true 1 (([m0,m1,m2,m3,m4,m5,m6,m7,m8,m9,m10,m11,m12,m13,m14,m15]:List Nat).map Yx)))(hne:blk≠c) :
  CallOK Tryd.prog ⟨nv,b⟩ 131 [.pointer (some ⟨blk,0,none⟩),.pointer (some ⟨c,0,none⟩),.string X2q] h
   (fun r h1=>r=.ret (.tuple #[])∧h1=h.set blk (some (.cells true 1 (l'.map Yx)))) :=
 Qd0 (k:=100) (m:=4) Vm Qhq Qej (fun b=>by rw[Xrk b p0 p1 p2 p3 p4 p5 p6 p7 p8 p9 p10 p11 p12 p13 p14 p15 m0 m1 m2 m3 m4 m5 m6 m7 m8 m9 m10 m11 m12 m13 m14 m15,hl];rfl) rfl (Zg _) (Zg _) (Zg _) hg hg2 hne (Y7 (Qew _ _ _) (Y7 (Qen _ _ _) (Y7 (Yp rfl) Ji)))
theorem Xxl(b:Nat){h:Heap}{blk c:Nat}(p0 p1 p2 p3 p4 p5 p6 p7 p8 p9 p10 p11 p12 p13 p14 p15 m0 m1 m2 m3 m4 m5 m6 m7 m8 m9 m10 m11 m12 m13 m14 m15:Nat){l':List Nat}(hl:Uk [p0,p1,p2,p3,p4,p5,p6,p7,p8,p9,p10,p11,p12,p13,p14,p15] m2 m12 m6 m10 m0 m11 m8 m3 m4 m13 m7 m5 m15 m14 m1 m9=some l')(hg:h.get blk=some (.cells true 1 (([p0,p1,p2,p3,p4,p5,p6,p7,p8,p9,p10,p11,p12,p13,p14,p15]:List Nat).map Yx)))(hg2:h.get c=some (.cells true 1 (([m0,m1,m2,m3,m4,m5,m6,m7,m8,m9,m10,m11,m12,m13,m14,m15]:List Nat).map Yx)))(hne:blk≠c) :
  CallOK Tryd.prog ⟨nv,b⟩ 131 [.pointer (some ⟨blk,0,none⟩),.pointer (some ⟨c,0,none⟩),.string X2o] h
   (fun r h1=>r=.ret (.tuple #[])∧h1=h.set blk (some (.cells true 1 (l'.map Yx)))) :=
 Qd0 (k:=100) (m:=4) Vm Qhq Qej (fun b=>by rw[Xro b p0 p1 p2 p3 p4 p5 p6 p7 p8 p9 p10 p11 p12 p13 p14 p15 m0 m1 m2 m3 m4 m5 m6 m7 m8 m9 m10 m11 m12 m13 m14 m15,hl];rfl) rfl (Zg _) (Zg _) (Zg _) hg hg2 hne (Y7 (Qew _ _ _) (Y7 (Qen _ _ _) (Y7 (Yp rfl) Ji)))
theorem Xvw(b:Nat){h:Heap}{blk c:Nat}(p0 p1 p2 p3 p4 p5 p6 p7 p8 p9 p10 p11 p12 p13 p14 p15 m0 m1 m2 m3 m4 m5 m6 m7 m8 m9 m10 m11 m12 m13 m14 m15:Nat){l':List Nat}(hl:Uk [p0,p1,p2,p3,p4,p5,p6,p7,p8,p9,p10,p11,p12,p13,p14,p15] m12 m5 m1 m15 m14 m13 m4 m10 m0 m7 m6 m3 m9 m2 m8 m11=some l')(hg:h.get blk=some (.cells true 1 (([p0,p1,p2,p3,p4,p5,p6,p7,p8,p9,p10,p11,p12,p13,p14,p15]:List Nat).map Yx)))(hg2:h.get c=some (.cells true 1 (([m0,m1,m2,m3,m4,m5,m6,m7,m8,m9,m10,m11,m12,m13,m14,m15]:List Nat).map Yx)))(hne:blk≠c) :
  CallOK Tryd.prog ⟨nv,b⟩ 131 [.pointer (some ⟨blk,0,none⟩),.pointer (some ⟨c,0,none⟩),.string X37] h
   (fun r h1=>r=.ret (.tuple #[])∧h1=h.set blk (some (.cells true 1 (l'.map Yx)))) :=
 Qd0 (k:=100) (m:=4) Vm Qhq Qej (fun b=>by rw[Xr4 b p0 p1 p2 p3 p4 p5 p6 p7 p8 p9 p10 p11 p12 p13 p14 p15 m0 m1 m2 m3 m4 m5 m6 m7 m8 m9 m10 m11 m12 m13 m14 m15,hl];rfl) rfl (Zg _) (Zg _) (Zg _) hg hg2 hne (Y7 (Qew _ _ _) (Y7 (Qen _ _ _) (Y7 (Yp rfl) Ji)))
theorem Xx6(b:Nat){h:Heap}{blk c:Nat}(p0 p1 p2 p3 p4 p5 p6 p7 p8 p9 p10 p11 p12 p13 p14 p15 m0 m1 m2 m3 m4 m5 m6 m7 m8 m9 m10 m11 m12 m13 m14 m15:Nat){l':List Nat}(hl:Uk [p0,p1,p2,p3,p4,p5,p6,p7,p8,p9,p10,p11,p12,p13,p14,p15] m13 m11 m7 m14 m12 m1 m3 m9 m5 m0 m15 m4 m8 m6 m2 m10=some l')(hg:h.get blk=some (.cells true 1 (([p0,p1,p2,p3,p4,p5,p6,p7,p8,p9,p10,p11,p12,p13,p14,p15]:List Nat).map Yx)))(hg2:h.get c=some (.cells true 1 (([m0,m1,m2,m3,m4,m5,m6,m7,m8,m9,m10,m11,m12,m13,m14,m15]:List Nat).map Yx)))(hne:blk≠c) :
  CallOK Tryd.prog ⟨nv,b⟩ 131 [.pointer (some ⟨blk,0,none⟩),.pointer (some ⟨c,0,none⟩),.string X2z] h
   (fun r h1=>r=.ret (.tuple #[])∧h1=h.set blk (some (.cells true 1 (l'.map Yx)))) :=
 Qd0 (k:=100) (m:=4) Vm Qhq Qej (fun b=>by rw[Xt4 b p0 p1 p2 p3 p4 p5 p6 p7 p8 p9 p10 p11 p12 p13 p14 p15 m0 m1 m2 m3 m4 m5 m6 m7 m8 m9 m10 m11 m12 m13 m14 m15,hl];rfl) rfl (Zg _) (Zg _) (Zg _) hg hg2 hne (Y7 (Qew _ _ _) (Y7 (Qen _ _ _) (Y7 (Yp rfl) Ji)))
theorem Xwu(b:Nat){h:Heap}{blk c:Nat}(p0 p1 p2 p3 p4 p5 p6 p7 p8 p9 p10 p11 p12 p13 p14 p15 m0 m1 m2 m3 m4 m5 m6 m7 m8 m9 m10 m11 m12 m13 m14 m15:Nat){l':List Nat}(hl:Uk [p0,p1,p2,p3,p4,p5,p6,p7,p8,p9,p10,p11,p12,p13,p14,p15] m6 m15 m14 m9 m11 m3 m0 m8 m12 m2 m13 m7 m1 m4 m10 m5=some l')(hg:h.get blk=some (.cells true 1 (([p0,p1,p2,p3,p4,p5,p6,p7,p8,p9,p10,p11,p12,p13,p14,p15]:List Nat).map Yx)))(hg2:h.get c=some (.cells true 1 (([m0,m1,m2,m3,m4,m5,m6,m7,m8,m9,m10,m11,m12,m13,m14,m15]:List Nat).map Yx)))(hne:blk≠c) :
  CallOK Tryd.prog ⟨nv,b⟩ 131 [.pointer (some ⟨blk,0,none⟩),.pointer (some ⟨c,0,none⟩),.string X2t] h
   (fun r h1=>r=.ret (.tuple #[])∧h1=h.set blk (some (.cells true 1 (l'.map Yx)))) :=
 Qd0 (k:=100) (m:=4) Vm Qhq Qej (fun b=>by rw[Xr1 b p0 p1 p2 p3 p4 p5 p6 p7 p8 p9 p10 p11 p12 p13 p14 p15 m0 m1 m2 m3 m4 m5 m6 m7 m8 m9 m10 m11 m12 m13 m14 m15,hl];rfl) rfl (Zg _) (Zg _) (Zg _) hg hg2 hne (Y7 (Qew _ _ _) (Y7 (Qen _ _ _) (Y7 (Yp rfl) Ji)))
theorem Xwi(b:Nat){h:Heap}{blk c:Nat}(p0 p1 p2 p3 p4 p5 p6 p7 p8 p9 p10 p11 p12 p13 p14 p15 m0 m1 m2 m3 m4 m5 m6 m7 m8 m9 m10 m11 m12 m13 m14 m15:Nat){l':List Nat}(hl:Uk [p0,p1,p2,p3,p4,p5,p6,p7,p8,p9,p10,p11,p12,p13,p14,p15] m10 m2 m8 m4 m7 m6 m1 m5 m15 m11 m9 m14 m3 m12 m13 m0=some l')(hg:h.get blk=some (.cells true 1 (([p0,p1,p2,p3,p4,p5,p6,p7,p8,p9,p10,p11,p12,p13,p14,p15]:List Nat).map Yx)))(hg2:h.get c=some (.cells true 1 (([m0,m1,m2,m3,m4,m5,m6,m7,m8,m9,m10,m11,m12,m13,m14,m15]:List Nat).map Yx)))(hne:blk≠c) :
  CallOK Tryd.prog ⟨nv,b⟩ 131 [.pointer (some ⟨blk,0,none⟩),.pointer (some ⟨c,0,none⟩),.string X33] h
   (fun r h1=>r=.ret (.tuple #[])∧h1=h.set blk (some (.cells true 1 (l'.map Yx)))) :=
 Qd0 (k:=100) (m:=4) Vm Qhq Qej (fun b=>by rw[Xrf b p0 p1 p2 p3 p4 p5 p6 p7 p8 p9 p10 p11 p12 p13 p14 p15 m0 m1 m2 m3 m4 m5 m6 m7 m8 m9 m10 m11 m12 m13 m14 m15,hl];rfl) rfl (Zg _) (Zg _) (Zg _) hg hg2 hne (Y7 (Qew _ _ _) (Y7 (Qen _ _ _) (Y7 (Yp rfl) Ji)))
theorem Xkk(b:Nat):Qc1 Tryd.prog ⟨nv,b⟩ Qod:=by
 intro f args h r h' hx
 unfold Qod at hx
 obtain⟨hf,hx⟩:=Qb6 hx
 have hf:=Nat.eq_of_beq_eq_true hf
 subst hf
 split at hx
 ·rename_i p q s hq
  obtain⟨⟨blk,cs⟩,h1,hx⟩:=J6 hx
  obtain⟨⟨c,cs2⟩,h2,hx⟩:=J6 hx
  obtain⟨l,h3,hx⟩:=J6 hx
  obtain⟨m,h4,hx⟩:=J6 hx
  cases hne:Nat.beq blk c with
  | true=>simp only at hx;rw[hne]at hx;cases hx
  | false =>
  simp only at hx
  rw[hne,bq_false]at hx
  have hne:=Nat.ne_of_beq_eq_false hne
  obtain⟨l',h5,hx⟩:=J6 hx
  cases hx
  obtain⟨rfl,hg⟩:=Qjr h1
  obtain⟨rfl,hg2⟩:=Qjr h2
  have:=Q9i h3
  subst this
  have:=Q9i h4
  subst this
  obtain⟨p0,p1,p2,p3,p4,p5,p6,p7,p8,p9,p10,p11,p12,p13,p14,p15,m0,m1,m2,m3,m4,m5,m6,m7,m8,m9,m10,m11,m12,m13,m14,m15,rfl,rfl⟩:=Xpq h5
  unfold Xof at h5
  simp only at h5
  cases e0:eqN (s.data.toList.map UInt8.toNat) [48,49,50,51,52,53,54,55,56,57,97,98,99,100,101,102]with
  | true =>
   rw[e0,bq_true]at h5
   have:=Qhu (t:=X2s) e0 rfl
   subst this
   exact Xw6 b p0 p1 p2 p3 p4 p5 p6 p7 p8 p9 p10 p11 p12 p13 p14 p15 m0 m1 m2 m3 m4 m5 m6 m7 m8 m9 m10 m11 m12 m13 m14 m15 h5 hg hg2 hne
  | false =>
  rw[e0,bq_false]at h5
  cases e1:eqN (s.data.toList.map UInt8.toNat) [101,97,52,56,57,102,100,54,49,99,48,50,98,55,53,51]with
  | true =>
   rw[e1,bq_true]at h5
   have:=Qhu (t:=X2v) e1 rfl
   subst this
   exact Xvy b p0 p1 p2 p3 p4 p5 p6 p7 p8 p9 p10 p11 p12 p13 p14 p15 m0 m1 m2 m3 m4 m5 m6 m7 m8 m9 m10 m11 m12 m13 m14 m15 h5 hg hg2 hne
  | false =>
  rw[e1,bq_false]at h5
  cases e2:eqN (s.data.toList.map UInt8.toNat) [98,56,99,48,53,50,102,100,97,101,51,54,55,49,57,52]with
  | true =>
   rw[e2,bq_true]at h5
   have:=Qhu (t:=X34) e2 rfl
   subst this
   exact Xwp b p0 p1 p2 p3 p4 p5 p6 p7 p8 p9 p10 p11 p12 p13 p14 p15 m0 m1 m2 m3 m4 m5 m6 m7 m8 m9 m10 m11 m12 m13 m14 m15 h5 hg hg2 hne
  | false =>
  rw[e2,bq_false]at h5
  cases e3:eqN (s.data.toList.map UInt8.toNat) [55,57,51,49,100,99,98,101,50,54,53,97,52,48,102,56]with
  | true =>
   rw[e3,bq_true]at h5
   have:=Qhu (t:=X30) e3 rfl
   subst this
   exact Xv4 b p0 p1 p2 p3 p4 p5 p6 p7 p8 p9 p10 p11 p12 p13 p14 p15 m0 m1 m2 m3 m4 m5 m6 m7 m8 m9 m10 m11 m12 m13 m14 m15 h5 hg hg2 hne
  | false =>
  rw[e3,bq_false]at h5
  cases e4:eqN (s.data.toList.map UInt8.toNat) [57,48,53,55,50,52,97,102,101,49,98,99,54,56,51,100]with
  | true =>
   rw[e4,bq_true]at h5
   have:=Qhu (t:=X2q) e4 rfl
   subst this
   exact Xxo b p0 p1 p2 p3 p4 p5 p6 p7 p8 p9 p10 p11 p12 p13 p14 p15 m0 m1 m2 m3 m4 m5 m6 m7 m8 m9 m10 m11 m12 m13 m14 m15 h5 hg hg2 hne
  | false =>
  rw[e4,bq_false]at h5
  cases e5:eqN (s.data.toList.map UInt8.toNat) [50,99,54,97,48,98,56,51,52,100,55,53,102,101,49,57]with
  | true =>
   rw[e5,bq_true]at h5
   have:=Qhu (t:=X2o) e5 rfl
   subst this
   exact Xxl b p0 p1 p2 p3 p4 p5 p6 p7 p8 p9 p10 p11 p12 p13 p14 p15 m0 m1 m2 m3 m4 m5 m6 m7 m8 m9 m10 m11 m12 m13 m14 m15 h5 hg hg2 hne
  | false =>
  rw[e5,bq_false]at h5
  cases e6:eqN (s.data.toList.map UInt8.toNat) [99,53,49,102,101,100,52,97,48,55,54,51,57,50,56,98]with
  | true =>
   rw[e6,bq_true]at h5
   have:=Qhu (t:=X37) e6 rfl
   subst this
   exact Xvw b p0 p1 p2 p3 p4 p5 p6 p7 p8 p9 p10 p11 p12 p13 p14 p15 m0 m1 m2 m3 m4 m5 m6 m7 m8 m9 m10 m11 m12 m13 m14 m15 h5 hg hg2 hne
  | false =>
  rw[e6,bq_false]at h5
  cases e7:eqN (s.data.toList.map UInt8.toNat) [100,98,55,101,99,49,51,57,53,48,102,52,56,54,50,97]with
  | true =>
   rw[e7,bq_true]at h5
   have:=Qhu (t:=X2z) e7 rfl
   subst this
   exact Xx6 b p0 p1 p2 p3 p4 p5 p6 p7 p8 p9 p10 p11 p12 p13 p14 p15 m0 m1 m2 m3 m4 m5 m6 m7 m8 m9 m10 m11 m12 m13 m14 m15 h5 hg hg2 hne
  | false =>
  rw[e7,bq_false]at h5
  cases e8:eqN (s.data.toList.map UInt8.toNat) [54,102,101,57,98,51,48,56,99,50,100,55,49,52,97,53]with
  | true =>
   rw[e8,bq_true]at h5
   have:=Qhu (t:=X2t) e8 rfl
   subst this
   exact Xwu b p0 p1 p2 p3 p4 p5 p6 p7 p8 p9 p10 p11 p12 p13 p14 p15 m0 m1 m2 m3 m4 m5 m6 m7 m8 m9 m10 m11 m12 m13 m14 m15 h5 hg hg2 hne
  | false =>
  rw[e8,bq_false]at h5
  cases e9:eqN (s.data.toList.map UInt8.toNat) [97,50,56,52,55,54,49,53,102,98,57,101,51,99,100,48]with
  | true =>
   rw[e9,bq_true]at h5
   have:=Qhu (t:=X33) e9 rfl
   subst this
   exact Xwi b p0 p1 p2 p3 p4 p5 p6 p7 p8 p9 p10 p11 p12 p13 p14 p15 m0 m1 m2 m3 m4 m5 m6 m7 m8 m9 m10 m11 m12 m13 m14 m15 h5 hg hg2 hne
  | false =>
  rw[e9,bq_false]at h5
  cases h5
 ·cases hx
theorem Xfa:Qey Qod:=by
 intro f args h r h' hx
 unfold Qod at hx
 obtain⟨hf,hx⟩:=Qb6 hx
 split at hx
 ·obtain⟨⟨blk,cs⟩,h1,hx⟩:=J6 hx
  obtain⟨⟨c,cs2⟩,h2,hx⟩:=J6 hx
  obtain⟨l,h3,hx⟩:=J6 hx
  obtain⟨m,h4,hx⟩:=J6 hx
  cases hne:Nat.beq blk c with
  | true=>simp only at hx;rw[hne]at hx;cases hx
  | false =>
  simp only at hx
  rw[hne,bq_false]at hx
  obtain⟨l',h5,hx⟩:=J6 hx
  cases hx
  obtain⟨_,hg⟩:=Qjr h1
  exact LowOK.set _ _ _ (Heap.get_lt hg)
 ·cases hx
end Go.Proofs.YtgeeklmjfbiieaaDoor
end
noncomputable section
namespace Go.Proofs.YtgeeklmjfbiieaaDoor
open Go Go.Ab
set_option maxRecDepth 1000000
def W4:List Value:=[.int .u32 1779033703,.int .u32 3144134277,.int .u32 1013904242,.int .u32 2773480762,.int .u32 1359893119,.int .u32 2600822924,.int .u32 528734635,.int .u32 1541459225]
def Qjg:List Value:=[.string X2s,.string X2v,.string X34,.string X30,.string X2q,.string X2o,.string X37,.string X2z,.string X2t,.string X33]
def Qat:List (Nat × List Value):=[(0,W4),(2,Qjg)]
def Xrw(h0 h1 h2 h3 h4 h5 h6 h7 p12 p13 p14 m0 m1 m2 m3 m4 m5 m6 m7 m8 m9 m10 m11 m12 m13 m14 m15:Nat):Option (List Nat) :=
 ob (Uk [h0,h1,h2,h3,h4,h5,h6,h7,1779033703,3144134277,1013904242,2773480762,p12,p13,p14,1541459225] m0 m1 m2 m3 m4 m5 m6 m7 m8 m9 m10 m11 m12 m13 m14 m15) fun l =>
 ob (Uk l m14 m10 m4 m8 m9 m15 m13 m6 m1 m12 m0 m2 m11 m7 m5 m3) fun l =>
 ob (Uk l m11 m8 m12 m0 m5 m2 m15 m13 m10 m14 m3 m6 m7 m1 m9 m4) fun l =>
 ob (Uk l m7 m9 m3 m1 m13 m12 m11 m14 m2 m6 m5 m10 m4 m0 m15 m8) fun l =>
 ob (Uk l m9 m0 m5 m7 m2 m4 m10 m15 m14 m1 m11 m12 m6 m8 m3 m13) fun l =>
 ob (Uk l m2 m12 m6 m10 m0 m11 m8 m3 m4 m13 m7 m5 m15 m14 m1 m9) fun l =>
 ob (Uk l m12 m5 m1 m15 m14 m13 m4 m10 m0 m7 m6 m3 m9 m2 m8 m11) fun l =>
 ob (Uk l m13 m11 m7 m14 m12 m1 m3 m9 m5 m0 m15 m4 m8 m6 m2 m10) fun l =>
 ob (Uk l m6 m15 m14 m9 m11 m3 m0 m8 m12 m2 m13 m7 m1 m4 m10 m5) fun l =>
 Uk l m10 m2 m8 m4 m7 m6 m1 m5 m15 m11 m9 m14 m3 m12 m13 m0
def X2x(h0 h1 h2 h3 h4 h5 h6 h7:Nat)(l:List Nat):Option Value:=match l with
 | [p0,p1,p2,p3,p4,p5,p6,p7,p8,p9,p10,p11,p12,p13,p14,p15]=>some (.agg ⟨[.int .u32 (Qvk (.ofNat h0) (Qvk (.ofNat p0) (.ofNat p8))),.int .u32 (Qvk (.ofNat h1) (Qvk (.ofNat p1) (.ofNat p9))),.int .u32 (Qvk (.ofNat h2) (Qvk (.ofNat p2) (.ofNat p10))),.int .u32 (Qvk (.ofNat h3) (Qvk (.ofNat p3) (.ofNat p11))),.int .u32 (Qvk (.ofNat h4) (Qvk (.ofNat p4) (.ofNat p12))),.int .u32 (Qvk (.ofNat h5) (Qvk (.ofNat p5) (.ofNat p13))),.int .u32 (Qvk (.ofNat h6) (Qvk (.ofNat p6) (.ofNat p14))),.int .u32 (Qvk (.ofNat h7) (Qvk (.ofNat p7) (.ofNat p15)))]⟩)
 | _=>none
noncomputable def Xn1:Func:=(Tryd.prog.funcs[92]?).getD default
noncomputable def Xqq:Code:=Xn1.body.getD .skip
theorem Xi8(b:Nat)(h0 h1 h2 h3 h4 h5 h6 h7 b0 b1 b2 b3 b4 b5 b6 b7 b8 b9 b10 b11 b12 b13 b14 b15 b16 b17 b18 b19 b20 b21 b22 b23 b24 b25 b26 b27 b28 b29 b30 b31 b32 b33 b34 b35 b36 b37 b38 b39 b40 b41 b42 b43 b44 b45 b46 b47 b48 b49 b50 b51 b52 b53 b54 b55 b56 b57 b58 b59 b60 b61 b62 b63 count:Nat):(Qkg Tryd.prog (mkE Tryd.prog nv b) (Ud Tryd.prog (mkE Tryd.prog nv b) Qod 100 3) none 100 (Xy7 8 Xqq) ⟨Yi Xn1 [.agg ⟨[Yx h0,Yx h1,Yx h2,Yx h3,Yx h4,Yx h5,Yx h6,Yx h7]⟩,.pointer (some ⟨nv,0,none⟩),.int .u64 (.ofNat count),.bool true],[],(Vt nv Qat false [(1,[u8v b0,u8v b1,u8v b2,u8v b3,u8v b4,u8v b5,u8v b6,u8v b7,u8v b8,u8v b9,u8v b10,u8v b11,u8v b12,u8v b13,u8v b14,u8v b15,u8v b16,u8v b17,u8v b18,u8v b19,u8v b20,u8v b21,u8v b22,u8v b23,u8v b24,u8v b25,u8v b26,u8v b27,u8v b28,u8v b29,u8v b30,u8v b31,u8v b32,u8v b33,u8v b34,u8v b35,u8v b36,u8v b37,u8v b38,u8v b39,u8v b40,u8v b41,u8v b42,u8v b43,u8v b44,u8v b45,u8v b46,u8v b47,u8v b48,u8v b49,u8v b50,u8v b51,u8v b52,u8v b53,u8v b54,u8v b55,u8v b56,u8v b57,u8v b58,u8v b59,u8v b60,u8v b61,u8v b62,u8v b63])])⟩)=Xoc (nv+4) [Yx h0,Yx h1,Yx h2,Yx h3,Yx h4,Yx h5,Yx h6,Yx h7,Yx 1779033703,Yx 3144134277,Yx 1013904242,Yx 2773480762,.int .u32 (Qvk (.ofNat 1359893119) (Xic count)),.int .u32 (Qvk (.ofNat 2600822924) (IntKind.wrap .u32 (Int.fdiv (.ofNat count) (2 ^ 32)))),.int .u32 (Qvk (.ofNat 4294967295) (.ofNat 528734635)),Yx 1541459225] (Xoc (nv+3) [.int .u32 (Qwp b0 b1 b2 b3),.int .u32 (Qwp b4 b5 b6 b7),.int .u32 (Qwp b8 b9 b10 b11),.int .u32 (Qwp b12 b13 b14 b15),.int .u32 (Qwp b16 b17 b18 b19),.int .u32 (Qwp b20 b21 b22 b23),.int .u32 (Qwp b24 b25 b26 b27),.int .u32 (Qwp b28 b29 b30 b31),.int .u32 (Qwp b32 b33 b34 b35),.int .u32 (Qwp b36 b37 b38 b39),.int .u32 (Qwp b40 b41 b42 b43),.int .u32 (Qwp b44 b45 b46 b47),.int .u32 (Qwp b48 b49 b50 b51),.int .u32 (Qwp b52 b53 b54 b55),.int .u32 (Qwp b56 b57 b58 b59),.int .u32 (Qwp b60 b61 b62 b63)] (Qkg Tryd.prog (mkE Tryd.prog nv b) (Ud Tryd.prog (mkE Tryd.prog nv b) Qod 100 3) none 100 (Xy7 8 Xqq) ⟨Yi Xn1 [.agg ⟨[Yx h0,Yx h1,Yx h2,Yx h3,Yx h4,Yx h5,Yx h6,Yx h7]⟩,.pointer (some ⟨nv,0,none⟩),.int .u64 (.ofNat count),.bool true],[],(Vt nv Qat false [(1,[u8v b0,u8v b1,u8v b2,u8v b3,u8v b4,u8v b5,u8v b6,u8v b7,u8v b8,u8v b9,u8v b10,u8v b11,u8v b12,u8v b13,u8v b14,u8v b15,u8v b16,u8v b17,u8v b18,u8v b19,u8v b20,u8v b21,u8v b22,u8v b23,u8v b24,u8v b25,u8v b26,u8v b27,u8v b28,u8v b29,u8v b30,u8v b31,u8v b32,u8v b33,u8v b34,u8v b35,u8v b36,u8v b37,u8v b38,u8v b39,u8v b40,u8v b41,u8v b42,u8v b43,u8v b44,u8v b45,u8v b46,u8v b47,u8v b48,u8v b49,u8v b50,u8v b51,u8v b52,u8v b53,u8v b54,u8v b55,u8v b56,u8v b57,u8v b58,u8v b59,u8v b60,u8v b61,u8v b62,u8v b63])])⟩)):=by kernel_rfl
theorem Xj1(b:Nat)(h0 h1 h2 h3 h4 h5 h6 h7 b0 b1 b2 b3 b4 b5 b6 b7 b8 b9 b10 b11 b12 b13 b14 b15 b16 b17 b18 b19 b20 b21 b22 b23 b24 b25 b26 b27 b28 b29 b30 b31 b32 b33 b34 b35 b36 b37 b38 b39 b40 b41 b42 b43 b44 b45 b46 b47 b48 b49 b50 b51 b52 b53 b54 b55 b56 b57 b58 b59 b60 b61 b62 b63 count:Nat) :
  Xxf ((Ud Tryd.prog (mkE Tryd.prog nv b) Qod 100 4).fn 92 [.agg ⟨[Yx h0,Yx h1,Yx h2,Yx h3,Yx h4,Yx h5,Yx h6,Yx h7]⟩,.pointer (some ⟨nv,0,none⟩),.int .u64 (.ofNat count),.bool true] (Vt nv Qat false [(1,[u8v b0,u8v b1,u8v b2,u8v b3,u8v b4,u8v b5,u8v b6,u8v b7,u8v b8,u8v b9,u8v b10,u8v b11,u8v b12,u8v b13,u8v b14,u8v b15,u8v b16,u8v b17,u8v b18,u8v b19,u8v b20,u8v b21,u8v b22,u8v b23,u8v b24,u8v b25,u8v b26,u8v b27,u8v b28,u8v b29,u8v b30,u8v b31,u8v b32,u8v b33,u8v b34,u8v b35,u8v b36,u8v b37,u8v b38,u8v b39,u8v b40,u8v b41,u8v b42,u8v b43,u8v b44,u8v b45,u8v b46,u8v b47,u8v b48,u8v b49,u8v b50,u8v b51,u8v b52,u8v b53,u8v b54,u8v b55,u8v b56,u8v b57,u8v b58,u8v b59,u8v b60,u8v b61,u8v b62,u8v b63])])) =
   ob (Xrw h0 h1 h2 h3 h4 h5 h6 h7 (Bl.xr 1359893119 (Bl.w32 count)) (Bl.xr 2600822924 (Bl.w32 (Nat.div count 4294967296))) (Bl.xr 4294967295 528734635) (Bl.le4 b0 b1 b2 b3) (Bl.le4 b4 b5 b6 b7) (Bl.le4 b8 b9 b10 b11) (Bl.le4 b12 b13 b14 b15) (Bl.le4 b16 b17 b18 b19) (Bl.le4 b20 b21 b22 b23) (Bl.le4 b24 b25 b26 b27) (Bl.le4 b28 b29 b30 b31) (Bl.le4 b32 b33 b34 b35) (Bl.le4 b36 b37 b38 b39) (Bl.le4 b40 b41 b42 b43) (Bl.le4 b44 b45 b46 b47) (Bl.le4 b48 b49 b50 b51) (Bl.le4 b52 b53 b54 b55) (Bl.le4 b56 b57 b58 b59) (Bl.le4 b60 b61 b62 b63)) (X2x h0 h1 h2 h3 h4 h5 h6 h7):=by
 have e12:Value.int .u32 (Qvk (.ofNat 1359893119) (Xic count))=Yx (Bl.xr 1359893119 (Bl.w32 count)):=by rw[Q9j,Qm7];rfl
 have e13:Value.int .u32 (Qvk (.ofNat 2600822924) (IntKind.wrap .u32 (Int.fdiv (.ofNat count) (2 ^ 32))))=Yx (Bl.xr 2600822924 (Bl.w32 (Nat.div count 4294967296))):=by rw[Xo8,Qbd];exact congrArg (Value.int .u32) (Qm7 _ _)
 have e14:Value.int .u32 (Qvk (.ofNat 4294967295) (.ofNat 528734635))=Yx (Bl.xr 4294967295 528734635):=by first | rfl | (rw[Qm7];rfl)
 rw[Xog (n0:=8) (F:=Xn1) (c:=Xqq) (by kernel_rfl) (by kernel_rfl) (by kernel_rfl) (by kernel_rfl) (by kernel_rfl),Xi8,e12,e13,e14]
 simp only[Xoo]
 show _=_
 kernel_rfl
theorem Xeq(b:Nat)(h0 h1 h2 h3 h4 h5 h6 h7 b0 b1 b2 b3 b4 b5 b6 b7 b8 b9 b10 b11 b12 b13 b14 b15 b16 b17 b18 b19 b20 b21 b22 b23 b24 b25 b26 b27 b28 b29 b30 b31 b32 b33 b34 b35 b36 b37 b38 b39 b40 b41 b42 b43 b44 b45 b46 b47 b48 b49 b50 b51 b52 b53 b54 b55 b56 b57 b58 b59 b60 b61 b62 b63 count:Nat):(Qkg Tryd.prog (mkE Tryd.prog nv b) (Ud Tryd.prog (mkE Tryd.prog nv b) Qod 100 3) none 100 (Xy7 8 Xqq) ⟨Yi Xn1 [.agg ⟨[Yx h0,Yx h1,Yx h2,Yx h3,Yx h4,Yx h5,Yx h6,Yx h7]⟩,.pointer (some ⟨nv,0,none⟩),.int .u64 (.ofNat count),.bool false],[],(Vt nv Qat false [(1,[u8v b0,u8v b1,u8v b2,u8v b3,u8v b4,u8v b5,u8v b6,u8v b7,u8v b8,u8v b9,u8v b10,u8v b11,u8v b12,u8v b13,u8v b14,u8v b15,u8v b16,u8v b17,u8v b18,u8v b19,u8v b20,u8v b21,u8v b22,u8v b23,u8v b24,u8v b25,u8v b26,u8v b27,u8v b28,u8v b29,u8v b30,u8v b31,u8v b32,u8v b33,u8v b34,u8v b35,u8v b36,u8v b37,u8v b38,u8v b39,u8v b40,u8v b41,u8v b42,u8v b43,u8v b44,u8v b45,u8v b46,u8v b47,u8v b48,u8v b49,u8v b50,u8v b51,u8v b52,u8v b53,u8v b54,u8v b55,u8v b56,u8v b57,u8v b58,u8v b59,u8v b60,u8v b61,u8v b62,u8v b63])])⟩)=Xoc (nv+4) [Yx h0,Yx h1,Yx h2,Yx h3,Yx h4,Yx h5,Yx h6,Yx h7,Yx 1779033703,Yx 3144134277,Yx 1013904242,Yx 2773480762,.int .u32 (Qvk (.ofNat 1359893119) (Xic count)),.int .u32 (Qvk (.ofNat 2600822924) (IntKind.wrap .u32 (Int.fdiv (.ofNat count) (2 ^ 32)))),.int .u32 (.ofNat 528734635),Yx 1541459225] (Xoc (nv+3) [.int .u32 (Qwp b0 b1 b2 b3),.int .u32 (Qwp b4 b5 b6 b7),.int .u32 (Qwp b8 b9 b10 b11),.int .u32 (Qwp b12 b13 b14 b15),.int .u32 (Qwp b16 b17 b18 b19),.int .u32 (Qwp b20 b21 b22 b23),.int .u32 (Qwp b24 b25 b26 b27),.int .u32 (Qwp b28 b29 b30 b31),.int .u32 (Qwp b32 b33 b34 b35),.int .u32 (Qwp b36 b37 b38 b39),.int .u32 (Qwp b40 b41 b42 b43),.int .u32 (Qwp b44 b45 b46 b47),.int .u32 (Qwp b48 b49 b50 b51),.int .u32 (Qwp b52 b53 b54 b55),.int .u32 (Qwp b56 b57 b58 b59),.int .u32 (Qwp b60 b61 b62 b63)] (Qkg Tryd.prog (mkE Tryd.prog nv b) (Ud Tryd.prog (mkE Tryd.prog nv b) Qod 100 3) none 100 (Xy7 8 Xqq) ⟨Yi Xn1 [.agg ⟨[Yx h0,Yx h1,Yx h2,Yx h3,Yx h4,Yx h5,Yx h6,Yx h7]⟩,.pointer (some ⟨nv,0,none⟩),.int .u64 (.ofNat count),.bool false],[],(Vt nv Qat false [(1,[u8v b0,u8v b1,u8v b2,u8v b3,u8v b4,u8v b5,u8v b6,u8v b7,u8v b8,u8v b9,u8v b10,u8v b11,u8v b12,u8v b13,u8v b14,u8v b15,u8v b16,u8v b17,u8v b18,u8v b19,u8v b20,u8v b21,u8v b22,u8v b23,u8v b24,u8v b25,u8v b26,u8v b27,u8v b28,u8v b29,u8v b30,u8v b31,u8v b32,u8v b33,u8v b34,u8v b35,u8v b36,u8v b37,u8v b38,u8v b39,u8v b40,u8v b41,u8v b42,u8v b43,u8v b44,u8v b45,u8v b46,u8v b47,u8v b48,u8v b49,u8v b50,u8v b51,u8v b52,u8v b53,u8v b54,u8v b55,u8v b56,u8v b57,u8v b58,u8v b59,u8v b60,u8v b61,u8v b62,u8v b63])])⟩)):=by kernel_rfl
theorem Xgo(b:Nat)(h0 h1 h2 h3 h4 h5 h6 h7 b0 b1 b2 b3 b4 b5 b6 b7 b8 b9 b10 b11 b12 b13 b14 b15 b16 b17 b18 b19 b20 b21 b22 b23 b24 b25 b26 b27 b28 b29 b30 b31 b32 b33 b34 b35 b36 b37 b38 b39 b40 b41 b42 b43 b44 b45 b46 b47 b48 b49 b50 b51 b52 b53 b54 b55 b56 b57 b58 b59 b60 b61 b62 b63 count:Nat) :
  Xxf ((Ud Tryd.prog (mkE Tryd.prog nv b) Qod 100 4).fn 92 [.agg ⟨[Yx h0,Yx h1,Yx h2,Yx h3,Yx h4,Yx h5,Yx h6,Yx h7]⟩,.pointer (some ⟨nv,0,none⟩),.int .u64 (.ofNat count),.bool false] (Vt nv Qat false [(1,[u8v b0,u8v b1,u8v b2,u8v b3,u8v b4,u8v b5,u8v b6,u8v b7,u8v b8,u8v b9,u8v b10,u8v b11,u8v b12,u8v b13,u8v b14,u8v b15,u8v b16,u8v b17,u8v b18,u8v b19,u8v b20,u8v b21,u8v b22,u8v b23,u8v b24,u8v b25,u8v b26,u8v b27,u8v b28,u8v b29,u8v b30,u8v b31,u8v b32,u8v b33,u8v b34,u8v b35,u8v b36,u8v b37,u8v b38,u8v b39,u8v b40,u8v b41,u8v b42,u8v b43,u8v b44,u8v b45,u8v b46,u8v b47,u8v b48,u8v b49,u8v b50,u8v b51,u8v b52,u8v b53,u8v b54,u8v b55,u8v b56,u8v b57,u8v b58,u8v b59,u8v b60,u8v b61,u8v b62,u8v b63])])) =
   ob (Xrw h0 h1 h2 h3 h4 h5 h6 h7 (Bl.xr 1359893119 (Bl.w32 count)) (Bl.xr 2600822924 (Bl.w32 (Nat.div count 4294967296))) 528734635 (Bl.le4 b0 b1 b2 b3) (Bl.le4 b4 b5 b6 b7) (Bl.le4 b8 b9 b10 b11) (Bl.le4 b12 b13 b14 b15) (Bl.le4 b16 b17 b18 b19) (Bl.le4 b20 b21 b22 b23) (Bl.le4 b24 b25 b26 b27) (Bl.le4 b28 b29 b30 b31) (Bl.le4 b32 b33 b34 b35) (Bl.le4 b36 b37 b38 b39) (Bl.le4 b40 b41 b42 b43) (Bl.le4 b44 b45 b46 b47) (Bl.le4 b48 b49 b50 b51) (Bl.le4 b52 b53 b54 b55) (Bl.le4 b56 b57 b58 b59) (Bl.le4 b60 b61 b62 b63)) (X2x h0 h1 h2 h3 h4 h5 h6 h7):=by
 have e12:Value.int .u32 (Qvk (.ofNat 1359893119) (Xic count))=Yx (Bl.xr 1359893119 (Bl.w32 count)):=by rw[Q9j,Qm7];rfl
 have e13:Value.int .u32 (Qvk (.ofNat 2600822924) (IntKind.wrap .u32 (Int.fdiv (.ofNat count) (2 ^ 32))))=Yx (Bl.xr 2600822924 (Bl.w32 (Nat.div count 4294967296))):=by rw[Xo8,Qbd];exact congrArg (Value.int .u32) (Qm7 _ _)
 have e14:Value.int .u32 (.ofNat 528734635)=Yx 528734635:=by first | rfl | (rw[Qm7];rfl)
 rw[Xog (n0:=8) (F:=Xn1) (c:=Xqq) (by kernel_rfl) (by kernel_rfl) (by kernel_rfl) (by kernel_rfl) (by kernel_rfl),Xeq,e12,e13,e14]
 simp only[Xoo]
 show _=_
 kernel_rfl
theorem Xs1{A:Type}(a b c d x y:Nat)(K:Nat→Nat→Nat→Nat→Option (List Nat))(f:List Nat→Option A):ob (Bl.stir a b c d x y K) f=Bl.stir a b c d x y (fun a b c d=>ob (K a b c d) f):=rfl
theorem X0u(p0 p1 p2 p3 p4 p5 p6 p7 p8 p9 p10 p11 p12 p13 p14 p15 x y:Nat):Qow [0,4,8,12] [p0,p1,p2,p3,p4,p5,p6,p7,p8,p9,p10,p11,p12,p13,p14,p15] x y=Bl.stir p0 p4 p8 p12 x y fun p0 p4 p8 p12=>some [p0,p1,p2,p3,p4,p5,p6,p7,p8,p9,p10,p11,p12,p13,p14,p15]:=rfl
theorem X1j(p0 p1 p2 p3 p4 p5 p6 p7 p8 p9 p10 p11 p12 p13 p14 p15 x y:Nat):Qow [1,5,9,13] [p0,p1,p2,p3,p4,p5,p6,p7,p8,p9,p10,p11,p12,p13,p14,p15] x y=Bl.stir p1 p5 p9 p13 x y fun p1 p5 p9 p13=>some [p0,p1,p2,p3,p4,p5,p6,p7,p8,p9,p10,p11,p12,p13,p14,p15]:=rfl
theorem X28(p0 p1 p2 p3 p4 p5 p6 p7 p8 p9 p10 p11 p12 p13 p14 p15 x y:Nat):Qow [2,6,10,14] [p0,p1,p2,p3,p4,p5,p6,p7,p8,p9,p10,p11,p12,p13,p14,p15] x y=Bl.stir p2 p6 p10 p14 x y fun p2 p6 p10 p14=>some [p0,p1,p2,p3,p4,p5,p6,p7,p8,p9,p10,p11,p12,p13,p14,p15]:=rfl
theorem X1v(p0 p1 p2 p3 p4 p5 p6 p7 p8 p9 p10 p11 p12 p13 p14 p15 x y:Nat):Qow [3,7,11,15] [p0,p1,p2,p3,p4,p5,p6,p7,p8,p9,p10,p11,p12,p13,p14,p15] x y=Bl.stir p3 p7 p11 p15 x y fun p3 p7 p11 p15=>some [p0,p1,p2,p3,p4,p5,p6,p7,p8,p9,p10,p11,p12,p13,p14,p15]:=rfl
theorem X1f(p0 p1 p2 p3 p4 p5 p6 p7 p8 p9 p10 p11 p12 p13 p14 p15 x y:Nat):Qow [0,5,10,15] [p0,p1,p2,p3,p4,p5,p6,p7,p8,p9,p10,p11,p12,p13,p14,p15] x y=Bl.stir p0 p5 p10 p15 x y fun p0 p5 p10 p15=>some [p0,p1,p2,p3,p4,p5,p6,p7,p8,p9,p10,p11,p12,p13,p14,p15]:=rfl
theorem X0x(p0 p1 p2 p3 p4 p5 p6 p7 p8 p9 p10 p11 p12 p13 p14 p15 x y:Nat):Qow [1,6,11,12] [p0,p1,p2,p3,p4,p5,p6,p7,p8,p9,p10,p11,p12,p13,p14,p15] x y=Bl.stir p1 p6 p11 p12 x y fun p1 p6 p11 p12=>some [p0,p1,p2,p3,p4,p5,p6,p7,p8,p9,p10,p11,p12,p13,p14,p15]:=rfl
theorem X20(p0 p1 p2 p3 p4 p5 p6 p7 p8 p9 p10 p11 p12 p13 p14 p15 x y:Nat):Qow [2,7,8,13] [p0,p1,p2,p3,p4,p5,p6,p7,p8,p9,p10,p11,p12,p13,p14,p15] x y=Bl.stir p2 p7 p8 p13 x y fun p2 p7 p8 p13=>some [p0,p1,p2,p3,p4,p5,p6,p7,p8,p9,p10,p11,p12,p13,p14,p15]:=rfl
theorem X1o(p0 p1 p2 p3 p4 p5 p6 p7 p8 p9 p10 p11 p12 p13 p14 p15 x y:Nat):Qow [3,4,9,14] [p0,p1,p2,p3,p4,p5,p6,p7,p8,p9,p10,p11,p12,p13,p14,p15] x y=Bl.stir p3 p4 p9 p14 x y fun p3 p4 p9 p14=>some [p0,p1,p2,p3,p4,p5,p6,p7,p8,p9,p10,p11,p12,p13,p14,p15]:=rfl
theorem Xuf(p0 p1 p2 p3 p4 p5 p6 p7 p8 p9 p10 p11 p12 p13 p14 p15 x0 x1 x2 x3 x4 x5 x6 x7 x8 x9 x10 x11 x12 x13 x14 x15:Nat):Uk [p0,p1,p2,p3,p4,p5,p6,p7,p8,p9,p10,p11,p12,p13,p14,p15] x0 x1 x2 x3 x4 x5 x6 x7 x8 x9 x10 x11 x12 x13 x14 x15=Bl.round p0 p1 p2 p3 p4 p5 p6 p7 p8 p9 p10 p11 p12 p13 p14 p15 x0 x1 x2 x3 x4 x5 x6 x7 x8 x9 x10 x11 x12 x13 x14 x15 fun p0 p1 p2 p3 p4 p5 p6 p7 p8 p9 p10 p11 p12 p13 p14 p15=>some [p0,p1,p2,p3,p4,p5,p6,p7,p8,p9,p10,p11,p12,p13,p14,p15]:=by
 simp only[Uk,Bl.round,Xs1,ob_some,X0u,X1j,X28,X1v,X1f,X0x,X20,X1o]
theorem Xvj{A:Type}(p0 p1 p2 p3 p4 p5 p6 p7 p8 p9 p10 p11 p12 p13 p14 p15 x0 x1 x2 x3 x4 x5 x6 x7 x8 x9 x10 x11 x12 x13 x14 x15:Nat)(K:Nat→Nat→Nat→Nat→Nat→Nat→Nat→Nat→Nat→Nat→Nat→Nat→Nat→Nat→Nat→Nat→Option (List Nat))(f:List Nat→Option A):ob (Bl.round p0 p1 p2 p3 p4 p5 p6 p7 p8 p9 p10 p11 p12 p13 p14 p15 x0 x1 x2 x3 x4 x5 x6 x7 x8 x9 x10 x11 x12 x13 x14 x15 K) f=Bl.round p0 p1 p2 p3 p4 p5 p6 p7 p8 p9 p10 p11 p12 p13 p14 p15 x0 x1 x2 x3 x4 x5 x6 x7 x8 x9 x10 x11 x12 x13 x14 x15 (fun p0 p1 p2 p3 p4 p5 p6 p7 p8 p9 p10 p11 p12 p13 p14 p15=>ob (K p0 p1 p2 p3 p4 p5 p6 p7 p8 p9 p10 p11 p12 p13 p14 p15) f):=by
 simp only[Bl.round,Xs1]
theorem Xv2{A B C:Type}(x:Option A)(g:A→Option B)(f:B→Option C):ob (ob x g) f=ob x (fun a=>ob (g a) f):=by cases x <;> rfl
theorem Xsc{A:Type}(R:Nat→Nat→Nat→Nat→Nat→Nat→Nat→Nat→Nat→Nat→Nat→Nat→Nat→Nat→Nat→Nat→Nat→Nat→Nat→Nat→Nat→Nat→Nat→Nat→Nat→Nat→Nat→Nat→Nat→Nat→Nat→Nat→(Nat→Nat→Nat→Nat→Nat→Nat→Nat→Nat→Nat→Nat→Nat→Nat→Nat→Nat→Nat→Nat→Option A)→Option A)(hR:∀ (p0 p1 p2 p3 p4 p5 p6 p7 p8 p9 p10 p11 p12 p13 p14 p15 x0 x1 x2 x3 x4 x5 x6 x7 x8 x9 x10 x11 x12 x13 x14 x15:Nat) (f:List Nat→Option A),ob (Uk [p0,p1,p2,p3,p4,p5,p6,p7,p8,p9,p10,p11,p12,p13,p14,p15] x0 x1 x2 x3 x4 x5 x6 x7 x8 x9 x10 x11 x12 x13 x14 x15) f=R p0 p1 p2 p3 p4 p5 p6 p7 p8 p9 p10 p11 p12 p13 p14 p15 x0 x1 x2 x3 x4 x5 x6 x7 x8 x9 x10 x11 x12 x13 x14 x15 fun p0 p1 p2 p3 p4 p5 p6 p7 p8 p9 p10 p11 p12 p13 p14 p15=>f [p0,p1,p2,p3,p4,p5,p6,p7,p8,p9,p10,p11,p12,p13,p14,p15])
  (h0 h1 h2 h3 h4 h5 h6 h7 p12 p13 p14 m0 m1 m2 m3 m4 m5 m6 m7 m8 m9 m10 m11 m12 m13 m14 m15:Nat) (f:List Nat→Option A):ob (Xrw h0 h1 h2 h3 h4 h5 h6 h7 p12 p13 p14 m0 m1 m2 m3 m4 m5 m6 m7 m8 m9 m10 m11 m12 m13 m14 m15) f =
  R h0 h1 h2 h3 h4 h5 h6 h7 1779033703 3144134277 1013904242 2773480762 p12 p13 p14 1541459225 m0 m1 m2 m3 m4 m5 m6 m7 m8 m9 m10 m11 m12 m13 m14 m15 fun p0 p1 p2 p3 p4 p5 p6 p7 p8 p9 p10 p11 p12 p13 p14 p15 =>
  R p0 p1 p2 p3 p4 p5 p6 p7 p8 p9 p10 p11 p12 p13 p14 p15 m14 m10 m4 m8 m9 m15 m13 m6 m1 m12 m0 m2 m11 m7 m5 m3 fun p0 p1 p2 p3 p4 p5 p6 p7 p8 p9 p10 p11 p12 p13 p14 p15 =>
  R p0 p1 p2 p3 p4 p5 p6 p7 p8 p9 p10 p11 p12 p13 p14 p15 m11 m8 m12 m0 m5 m2 m15 m13 m10 m14 m3 m6 m7 m1 m9 m4 fun p0 p1 p2 p3 p4 p5 p6 p7 p8 p9 p10 p11 p12 p13 p14 p15 =>
  R p0 p1 p2 p3 p4 p5 p6 p7 p8 p9 p10 p11 p12 p13 p14 p15 m7 m9 m3 m1 m13 m12 m11 m14 m2 m6 m5 m10 m4 m0 m15 m8 fun p0 p1 p2 p3 p4 p5 p6 p7 p8 p9 p10 p11 p12 p13 p14 p15 =>
  R p0 p1 p2 p3 p4 p5 p6 p7 p8 p9 p10 p11 p12 p13 p14 p15 m9 m0 m5 m7 m2 m4 m10 m15 m14 m1 m11 m12 m6 m8 m3 m13 fun p0 p1 p2 p3 p4 p5 p6 p7 p8 p9 p10 p11 p12 p13 p14 p15 =>
  R p0 p1 p2 p3 p4 p5 p6 p7 p8 p9 p10 p11 p12 p13 p14 p15 m2 m12 m6 m10 m0 m11 m8 m3 m4 m13 m7 m5 m15 m14 m1 m9 fun p0 p1 p2 p3 p4 p5 p6 p7 p8 p9 p10 p11 p12 p13 p14 p15 =>
  R p0 p1 p2 p3 p4 p5 p6 p7 p8 p9 p10 p11 p12 p13 p14 p15 m12 m5 m1 m15 m14 m13 m4 m10 m0 m7 m6 m3 m9 m2 m8 m11 fun p0 p1 p2 p3 p4 p5 p6 p7 p8 p9 p10 p11 p12 p13 p14 p15 =>
  R p0 p1 p2 p3 p4 p5 p6 p7 p8 p9 p10 p11 p12 p13 p14 p15 m13 m11 m7 m14 m12 m1 m3 m9 m5 m0 m15 m4 m8 m6 m2 m10 fun p0 p1 p2 p3 p4 p5 p6 p7 p8 p9 p10 p11 p12 p13 p14 p15 =>
  R p0 p1 p2 p3 p4 p5 p6 p7 p8 p9 p10 p11 p12 p13 p14 p15 m6 m15 m14 m9 m11 m3 m0 m8 m12 m2 m13 m7 m1 m4 m10 m5 fun p0 p1 p2 p3 p4 p5 p6 p7 p8 p9 p10 p11 p12 p13 p14 p15 =>
  R p0 p1 p2 p3 p4 p5 p6 p7 p8 p9 p10 p11 p12 p13 p14 p15 m10 m2 m8 m4 m7 m6 m1 m5 m15 m11 m9 m14 m3 m12 m13 m0 fun p0 p1 p2 p3 p4 p5 p6 p7 p8 p9 p10 p11 p12 p13 p14 p15 =>
  f [p0,p1,p2,p3,p4,p5,p6,p7,p8,p9,p10,p11,p12,p13,p14,p15]:=by
 simp only[Xrw,Xv2,hR]
theorem Xnv(h0 h1 h2 h3 h4 h5 h6 h7 p12 p13 p14 m0 m1 m2 m3 m4 m5 m6 m7 m8 m9 m10 m11 m12 m13 m14 m15:Nat){A:Type}(f:List Nat→Option A):ob (Xrw h0 h1 h2 h3 h4 h5 h6 h7 p12 p13 p14 m0 m1 m2 m3 m4 m5 m6 m7 m8 m9 m10 m11 m12 m13 m14 m15) f=Bl.rounds h0 h1 h2 h3 h4 h5 h6 h7 1779033703 3144134277 1013904242 2773480762 p12 p13 p14 1541459225 m0 m1 m2 m3 m4 m5 m6 m7 m8 m9 m10 m11 m12 m13 m14 m15 fun p0 p1 p2 p3 p4 p5 p6 p7 p8 p9 p10 p11 p12 p13 p14 p15=>f [p0,p1,p2,p3,p4,p5,p6,p7,p8,p9,p10,p11,p12,p13,p14,p15]:=by
 unfold Bl.rounds
 exact Xsc (fun p0 p1 p2 p3 p4 p5 p6 p7 p8 p9 p10 p11 p12 p13 p14 p15 x0 x1 x2 x3 x4 x5 x6 x7 x8 x9 x10 x11 x12 x13 x14 x15 K=>Bl.round p0 p1 p2 p3 p4 p5 p6 p7 p8 p9 p10 p11 p12 p13 p14 p15 x0 x1 x2 x3 x4 x5 x6 x7 x8 x9 x10 x11 x12 x13 x14 x15 K) (fun p0 p1 p2 p3 p4 p5 p6 p7 p8 p9 p10 p11 p12 p13 p14 p15 x0 x1 x2 x3 x4 x5 x6 x7 x8 x9 x10 x11 x12 x13 x14 x15 f=>by rw[Xuf,Xvj];rfl) _ _ _ _ _ _ _ _ _ _ _ _ _ _ _ _ _ _ _ _ _ _ _ _ _ _ _ f
theorem Xsv(h0 h1 h2 h3 h4 h5 h6 h7 p0 p1 p2 p3 p4 p5 p6 p7 p8 p9 p10 p11 p12 p13 p14 p15:Nat):X2x h0 h1 h2 h3 h4 h5 h6 h7 [p0,p1,p2,p3,p4,p5,p6,p7,p8,p9,p10,p11,p12,p13,p14,p15]=some (p8v ⟨Bl.xr h0 (Bl.xr p0 p8),Bl.xr h1 (Bl.xr p1 p9),Bl.xr h2 (Bl.xr p2 p10),Bl.xr h3 (Bl.xr p3 p11),Bl.xr h4 (Bl.xr p4 p12),Bl.xr h5 (Bl.xr p5 p13),Bl.xr h6 (Bl.xr p6 p14),Bl.xr h7 (Bl.xr p7 p15)⟩):=by
 simp only[X2x,Qm7,p8v,Yx]
theorem Xre{A B:Type}(f:A→B)(a b c d x y:Nat)(K:Nat→Nat→Nat→Nat→A):f (Bl.stir a b c d x y K)=Bl.stir a b c d x y (fun a b c d=>f (K a b c d)):=rfl
theorem Xqg{A B:Type}(f:A→B)(p0 p1 p2 p3 p4 p5 p6 p7 p8 p9 p10 p11 p12 p13 p14 p15 x0 x1 x2 x3 x4 x5 x6 x7 x8 x9 x10 x11 x12 x13 x14 x15:Nat)(K:Nat→Nat→Nat→Nat→Nat→Nat→Nat→Nat→Nat→Nat→Nat→Nat→Nat→Nat→Nat→Nat→A):f (Bl.round p0 p1 p2 p3 p4 p5 p6 p7 p8 p9 p10 p11 p12 p13 p14 p15 x0 x1 x2 x3 x4 x5 x6 x7 x8 x9 x10 x11 x12 x13 x14 x15 K)=Bl.round p0 p1 p2 p3 p4 p5 p6 p7 p8 p9 p10 p11 p12 p13 p14 p15 x0 x1 x2 x3 x4 x5 x6 x7 x8 x9 x10 x11 x12 x13 x14 x15 (fun p0 p1 p2 p3 p4 p5 p6 p7 p8 p9 p10 p11 p12 p13 p14 p15=>f (K p0 p1 p2 p3 p4 p5 p6 p7 p8 p9 p10 p11 p12 p13 p14 p15)):=by
 simp only[Bl.round,Xre f]
theorem Q9b{A B:Type}(f:A→B)(p0 p1 p2 p3 p4 p5 p6 p7 p8 p9 p10 p11 p12 p13 p14 p15 m0 m1 m2 m3 m4 m5 m6 m7 m8 m9 m10 m11 m12 m13 m14 m15:Nat)(K:Nat→Nat→Nat→Nat→Nat→Nat→Nat→Nat→Nat→Nat→Nat→Nat→Nat→Nat→Nat→Nat→A):f (Bl.rounds p0 p1 p2 p3 p4 p5 p6 p7 p8 p9 p10 p11 p12 p13 p14 p15 m0 m1 m2 m3 m4 m5 m6 m7 m8 m9 m10 m11 m12 m13 m14 m15 K)=Bl.rounds p0 p1 p2 p3 p4 p5 p6 p7 p8 p9 p10 p11 p12 p13 p14 p15 m0 m1 m2 m3 m4 m5 m6 m7 m8 m9 m10 m11 m12 m13 m14 m15 (fun p0 p1 p2 p3 p4 p5 p6 p7 p8 p9 p10 p11 p12 p13 p14 p15=>f (K p0 p1 p2 p3 p4 p5 p6 p7 p8 p9 p10 p11 p12 p13 p14 p15)):=by
 simp only[Bl.rounds,Xqg f]
theorem Xlp(b:Nat)(h0 h1 h2 h3 h4 h5 h6 h7 b0 b1 b2 b3 b4 b5 b6 b7 b8 b9 b10 b11 b12 b13 b14 b15 b16 b17 b18 b19 b20 b21 b22 b23 b24 b25 b26 b27 b28 b29 b30 b31 b32 b33 b34 b35 b36 b37 b38 b39 b40 b41 b42 b43 b44 b45 b46 b47 b48 b49 b50 b51 b52 b53 b54 b55 b56 b57 b58 b59 b60 b61 b62 b63 count:Nat) :
  Xxf ((Ud Tryd.prog (mkE Tryd.prog nv b) Qod 100 4).fn 92 [.agg ⟨[Yx h0,Yx h1,Yx h2,Yx h3,Yx h4,Yx h5,Yx h6,Yx h7]⟩,.pointer (some ⟨nv,0,none⟩),.int .u64 (.ofNat count),.bool true] (Vt nv Qat false [(1,[u8v b0,u8v b1,u8v b2,u8v b3,u8v b4,u8v b5,u8v b6,u8v b7,u8v b8,u8v b9,u8v b10,u8v b11,u8v b12,u8v b13,u8v b14,u8v b15,u8v b16,u8v b17,u8v b18,u8v b19,u8v b20,u8v b21,u8v b22,u8v b23,u8v b24,u8v b25,u8v b26,u8v b27,u8v b28,u8v b29,u8v b30,u8v b31,u8v b32,u8v b33,u8v b34,u8v b35,u8v b36,u8v b37,u8v b38,u8v b39,u8v b40,u8v b41,u8v b42,u8v b43,u8v b44,u8v b45,u8v b46,u8v b47,u8v b48,u8v b49,u8v b50,u8v b51,u8v b52,u8v b53,u8v b54,u8v b55,u8v b56,u8v b57,u8v b58,u8v b59,u8v b60,u8v b61,u8v b62,u8v b63])])) =
   some (p8v (Bl.take ⟨h0,h1,h2,h3,h4,h5,h6,h7⟩ [b0,b1,b2,b3,b4,b5,b6,b7,b8,b9,b10,b11,b12,b13,b14,b15,b16,b17,b18,b19,b20,b21,b22,b23,b24,b25,b26,b27,b28,b29,b30,b31,b32,b33,b34,b35,b36,b37,b38,b39,b40,b41,b42,b43,b44,b45,b46,b47,b48,b49,b50,b51,b52,b53,b54,b55,b56,b57,b58,b59,b60,b61,b62,b63] count true)):=by
 rw[Xj1,Xnv]
 simp only[Xsv,Bl.take,Bl.words,Bl.nx]
 exact(Q9b (fun x=>some (p8v x)) _ _ _ _ _ _ _ _ _ _ _ _ _ _ _ _ _ _ _ _ _ _ _ _ _ _ _ _ _ _ _ _ _).symm
theorem Xjv(b:Nat)(h0 h1 h2 h3 h4 h5 h6 h7 b0 b1 b2 b3 b4 b5 b6 b7 b8 b9 b10 b11 b12 b13 b14 b15 b16 b17 b18 b19 b20 b21 b22 b23 b24 b25 b26 b27 b28 b29 b30 b31 b32 b33 b34 b35 b36 b37 b38 b39 b40 b41 b42 b43 b44 b45 b46 b47 b48 b49 b50 b51 b52 b53 b54 b55 b56 b57 b58 b59 b60 b61 b62 b63 count:Nat) :
  Xxf ((Ud Tryd.prog (mkE Tryd.prog nv b) Qod 100 4).fn 92 [.agg ⟨[Yx h0,Yx h1,Yx h2,Yx h3,Yx h4,Yx h5,Yx h6,Yx h7]⟩,.pointer (some ⟨nv,0,none⟩),.int .u64 (.ofNat count),.bool false] (Vt nv Qat false [(1,[u8v b0,u8v b1,u8v b2,u8v b3,u8v b4,u8v b5,u8v b6,u8v b7,u8v b8,u8v b9,u8v b10,u8v b11,u8v b12,u8v b13,u8v b14,u8v b15,u8v b16,u8v b17,u8v b18,u8v b19,u8v b20,u8v b21,u8v b22,u8v b23,u8v b24,u8v b25,u8v b26,u8v b27,u8v b28,u8v b29,u8v b30,u8v b31,u8v b32,u8v b33,u8v b34,u8v b35,u8v b36,u8v b37,u8v b38,u8v b39,u8v b40,u8v b41,u8v b42,u8v b43,u8v b44,u8v b45,u8v b46,u8v b47,u8v b48,u8v b49,u8v b50,u8v b51,u8v b52,u8v b53,u8v b54,u8v b55,u8v b56,u8v b57,u8v b58,u8v b59,u8v b60,u8v b61,u8v b62,u8v b63])])) =
   some (p8v (Bl.take ⟨h0,h1,h2,h3,h4,h5,h6,h7⟩ [b0,b1,b2,b3,b4,b5,b6,b7,b8,b9,b10,b11,b12,b13,b14,b15,b16,b17,b18,b19,b20,b21,b22,b23,b24,b25,b26,b27,b28,b29,b30,b31,b32,b33,b34,b35,b36,b37,b38,b39,b40,b41,b42,b43,b44,b45,b46,b47,b48,b49,b50,b51,b52,b53,b54,b55,b56,b57,b58,b59,b60,b61,b62,b63] count false)):=by
 rw[Xgo,Xnv]
 simp only[Xsv,Bl.take,Bl.words,Bl.nx]
 exact(Q9b (fun x=>some (p8v x)) _ _ _ _ _ _ _ _ _ _ _ _ _ _ _ _ _ _ _ _ _ _ _ _ _ _ _ _ _ _ _ _ _).symm
theorem X3d{l0:List Nat}(h0:l0.length=64):∃ b0 b1 b2 b3 b4 b5 b6 b7 b8 b9 b10 b11 b12 b13 b14 b15 b16 b17 b18 b19 b20 b21 b22 b23 b24 b25 b26 b27 b28 b29 b30 b31 b32 b33 b34 b35 b36 b37 b38 b39 b40 b41 b42 b43 b44 b45 b46 b47 b48 b49 b50 b51 b52 b53 b54 b55 b56 b57 b58 b59 b60 b61 b62 b63,l0=[b0,b1,b2,b3,b4,b5,b6,b7,b8,b9,b10,b11,b12,b13,b14,b15,b16,b17,b18,b19,b20,b21,b22,b23,b24,b25,b26,b27,b28,b29,b30,b31,b32,b33,b34,b35,b36,b37,b38,b39,b40,b41,b42,b43,b44,b45,b46,b47,b48,b49,b50,b51,b52,b53,b54,b55,b56,b57,b58,b59,b60,b61,b62,b63]:=by
 obtain⟨b0,l1,rfl,h1⟩:=Z7 h0
 obtain⟨b1,l2,rfl,h2⟩:=Z7 h1
 obtain⟨b2,l3,rfl,h3⟩:=Z7 h2
 obtain⟨b3,l4,rfl,h4⟩:=Z7 h3
 obtain⟨b4,l5,rfl,h5⟩:=Z7 h4
 obtain⟨b5,l6,rfl,h6⟩:=Z7 h5
 obtain⟨b6,l7,rfl,h7⟩:=Z7 h6
 obtain⟨b7,l8,rfl,h8⟩:=Z7 h7
 obtain⟨b8,l9,rfl,h9⟩:=Z7 h8
 obtain⟨b9,l10,rfl,h10⟩:=Z7 h9
 obtain⟨b10,l11,rfl,h11⟩:=Z7 h10
 obtain⟨b11,l12,rfl,h12⟩:=Z7 h11
 obtain⟨b12,l13,rfl,h13⟩:=Z7 h12
 obtain⟨b13,l14,rfl,h14⟩:=Z7 h13
 obtain⟨b14,l15,rfl,h15⟩:=Z7 h14
 obtain⟨b15,l16,rfl,h16⟩:=Z7 h15
 obtain⟨b16,l17,rfl,h17⟩:=Z7 h16
 obtain⟨b17,l18,rfl,h18⟩:=Z7 h17
 obtain⟨b18,l19,rfl,h19⟩:=Z7 h18
 obtain⟨b19,l20,rfl,h20⟩:=Z7 h19
 obtain⟨b20,l21,rfl,h21⟩:=Z7 h20
 obtain⟨b21,l22,rfl,h22⟩:=Z7 h21
 obtain⟨b22,l23,rfl,h23⟩:=Z7 h22
 obtain⟨b23,l24,rfl,h24⟩:=Z7 h23
 obtain⟨b24,l25,rfl,h25⟩:=Z7 h24
 obtain⟨b25,l26,rfl,h26⟩:=Z7 h25
 obtain⟨b26,l27,rfl,h27⟩:=Z7 h26
 obtain⟨b27,l28,rfl,h28⟩:=Z7 h27
 obtain⟨b28,l29,rfl,h29⟩:=Z7 h28
 obtain⟨b29,l30,rfl,h30⟩:=Z7 h29
 obtain⟨b30,l31,rfl,h31⟩:=Z7 h30
 obtain⟨b31,l32,rfl,h32⟩:=Z7 h31
 obtain⟨b32,l33,rfl,h33⟩:=Z7 h32
 obtain⟨b33,l34,rfl,h34⟩:=Z7 h33
 obtain⟨b34,l35,rfl,h35⟩:=Z7 h34
 obtain⟨b35,l36,rfl,h36⟩:=Z7 h35
 obtain⟨b36,l37,rfl,h37⟩:=Z7 h36
 obtain⟨b37,l38,rfl,h38⟩:=Z7 h37
 obtain⟨b38,l39,rfl,h39⟩:=Z7 h38
 obtain⟨b39,l40,rfl,h40⟩:=Z7 h39
 obtain⟨b40,l41,rfl,h41⟩:=Z7 h40
 obtain⟨b41,l42,rfl,h42⟩:=Z7 h41
 obtain⟨b42,l43,rfl,h43⟩:=Z7 h42
 obtain⟨b43,l44,rfl,h44⟩:=Z7 h43
 obtain⟨b44,l45,rfl,h45⟩:=Z7 h44
 obtain⟨b45,l46,rfl,h46⟩:=Z7 h45
 obtain⟨b46,l47,rfl,h47⟩:=Z7 h46
 obtain⟨b47,l48,rfl,h48⟩:=Z7 h47
 obtain⟨b48,l49,rfl,h49⟩:=Z7 h48
 obtain⟨b49,l50,rfl,h50⟩:=Z7 h49
 obtain⟨b50,l51,rfl,h51⟩:=Z7 h50
 obtain⟨b51,l52,rfl,h52⟩:=Z7 h51
 obtain⟨b52,l53,rfl,h53⟩:=Z7 h52
 obtain⟨b53,l54,rfl,h54⟩:=Z7 h53
 obtain⟨b54,l55,rfl,h55⟩:=Z7 h54
 obtain⟨b55,l56,rfl,h56⟩:=Z7 h55
 obtain⟨b56,l57,rfl,h57⟩:=Z7 h56
 obtain⟨b57,l58,rfl,h58⟩:=Z7 h57
 obtain⟨b58,l59,rfl,h59⟩:=Z7 h58
 obtain⟨b59,l60,rfl,h60⟩:=Z7 h59
 obtain⟨b60,l61,rfl,h61⟩:=Z7 h60
 obtain⟨b61,l62,rfl,h62⟩:=Z7 h61
 obtain⟨b62,l63,rfl,h63⟩:=Z7 h62
 obtain⟨b63,l64,rfl,h64⟩:=Z7 h63
 have e:=List.eq_nil_of_length_eq_zero h64
 subst e
 exact⟨_,_,_,_,_,_,_,_,_,_,_,_,_,_,_,_,_,_,_,_,_,_,_,_,_,_,_,_,_,_,_,_,_,_,_,_,_,_,_,_,_,_,_,_,_,_,_,_,_,_,_,_,_,_,_,_,_,_,_,_,_,_,_,_,rfl⟩
theorem Xxx(b:Nat)(h0 h1 h2 h3 h4 h5 h6 h7 count:Nat)(l:List Nat)(hl:l.length=64)(last:Bool) :
  Xxf ((Ud Tryd.prog (mkE Tryd.prog nv b) Qod 100 4).fn 92 [.agg ⟨[Yx h0,Yx h1,Yx h2,Yx h3,Yx h4,Yx h5,Yx h6,Yx h7]⟩,.pointer (some ⟨nv,0,none⟩),.int .u64 (.ofNat count),.bool last] (Vt nv Qat false [(1,l.map u8v)])) =
   some (p8v (Bl.take ⟨h0,h1,h2,h3,h4,h5,h6,h7⟩ l count last)):=by
 obtain⟨b0,b1,b2,b3,b4,b5,b6,b7,b8,b9,b10,b11,b12,b13,b14,b15,b16,b17,b18,b19,b20,b21,b22,b23,b24,b25,b26,b27,b28,b29,b30,b31,b32,b33,b34,b35,b36,b37,b38,b39,b40,b41,b42,b43,b44,b45,b46,b47,b48,b49,b50,b51,b52,b53,b54,b55,b56,b57,b58,b59,b60,b61,b62,b63,rfl⟩:=X3d hl
 cases last with
 | true=>exact Xlp b h0 h1 h2 h3 h4 h5 h6 h7 b0 b1 b2 b3 b4 b5 b6 b7 b8 b9 b10 b11 b12 b13 b14 b15 b16 b17 b18 b19 b20 b21 b22 b23 b24 b25 b26 b27 b28 b29 b30 b31 b32 b33 b34 b35 b36 b37 b38 b39 b40 b41 b42 b43 b44 b45 b46 b47 b48 b49 b50 b51 b52 b53 b54 b55 b56 b57 b58 b59 b60 b61 b62 b63 count
 | false=>exact Xjv b h0 h1 h2 h3 h4 h5 h6 h7 b0 b1 b2 b3 b4 b5 b6 b7 b8 b9 b10 b11 b12 b13 b14 b15 b16 b17 b18 b19 b20 b21 b22 b23 b24 b25 b26 b27 b28 b29 b30 b31 b32 b33 b34 b35 b36 b37 b38 b39 b40 b41 b42 b43 b44 b45 b46 b47 b48 b49 b50 b51 b52 b53 b54 b55 b56 b57 b58 b59 b60 b61 b62 b63 count
def Xil:Qm3:=fun f args h=>bq (Nat.beq f 92) (match args with
 | [.agg ⟨hv⟩,p,.int .u64 (.ofNat count),.bool last]=>ob (Xzn hv) fun hl=>ob (Xa0 h p) fun q=>ob (u8s q.2) fun bl=>bq (Nat.beq bl.length 64) (bq (Xs7 h Qat) (ob (X3a hl) fun h8=>some (.ret (p8v (Bl.take h8 bl count last)),h)) none) none
 | _=>none) none
theorem Xip:∀ x ∈ Qat,x.2 ≠ []∧Qx4 x.2:=by
 intro x hx
 rcases List.mem_cons.1 hx with rfl | hx
 ·exact⟨by simp[W4],Qg4 (by kernel_rfl)⟩
 ·rcases List.mem_cons.1 hx with rfl | hx
  ·exact⟨by simp[Qjg],Qg4 (by kernel_rfl)⟩
  ·cases hx
theorem Qz1(b:Nat):Qc1 Tryd.prog ⟨nv,b⟩ Xil:=by
 intro f args h r h' hx
 unfold Xil at hx
 obtain⟨hf,hx⟩:=Qb6 hx
 have hf:=Nat.eq_of_beq_eq_true hf
 subst hf
 split at hx
 ·rename_i hv p count last hq
  obtain⟨hl,h1,hx⟩:=J6 hx
  obtain⟨⟨blk,cs⟩,h2,hx⟩:=J6 hx
  obtain⟨bl,h3,hx⟩:=J6 hx
  obtain⟨h4,hx⟩:=Qb6 hx
  obtain⟨h5,hx⟩:=Qb6 hx
  obtain⟨h8,h6,hx⟩:=J6 hx
  cases hx
  have e1:=Q9i h1
  subst e1
  have e0:Value.agg {toList:=List.map Yx hl}=p8v h8:=Xyh h6
  obtain⟨rfl,hg⟩:=Qjr h2
  have e2:=Xuv h3
  simp only at e2 hg
  subst e2
  rw[e0]
  refine Q26 (k:=100) (m:=4) Vm Xkk Xfa (fun b=>Xxx b h8.h0 h8.h1 h8.h2 h8.h3 h8.h4 h8.h5 h8.h6 h8.h7 count bl (Nat.eq_of_beq_eq_true h4) last) rfl (Q7f h5) Xip (bs:=[blk]) rfl (by simp) (fun k d r hd hr => ?_)
   (Y7 (Yp rfl) (Y7 (Qhp _ _) (Y7 (Yp rfl) (Y7 (Yp rfl) Ji))))
  cases k with
  | zero=>simp at hd hr;subst hd;subst hr;exact⟨hg,Qwr _⟩
  | succ k=>simp at hd
 ·cases hx
theorem Qu4:Qey Xil:=by
 intro f args h r h' hx
 unfold Xil at hx
 obtain⟨hf,hx⟩:=Qb6 hx
 split at hx
 ·obtain⟨hl,h1,hx⟩:=J6 hx
  obtain⟨⟨blk,cs⟩,h2,hx⟩:=J6 hx
  obtain⟨bl,h3,hx⟩:=J6 hx
  obtain⟨h4,hx⟩:=Qb6 hx
  obtain⟨h5,hx⟩:=Qb6 hx
  obtain⟨h8,h6,hx⟩:=J6 hx
  cases hx;exact LowOK.refl _
 ·cases hx
end Go.Proofs.YtgeeklmjfbiieaaDoor
end
noncomputable section
namespace Go.Proofs.YtgeeklmjfbiieaaDoor
open Go Go.Ab
set_option maxRecDepth 1000000
def Q8v:List Value:=[.int .u8 253,.int .i64 2,.int .u64 253,.int .u8 254,.int .i64 4,.int .u64 65536,.int .u8 255,.int .i64 8,.int .u64 4294967296]
def laidAll:List (Nat × List Value):=[(0,W4),(1,Q8v),(2,Qjg)]
def Q7i(seed:List Nat):Nat→Nat→List Nat
 | 0,_=>[]
 | n+1,i=>Bl.keyed seed [i]++Q7i seed n (Nat.succ i)
theorem Q2k:∀ x ∈ laidAll,x.2 ≠ []∧Qx4 x.2:=by
 intro x hx
 rcases List.mem_cons.1 hx with rfl | hx
 ·exact⟨by simp[W4],Qg4 (by kernel_rfl)⟩
 ·rcases List.mem_cons.1 hx with rfl | hx
  ·exact⟨by simp[Q8v],Qg4 (by kernel_rfl)⟩
  ·rcases List.mem_cons.1 hx with rfl | hx
   ·exact⟨by simp[Qjg],Qg4 (by kernel_rfl)⟩
   ·cases hx
end Go.Proofs.YtgeeklmjfbiieaaDoor
end
noncomputable section
namespace Go.Proofs.YtgeeklmjfbiieaaDoor
open Go Go.Ab
set_option maxRecDepth 1000000
def Qit:List Nat:=[115,101,101,100]
def Qe1:List Nat:=Q7i Qit 32 1
theorem Xff(b:Nat):Xnz (nv+([(1,Qit.map u8v)]:List (Nat × List Value)).length) ((Ud Tryd.prog (mkE Tryd.prog nv b) Xil 10000 8).fn 19 [.slice (some ⟨nv,0,none⟩) 4 4] (Vt nv laidAll false [(1,Qit.map u8v)]))=some (Qe1.map u8v):=by kernel_rfl
def Qzg:Qm3:=fun f args h=>bq (Nat.beq f 19) (match args with
 | [.slice (some ⟨blk,0,none⟩) 4 4]=>ob (Xa0 h (.pointer (some ⟨blk,0,none⟩))) fun q=>ob (u8s q.2) fun bl=>bq (eqN bl Qit) (bq (Xs7 h laidAll) (some (.ret (.pointer (some ⟨h.next,0,none⟩)),h.push (.cells true 1 (Qe1.map u8v)))) none) (Xil f args h)
 | _=>Xil f args h) (Xil f args h)
theorem Xmw(b:Nat):Qc1 Tryd.prog ⟨nv,b⟩ Qzg:=by
 intro f args h r h' hx
 unfold Qzg at hx
 cases hf:Nat.beq f 19 with
 | false=>rw[hf]at hx;exact Qz1 b f args h r h' hx
 | true =>
  rw[hf,bq_true]at hx
  have hf:=Nat.eq_of_beq_eq_true hf
  subst hf
  split at hx
  ·rename_i blk
   obtain⟨⟨blk',cs⟩,h2,hx⟩:=J6 hx
   obtain⟨bl,h3,hx⟩:=J6 hx
   cases h4:eqN bl Qit with
   | false=>rw[h4,bq_false]at hx;exact Qz1 b _ _ h r h' hx
   | true =>
    rw[h4,bq_true]at hx
    obtain⟨h1,hx⟩:=Qb6 hx
    cases hx
    obtain⟨e0,hg⟩:=Qjr h2
    cases e0
    have e2:=Xuv h3
    simp only at e2 hg
    have e3:=Qru h4
    subst e3
    subst e2
    refine Xk4 (k:=10000) (m:=8) Vm Qz1 Qu4 Xff (Qwr _) (Q7f h1) Q2k (bs:=[blk]) rfl (by simp) (fun k d r hd hr => ?_) (Y7 (Q3h (by simp[emb])) Ji)
    cases k with
    | zero=>simp at hd hr;subst hd;subst hr;exact⟨hg,Qwr _⟩
    | succ k=>simp at hd
  ·exact Qz1 b _ _ h r h' hx
theorem Xk0:Qey Qzg:=by
 intro f args h r h' hx
 unfold Qzg at hx
 cases hf:Nat.beq f 19 with
 | false=>rw[hf]at hx;exact Qu4 f args h r h' hx
 | true =>
  rw[hf,bq_true]at hx
  split at hx
  ·obtain⟨q,h2,hx⟩:=J6 hx
   obtain⟨bl,h3,hx⟩:=J6 hx
   cases h4:eqN bl Qit with
   | false=>rw[h4,bq_false]at hx;exact Qu4 _ _ h r h' hx
   | true =>
    rw[h4,bq_true]at hx
    obtain⟨h1,hx⟩:=Qb6 hx
    cases hx
    exact LowOK.push _ _
  ·exact Qu4 _ _ h r h' hx
end Go.Proofs.YtgeeklmjfbiieaaDoor
end
noncomputable section
namespace Go.Proofs.YtgeeklmjfbiieaaDoor
open Go Go.Ab
set_option maxRecDepth 1000000
theorem Xcx(b:Nat):Xxf ((Ud Tryd.prog (mkE Tryd.prog nv b) Qzg 10000 30).fn 15 [] (Vt nv laidAll false []))=some (.bool true):=by kernel_rfl
end Go.Proofs.YtgeeklmjfbiieaaDoor
end
