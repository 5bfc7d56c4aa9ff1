import Derived.WalkKit
import Derived.OrdersIn
import Derived.DefersIn
import Derived.Laws.StructEq
import Derived.ChangeKeysEq
set_option linter.all false
noncomputable section
namespace Go.Ab
structure Place where
 blk:Nat
 base:Nat
 room:Nat
 sz:Nat
 spot:Option Nat
 deriving Inhabited
abbrev Ren:=Nat->Option Place
def Qhx:Nat:=9223372036854775808
def Uu(α:Ren)(b:Nat):Nat:=match α b with | some p=>p.blk | none=>b
def Wa(α:Ren)(a:Addr):Addr:=match α a.block with | some p=>{block:=p.blk,off:=p.base+a.off,spot:=if a.off=0 then p.spot else none} | none=>a
def Xdx(α:Ren)(a:Option Addr)(c:Nat):Nat :=
 if c=Qhx then(match a with | some a=>(match α a.block with | some p=>p.room-a.off / p.sz | none=>c) | none=>c)else c
def X2e(α:Ren):Fn->Fn
 | .yield l => .yield (Uu α l)
 | f=>f
mutual
def ren(α:Ren):Value->Value
 | .pointer a => .pointer (a.map (Wa α))
 | .slice a n c => .slice (a.map (Wa α)) n (Xdx α a c)
 | .map r => .map (r.map (Uu α))
 | .chan r => .chan (r.map (Uu α))
 | .func fn f c => .func (X2e α fn) (renA α f) (renA α c)
 | .iface t v => .iface t (ren α v)
 | .agg cs => .agg (renA α cs)
 | .tuple cs => .tuple (renA α cs)
 | .bool b => .bool b
 | .int k n => .int k n
 | .float k b => .float k b
 | .complex k a b => .complex k a b
 | .string s => .string s
 | .nilFunc => .nilFunc
 | .nilIface => .nilIface
def renA(α:Ren):Array Value->Array Value
 | ⟨l⟩=>⟨renL α l⟩
def renL(α:Ren):List Value->List Value
 | []=>[]
 | v::l=>ren α v::renL α l
end
theorem Zhk(α:Ren)(l:List Value):renL α l=l.map (ren α):=by
 induction l with
 | nil=>simp[renL]
 | cons v l ih=>simp[renL,ih]
theorem Qnf(α:Ren)(l:Array Value):renA α l=l.map (ren α):=by
 cases l;simp[renA,Zhk]
mutual
def okV(D:Nat->Prop):Value->Prop
 | .pointer (some a)=>D a.block/\a.spot=none
 | .slice (some a) _ _=>D a.block/\a.spot=none
 | .slice none _ c=>c≠Qhx
 | .map (some r)=>D r
 | .chan (some _)=>False
 | .func (.yield l) f c=>D l/\okA D f/\okA D c
 | .func _ f c=>okA D f/\okA D c
 | .iface _ v=>okV D v
 | .agg cs=>okA D cs/\cs.toList.all (·.oneCell')=true
 | .tuple cs=>okA D cs
 | _=>True
def okA(D:Nat->Prop):Array Value->Prop
 | ⟨l⟩=>okL D l
def okL(D:Nat->Prop):List Value->Prop
 | []=>True
 | v::l=>okV D v/\okL D l
end
theorem Zk9(D:Nat->Prop)(l:List Value):okL D l ↔ ∀ v ∈ l,okV D v:=by
 induction l with
 | nil=>simp[okL]
 | cons v l ih=>simp[okL,ih]
theorem Q00(D:Nat->Prop)(l:Array Value):okA D l ↔ ∀ v ∈ l,okV D v:=by
 cases l;simp[okA,Zk9]
mutual
theorem okV_mono{D E:Nat->Prop}(h:∀ b,D b->E b):(v:Value)->okV D v->okV E v
 | .pointer (some a),hv=>by simp only[okV]at hv ⊢;exact⟨h _ hv.1,hv.2⟩
 | .pointer none,_=>by simp[okV]
 | .slice (some a) _ _,hv=>by simp only[okV]at hv ⊢;exact⟨h _ hv.1,hv.2⟩
 | .slice none _ _,hv=>by simpa only[okV]using hv
 | .map (some r),hv=>by simp only[okV]at hv ⊢;exact h _ hv
 | .map none,_=>by simp[okV]
 | .chan (some _),hv=>by simp[okV]at hv
 | .chan none,_=>by simp[okV]
 | .func fn f c,hv=>by
  cases fn <;> simp only[okV]at hv ⊢ <;>
   first
    | exact⟨okA_mono h f hv.1,okA_mono h c hv.2⟩
    | exact⟨h _ hv.1,okA_mono h f hv.2.1,okA_mono h c hv.2.2⟩
 | .iface _ v,hv=>by simp only[okV]at hv ⊢;exact okV_mono h v hv
 | .agg cs,hv=>by simp only[okV]at hv ⊢;exact⟨okA_mono h cs hv.1,hv.2⟩
 | .tuple cs,hv=>by simp only[okV]at hv ⊢;exact okA_mono h cs hv
 | .bool _,_=>by simp[okV]
 | .int _ _,_=>by simp[okV]
 | .float _ _,_=>by simp[okV]
 | .complex _ _ _,_=>by simp[okV]
 | .string _,_=>by simp[okV]
 | .nilFunc,_=>by simp[okV]
 | .nilIface,_=>by simp[okV]
theorem okA_mono{D E:Nat->Prop}(h:∀ b,D b->E b):(v:Array Value)->okA D v->okA E v
 | ⟨l⟩,hv=>by simp only[okA]at hv ⊢;exact okL_mono h l hv
theorem okL_mono{D E:Nat->Prop}(h:∀ b,D b->E b):(v:List Value)->okL D v->okL E v
 | [],_=>by simp[okL]
 | v::l,hv=>by simp only[okL]at hv ⊢;exact⟨okV_mono h v hv.1,okL_mono h l hv.2⟩
end
theorem Qbn{α β:Ren}{b:Nat}(h:β b=α b):Uu β b=Uu α b:=by simp[Uu,h]
theorem Xzq{α β:Ren}{a:Addr}(h:β a.block=α a.block):Wa β a=Wa α a:=by simp[Wa,h]
mutual
theorem ren_congr{α β:Ren}{D:Nat->Prop}(h:∀ b,D b->β b=α b):(v:Value)->okV D v->ren β v=ren α v
 | .pointer (some a),hv=>by simp only[okV]at hv;simp[ren,Xzq (h _ hv.1)]
 | .pointer none,_=>by simp[ren]
 | .slice (some a) _ _,hv=>by simp only[okV]at hv;simp[ren,Xzq (h _ hv.1),Xdx,h _ hv.1]
 | .slice none _ _,_=>by simp[ren,Xdx]
 | .map (some r),hv=>by simp only[okV]at hv;simp[ren,Qbn (h _ hv)]
 | .map none,_=>by simp[ren]
 | .chan (some _),hv=>by simp[okV]at hv
 | .chan none,_=>by simp[ren]
 | .func fn f c,hv=>by
  cases fn <;> simp only[okV]at hv <;>
   first
    | simp only[ren,X2e,renA_congr h f hv.1,renA_congr h c hv.2]
    | simp only[ren,X2e,Qbn (h _ hv.1),renA_congr h f hv.2.1,renA_congr h c hv.2.2]
 | .iface _ v,hv=>by simp only[okV]at hv;simp[ren,ren_congr h v hv]
 | .agg cs,hv=>by simp only[okV]at hv;simp[ren,renA_congr h cs hv.1]
 | .tuple cs,hv=>by simp only[okV]at hv;simp[ren,renA_congr h cs hv]
 | .bool _,_=>by simp[ren]
 | .int _ _,_=>by simp[ren]
 | .float _ _,_=>by simp[ren]
 | .complex _ _ _,_=>by simp[ren]
 | .string _,_=>by simp[ren]
 | .nilFunc,_=>by simp[ren]
 | .nilIface,_=>by simp[ren]
theorem renA_congr{α β:Ren}{D:Nat->Prop}(h:∀ b,D b->β b=α b):(v:Array Value)->okA D v->renA β v=renA α v
 | ⟨l⟩,hv=>by simp only[okA]at hv;simp[renA,renL_congr h l hv]
theorem renL_congr{α β:Ren}{D:Nat->Prop}(h:∀ b,D b->β b=α b):(v:List Value)->okL D v->renL β v=renL α v
 | [],_=>by simp[renL]
 | v::l,hv=>by simp only[okL]at hv;simp[renL,ren_congr h v hv.1,renL_congr h l hv.2]
end
mutual
def flat:Value->Bool
 | .pointer (some _)=>false
 | .slice (some _) _ _=>false
 | .slice none _ c => !(c == Qhx)
 | .map (some _)=>false
 | .chan (some _)=>false
 | .func (.yield _) _ _=>false
 | .func _ f c=>flatA f && flatA c
 | .iface _ v=>flat v
 | .agg cs=>flatA cs && cs.toList.all (·.oneCell')
 | .tuple cs=>flatA cs
 | _=>true
def flatA:Array Value->Bool
 | ⟨l⟩=>flatL l
def flatL:List Value->Bool
 | []=>true
 | v::l=>flat v && flatL l
end
mutual
theorem flat_ok(D:Nat->Prop):(v:Value)->flat v=true->okV D v
 | .pointer (some a),hv=>by simp[flat]at hv
 | .pointer none,_=>by simp[okV]
 | .slice (some a) _ _,hv=>by simp[flat]at hv
 | .slice none _ _,hv=>by simpa[flat,okV]using hv
 | .map (some r),hv=>by simp[flat]at hv
 | .map none,_=>by simp[okV]
 | .chan (some _),hv=>by simp[flat]at hv
 | .chan none,_=>by simp[okV]
 | .func fn f c,hv=>by
  cases fn <;> simp only[flat,Bool.and_eq_true]at hv <;>
   first
    | (simp only[okV];exact⟨flatA_ok D f hv.1,flatA_ok D c hv.2⟩)
    | exact absurd hv (by simp)
 | .iface _ v,hv=>by simp only[flat]at hv;simp only[okV];exact flat_ok D v hv
 | .agg cs,hv=>by simp only[flat,Bool.and_eq_true]at hv;simp only[okV];exact⟨flatA_ok D cs hv.1,hv.2⟩
 | .tuple cs,hv=>by simp only[flat]at hv;simp only[okV];exact flatA_ok D cs hv
 | .bool _,_=>by simp[okV]
 | .int _ _,_=>by simp[okV]
 | .float _ _,_=>by simp[okV]
 | .complex _ _ _,_=>by simp[okV]
 | .string _,_=>by simp[okV]
 | .nilFunc,_=>by simp[okV]
 | .nilIface,_=>by simp[okV]
theorem flatA_ok(D:Nat->Prop):(v:Array Value)->flatA v=true->okA D v
 | ⟨l⟩,hv=>by simp only[flatA]at hv;simp only[okA];exact flatL_ok D l hv
theorem flatL_ok(D:Nat->Prop):(v:List Value)->flatL v=true->okL D v
 | [],_=>by simp[okL]
 | v::l,hv=>by simp only[flatL,Bool.and_eq_true]at hv;simp only[okL];exact⟨flat_ok D v hv.1,flatL_ok D l hv.2⟩
end
mutual
theorem ren_none:(v:Value)->ren (fun _=>none) v=v
 | .pointer (some a)=>by simp[ren,Wa]
 | .pointer none=>by simp[ren]
 | .slice (some a) _ _=>by simp[ren,Wa,Xdx]
 | .slice none _ _=>by simp[ren,Xdx]
 | .map (some r)=>by simp[ren,Uu]
 | .map none=>by simp[ren]
 | .chan (some r)=>by simp[ren,Uu]
 | .chan none=>by simp[ren]
 | .func fn f c=>by cases fn <;> simp[ren,X2e,Uu,renA_none f,renA_none c]
 | .iface _ v=>by simp[ren,ren_none v]
 | .agg cs=>by simp[ren,renA_none cs]
 | .tuple cs=>by simp[ren,renA_none cs]
 | .bool _=>by simp[ren]
 | .int _ _=>by simp[ren]
 | .float _ _=>by simp[ren]
 | .complex _ _ _=>by simp[ren]
 | .string _=>by simp[ren]
 | .nilFunc=>by simp[ren]
 | .nilIface=>by simp[ren]
theorem renA_none:(v:Array Value)->renA (fun _=>none) v=v
 | ⟨l⟩=>by simp[renA,renL_none l]
theorem renL_none:(v:List Value)->renL (fun _=>none) v=v
 | []=>by simp[renL]
 | v::l=>by simp[renL,ren_none v,renL_none l]
end
theorem Qhp(α:Ren){v:Value}(h:flat v=true):ren α v=v:=by
 have h1:=ren_congr (α:=fun _=>none) (β:=α) (D:=fun _=>False) (fun _ hb=>hb.elim) v (flat_ok _ v h)
 rw[h1,ren_none]
@[simp] theorem ren_int (α:Ren) (k:IntKind) (n:Int):ren α (.int k n)=.int k n:=by simp[ren]
@[simp] theorem ren_bool (α:Ren) (b:Bool):ren α (.bool b)=.bool b:=by simp[ren]
@[simp] theorem ren_string (α:Ren) (b:ByteArray):ren α (.string b)=.string b:=by simp[ren]
@[simp] theorem ren_nilIface (α:Ren):ren α .nilIface=.nilIface:=by simp[ren]
@[simp] theorem ren_nilFunc (α:Ren):ren α .nilFunc=.nilFunc:=by simp[ren]
@[simp] theorem ren_agg (α:Ren) (c:Array Value):ren α (.agg c)=.agg (c.map (ren α)):=by simp[ren,Qnf]
@[simp] theorem ren_tuple (α:Ren) (c:Array Value):ren α (.tuple c)=.tuple (c.map (ren α)):=by simp[ren,Qnf]
@[simp] theorem ren_iface (α:Ren) (t:TypeId) (v:Value):ren α (.iface t v)=.iface t (ren α v):=by simp[ren]
theorem Ycq(α:Ren)(v:Value):(ren α v).cells=v.cells.map (ren α):=by
 cases v <;> simp[ren,Value.cells,Qnf]
theorem Ybl(α:Ren)(v:Value):(ren α v).oneCell'=v.oneCell':=by
 cases v <;> simp[ren,Value.oneCell']
theorem Y8b(D:Nat->Prop)(c:Array Value):okV D (.agg c) ↔ ∀ v ∈ c,okV D v/\v.oneCell'=true:=by
 simp only[okV,Q00,List.all_eq_true,Array.mem_toList_iff]
 exact⟨fun h v hv=>⟨h.1 v hv,h.2 v hv⟩,fun h=>⟨fun v hv=>(h v hv).1,fun v hv=>(h v hv).2⟩⟩
theorem Quq(D:Nat->Prop)(c:Array Value):okV D (.tuple c) ↔ ∀ v ∈ c,okV D v:=by simp only[okV,Q00]
def Qgn:Value->Bool
 | .tuple _=>false
 | _=>true
theorem X0f(D:Nat->Prop)(v:Value)(h:okV D v)(ht:Qgn v=true):∀ c ∈ v.cells,okV D c/\c.oneCell'=true:=by
 cases v <;> simp only[Value.cells] <;>
  first
   | exact(Y8b D _).1 h
   | (intro c hc;simp only[List.mem_toArray,List.mem_singleton]at hc;subst hc;exact⟨h,rfl⟩)
   | simp[Qgn]at ht
theorem Q8x(D:Nat->Prop)(l:List Value)(h:∀ c ∈ l,okV D c/\c.oneCell'=true):okV D (.agg l.toArray):=(Y8b D _).2 (by simpa using h)
inductive Tr (A:Type) where
 | leaf
 | node (v:Option A) (l r:Tr A)
namespace Tr
def get{A:Type}(t:Tr A):Nat->Option A :=
 Tr.rec (motive:=fun _=>Nat->Option A) (fun _=>none)
  (fun v _ _ gl gr n=>Nat.rec (motive:=fun _=>Option A) v (fun m _=>Bool.rec (motive:=fun _=>Option A) (gr (Nat.div m 2)) (gl (Nat.div m 2)) (Nat.beq (Nat.mod m 2) 0)) n) t
def one{A:Type}(x:Option A)(f:Nat):Nat->Tr A :=
 Nat.rec (motive:=fun _=>Nat->Tr A) (fun _=>leaf)
  (fun _ g n=>Nat.rec (motive:=fun _=>Tr A) (node x leaf leaf) (fun m _=>Bool.rec (motive:=fun _=>Tr A) (node none leaf (g (Nat.div m 2))) (node none (g (Nat.div m 2)) leaf) (Nat.beq (Nat.mod m 2) 0)) n) f
def put{A:Type}(t:Tr A)(n:Nat)(x:Option A):Tr A :=
 Tr.rec (motive:=fun _=>Nat->Tr A) (fun n=>one x (Nat.succ n) n)
  (fun v l r pl pr n=>Nat.rec (motive:=fun _=>Tr A) (node x l r) (fun m _=>Bool.rec (motive:=fun _=>Tr A) (node v l (pr (Nat.div m 2))) (node v (pl (Nat.div m 2)) r) (Nat.beq (Nat.mod m 2) 0)) n) t n
@[simp] theorem get_leaf {A:Type} (n:Nat):(leaf:Tr A).get n=none:=rfl
theorem Yaq{A:Type}(v:Option A)(l r:Tr A):(node v l r).get 0=v:=rfl
theorem Xfa{A:Type}(v:Option A)(l r:Tr A)(n:Nat):(node v l r).get (n+1)=if n % 2=0 then l.get (n / 2)else r.get (n / 2):=by
 have h:(node v l r).get (n+1)=Bool.rec (motive:=fun _=>Option A) (r.get (n / 2)) (l.get (n / 2)) (Nat.beq (n % 2) 0):=rfl
 rw[h]
 cases hb:Nat.beq (n % 2) 0 with
 | true=>rw[if_pos (Nat.eq_of_beq_eq_true hb)]
 | false=>rw[if_neg (Nat.ne_of_beq_eq_false hb)]
theorem Yu3{A:Type}(x:Option A)(f:Nat):one x (f+1) 0=node x leaf leaf:=rfl
theorem Yx3{A:Type}(x:Option A)(f n:Nat):one x (f+1) (n+1)=if n % 2=0 then node none (one x f (n / 2)) leaf else node none leaf (one x f (n / 2)):=by
 have h:one x (f+1) (n+1)=Bool.rec (motive:=fun _=>Tr A) (node none leaf (one x f (n / 2))) (node none (one x f (n / 2)) leaf) (Nat.beq (n % 2) 0):=rfl
 rw[h]
 cases hb:Nat.beq (n % 2) 0 with
 | true=>rw[if_pos (Nat.eq_of_beq_eq_true hb)]
 | false=>rw[if_neg (Nat.ne_of_beq_eq_false hb)]
theorem Zbc{A:Type}(x:Option A):∀ (f n m:Nat),n < f->(one x f n).get m=if n=m then x else none
 | 0,n,m,h=>by omega
 | f+1,0,m,_=>by
  rw[Yu3]
  cases m with
  | zero=>simp[Yaq]
  | succ m=>rw[Xfa];simp
 | f+1,n+1,m,h=>by
  rw[Yx3]
  have hn:n / 2 < f:=by omega
  cases m with
  | zero=>split <;> simp[Yaq]
  | succ m =>
   split
   ·rename_i h0
    rw[Xfa]
    split
    ·rename_i h1
     rw[Zbc x f _ _ hn]
     by_cases e:n=m
     ·subst e;simp
     ·rw[if_neg (by omega),if_neg (by omega)]
    ·rw[if_neg (by omega)];rfl
   ·rename_i h0
    rw[Xfa]
    split
    ·rw[if_neg (by omega)];rfl
    ·rename_i h1
     rw[Zbc x f _ _ hn]
     by_cases e:n=m
     ·subst e;simp
     ·rw[if_neg (by omega),if_neg (by omega)]
theorem Yrj{A:Type}(n:Nat)(x:Option A):(leaf:Tr A).put n x=one x (n+1) n:=rfl
theorem X1p{A:Type}(v:Option A)(l r:Tr A)(x:Option A):(node v l r).put 0 x=node x l r:=rfl
theorem Q94{A:Type}(v:Option A)(l r:Tr A)(n:Nat)(x:Option A):(node v l r).put (n+1) x=if n % 2=0 then node v (l.put (n / 2) x) r else node v l (r.put (n / 2) x):=by
 have h:(node v l r).put (n+1) x=Bool.rec (motive:=fun _=>Tr A) (node v l (r.put (n / 2) x)) (node v (l.put (n / 2) x) r) (Nat.beq (n % 2) 0):=rfl
 rw[h]
 cases hb:Nat.beq (n % 2) 0 with
 | true=>rw[if_pos (Nat.eq_of_beq_eq_true hb)]
 | false=>rw[if_neg (Nat.ne_of_beq_eq_false hb)]
theorem get_put{A:Type}:∀ (t:Tr A) (n m:Nat) (x:Option A),(t.put n x).get m=if n=m then x else t.get m
 | leaf,n,m,x=>by rw[Yrj,Zbc _ _ _ _ (Nat.lt_succ_self n)];rfl
 | node v l r,0,m,x=>by
  rw[X1p]
  cases m with
  | zero=>simp[Yaq]
  | succ m=>simp[Xfa]
 | node v l r,n+1,0,x=>by
  rw[Q94]
  split <;> simp[Yaq]
 | node v l r,n+1,m+1,x=>by
  rw[Q94,Xfa v l r m]
  split
  ·rename_i h0
   rw[Xfa]
   split
   ·rw[get_put l]
    by_cases e:n=m
    ·subst e;simp
    ·rw[if_neg (by omega),if_neg (by omega)]
   ·rw[if_neg (by omega)]
  ·rename_i h0
   rw[Xfa]
   split
   ·rw[if_neg (by omega)]
   ·rw[get_put r]
    by_cases e:n=m
    ·subst e;simp
    ·rw[if_neg (by omega),if_neg (by omega)]
theorem Y8o{A:Type}(x y:Option A):∀ (f n:Nat),n < f->(one x f n).put n y=one y f n
 | 0,n,h=>by omega
 | f+1,0,_=>by rw[Yu3,Yu3,X1p]
 | f+1,n+1,h=>by
  have hn:n / 2 < f:=by omega
  rw[Yx3,Yx3]
  by_cases h0:n % 2=0
  ·rw[if_pos h0,if_pos h0,Q94,if_pos h0,Y8o x y f _ hn]
  ·rw[if_neg h0,if_neg h0,Q94,if_neg h0,Y8o x y f _ hn]
theorem put_put{A:Type}:∀ (t:Tr A) (n:Nat) (x y:Option A),(t.put n x).put n y=t.put n y
 | leaf,n,x,y=>by rw[Yrj,Yrj,Y8o _ _ _ _ (Nat.lt_succ_self n)]
 | node v l r,0,x,y=>by rw[X1p,X1p,X1p]
 | node v l r,n+1,x,y=>by
  rw[Q94,Q94]
  by_cases h0:n % 2=0
  ·rw[if_pos h0,if_pos h0,Q94,if_pos h0,put_put l]
  ·rw[if_neg h0,if_neg h0,Q94,if_neg h0,put_put r]
end Tr
structure Tm where
 size:Nat
 t:Tr Value
def Tm.put(t:Tm)(i:Nat)(v:Value):Tm:=match t with | ⟨n,t⟩=>⟨n,t.put i (some v)⟩
inductive AObj where
 | loop (st:LoopState) (pend:Option Code) (t:Tm) (params:Array Tmp) (assign body:Code) (defers:Nat)
 | defs
 | strIter (s:ByteArray) (pos:Nat)
 | mapIter (m:Option Nat) (since:Nat) (seen:Array Nat) (last:Nat)
 | any
inductive Blk where
 | cells (own:Bool) (sz:Nat) (c:List Value)
 | map (es:Array MapEntry) (clk:Nat)
 | obj (o:AObj)
instance : Inhabited Blk:=⟨.cells true 0 []⟩
structure Heap where
 next:Nat
 low:Nat
 t:Tr Blk
def Blk.own:Blk->Bool
 | .cells o _ _=>o
 | _=>true
def Blk.solid:Blk->Bool
 | .cells false _ []=>false
 | _=>true
theorem Blk.solid_of_own{x:Blk}(h:x.own=true):x.solid=true:=by
 cases x with
 | cells o s c=>cases o <;> simp[Blk.own]at h;rfl
 | map _ _=>rfl
 | obj _=>rfl
namespace Heap
def get(h:Heap)(b:Nat):Option Blk:=if b < h.next then h.t.get b else none
def set(h:Heap)(b:Nat)(x:Option Blk):Heap:={next:=h.next,low:=min h.low b,t:=h.t.put b x}
def push(h:Heap)(x:Blk):Heap:={next:=h.next+1,low:=h.low,t:=h.t.put h.next (some x)}
theorem get_set(h:Heap)(b c:Nat)(x:Option Blk)(hb:b < h.next):(h.set b x).get c=if b=c then x else h.get c:=by
 simp only[get,set]
 rw[Tr.get_put]
 by_cases e:b=c
 ·subst e;simp[hb]
 ·simp[e]
theorem get_push(h:Heap)(c:Nat)(x:Blk):(h.push x).get c=if h.next=c then some x else h.get c:=by
 simp only[get,push]
 rw[Tr.get_put]
 by_cases e:h.next=c
 ·subst e;simp
 ·simp only[e,if_false]
  by_cases h2:c < h.next
  ·simp[h2,Nat.lt_succ_of_lt h2]
  ·have : ¬ c < h.next+1:=by omega
   simp[h2,this]
theorem get_none{h:Heap}{b:Nat}(hb:h.next<=b):h.get b=none:=by
 unfold get;rw[if_neg (by omega)]
theorem get_lt{h:Heap}{b:Nat}{x:Blk}(hb:h.get b=some x):b < h.next:=by
 unfold get at hb
 split at hb
 ·assumption
 ·cases hb
def own(h:Heap)(b:Nat):Bool:=match h.get b with | some x=>x.own | none=>false
def live(h:Heap)(b:Nat):Bool:=match h.get b with | some x=>x.solid | none=>false
end Heap
def Qn3(α:Ren)(e:MapEntry):MapEntry:={key:=ren α e.key,val:=ren α e.val,born:=e.born}
def Qpz(α:Ren):Deferred->Deferred
 | {target:=.fn f c,args}=>{target:=.fn (X2e α f) (renA α c),args:=renA α args}
 | {target:=.collected r,args}=>{target:=.collected (Uu α r),args:=renA α args}
 | {target,args}=>{target,args:=renA α args}
def Xzg(D:Nat->Prop):Deferred->Prop
 | {target:=.fn f c,args}=>okV D (.func f #[] c)/\okA D args
 | {target:=.collected r,args}=>D r/\okA D args
 | {target:=.nil,args}=>okA D args
 | {target:=.builtin ..,args}=>okA D args
 | {target:=.coroexit _,.. }=>False
abbrev dom(α:Ren):Nat->Prop:=fun b=>(α b).isSome=true
structure TRel (α:Ren) (t:Tm) (tmps:Array Value):Prop where
 size:tmps.size=t.size
 vals:∀ i v,t.t.get i=some v->okV (Go.Ab.dom α) v/\tmps[i]? = some (ren α v)
def Zow(D:Nat->Prop):AObj->Prop
 | .loop _ _ t _ _ _ d=>(∀ i v,t.t.get i=some v->okV D v)/\D d
 | .mapIter m _ _ _ => ∀ b,m=some b->D b
 | _=>True
def FitObj(α:Ren)(o:Obj):AObj->Prop
 | .loop st pend t ps as bd d=>dom α d/\∃ fn tmps,o=.loop {state:=st,pending:=pend,fn,tmps,params:=ps,assign:=as,body:=bd,defers:=Uu α d}/\TRel α t tmps
 | .defs=>o=.deferred (some [])
 | .strIter s k=>o=.stringIter s k
 | .mapIter m since seen last=>(∀ b,m=some b->dom α b)/\o=.mapIter (m.map (Uu α)) since seen last
 | .any=>True
def Thawed(n lo hi:Nat):Prop:=lo=hi∨n<=lo
theorem Thawed.not{n lo hi:Nat}(h:Thawed n lo hi):∀ i,i < n->¬ (lo<=i/\i < hi):=by
 intro i hi h2
 rcases h with h | h <;> omega
def Fits(α:Ren)(p:Place)(w:World):Blk->Prop
 | .cells own sz c=>p.sz=sz/\((own=false/\c=[]) ∨ ∃ C e lo hi,w.heap[p.blk]? = some (.cells C e (lo,hi))/\(∀ i v,c[i]? = some v->C[p.base+i]? = some (ren α v)/\okV (dom α) v/\v.oneCell'=true) /\
   (own=true->p.base=0/\Thawed C.size lo hi/\C.size=p.room*p.sz))
 | .map es clk=>p.base=0/\w.heap[p.blk]? = some (.map (es.map (Qn3 α)) clk)/\∀ x ∈ es,flat x.key=true/\okV (dom α) x.val
 | .obj a=>p.base=0/\∃ o,w.heap[p.blk]? = some o/\FitObj α o a
def okB(D:Nat->Prop):Blk->Prop
 | .cells _ _ c => ∀ v ∈ c,okV D v/\v.oneCell'=true
 | .map es _ => ∀ x ∈ es,flat x.key=true/\okV D x.val
 | .obj o=>Zow D o
structure Bs where
 n:Nat
 b:Nat
structure HRel (G:Bs) (α:Ren) (h:Heap) (w:World):Prop where
 dom:∀ b p,α b=some p->b < h.next/\True
 fits:∀ b p x,α b=some p->h.get b=some x->Fits α p w x
 apart:∀ b c p q,α b=some p->α c=some q->b≠c->h.own b=true->h.live c=true->p.blk≠q.blk
 glob:∀ g,g < G.n->α g=some ⟨g,0,0,0,none⟩/\h.own g=false
 globs:G.n<=h.next
 wf:∀ b x,h.get b=some x->okB (fun c=>c < h.next) x
 base:∀ b p x,α b=some p->h.get b=some x->(x.own=true->G.b<=p.blk/\p.spot=none)/\(x.own=false->x.solid=true->p.blk < G.b/\p.spot=none)
 bsz:G.b<=w.heap.size
def Ext(n:Nat)(α α':Ren):Prop:=∀ b,b < n->α' b=α b
structure Turn (α:Ren) (h:Heap) (w:World) (α':Ren) (h':Heap) (w':World):Prop where
 size:w.heap.size<=w'.heap.size
 same:∀ k,k < w.heap.size->(∀ b p,α b=some p->h.own b=true->p.blk≠k)->w'.heap[k]? = w.heap[k]?
 owns:∀ b p,α' b=some p->h'.own b=true->w.heap.size<=p.blk ∨ ∃ c q,α c=some q/\h.own c=true/\q.blk=p.blk
 tape:w'.tape=w.tape
 os:w'.os=w.os
 output:w'.output=w.output
 next:h.next<=h'.next
theorem Ext.refl(n:Nat)(α:Ren):Ext n α α:=fun _ _=>rfl
theorem Ext.trans{n m:Nat}{α β γ:Ren}(h:Ext n α β)(k:Ext m β γ)(hnm:n<=m):Ext n α γ:=fun b hb=>(k b (by omega)).trans (h b hb)
theorem Ext.mono{n m:Nat}{α β:Ren}(h:Ext m α β)(hnm:n<=m):Ext n α β:=fun b hb=>h b (by omega)
theorem Turn.refl(α:Ren)(h:Heap)(w:World):Turn α h w α h w :=
 ⟨Nat.le_refl _,fun _ _ _=>rfl,fun b p hb ho => .inr ⟨b,p,hb,ho,rfl⟩,rfl,rfl,rfl,Nat.le_refl _⟩
theorem Turn.trans{α α1 α2:Ren}{h h1 h2:Heap}{w w1 w2:World}(a:Turn α h w α1 h1 w1)(b:Turn α1 h1 w1 α2 h2 w2):Turn α h w α2 h2 w2:=by
 refine⟨Nat.le_trans a.size b.size,fun k hk hno => ?_,fun c p hc ho => ?_,b.tape.trans a.tape,b.os.trans a.os,b.output.trans a.output,Nat.le_trans a.next b.next⟩
 ·rw[b.same k (Nat.lt_of_lt_of_le hk a.size) ?_,a.same k hk hno]
  intro c p hc ho e
  rcases a.owns c p hc ho with h1 | ⟨c0,q,hq,hqo,hqe⟩
  ·omega
  ·exact hno c0 q hq hqo (hqe.trans e)
 ·rcases b.owns c p hc ho with h1 | ⟨c0,q,hq,hqo,hqe⟩
  ·exact .inl (Nat.le_trans a.size h1)
  ·rcases a.owns c0 q hq hqo with h2 | ⟨c1,q1,hq1,hqo1,hqe1⟩
   ·exact .inl (hqe ▸ h2)
   ·exact .inr ⟨c1,q1,hq1,hqo1,hqe1.trans hqe⟩
theorem Qih{G:Bs}{α:Ren}{h:Heap}{w:World}(H:HRel G α h w){b:Nat}(hb:dom α b):b < h.next:=by
 cases hp:α b with
 | none=>simp[dom,hp]at hb
 | some p=>exact(H.dom b p hp).1
theorem Yaz{h:Heap}{b:Nat}(ho:h.own b=true):h.live b=true:=by
 unfold Heap.own at ho;unfold Heap.live
 cases hg:h.get b with
 | none=>simp[hg]at ho
 | some x=>simp only[hg]at ho ⊢;exact Blk.solid_of_own ho
theorem Qxl{h:Heap}{b:Nat}(ho:h.own b=true):∃ x,h.get b=some x/\x.own=true:=by
 unfold Heap.own at ho
 cases hg:h.get b with
 | none=>simp[hg]at ho
 | some x=>simp only[hg]at ho;exact⟨x,rfl,ho⟩
theorem Qs7{h:Heap}{b:Nat}{x:Blk}(hg:h.get b=some x):h.own b=x.own:=by simp[Heap.own,hg]
theorem X4z{h:Heap}{b:Nat}{x:Blk}(hg:h.get b=some x):h.live b=x.solid:=by simp[Heap.live,hg]
theorem HRel.blk_lt{G:Bs}{α:Ren}{h:Heap}{w:World}(H:HRel G α h w){b:Nat}{p:Place}{x:Blk}(hb:α b=some p)(hg:h.get b=some x)(hs:x.solid=true):p.blk < w.heap.size:=by
 have hf:=H.fits b p x hb hg
 have key:∀ o,w.heap[p.blk]? = some o->p.blk < w.heap.size:=fun o ho=>(Array.getElem?_eq_some_iff.1 ho).1
 cases x with
 | cells o z c =>
  rcases hf.2 with⟨rfl,rfl⟩ | ⟨C,e,lo,hi,h1,_⟩
  ·cases hs
  ·exact key _ h1
 | map es k=>exact key _ hf.2.1
 | obj o=>obtain⟨_,o',h1,_⟩:=hf;exact key _ h1
theorem HRel.blk_own{G:Bs}{α:Ren}{h:Heap}{w:World}(H:HRel G α h w){b:Nat}{p:Place}(hb:α b=some p)(ho:h.own b=true):p.blk < w.heap.size:=by
 obtain⟨x,hx,hxo⟩:=Qxl ho
 exact H.blk_lt hb hx (Blk.solid_of_own hxo)
theorem HRel.blk_live{G:Bs}{α:Ren}{h:Heap}{w:World}(H:HRel G α h w){b:Nat}{p:Place}(hb:α b=some p)(hl:h.live b=true):p.blk < w.heap.size:=by
 unfold Heap.live at hl
 split at hl
 ·rename_i x hx;exact H.blk_lt hb hx hl
 ·cases hl
theorem HRel.spot{G:Bs}{α:Ren}{h:Heap}{w:World}(H:HRel G α h w){b:Nat}{p:Place}{x:Blk}(hb:α b=some p)(hg:h.get b=some x)(hs:x.solid=true):p.spot=none:=by
 have h1:=H.base b p x hb hg
 cases ho:x.own with
 | true=>exact(h1.1 ho).2
 | false=>exact(h1.2 ho hs).2
theorem X55{α β:Ren}{D:Nat->Prop}(h:∀ b,D b->β b=α b){x:MapEntry}(hk:flat x.key=true)(hv:okV D x.val):Qn3 β x=Qn3 α x:=by
 simp[Qn3,Qhp,hk,ren_congr h x.val hv]
theorem TRel.keep{α β:Ren}{t:Tm}{tmps:Array Value}(h:∀ b,dom α b->β b=α b)(ht:TRel α t tmps):TRel β t tmps :=
 ⟨ht.size,fun i v hv=>by
  have h1:=ht.vals i v hv
  exact⟨okV_mono (fun b hb=>by simpa[dom,h b hb]using hb) v h1.1,by rw[h1.2,ren_congr h v h1.1]⟩⟩
theorem FitObj.keep{α β:Ren}{o:Obj}{a:AObj}(h:∀ b,dom α b->β b=α b)(hf:FitObj α o a):FitObj β o a:=by
 cases a with
 | loop st pend t ps as bd d =>
  obtain⟨h1,fn,tmps,h2,h3⟩:=hf
  exact⟨by simpa[dom,h d h1]using h1,fn,tmps,by rw[h2,Qbn (h d h1)],h3.keep h⟩
 | defs=>exact hf
 | strIter s k=>exact hf
 | mapIter m since seen last =>
  obtain⟨h1,h2⟩:=hf
  refine⟨fun b hb=>by have:=h1 b hb;simpa[dom,h b this]using this,?_⟩
  rw[h2]
  cases m with
  | none=>rfl
  | some b=>simp only[Option.map_some,Qbn (h b (h1 b rfl))]
 | any=>trivial
theorem Zfo{D E:Nat->Prop}(h:∀ b,D b->E b){o:AObj}(ho:Zow D o):Zow E o:=by
 cases o with
 | loop st pend t ps as bd d=>exact⟨fun i v hv=>okV_mono h v (ho.1 i v hv),h _ ho.2⟩
 | defs=>trivial
 | strIter s k=>trivial
 | mapIter m since seen last=>exact fun b hb=>h b (ho b hb)
 | any=>trivial
theorem FitObj.ok{α:Ren}{o:Obj}{a:AObj}(hf:FitObj α o a):Zow (dom α) a:=by
 cases a with
 | loop st pend t ps as bd d =>
  obtain⟨h1,fn,tmps,h2,h3⟩:=hf
  exact⟨fun i v hv=>(h3.vals i v hv).1,h1⟩
 | defs=>trivial
 | strIter s k=>trivial
 | mapIter m since seen last=>exact hf.1
 | any=>trivial
theorem Fits.keep{α β:Ren}{p:Place}{w w':World}{x:Blk}(hf:Fits α p w x)(h:∀ b,dom α b->β b=α b)(hw:w'.heap[p.blk]? = w.heap[p.blk]?):Fits β p w' x:=by
 have hd:∀ b,dom α b->dom β b:=fun b hb=>by simpa[dom,h b hb]using hb
 cases x with
 | cells own sz c =>
  obtain⟨hsz,hf⟩:=hf
  rcases hf with hf | ⟨C,e,lo,hi,h1,h2,h3⟩
  ·exact⟨hsz,.inl hf⟩
  refine⟨hsz,.inr ⟨C,e,lo,hi,by rw[hw,h1],fun i v hv => ?_,h3⟩⟩
  obtain⟨a1,a2,a3⟩:=h2 i v hv
  exact⟨by rw[a1,ren_congr h v a2],okV_mono hd v a2,a3⟩
 | map es clk =>
  obtain⟨h0,h1,h2⟩:=hf
  refine⟨h0,?_,fun x hx=>⟨(h2 x hx).1,okV_mono hd _ (h2 x hx).2⟩⟩
  rw[hw,h1]
  congr 2
  apply Array.map_congr_left
  intro x hx
  exact(X55 h (h2 x hx).1 (h2 x hx).2).symm
 | obj o =>
  obtain⟨h0,o',h1,h2⟩:=hf
  exact⟨h0,o',by rw[hw,h1],h2.keep h⟩
theorem Fits.keepS{α β:Ren}{p:Place}{w w':World}{x:Blk}(hf:Fits α p w x)(h:∀ b,dom α b->β b=α b)(hw:x.solid=true->w'.heap[p.blk]? = w.heap[p.blk]?):Fits β p w' x:=by
 cases hs:x.solid with
 | true=>exact hf.keep h (hw hs)
 | false =>
  cases x with
  | cells o z l=>cases o <;> cases l <;> simp[Blk.solid]at hs;exact⟨hf.1,.inl ⟨rfl,rfl⟩⟩
  | map _ _=>simp[Blk.solid]at hs
  | obj _=>simp[Blk.solid]at hs
theorem Qun{h:Heap}{b c:Nat}{x:Option Blk}(hb:b < h.next):(h.set b x).own c=if b=c then(match x with | some y=>y.own | none=>false)else h.own c:=by
 unfold Heap.own
 rw[Heap.get_set _ _ _ _ hb]
 by_cases e:b=c
 ·simp only[e,if_true] <;> (cases x <;> rfl)
 ·simp only[e,if_false]
theorem Yb2{h:Heap}{b c:Nat}{x:Option Blk}(hb:b < h.next):(h.set b x).live c=if b=c then(match x with | some y=>y.solid | none=>false)else h.live c:=by
 unfold Heap.live
 rw[Heap.get_set _ _ _ _ hb]
 by_cases e:b=c
 ·simp only[e,if_true] <;> (cases x <;> rfl)
 ·simp only[e,if_false]
theorem Qxp{h:Heap}{c:Nat}{x:Blk}:(h.push x).own c=if h.next=c then x.own else h.own c:=by
 unfold Heap.own
 rw[Heap.get_push]
 by_cases e:h.next=c
 ·simp only[e,if_true]
 ·simp only[e,if_false]
theorem X2c{h:Heap}{c:Nat}{x:Blk}:(h.push x).live c=if h.next=c then x.solid else h.live c:=by
 unfold Heap.live
 rw[Heap.get_push]
 by_cases e:h.next=c
 ·simp only[e,if_true]
 ·simp only[e,if_false]
theorem Xfi{D E:Nat->Prop}(h:∀ b,D b->E b){x:Blk}(hx:okB D x):okB E x:=by
 cases x with
 | cells o z c=>exact fun v hv=>⟨okV_mono h v (hx v hv).1,(hx v hv).2⟩
 | map es k=>exact fun e he=>⟨(hx e he).1,okV_mono h _ (hx e he).2⟩
 | obj o=>exact Zfo h hx
theorem Fits.okB{α:Ren}{p:Place}{w:World}{x:Blk}(hf:Fits α p w x):Go.Ab.okB (dom α) x:=by
 cases x with
 | cells o z c =>
  intro v hv
  obtain⟨i,hi⟩:=List.getElem?_of_mem hv
  rcases hf.2 with⟨_,rfl⟩ | ⟨C,e,lo,hi',h1,h2,h3⟩
  ·simp at hv
  ·exact(h2 i v hi).2
 | map es k=>exact hf.2.2
 | obj o=>obtain⟨h0,o',h1,h2⟩:=hf;exact h2.ok
def World.turned(w:World)(k:Nat)(o:Obj):World:={w with heap:=w.heap.setIfInBounds k o}
theorem Qp1{w:World}{k:Nat}{o:Obj}(h:k < w.heap.size):(World.turned w k o).heap[k]? = some o:=by
 simp[World.turned,h]
theorem Y5g{w:World}{k j:Nat}{o:Obj}(h:k≠j):(World.turned w k o).heap[j]? = w.heap[j]? := by
 simp[World.turned,h]
section
variable{G:Bs}{α:Ren}{h:Heap}{w:World}
theorem HRel.upd(H:HRel G α h w){b:Nat}{p:Place}(hb:α b=some p)(ho:h.own b=true){x:Blk}(hx:x.own=true){o:Obj}
  (hf:Fits α p (World.turned w p.blk o) x):HRel G α (h.set b (some x)) (World.turned w p.blk o)/\Turn α h w α (h.set b (some x)) (World.turned w p.blk o):=by
 have hlt:=(H.dom b p hb).1
 have hp:=H.blk_own hb ho
 have hold:=Qxl ho
 constructor
 ·refine⟨fun c q hc=>⟨(H.dom c q hc).1,trivial⟩,fun c q y hc hy => ?_,fun c d q r hc hd hne hoc hld => ?_,fun g hg => ?_,H.globs,fun c y hy => ?_,fun c q y hc hy => ?_,by simpa[World.turned]using H.bsz⟩
  ·rw[Heap.get_set _ _ _ _ hlt]at hy
   split at hy
   ·rename_i e;subst e
    rw[hb]at hc;cases hc;cases hy;exact hf
   ·rename_i e
    cases hs:y.solid with
    | true =>
     have hne:=H.apart b c p q hb hc e ho (by rw[X4z hy,hs])
     exact(H.fits c q y hc hy).keep (fun _ _=>rfl) (Y5g hne)
    | false =>
     cases y with
     | cells o z l=>cases o <;> cases l <;> simp[Blk.solid]at hs;exact⟨(H.fits c q _ hc hy).1,.inl ⟨rfl,rfl⟩⟩
     | map _ _=>simp[Blk.solid]at hs
     | obj _=>simp[Blk.solid]at hs
  ·rw[Qun hlt]at hoc
   rw[Yb2 hlt]at hld
   have ho':h.own c=true:=by
    split at hoc
    ·rename_i e;exact e ▸ ho
    ·exact hoc
   have hl':h.live d=true:=by
    split at hld
    ·rename_i e;exact e ▸ Yaz ho
    ·exact hld
   exact H.apart c d q r hc hd hne ho' hl'
  ·refine⟨(H.glob g hg).1,?_⟩
   rw[Qun hlt]
   split
   ·rename_i e;subst e;rw[(H.glob b hg).2]at ho;cases ho
   ·exact(H.glob g hg).2
  ·rw[Heap.get_set _ _ _ _ hlt]at hy
   split at hy
   ·cases hy;exact Xfi (fun c hc=>Qih H hc) hf.okB
   ·exact H.wf c y hy
  ·rw[Heap.get_set _ _ _ _ hlt]at hy
   split at hy
   ·rename_i e;subst e
    rw[hb]at hc;cases hc;cases hy
    obtain⟨x0,hx0,hxo⟩:=hold
    exact⟨fun _=>(H.base b p x0 hb hx0).1 hxo,fun h0=>by rw[hx]at h0;cases h0⟩
   ·exact H.base c q y hc hy
 ·refine⟨by simp[World.turned],fun k hk hno=>Y5g (hno b p hb ho),fun c q hc hoc => .inr ⟨c,q,hc,?_,rfl⟩,rfl,rfl,rfl,Nat.le_refl _⟩
  rw[Qun hlt]at hoc
  split at hoc
  ·rename_i e;exact e ▸ ho
  ·exact hoc
theorem HRel.kill(H:HRel G α h w){b:Nat}(hlt:b < h.next):HRel G α (h.set b none) w/\Turn α h w α (h.set b none) w:=by
 constructor
 ·refine⟨H.dom,fun c q y hc hy => ?_,fun c d q r hc hd hne hoc hld => ?_,fun g hg => ?_,H.globs,fun c y hy => ?_,fun c q y hc hy => ?_,H.bsz⟩
  ·rw[Heap.get_set _ _ _ _ hlt]at hy
   split at hy
   ·cases hy
   ·exact H.fits c q y hc hy
  ·rw[Qun hlt]at hoc
   rw[Yb2 hlt]at hld
   split at hoc
   ·cases hoc
   ·split at hld
    ·cases hld
    ·exact H.apart c d q r hc hd hne hoc hld
  ·refine⟨(H.glob g hg).1,?_⟩
   rw[Qun hlt]
   split
   ·rfl
   ·exact(H.glob g hg).2
  ·rw[Heap.get_set _ _ _ _ hlt]at hy
   split at hy
   ·cases hy
   ·exact H.wf c y hy
  ·rw[Heap.get_set _ _ _ _ hlt]at hy
   split at hy
   ·cases hy
   ·exact H.base c q y hc hy
 ·refine⟨Nat.le_refl _,fun _ _ _=>rfl,fun c q hc hoc => .inr ⟨c,q,hc,?_,rfl⟩,rfl,rfl,rfl,Nat.le_refl _⟩
  rw[Qun hlt]at hoc
  split at hoc
  ·cases hoc
  ·exact hoc
def Ren.add(α:Ren)(n:Nat)(p:Place):Ren:=fun b=>if b=n then some p else α b
theorem Ren.add_ext(α:Ren)(n:Nat)(p:Place):Ext n α (Ren.add α n p):=fun b hb=>by simp[Ren.add,Nat.ne_of_lt hb]
theorem Ren.add_same(α:Ren)(n:Nat)(p:Place):Ren.add α n p n=some p:=by simp[Ren.add]
theorem HRel.add_dom(H:HRel G α h w)(p:Place):∀ b,Go.Ab.dom α b->Ren.add α h.next p b=α b:=fun b hb=>Ren.add_ext α h.next p b (Qih H hb)
theorem HRel.push(H:HRel G α h w){x:Blk}(hx:x.own=true){p:Place}(hp:p.blk=w.heap.size){o:Obj}{w':World}(hw':w' = {w with heap:=w.heap.push o})
  (hf:Fits (Ren.add α h.next p) p w' x) (hsp:p.spot=none:=by rfl) :
  HRel G (Ren.add α h.next p) (h.push x) w'/\Turn α h w (Ren.add α h.next p) (h.push x) w':=by
 subst hw'
 have hold:∀ k,k < w.heap.size->(w.heap.push o)[k]? = w.heap[k]? := fun k hk=>by rw[Array.getElem?_push,if_neg (by omega)]
 have hcase:∀ c q,Ren.add α h.next p c=some q->(c=h.next/\q=p)∨(c < h.next/\α c=some q):=by
  intro c q hc
  unfold Ren.add at hc
  split at hc
  ·cases hc;exact .inl ⟨by assumption,rfl⟩
  ·exact .inr ⟨(H.dom c q hc).1,hc⟩
 constructor
 ·refine⟨fun c q hc => ?_,fun c q y hc hy => ?_,fun c d q r hc hd hne hoc hld => ?_,fun g hg => ?_,Nat.le_succ_of_le H.globs,fun c y hy => ?_,fun c q y hc hy => ?_,by have:=H.bsz;simp;omega⟩
  ·rcases hcase c q hc with⟨rfl,rfl⟩ | ⟨h1,h2⟩
   ·exact⟨Nat.lt_succ_self _,by simp[hp]⟩
   ·exact⟨Nat.lt_succ_of_lt h1,trivial⟩
  ·rw[Heap.get_push]at hy
   rcases hcase c q hc with⟨rfl,rfl⟩ | ⟨h1,h2⟩
   ·simp only[if_true]at hy;cases hy;exact hf
   ·rw[if_neg (by omega)]at hy
    exact(H.fits c q y h2 hy).keepS (H.add_dom p) fun hs=>hold _ (H.blk_lt h2 hy hs)
  ·rw[Qxp]at hoc
   rw[X2c]at hld
   rcases hcase c q hc with⟨rfl,rfl⟩ | ⟨h1,h2⟩
   ·rcases hcase d r hd with⟨rfl,rfl⟩ | ⟨h3,h4⟩
    ·exact absurd rfl hne
    ·rw[if_neg (by omega)]at hld
     have:=H.blk_live h4 hld;omega
   ·rcases hcase d r hd with⟨rfl,rfl⟩ | ⟨h3,h4⟩
    ·rw[if_neg (by omega)]at hoc
     have:=H.blk_own h2 hoc;omega
    ·rw[if_neg (by omega)]at hoc
     rw[if_neg (by omega)]at hld
     exact H.apart c d q r h2 h4 hne hoc hld
  ·have:=H.globs
   refine⟨by rw[Ren.add_ext α h.next p g (by omega)];exact(H.glob g hg).1,?_⟩
   rw[Qxp,if_neg (by omega)]
   exact(H.glob g hg).2
  ·rw[Heap.get_push]at hy
   split at hy
   ·cases hy
    refine Xfi (fun c hc => ?_) hf.okB
    obtain⟨q,hq⟩:=Option.isSome_iff_exists.1 hc
    rcases hcase c q hq with⟨rfl,_⟩ | ⟨h1,_⟩
    ·exact Nat.lt_succ_self _
    ·exact Nat.lt_succ_of_lt h1
   ·exact Xfi (fun c hc=>Nat.lt_succ_of_lt hc) (H.wf c y hy)
  ·rw[Heap.get_push]at hy
   rcases hcase c q hc with⟨rfl,rfl⟩ | ⟨h1,h2⟩
   ·simp only[if_true]at hy;cases hy
    exact⟨fun _=>⟨by rw[hp];exact H.bsz,hsp⟩,fun h0=>by rw[hx]at h0;cases h0⟩
   ·rw[if_neg (by omega)]at hy
    exact H.base c q y h2 hy
 ·refine⟨by simp,fun k hk _=>hold k hk,fun c q hc hoc => ?_,rfl,rfl,rfl,Nat.le_succ _⟩
  rcases hcase c q hc with⟨rfl,rfl⟩ | ⟨h1,h2⟩
  ·exact .inl (by omega)
  ·rw[Qxp,if_neg (by omega)]at hoc
   exact .inr ⟨c,q,h2,hoc,rfl⟩
theorem HRel.alias(H:HRel G α h w){p:Place}(hp:True) :
  HRel G (Ren.add α h.next p) (h.push (.cells false p.sz [])) w/\Turn α h w (Ren.add α h.next p) (h.push (.cells false p.sz [])) w:=by
 have hcase:∀ c q,Ren.add α h.next p c=some q->(c=h.next/\q=p)∨(c < h.next/\α c=some q):=by
  intro c q hc
  unfold Ren.add at hc
  split at hc
  ·cases hc;exact .inl ⟨by assumption,rfl⟩
  ·exact .inr ⟨(H.dom c q hc).1,hc⟩
 constructor
 ·refine⟨fun c q hc => ?_,fun c q y hc hy => ?_,fun c d q r hc hd hne hoc hld => ?_,fun g hg => ?_,Nat.le_succ_of_le H.globs,fun c y hy => ?_,fun c q y hc hy => ?_,H.bsz⟩
  ·rcases hcase c q hc with⟨rfl,rfl⟩ | ⟨h1,h2⟩
   ·exact⟨Nat.lt_succ_self _,hp⟩
   ·exact⟨Nat.lt_succ_of_lt h1,(H.dom c q h2).2⟩
  ·rw[Heap.get_push]at hy
   rcases hcase c q hc with⟨rfl,rfl⟩ | ⟨h1,h2⟩
   ·simp only[if_true]at hy;cases hy;exact⟨rfl,.inl ⟨rfl,rfl⟩⟩
   ·rw[if_neg (by omega)]at hy
    exact(H.fits c q y h2 hy).keep (H.add_dom p) rfl
  ·rw[Qxp]at hoc
   rw[X2c]at hld
   rcases hcase c q hc with⟨rfl,rfl⟩ | ⟨h1,h2⟩
   ·simp[Blk.own]at hoc
   ·rcases hcase d r hd with⟨rfl,rfl⟩ | ⟨h3,h4⟩
    ·simp[Blk.solid]at hld
    ·rw[if_neg (by omega)]at hoc
     rw[if_neg (by omega)]at hld
     exact H.apart c d q r h2 h4 hne hoc hld
  ·have:=H.globs
   refine⟨by rw[Ren.add_ext α h.next p g (by omega)];exact(H.glob g hg).1,?_⟩
   rw[Qxp,if_neg (by omega)]
   exact(H.glob g hg).2
  ·rw[Heap.get_push]at hy
   split at hy
   ·cases hy;intro v hv;simp at hv
   ·exact Xfi (fun c hc=>Nat.lt_succ_of_lt hc) (H.wf c y hy)
  ·rw[Heap.get_push]at hy
   rcases hcase c q hc with⟨rfl,rfl⟩ | ⟨h1,h2⟩
   ·simp only[if_true]at hy;cases hy
    exact⟨fun h0=>(by cases h0),fun _ h0=>(by cases h0)⟩
   ·rw[if_neg (by omega)]at hy
    exact H.base c q y h2 hy
 ·refine⟨Nat.le_refl _,fun k _ _=>rfl,fun c q hc hoc => ?_,rfl,rfl,rfl,Nat.le_succ _⟩
  rw[Qxp]at hoc
  rcases hcase c q hc with⟨rfl,rfl⟩ | ⟨h1,h2⟩
  ·simp[Blk.own]at hoc
  ·rw[if_neg (by omega)]at hoc
   exact .inr ⟨c,q,h2,hoc,rfl⟩
theorem HRel.same(H:HRel G α h w){w':World}(hh:w'.heap=w.heap):HRel G α h w' :=
 ⟨H.dom,fun b p x hb hx=>(H.fits b p x hb hx).keep (fun _ _=>rfl) (by rw[hh]),H.apart,H.glob,H.globs,H.wf,H.base,by rw[hh];exact H.bsz⟩
theorem Turn.drawn(α:Ren)(h:Heap)(w:World)(n:Nat):Turn α h w α h {w with drawn:=n} :=
 ⟨Nat.le_refl _,fun _ _ _=>rfl,fun b p hb ho => .inr ⟨b,p,hb,ho,rfl⟩,rfl,rfl,rfl,Nat.le_refl _⟩
end
theorem Qiv{h h':Heap}{b:Nat}(hg:h'.get b=h.get b):h'.own b=h.own b:=by simp[Heap.own,hg]
theorem X5c{h h':Heap}{b:Nat}(hg:h'.get b=h.get b):h'.live b=h.live b:=by simp[Heap.live,hg]
section
variable{G:Bs}{α:Ren}{h:Heap}{w:World}
theorem Qop{α:Ren}{b:Nat}{p:Place}(h:α b=some p):dom α b:=by simp[dom,h]
theorem HRel.congr(H:HRel G α h w){h':Heap}(hn:G.n<=h'.next)(hd:∀ b,Go.Ab.dom α b->b < h'.next)(hg:∀ b,Go.Ab.dom α b->h'.get b=h.get b)(hwf:∀ b x,h'.get b=some x->okB (fun c=>c < h'.next) x):HRel G α h' w :=
  ⟨fun b p hb=>⟨hd b (Qop hb),(H.dom b p hb).2⟩,fun b p x hb hx=>H.fits b p x hb (by rw[<- hg b (Qop hb)];exact hx),
   fun b c p q hb hc hne ho hl=>H.apart b c p q hb hc hne (by rw[<- Qiv (hg b (Qop hb))];exact ho) (by rw[<- X5c (hg c (Qop hc))];exact hl),
   fun g hg'=>⟨(H.glob g hg').1,by rw[Qiv (hg g (Qop (H.glob g hg').1))];exact(H.glob g hg').2⟩,hn,hwf,
   fun b p x hb hx=>H.base b p x hb (by rw[<- hg b (Qop hb)];exact hx),H.bsz⟩
theorem Turn.heap{α α':Ren}{h h' h'':Heap}{w w':World}(t:Turn α h w α' h' w')(hg:∀ b,dom α' b->h''.get b=h'.get b)(hn:h'.next<=h''.next):Turn α h w α' h'' w' :=
 ⟨t.size,t.same,fun b p hb ho=>t.owns b p hb (by rw[<- Qiv (hg b (Qop hb))];exact ho),t.tape,t.os,t.output,Nat.le_trans t.next hn⟩
end
structure TyRec where
 desc:TypeDesc
 size:Nat
 bytes:Nat
 zero:Value
 leaf:List Nat
def X6j:Nat->Value->Value->Option Bool
 | 1,.int k a,.int j b=>if k=j then some (a == b)else none
 | 2,.bool a,.bool b=>some (a == b)
 | 3,.string a,.string b=>some (a == b)
 | _,_,_=>none
def Qaf:List Nat->List Value->List Value->Option Bool
 | [],[],[]=>some true
 | l::ls,x::xs,y::ys =>
  match X6j l x y,Qaf ls xs ys with
  | some a,some b=>some (a && b)
  | _,_=>none
 | _,_,_=>none
def Zyj(P:Program)(t:TypeId)(leaf:List Nat):Prop :=
 leaf ≠ []->P.eqGuardType P.depth t=false/\(∀ (xs ys:List Value) (b:Bool) (w:World),Qaf leaf xs ys=some b->(Op.equal t (.agg xs.toArray) (.agg ys.toArray)).run P w=.ok b w) /\
  ∀ (em:Bool) (xs:List Value) (w:World),xs.length=leaf.length->(Instr.checkKey em 10000 t (.agg xs.toArray)).run P w=.ok () w
def Zee(P:Program)(t:TypeId)(r:TyRec):Prop :=
 P.underlying t=some r.desc/\∃ i,P.info? t=some i/\i.size=r.size/\i.bytes=r.bytes/\i.zero=some r.zero/\flat r.zero=true/\Qgn r.zero=true/\r.zero.cells.size=r.size/\Zyj P t r.leaf
def Qei:TypeDesc->Bool
 | .struct _ | .array _ _=>true
 | _=>false
theorem TRel.put{α:Ren}{t:Tm}{tmps:Array Value}(h:TRel α t tmps){i:Nat}{v:Value}(hi:i < t.size)(hv:okV (dom α) v):TRel α (t.put i v) (tmps.setIfInBounds i (ren α v)):=by
 refine⟨by simp[Tm.put,h.size],fun j u hj => ?_⟩
 simp only[Tm.put,Tr.get_put]at hj
 split at hj
 ·rename_i e;subst e;cases hj
  exact⟨hv,by rw[Array.getElem?_setIfInBounds];simp[h.size,hi]⟩
 ·rename_i e
  have:=h.vals j u hj
  exact⟨this.1,by rw[Array.getElem?_setIfInBounds,if_neg e];exact this.2⟩
theorem TRel.ext{G:Bs}{α β:Ren}{h:Heap}{w:World}{t:Tm}{tmps:Array Value}(H:HRel G α h w)(he:Ext h.next α β)(ht:TRel α t tmps):TRel β t tmps:=by
 refine⟨ht.size,fun i v hv => ?_⟩
 have:=ht.vals i v hv
 have hd:∀ b,dom α b->β b=α b:=fun b hb=>he b (Qih H hb)
 exact⟨okV_mono (fun b hb=>by simpa[dom,hd b hb]using hb) v this.1,by rw[this.2,ren_congr hd v this.1]⟩
def aev(G:Bs)(t:Tm):Operand->Option Value
 | .tmp i=>t.t.get i
 | .const v=>if flat v then some v else none
 | .global g=>if g < G.n then some (.pointer (some ⟨g,0,none⟩))else none
 | .func f=>some (.func (.func f) #[] #[])
theorem Xef{G:Bs}{α:Ren}{h:Heap}{w:World}(H:HRel G α h w){t:Tm}{a:Act}(ht:TRel α t a.tmps){x:Operand}{v:Value}(hx:aev G t x=some v) :
  okV (dom α) v/\a.eval x=ren α v:=by
 cases x with
 | tmp i =>
  have:=ht.vals i v hx
  exact⟨this.1,by simp[Act.eval,Array.getD_eq_getD_getElem?,this.2]⟩
 | const c =>
  simp only[aev]at hx
  split at hx
  ·rename_i hf;cases hx
   exact⟨flat_ok _ _ hf,by rw[Qhp α hf];rfl⟩
  ·cases hx
 | global g =>
  simp only[aev]at hx
  split at hx
  ·rename_i hg;cases hx
   have:=(H.glob g hg).1
   exact⟨by simp[okV,dom,this],by simp[Act.eval,ren,Wa,this]⟩
  ·cases hx
 | func f =>
  simp only[aev,Option.some.injEq]at hx;subst hx
  exact⟨by simp[okV,okA,okL],by simp[Act.eval,ren,X2e,renA,renL]⟩
def Q1n:Nat->List Value->Option (List Value)
 | 0,_=>some []
 | n+1,v::l=>(Q1n n l).map (v :: ·)
 | _+1,[]=>none
theorem Qwt:∀ (n:Nat) (l r:List Value),Q1n n l=some r->r.length=n/\∀ (i:Nat) (v:Value),r[i]? = some v->l[i]? = some v
 | 0,l,r,h=>by simp[Q1n]at h;subst h;simp
 | n+1,[],r,h=>by simp[Q1n]at h
 | n+1,v::l,r,h=>by
  simp only[Q1n,Option.map_eq_some_iff]at h
  obtain⟨r',hr,rfl⟩:=h
  obtain⟨h1,h2⟩:=Qwt n l r' hr
  refine⟨by simp[h1],fun i u hu => ?_⟩
  cases i with
  | zero=>simpa using hu
  | succ i=>simp only[List.getElem?_cons_succ]at hu ⊢;exact h2 i u hu
def over:List Value->List Value->Option (List Value)
 | c,[]=>some c
 | _::c,v::l=>(over c l).map (v :: ·)
 | [],_::_=>none
def Qk8:List Value->Nat->List Value->Option (List Value)
 | c,0,l=>over c l
 | x::c,n+1,l=>(Qk8 c n l).map (x :: ·)
 | [],_+1,[]=>some []
 | [],_+1,_::_=>none
theorem Y01:∀ (c l r:List Value),over c l=some r->r.length=c.length/\l.length<=c.length/\∀ i,r[i]? = if i < l.length then l[i]? else c[i]?
 | c,[],r,h=>by cases c <;> (simp only[over,Option.some.injEq]at h;subst h;simp)
 | x::c,v::l,r,h=>by
  simp only[over,Option.map_eq_some_iff]at h
  obtain⟨r',hr,rfl⟩:=h
  obtain⟨h1,h2,h3⟩:=Y01 c l r' hr
  refine⟨by simp[h1],by simpa using h2,fun i => ?_⟩
  cases i with
  | zero=>simp
  | succ i=>simp only[List.getElem?_cons_succ,List.length_cons,Nat.succ_lt_succ_iff];exact h3 i
 | [],_::_,r,h=>by simp[over]at h
theorem Xwr:∀ (c:List Value) (n:Nat) (l r:List Value),Qk8 c n l=some r->r.length=c.length/\(l=[]∨n+l.length<=c.length)/\∀ i,r[i]? = if n<=i/\i < n+l.length then l[i-n]? else c[i]?
 | c,0,l,r,h=>by
  have h':over c l=some r:=by cases c <;> simpa[Qk8]using h
  obtain⟨h1,h2,h3⟩:=Y01 c l r h'
  exact⟨h1,.inr (by omega),fun i=>by simp[h3 i]⟩
 | x::c,n+1,l,r,h=>by
  simp only[Qk8,Option.map_eq_some_iff]at h
  obtain⟨r',hr,rfl⟩:=h
  obtain⟨h1,h2,h3⟩:=Xwr c n l r' hr
  refine⟨by simp[h1],h2.imp id (fun h2=>by simp;omega),fun i => ?_⟩
  cases i with
  | zero=>simp
  | succ i =>
   simp only[List.getElem?_cons_succ,h3 i,Nat.add_le_add_iff_right,Nat.add_sub_add_right]
   by_cases hc:n<=i/\i < n+l.length
   ·rw[if_pos hc,if_pos ⟨hc.1,by omega⟩]
   ·rw[if_neg hc,if_neg (by omega)]
 | [],n+1,[],r,h=>by simp[Qk8]at h;subst h;simp
 | [],_+1,_::_,r,h=>by simp[Qk8]at h
def cellsAt(h:Heap)(a:Addr)(n:Nat):Option (List Value) :=
 match h.get a.block with
 | some (.cells _ _ c)=>Q1n n (c.drop a.off)
 | _=>none
theorem Qoh(g o n:Nat):(⟨g,o,none⟩:Addr).add n=⟨g,o+n,none⟩:=by unfold Addr.add;split <;> simp_all
section
variable{P:Program}{G:Bs}{α:Ren}{h:Heap}{w:World}
theorem Qtq(H:HRel G α h w){a:Addr}(ha:dom α a.block)(hs:a.spot=none){n:Nat}{l:List Value}(hl:cellsAt h a n=some l) :
  l.length=n/\(∀ v ∈ l,okV (dom α) v/\v.oneCell'=true)/\∀ j v,(l.map (ren α))[j]? = some v->w.cell? ((Wa α a).add j)=some v:=by
 obtain⟨p,hp⟩:=Option.isSome_iff_exists.1 ha
 unfold cellsAt at hl
 cases hg:h.get a.block with
 | none=>simp[hg]at hl
 | some x =>
  cases x with
  | map _ _=>simp[hg]at hl
  | obj _=>simp[hg]at hl
  | cells own sz c =>
   simp only[hg]at hl
   obtain⟨h1,h2⟩:=Qwt _ _ _ hl
   rcases(H.fits a.block p _ hp hg).2 with⟨_,rfl⟩ | ⟨C,e,lo,hi,f1,f2,f3⟩
   ·have hnil:l=[]:=by
     cases l with
     | nil=>rfl
     | cons v r=>have:=h2 0 v (by simp);simp at this
    subst hnil
    exact⟨h1,by simp,by simp⟩
   ·have hcell:∀ i v,l[i]? = some v->C[p.base+(a.off+i)]? = some (ren α v)/\okV (dom α) v/\v.oneCell'=true:=by
     intro i v hi'
     have:=h2 i v hi'
     rw[List.getElem?_drop]at this
     exact f2 _ _ this
    refine⟨h1,fun v hv => ?_,fun j v hv => ?_⟩
    ·obtain⟨i,hi'⟩:=List.getElem?_of_mem hv
     exact(hcell i v hi').2
    ·rw[List.getElem?_map,Option.map_eq_some_iff]at hv
     obtain⟨u,hu,rfl⟩:=hv
     have:=(hcell j u hu).1
     have hsp:p.spot=none:=by
      refine H.spot hp hg ?_
      have h3:=h2 j u hu
      cases c with
      | nil=>simp at h3
      | cons _ _=>cases own <;> rfl
     simp only[Wa,hp,hsp,ite_self]
     rw[Qoh]
     simp only[World.cell?,f1]
     simpa[Nat.add_assoc]using this
theorem Qnp(H:HRel G α h w){a:Addr}(ha:dom α a.block)(hs:a.spot=none){n:Nat}{l:List Value}(hl:cellsAt h a n=some l) :
  (loadCells (Wa α a) n).run P w=.ok (l.map (ren α)).toArray w:=by
 obtain⟨h1,_,h3⟩:=Qtq H ha hs hl
 have:=run_loadCells_list (P:=P) w (Wa α a) (l.map (ren α)) h3
 rwa [List.length_map,h1]at this
def Ysz(r:TyRec)(h:Heap)(a:Addr):Option Value :=
 if Qei r.desc then(cellsAt h a r.size).map fun l => .agg l.toArray
 else match cellsAt h a 1 with
  | some [v]=>some v
  | _=>none
theorem X5x{t:TypeId}{r:TyRec}(hr:Zee P t r)(w:World):(isAgg t).run P w=.ok (Qei r.desc) w:=by
 simp only[isAgg,Sem.run_bind,run_underlying hr.1,Result.andThen_ok]
 cases r.desc <;> rfl
theorem W3{t:TypeId}{r:TyRec}(hr:Zee P t r)(w:World):(sizeOf t).run P w=.ok r.size w:=by
 obtain⟨_,i,hi,h1,_⟩:=hr
 simp[sizeOf,typeInfo,hi,h1]
theorem Qg2{t:TypeId}{r:TyRec}(hr:Zee P t r)(w:World):(zeroValue t).run P w=.ok r.zero w:=by
 obtain⟨_,i,hi,h1,h2,h3,_⟩:=hr
 simp[zeroValue,typeInfo,hi,h3]
theorem Xw2(H:HRel G α h w){t:TypeId}{r:TyRec}(hr:Zee P t r){a:Addr}(ha:dom α a.block)(hs:a.spot=none){v:Value}(hv:Ysz r h a=some v) :
  okV (dom α) v/\(loadVar t (Wa α a)).run P w=.ok (ren α v) w:=by
 unfold Ysz at hv
 simp only[loadVar,Sem.run_bind,X5x hr,Result.andThen_ok]
 split at hv
 ·rename_i hagg
  rw[Option.map_eq_some_iff]at hv
  obtain⟨l,hl,rfl⟩:=hv
  refine⟨Q8x _ _ (Qtq H ha hs hl).2.1,?_⟩
  simp[hagg,W3 hr,Qnp H ha hs hl]
 ·rename_i hagg
  split at hv
  ·rename_i u hl
   cases hv
   obtain⟨_,h2,h3⟩:=Qtq H ha hs hl
   refine⟨(h2 v (by simp)).1,?_⟩
   have hc:=h3 0 (ren α v) (by simp)
   have hb:(Wa α a).add 0=Wa α a:=rfl
   rw[hb]at hc
   simp[hagg,run_load,hc]
  ·cases hv
def storeAt(h:Heap)(a:Addr)(l:List Value):Option Heap :=
 match h.get a.block with
 | some (.cells true sz c)=>(Qk8 c a.off l).map fun c'=>h.set a.block (some (.cells true sz c'))
 | _=>none
theorem Ydi{w:World}{g:Nat}{o:Obj}(hg:w.heap[g]? = some o):World.turned w g o=w:=by
 have hh:w.heap.setIfInBounds g o=w.heap:=by
  apply Array.ext_getElem?
  intro i
  rw[Array.getElem?_setIfInBounds]
  split
  ·rename_i e';subst e'
   have hlt:g < w.heap.size:=by
    rcases Nat.lt_or_ge g w.heap.size with h | h
    ·exact h
    ·simp[Array.getElem?_eq_none h]at hg
   rw[if_pos hlt,hg]
  ·rfl
 simp[World.turned,hh]
theorem Yn0{w:World}{g o e lo hi:Nat}{C:Array Value}(v:Value)(hg:w.heap[g]? = some (.cells C e (lo,hi))):w.setCell ⟨g,o,none⟩ v=World.turned w g (.cells (C.setIfInBounds o v) e (lo,hi)):=by
 simp only[World.setCell,World.turned]
 congr 1
 apply Array.ext_getElem?
 intro i
 rw[Array.getElem?_modify,Array.getElem?_setIfInBounds]
 by_cases hi':g=i
 ·subst hi'
  have hlt:g < w.heap.size:=by
   rcases Nat.lt_or_ge g w.heap.size with h | h
   ·exact h
   ·simp[Array.getElem?_eq_none h]at hg
  rw[if_pos rfl,if_pos rfl,if_pos hlt,hg]
  rfl
 ·rw[if_neg hi',if_neg hi']
theorem Quf(g e:Nat)(lo hi:Nat):∀ (l:List Value) (o:Nat) (C:Array Value) (w:World),w.heap[g]? = some (.cells C e (lo,hi)) ->
  (∀ i,i < C.size->¬ (lo<=i/\i < hi))->o+l.length<=C.size->(∀ v ∈ l,v.oneCell'=true)->∀ k off,off+k=o ->
  ∃ C',(storeCells ⟨g,off,none⟩ l k).run P w=.ok () (World.turned w g (.cells C' e (lo,hi)))/\C'.size=C.size/\∀ i,C'[i]? = if o<=i/\i < o+l.length then l[i-o]? else C[i]?
 | [],o,C,w,hg,_,_,_,k,off,_=>by
  refine⟨C,?_,rfl,fun i=>by rw[if_neg (by simp)]⟩
  rw[Ydi hg];rfl
 | v::l,o,C,w,hg,hz,hl,h1,k,off,hk=>by
  simp only[List.length_cons]at hl
  have hlt:g < w.heap.size:=by
   rcases Nat.lt_or_ge g w.heap.size with h | h
   ·exact h
   ·simp[Array.getElem?_eq_none h]at hg
  have hcell:w.cell? ⟨g,o,none⟩=some C[o]:=by simp[World.cell?,hg]
  have hfz:w.frozen? ⟨g,o,none⟩=false:=by
   have:=hz o (by omega)
   simp[World.frozen?,hg];omega
  have hset:=Yn0 (o:=o) v hg
  have hst:(store ((⟨g,off,none⟩:Addr).add k) v).run P w=.ok () (World.turned w g (.cells (C.setIfInBounds o v) e (lo,hi))):=by
   rw[Qoh,hk,run_store P w _ v _ (h1 v (by simp)),hcell,hfz,hset]
   simp
  obtain⟨C',r1,r2,r3⟩:=Quf g e lo hi l (o+1) (C.setIfInBounds o v) (World.turned w g (.cells (C.setIfInBounds o v) e (lo,hi))) (Qp1 hlt)
   (by simpa using hz) (by simp;omega) (fun u hu=>h1 u (by simp[hu])) (k+1) off (by omega)
  refine⟨C',?_,by simpa using r2,fun i => ?_⟩
  ·simp only[storeCells,Sem.run_bind,hst,Result.andThen_ok,r1]
   simp[World.turned]
  ·rw[r3 i]
   by_cases hi':i=o
   ·subst hi'
    rw[if_neg (by omega),if_pos (by simp)]
    simp[show i < C.size by omega]
   ·by_cases hc:o+1<=i/\i < o+1+l.length
    ·rw[if_pos hc,if_pos (by simp;omega),show i-o=(i-(o+1))+1 by omega,List.getElem?_cons_succ]
    ·rw[if_neg hc,if_neg (by simp;omega),Array.getElem?_setIfInBounds,if_neg (by omega)]
theorem Q4t(H:HRel G α h w){a:Addr}(ha:dom α a.block)(hs:a.spot=none){l:List Value}(hl:∀ v ∈ l,okV (dom α) v/\v.oneCell'=true){h':Heap}(hh:storeAt h a l=some h') :
  ∃ w',(storeCells (Wa α a) (l.map (ren α))).run P w=.ok () w'/\HRel G α h' w'/\Turn α h w α h' w':=by
 obtain⟨p,hp⟩:=Option.isSome_iff_exists.1 ha
 unfold storeAt at hh
 split at hh
 ·rename_i sz c hg
  rw[Option.map_eq_some_iff]at hh
  obtain⟨c',hc',rfl⟩:=hh
  obtain⟨s1,s2,s3⟩:=Xwr _ _ _ _ hc'
  have hfit:=H.fits a.block p _ hp hg
  rcases hfit.2 with⟨h0,_⟩ | ⟨C,e,lo,hi,f1,f2,f3⟩
  ·cases h0
  obtain⟨f31,f32,f33⟩:=f3 rfl
  have hcl:c.length<=C.size:=by
   rcases Nat.lt_or_ge C.size c.length with hlt | hge
   ·have:=(f2 C.size _ (List.getElem?_eq_getElem hlt)).1
    simp[f31]at this
   ·exact hge
  rcases s2 with hnil | s2
  ·subst hnil
   have hcc:c'=c:=by
    apply List.ext_getElem?
    intro i;rw[s3 i,if_neg (by simp only[List.length_nil];omega)]
   subst hcc
   have hw:=Ydi f1
   have:=H.upd hp (Qs7 hg) (x:=.cells true sz c') rfl (o:=.cells C e (lo,hi)) (by rw[hw];exact hfit)
   rw[hw]at this
   exact⟨w,by simp[storeCells],this.1,this.2⟩
  ·obtain⟨C',r1,r2,r3⟩:=Quf (P:=P) p.blk e lo hi (l.map (ren α)) a.off C w f1 f32.not (by simp;omega)
    (fun v hv=>by obtain⟨u,hu,rfl⟩:=List.mem_map.1 hv;rw[Ybl];exact(hl u hu).2) 0 a.off (by omega)
   refine⟨World.turned w p.blk (.cells C' e (lo,hi)),?_,?_⟩
   ·simp only[Wa,hp,f31,H.spot hp hg rfl,ite_self,Nat.zero_add];exact r1
   ·refine H.upd hp (Qs7 hg) rfl ⟨hfit.1,.inr ⟨C',e,lo,hi,Qp1 (H.blk_lt hp hg rfl),fun i v hv => ?_,fun _=>⟨f31,by rw[r2];exact f32,by rw[r2];exact f33⟩⟩⟩
    rw[s3 i]at hv
    rw[f31,Nat.zero_add,r3 i]
    simp only[List.length_map]
    split
    ·rename_i hc
     rw[if_pos hc]at hv
     refine⟨by rw[List.getElem?_map,hv];rfl,?_⟩
     exact hl v (List.mem_of_getElem? hv)
    ·rename_i hc
     rw[if_neg hc]at hv
     have:=f2 i v hv
     rwa [f31,Nat.zero_add]at this
 ·cases hh
def Ycg(r:TyRec)(h:Heap)(a:Addr)(v:Value):Option Heap :=
 if Qgn v && v.cells.size == r.size then storeAt h a v.cells.toList else none
theorem Ygf(H:HRel G α h w){t:TypeId}{r:TyRec}(hr:Zee P t r){a:Addr}(ha:dom α a.block)(hs:a.spot=none){v:Value}(hv:okV (dom α) v){h':Heap}(hh:Ycg r h a v=some h') :
  ∃ w',(storeVar t (Wa α a) (ren α v)).run P w=.ok () w'/\HRel G α h' w'/\Turn α h w α h' w':=by
 unfold Ycg at hh
 split at hh
 ·rename_i hc
  simp only[Bool.and_eq_true,beq_iff_eq]at hc
  obtain⟨w',r1,r2,r3⟩:=Q4t (P:=P) H ha hs (fun u hu=>X0f _ v hv hc.1 u (by simpa using hu)) hh
  refine⟨w',?_,r2,r3⟩
  simp[storeVar,W3 hr,Ycq,hc.2,Array.toList_map,r1]
 ·cases hh
theorem X2n(H:HRel G α h w)(e:TypeId){l:List Value}(hl:∀ v ∈ l,okV (dom α) v/\v.oneCell'=true) :
  ∃ α' w',(newRow e (l.map (ren α)).toArray).run P w=.ok ⟨w.heap.size,0,none⟩ w'/\Wa α' ⟨h.next,0,none⟩=⟨w.heap.size,0,none⟩/\dom α' h.next/\Ext h.next α α' /\
   HRel G α' (h.push (.cells true 1 l)) w'/\Turn α h w α' (h.push (.cells true 1 l)) w':=by
 refine⟨Ren.add α h.next ⟨w.heap.size,0,l.length,1,none⟩,_,rfl,?_,?_,Ren.add_ext _ _ _,?_⟩
 ·simp[Wa,Ren.add_same]
 ·simp[dom,Ren.add_same]
 ·refine H.push rfl rfl rfl ⟨rfl,.inr ⟨(l.map (ren α)).toArray,e,0,0,by simp,fun i v hv => ?_,fun _=>⟨rfl,.inl rfl,by simp⟩⟩⟩
  have hm:=hl v (List.mem_of_getElem? hv)
  have hd:∀ b,dom α b->Ren.add α h.next ⟨w.heap.size,0,l.length,1,none⟩ b=α b:=H.add_dom _
  refine⟨?_,okV_mono (fun b hb=>by simpa[dom,hd b hb]using hb) v hm.1,hm.2⟩
  rw[ren_congr hd v hm.1]
  simp[hv]
end
structure Env (P:Program) where
 ty:Tr TyRec
 tyok:∀ t r,ty.get t=some r->Zee P t r
 G:Bs
def Gives(P:Program)(G:Bs)(α:Ren)(h:Heap)(w:World)(s:Sem Value)(v:Value)(h':Heap):Prop :=
 ∃ α' w',s.run P w=.ok (ren α' v) w'/\okV (dom α') v/\Ext h.next α α'/\HRel G α' h' w'/\Turn α h w α' h' w'
section
variable{P:Program}{G:Bs}{α:Ren}{h:Heap}{w:World}
theorem Gives.plain(H:HRel G α h w){s:Sem Value}{v:Value}(hv:okV (dom α) v)(hr:s.run P w=.ok (ren α v) w):Gives P G α h w s v h :=
 ⟨α,w,hr,hv,Ext.refl _ _,H,Turn.refl _ _ _⟩
theorem Gives.flat(H:HRel G α h w){s:Sem Value}{v:Value}(hv:Go.Ab.flat v=true)(hr:s.run P w=.ok v w):Gives P G α h w s v h :=
 Gives.plain H (flat_ok _ _ hv) (by rw[Qhp α hv];exact hr)
def Zrd:Sem Value->Option Value
 | .pure v=>some v
 | _=>none
theorem Zib{s:Sem Value}{v:Value}(hs:Zrd s=some v)(w:World):s.run P w=.ok v w:=by
 cases s <;> simp[Zrd]at hs
 subst hs;rfl
def Qhr(E:Env P)(t:TypeId)(x:Value)(h:Heap):Option Value :=
 match x,E.ty.get t with
 | .pointer (some a),some r=>Ysz r h a
 | _,_=>none
theorem Zoy(E:Env P)(H:HRel E.G α h w){t:TypeId}{x v:Value}(hx:okV (dom α) x)(hv:Qhr E t x h=some v) :
  Gives P E.G α h w (Instr.loadAt t (ren α x)) v h:=by
 unfold Qhr at hv
 split at hv
 ·rename_i a r hr
  simp only[okV]at hx
  have:=Xw2 (P:=P) H (E.tyok t r hr) hx.1 hx.2 hv
  exact Gives.plain H this.1 (by simp[Instr.loadAt,Instr.sureAddr,ren,this.2])
 ·cases hv
def Qdm(E:Env P)(t:TypeId)(x v:Value)(h:Heap):Option Heap :=
 match x,E.ty.get t with
 | .pointer (some a),some r=>Ycg r h a v
 | _,_=>none
theorem Zhi(E:Env P)(H:HRel E.G α h w){t:TypeId}{x v:Value}{h':Heap}(hx:okV (dom α) x)(hv:okV (dom α) v)(hh:Qdm E t x v h=some h') :
  ∃ w',(Instr.storeAt t (ren α x) (ren α v)).run P w=.ok () w'/\HRel E.G α h' w'/\Turn α h w α h' w':=by
 unfold Qdm at hh
 split at hh
 ·rename_i a r hr
  simp only[okV]at hx
  obtain⟨w',r1,r2,r3⟩:=Ygf (P:=P) H (E.tyok t r hr) hx.1 hx.2 hv hh
  exact⟨w',by simp[Instr.storeAt,Instr.sureAddr,ren,r1],r2,r3⟩
 ·cases hh
theorem Yzh(H:HRel G α h w)(e:TypeId){l:List Value}(hl:∀ v ∈ l,okV (dom α) v/\v.oneCell'=true) :
  Gives P G α h w (do pure (.pointer (some (<- newRow e (l.map (ren α)).toArray)))) (.pointer (some ⟨h.next,0,none⟩)) (h.push (.cells true 1 l)):=by
 obtain⟨α',w',r1,r2,r3,r4,r5,r6⟩:=X2n (P:=P) H e hl
 exact⟨α',w',by simp[r1,ren,r2],by simp only[okV];exact⟨r3,trivial⟩,r4,r5,r6⟩
theorem Yhl(H:HRel G α h w)(e:TypeId){l:List Value}(hl:∀ v ∈ l,okV (dom α) v/\v.oneCell'=true)(n c:Nat)(hc:c≠Qhx) :
  Gives P G α h w (do pure (.slice (some (<- newRow e (l.map (ren α)).toArray)) n c)) (.slice (some ⟨h.next,0,none⟩) n c) (h.push (.cells true 1 l)):=by
 obtain⟨α',w',r1,r2,r3,r4,r5,r6⟩:=X2n (P:=P) H e hl
 exact⟨α',w',by simp[r1,ren,r2,Xdx,hc],by simp only[okV];exact⟨r3,trivial⟩,r4,r5,r6⟩
def Qba(E:Env P)(t:TypeId)(h:Heap):Option (Value × Heap) :=
 match E.ty.get t with
 | some r=>some (.pointer (some ⟨h.next,0,none⟩),h.push (.cells true 1 r.zero.cells.toList))
 | none=>none
theorem Qy5(α:Ren)(l:List Value)(h:∀ v ∈ l,flat v=true):l.map (ren α)=l:=by
 induction l with
 | nil=>rfl
 | cons v l ih=>simp[Qhp α (h v (by simp)),ih fun u hu=>h u (by simp[hu])]
theorem Q3a{z:Value}(hz:flat z=true)(hn:Qgn z=true)(D:Nat->Prop):∀ v ∈ z.cells.toList,okV D v/\v.oneCell'=true :=
 fun v hv=>X0f D z (flat_ok D z hz) hn v (by simpa using hv)
theorem Zmq{c:Array Value}(hz:flat (.agg c)=true):∀ v ∈ c.toList,flat v=true:=by
 simp only[flat,Bool.and_eq_true]at hz
 have : ∀ l:List Value,flatL l=true->∀ v ∈ l,flat v=true:=by
  intro l
  induction l with
  | nil=>simp
  | cons u l ih=>intro hl v hv;simp only[flatL,Bool.and_eq_true]at hl;rcases List.mem_cons.1 hv with rfl | h;exact hl.1;exact ih hl.2 v h
 cases c;exact this _ (by simpa[flatA]using hz.1)
theorem Qmm{z:Value}(hz:flat z=true)(hn:Qgn z=true):∀ v ∈ z.cells.toList,flat v=true:=by
 cases z <;> simp only[Value.cells] <;>
  first
   | exact Zmq hz
   | (intro v hv;simp only[List.mem_singleton]at hv;subst hv;exact hz)
   | simp[Qgn]at hn
theorem Zj3(E:Env P)(H:HRel E.G α h w){t:TypeId}{v old:Value}{h':Heap}(hh:Qba E t h=some (v,h')) :
  Gives P E.G α h w (Instr.alloc t true old) v h':=by
 unfold Qba at hh
 split at hh
 ·rename_i r hr
  cases hh
  have ho:=E.tyok t r hr
  obtain⟨_,i,_,_,_,_,hf,hn,_⟩:=ho
  have:=Yzh (P:=P) H t (Q3a hf hn _)
  rw[Qy5 α _ (Qmm hf hn)]at this
  obtain⟨α',w',r1,r2⟩:=this
  refine⟨α',w',?_,r2⟩
  simp only[Instr.alloc,Sem.run_bind,Qg2 (E.tyok t r hr),Result.andThen_ok]at r1 ⊢
  simpa[newVar]using r1
 ·cases hh
def Yz6(x:Value)(h:Heap):Option (Value × Heap) :=
 if Qgn x then some (.pointer (some ⟨h.next,0,none⟩),h.push (.cells true 1 x.cells.toList))else none
theorem Zsz(H:HRel G α h w){t:TypeId}{x v:Value}{h':Heap}(hx:okV (dom α) x)(hh:Yz6 x h=some (v,h')) :
  Gives P G α h w (Instr.box t (ren α x)) v h':=by
 unfold Yz6 at hh
 split at hh
 ·rename_i hn
  cases hh
  have:=Yzh (P:=P) H t (l:=x.cells.toList) (fun u hu=>X0f _ x hx hn u (by simpa using hu))
  obtain⟨α',w',r1,r2⟩:=this
  refine⟨α',w',?_,r2⟩
  have e:(List.map (ren α) x.cells.toList).toArray=x.cells.map (ren α):=by rw[<- Array.toList_map]
  rw[e]at r1
  simp only[Instr.box,newVar,Ycq]
  exact r1
 ·cases hh
def Xqw(place:Nat->Option (Nat × Nat)):List Value->List (Nat × Value)->Option (List Value)
 | c,[]=>some c
 | c,(i,v)::r =>
  match place i with
  | none=>none
  | some (off,size) =>
   if Qgn v && v.cells.size == size && Nat.ble (off+size) c.length then
    match Qk8 c off v.cells.toList with
    | some c'=>Xqw place c' r
    | none=>none
   else none
theorem Y6b(off:Nat):∀ (l:List Value) (k:Nat) (c:Array Value),off+k+l.length<=c.size ->
  ((l.zipIdx k).foldl (fun cs (x:Value × Nat)=>cs.setIfInBounds (off+x.2) x.1) c).size=c.size /\
  ∀ i,((l.zipIdx k).foldl (fun cs (x:Value × Nat)=>cs.setIfInBounds (off+x.2) x.1) c)[i]? = if off+k<=i/\i < off+k+l.length then l[i-(off+k)]? else c[i]?
 | [],k,c,_=>⟨rfl,fun i=>by rw[if_neg (by simp)];rfl⟩
 | v::l,k,c,h=>by
  simp only[List.length_cons]at h
  obtain⟨h1,h2⟩:=Y6b off l (k+1) (c.setIfInBounds (off+k) v) (by simp;omega)
  refine⟨by simpa using h1,fun i => ?_⟩
  simp only[List.zipIdx_cons,List.foldl_cons]
  rw[h2 i]
  by_cases hi:i=off+k
  ·subst hi
   rw[if_neg (by omega),if_pos (by simp)]
   simp[show off+k < c.size by omega]
  ·by_cases hc:off+(k+1)<=i/\i < off+(k+1)+l.length
   ·rw[if_pos hc,if_pos (by simp;omega),show i-(off+k)=(i-(off+(k+1)))+1 by omega,List.getElem?_cons_succ]
   ·rw[if_neg hc,if_neg (by simp;omega),Array.getElem?_setIfInBounds,if_neg (by omega)]
theorem Yal(place:Nat->Option (Nat × Nat)):∀ (parts:List (Nat × Value)) (c c':List Value),Xqw place c parts=some c'->(∀ p ∈ parts,okV (dom α) p.2) ->
  (∀ v ∈ c,okV (dom α) v/\v.oneCell'=true) ->
  Instr.fill place (c.map (ren α)).toArray (parts.map fun p=>(p.1,ren α p.2))=some (c'.map (ren α)).toArray/\c'.length=c.length/\∀ v ∈ c',okV (dom α) v/\v.oneCell'=true
 | [],c,c',h,_,hc=>by simp only[Xqw,Option.some.injEq]at h;subst h;exact⟨rfl,rfl,hc⟩
 | (i,v)::r,c,c',h,hp,hc=>by
  simp only[Xqw]at h
  cases hpl:place i with
  | none=>simp[hpl]at h
  | some os =>
   obtain⟨off,size⟩:=os
   simp only[hpl]at h
   split at h
   ·rename_i hcond
    simp only[Bool.and_eq_true,beq_iff_eq,Nat.ble_eq]at hcond
    obtain⟨⟨hn,hsz⟩,hle⟩:=hcond
    cases hs:Qk8 c off v.cells.toList with
    | none=>simp[hs]at h
    | some c1 =>
     simp only[hs]at h
     obtain⟨s1,s2,s3⟩:=Xwr _ _ _ _ hs
     have hvc:=X0f (dom α) v (hp (i,v) List.mem_cons_self) hn
     have hc1:∀ u ∈ c1,okV (dom α) u/\u.oneCell'=true:=by
      intro u hu
      obtain⟨j,hj⟩:=List.getElem?_of_mem hu
      rw[s3 j]at hj
      split at hj
      ·exact hvc u (by simpa using List.mem_of_getElem? hj)
      ·exact hc u (List.mem_of_getElem? hj)
     obtain⟨f1,f2,f3⟩:=Yal place r c1 c' h (fun p hp'=>hp p (List.mem_cons_of_mem _ hp')) hc1
     refine⟨?_,by rw[f2,s1],f3⟩
     simp only[List.map_cons,Instr.fill,hpl,Ycq,Array.size_map,hsz,List.size_toArray,List.length_map]
     rw[if_neg (by simp;omega)]
     rw[<- f1]
     congr 1
     have hz:=Y6b off (v.cells.toList.map (ren α)) 0 (c.map (ren α)).toArray (by simp[hsz];omega)
     have he:((v.cells.map (ren α)).zipIdx.foldl (fun cs (x:Value × Nat)=>cs.setIfInBounds (off+x.2) x.1) (c.map (ren α)).toArray) =
       (((v.cells.toList.map (ren α)).zipIdx 0).foldl (fun cs (x:Value × Nat)=>cs.setIfInBounds (off+x.2) x.1) (c.map (ren α)).toArray):=by
      rw[<- Array.foldl_toList,Array.toList_zipIdx,Array.toList_map]
     refine he.trans ?_
     apply Array.ext_getElem?
     intro j
     rw[hz.2 j]
     simp only[Nat.add_zero,List.length_map,List.getElem?_toArray,List.getElem?_map]
     rw[s3 j]
     split <;> simp
   ·cases h
def Qzi(E:Env P):List Field->Option (List (Nat × Nat))
 | []=>some []
 | f::r=>match E.ty.get f.type,Qzi E r with
  | some t,some l=>some ((f.offset,t.size)::l)
  | _,_=>none
def nth{A:Type}:List A->Nat->Option A
 | [],_=>none
 | x::_,0=>some x
 | _::l,n+1=>nth l n
theorem Q8r{A:Type}:∀ (l:List A) (n:Nat),nth l n=l[n]?
 | [],n=>by simp[nth]
 | x::l,0=>by simp[nth]
 | x::l,n+1=>by simp[nth,Q8r l n]
theorem Ybb(E:Env P)(w:World):∀ (fs:List Field) (l:List (Nat × Nat)),Qzi E fs=some l ->
  (fs.mapM fun f=>(do pure (f.offset,<- sizeOf f.type):Sem (Nat × Nat))).run P w=.ok l w
 | [],l,h=>by simp[Qzi]at h;subst h;rfl
 | f::r,l,h=>by
  simp only[Qzi]at h
  split at h
  ·rename_i t l' ht hl'
   cases h
   have:=Ybb E w r l' hl'
   simp only[List.mapM_cons,Sem.run_bind,W3 (E.tyok _ _ ht),Result.andThen_ok,Sem.run_pure,this]
  ·cases h
def Qg1(E:Env P)(t:TypeId)(parts:List (Nat × Value)):Option Value :=
 match E.ty.get t with
 | none=>none
 | some r =>
  match r.desc with
  | .struct fs=>match Qzi E fs.toList with
   | some pl=>(Xqw (nth pl) r.zero.cells.toList parts).map fun c => .agg c.toArray
   | none=>none
  | .array _ e=>match E.ty.get e with
   | some re=>(Xqw (fun i=>some (i*re.size,re.size)) r.zero.cells.toList parts).map fun c => .agg c.toArray
   | none=>none
  | _=>none
theorem Zh8(E:Env P)(H:HRel E.G α h w){t:TypeId}{parts:List (Nat × Value)}{v:Value}(hp:∀ p ∈ parts,okV (dom α) p.2)(hv:Qg1 E t parts=some v) :
  Gives P E.G α h w (Instr.build t (parts.map fun p=>(p.1,ren α p.2)).toArray) v h:=by
 unfold Qg1 at hv
 cases hr:E.ty.get t with
 | none=>simp[hr]at hv
 | some r =>
  simp only[hr]at hv
  have ho:=E.tyok t r hr
  obtain⟨hu,i,_,_,_,_,hf,hn,_⟩:=ho
  have hz:=Q3a hf hn (dom α)
  have hzm:=Qy5 α _ (Qmm hf hn)
  split at hv
  ·rename_i fs hd
   cases hpl:Qzi E fs.toList with
   | none=>simp[hpl]at hv
   | some pl =>
    simp only[hpl,Option.map_eq_some_iff]at hv
    obtain⟨c,hc,rfl⟩:=hv
    obtain⟨f1,f2,f3⟩:=Yal (α:=α) _ _ _ _ hc hp hz
    rw[hzm]at f1
    refine Gives.plain H (Q8x _ _ f3) ?_
    have hm:(fs.mapM fun f=>(do pure (f.offset,<- sizeOf f.type):Sem (Nat × Nat))).run P w=.ok pl.toArray w:=by
     rw[Array.mapM_eq_mapM_toList,Sem.run_map,Ybb E w _ _ hpl];rfl
    have hpl':(fun x=>pl.toArray[x]?)=nth pl:=by funext x;simp[Q8r]
    simp only[Instr.build,Sem.run_bind,Qg2 (E.tyok t r hr),Result.andThen_ok,run_underlying hu,hd,hm,hpl']
    rw[show r.zero.cells=r.zero.cells.toList.toArray by simp,f1]
    simp
  ·rename_i n e hd
   cases he:E.ty.get e with
   | none=>simp[he]at hv
   | some re =>
    simp only[he,Option.map_eq_some_iff]at hv
    obtain⟨c,hc,rfl⟩:=hv
    obtain⟨f1,f2,f3⟩:=Yal (α:=α) _ _ _ _ hc hp hz
    rw[hzm]at f1
    refine Gives.plain H (Q8x _ _ f3) ?_
    simp only[Instr.build,Sem.run_bind,Qg2 (E.tyok t r hr),Result.andThen_ok,run_underlying hu,hd,W3 (E.tyok e re he)]
    rw[show r.zero.cells=r.zero.cells.toList.toArray by simp,f1]
    simp
  ·cases hv
def Qdi(z:List Value):Nat->List Value
 | 0=>[]
 | n+1=>z++Qdi z n
theorem Ymh(z:List Value)(n:Nat):(Qdi z n).length=n*z.length:=by
 induction n with
 | zero=>simp[Qdi]
 | succ n ih=>simp[Qdi,ih,Nat.succ_mul];omega
theorem Ygm(z:List Value)(hz:0 < z.length):∀ (n i:Nat),i < n*z.length->(Qdi z n)[i]? = z[i % z.length]?
 | 0,i,h=>by simp at h
 | n+1,i,h=>by
  simp only[Qdi]
  by_cases hi:i < z.length
  ·rw[List.getElem?_append_left hi,Nat.mod_eq_of_lt hi]
  ·have hge:z.length<=i:=Nat.le_of_not_lt hi
   rw[List.getElem?_append_right hge,Ygm z hz n (i-z.length) (by rw[Nat.succ_mul]at h;omega)]
   congr 1
   conv=>rhs;rw[show i=(i-z.length)+z.length by omega,Nat.add_mod_right]
theorem Qyu(z:Array Value)(n:Nat)(hz:0 < z.size):((Array.range (n*z.size)).map (fun x=>z[x % z.size]!))=(Qdi z.toList n).toArray:=by
 apply Array.ext_getElem?
 intro i
 by_cases hi:i < n*z.size
 ·have hm:i % z.size < z.size:=Nat.mod_lt _ hz
  have h1:=Ygm z.toList (by simpa using hz) n i (by simpa using hi)
  simp only[List.getElem?_toArray,h1]
  simp[hi,hm]
 ·have h2:(Qdi z.toList n).length<=i:=by rw[Ymh];simpa using hi
  simp[hi,List.getElem?_eq_none h2]
theorem Qne{z:List Value}{v:Value}:∀ {n:Nat},v ∈ Qdi z n->v ∈ z
 | 0,h=>by simp[Qdi]at h
 | n+1,h=>by simp only[Qdi,List.mem_append]at h;exact h.elim id Qne
def V5(E:Env P)(t:TypeId)(len:Nat)(parts:List (Nat × Value))(h:Heap):Option (Value × Heap) :=
 match E.ty.get t with
 | none=>none
 | some r =>
  match r.desc with
  | .slice e=>match E.ty.get e with
   | some re =>
    if Nat.ble (len*re.size) 16777216 && Nat.ble 1 re.size then
     (Xqw (fun i=>some (i*re.size,re.size)) (Qdi re.zero.cells.toList len) parts).map fun c=>(.slice (some ⟨h.next,0,none⟩) len len,h.push (.cells true 1 c))
    else none
   | none=>none
  | _=>none
theorem Ynn(E:Env P)(H:HRel E.G α h w){t:TypeId}{len:Nat}{parts:List (Nat × Value)}{v:Value}{h':Heap}(hp:∀ p ∈ parts,okV (dom α) p.2)(hv:V5 E t len parts h=some (v,h')) :
  Gives P E.G α h w (Instr.buildSlice t len (parts.map fun p=>(p.1,ren α p.2)).toArray) v h':=by
 unfold V5 at hv
 cases hr:E.ty.get t with
 | none=>simp[hr]at hv
 | some r =>
  simp only[hr]at hv
  split at hv
  ·rename_i e hd
   cases he:E.ty.get e with
   | none=>simp[he]at hv
   | some re =>
    simp only[he]at hv
    split at hv
    ·rename_i hcond
     simp only[Bool.and_eq_true,Nat.ble_eq]at hcond
     obtain⟨hle,h1⟩:=hcond
     simp only[Option.map_eq_some_iff]at hv
     obtain⟨c,hc,hv⟩:=hv
     cases hv
     have ho:=E.tyok e re he
     obtain⟨_,i,_,_,_,_,hf,hn,hzs,_⟩:=ho
     have hz:∀ v ∈ Qdi re.zero.cells.toList len,okV (dom α) v/\v.oneCell'=true:=fun v hv=>Q3a hf hn (dom α) v (Qne hv)
     have hzm:=Qy5 α (Qdi re.zero.cells.toList len) (fun v hv=>Qmm hf hn v (Qne hv))
     obtain⟨f1,f2,f3⟩:=Yal (α:=α) _ _ _ _ hc hp hz
     rw[hzm]at f1
     have hlen:len<=16777216:=Nat.le_trans (Nat.le_mul_of_pos_right _ h1) hle
     have hg:=Yhl (P:=P) H e f3 len len (by unfold Qhx;omega)
     obtain⟨α',w',r1,r2⟩:=hg
     refine⟨α',w',?_,r2⟩
     rw[<- r1]
     have hn2:¬ len*re.size > 2 ^ 24:=by simpa using hle
     simp only[Instr.buildSlice,Sem.run_bind,run_underlying (E.tyok t r hr).1,hd,Result.andThen_ok,W3 (E.tyok e re he),Sem.run_ite]
     rw[if_neg hn2]
     by_cases h0:len*re.size=0
     ·have hl0:len=0:=by rcases Nat.mul_eq_zero.1 h0 with h | h <;> omega
      subst hl0
      have f1':Instr.fill (fun i=>some (i*re.size,re.size)) #[] (List.map (fun p=>(p.fst,ren α p.snd)) parts)=some (List.map (ren α) c).toArray:=f1
      have hr0:∀ f:Nat->Value,(Array.range 0).map f = #[]:=fun f=>by simp
      simp only[h0,if_true,Sem.run_pure,Result.andThen_ok,hr0,f1',Sem.run_bind]
     ·simp only[Sem.run_pure,Result.andThen_ok]
      rw[if_neg h0]
      simp only[Qg2 (E.tyok e re he),Result.andThen_ok]
      rw[<- hzs,Qyu _ _ (by omega),hzs,f1]
      simp
    ·cases hv
  ·cases hv
end
section
variable(P:Program)
def mkV(agg:Bool)(l:List Value):Value:=if agg then .agg l.toArray else l.headD undef
def rep(l:List Nat):Nat->List Nat
 | 0=>[]
 | n+1=>l++rep l n
def Xsh(t:TypeId):Bool:=match P.underlying t with | some d=>Qei d | none=>false
def Qty(g:TypeId->Option (List Nat)):List Field->Nat->Option (List Nat)
 | [],_=>some []
 | f::fs,acc =>
  if f.name == "_" || f.offset != acc then none else
  match g f.type with
  | some l=>if l.length == P.cellsOf f.type then(match Qty g fs (acc+l.length)with | some r=>some (l++r) | none=>none)else none
  | none=>none
def Qsd:Nat->TypeId->Option (List Nat)
 | 0,_=>none
 | d+1,t =>
  match P.underlying t with
  | some .bool=>some [2]
  | some (.int _)=>some [1]
  | some .string=>some [3]
  | some (.array n e)=>match Qsd d e with
   | some l=>if l.length == P.cellsOf e && !l.isEmpty then some (rep l n)else none
   | none=>none
  | some (.struct fs)=>if P.stoodInHeld t then none else Qty P (Qsd d) fs.toList 0
  | _=>none
end
section
variable{P:Program}
theorem Qny:∀ (ls:List Nat) (xs ys:List Value) (b:Bool),Qaf ls xs ys=some b->xs.length=ls.length/\ys.length=ls.length
 | [],[],[],_,_=>by simp
 | l::ls,x::xs,y::ys,b,h=>by
  simp only[Qaf]at h
  split at h
  ·rename_i a c h1 h2
   have:=Qny ls xs ys c h2
   simp[this]
  ·cases h
 | [],_::_,_,_,h=>by simp[Qaf]at h
 | [],[],_::_,_,h=>by simp[Qaf]at h
 | _::_,[],_,_,h=>by simp[Qaf]at h
 | _::_,_::_,[],_,h=>by simp[Qaf]at h
theorem Xaq:∀ (a c:List Nat) (xs ys:List Value) (r:Bool),Qaf (a++c) xs ys=some r ->
  ∃ r1 r2,Qaf a (xs.take a.length) (ys.take a.length)=some r1/\Qaf c (xs.drop a.length) (ys.drop a.length)=some r2/\r=(r1 && r2)
 | [],c,xs,ys,r,h=>⟨true,r,by simp[Qaf],by simpa using h,by simp⟩
 | l::a,c,x::xs,y::ys,r,h=>by
  simp only[List.cons_append,Qaf]at h
  split at h
  ·rename_i p q h1 h2
   obtain⟨r1,r2,e1,e2,e3⟩:=Xaq a c xs ys q h2
   cases h
   exact⟨p && r1,r2,by simp[Qaf,h1,e1],by simpa using e2,by rw[e3,Bool.and_assoc]⟩
  ·cases h
 | _::_,_,[],_,_,h=>by simp[Qaf]at h
 | _::_,_,_::_,[],_,h=>by simp[Qaf]at h
def EqL(P:Program)(d:Nat)(t:TypeId)(ls:List Nat):Prop :=
 ∀ (xs ys:List Value) (b:Bool) (w:World),Qaf ls xs ys=some b->(Op.equalIn d t (mkV (Xsh P t) xs) (mkV (Xsh P t) ys)).run P w=.ok b w
theorem Qtm{e:TypeId}{dd:TypeDesc}(hu:P.underlying e=some dd)(xs:List Value)(off:Nat)(w:World)(hl:off+P.cellsOf e<=xs.length)(h1:Xsh P e=false->0 < P.cellsOf e) :
  (part e xs.toArray off).run P w=.ok (mkV (Xsh P e) ((xs.drop off).take (P.cellsOf e))) w:=by
 obtain⟨i,hi⟩:=info_of_underlying hu
 have hag:(isAgg e).run P w=.ok (Xsh P e) w:=by
  simp only[isAgg,Sem.run_bind,run_underlying hu,Result.andThen_ok,Xsh,hu]
  cases dd <;> rfl
 simp only[part,Sem.run_bind,hag,Result.andThen_ok]
 cases ha:Xsh P e with
 | true =>
  simp only[if_true,Sem.run_bind,run_sizeOf w hi,Result.andThen_ok,Sem.run_pure,mkV]
  congr 2
  apply Array.ext'
  simp[List.extract]
 | false =>
  have h0:=h1 ha
  have hx:xs.toArray[off]? = some (xs[off]'(by omega)):=by simp
  simp only[Bool.false_eq_true,if_false,hx,mkV,Sem.run_pure]
  congr 1
  rw[List.drop_eq_getElem_cons (by omega),show P.cellsOf e=(P.cellsOf e-1)+1 by omega,List.take_succ_cons]
  rfl
theorem Q46{d:Nat}{t:TypeId}{ls:List Nat}(h:Qsd P d t=some ls):∃ dd,P.underlying t=some dd/\(Qei dd=false->ls.length=1):=by
 cases d with
 | zero=>simp[Qsd]at h
 | succ d =>
  simp only[Qsd]at h
  split at h <;> first
   | (rename_i hu;cases h;exact⟨_,hu,fun _=>rfl⟩)
   | (rename_i hu;exact⟨_,hu,fun hx=>by simp[Qei]at hx⟩)
   | cases h
theorem Yhf{d k:Nat}(xs ys:List Value):∀ (fs:List Field) (acc:Nat) (ls:List Nat) (r:Bool) (w:World),(∀ t l,Qsd P k t=some l->EqL P d t l)->Qty P (Qsd P k) fs acc=some ls ->
  Qaf ls (xs.drop acc) (ys.drop acc)=some r->(Op.eqFields d xs.toArray ys.toArray fs).run P w=.ok r w
 | [],acc,ls,r,w,_,h,he=>by
  simp only[Qty,Option.some.injEq]at h;subst h
  have:=Qny _ _ _ _ he
  have h1:xs.drop acc=[]:=List.eq_nil_of_length_eq_zero this.1
  have h2:ys.drop acc=[]:=List.eq_nil_of_length_eq_zero this.2
  rw[h1,h2]at he
  simp only[Qaf,Option.some.injEq]at he
  subst he
  simp[Op.eqFields]
 | f::fs,acc,ls,r,w,IH,h,he=>by
  simp only[Qty]at h
  split at h
  ·cases h
  ·rename_i hc
   simp only[Bool.or_eq_true,beq_iff_eq,bne_iff_ne,ne_eq,not_or,Decidable.not_not]at hc
   cases hl:Qsd P k f.type with
   | none=>simp[hl]at h
   | some l =>
    simp only[hl]at h
    split at h
    ·rename_i hlen
     simp only[beq_iff_eq]at hlen
     cases hr:Qty P (Qsd P k) fs (acc+l.length)with
     | none=>simp[hr]at h
     | some rs =>
      simp only[hr,Option.some.injEq]at h
      subst h
      obtain⟨r1,r2,e1,e2,e3⟩:=Xaq l rs _ _ _ he
      rw[List.drop_drop,List.drop_drop]at e2
      have ih:=Yhf xs ys fs (acc+l.length) rs r2 w IH hr e2
      obtain⟨dd,hu,h1⟩:=Q46 hl
      have hln:=Qny _ _ _ _ he
      simp only[List.length_drop,List.length_append]at hln
      have hz:Xsh P f.type=false->0 < P.cellsOf f.type:=fun ha=>by
       have:=h1 (by simpa[Xsh,hu]using ha)
       omega
      have hzl:l ≠ []->acc+P.cellsOf f.type<=xs.length/\acc+P.cellsOf f.type<=ys.length:=fun hne=>by
       have : 0 < l.length:=List.length_pos_iff.2 hne
       omega
      by_cases hne:l=[]
      ·subst hne
       have hag:Xsh P f.type=true:=by
        cases ha:Xsh P f.type with
        | true=>rfl
        | false=>have:=h1 (by simpa[Xsh,hu]using ha);simp at this
       simp only[List.length_nil]at hlen e1
       obtain⟨i,hi⟩:=info_of_underlying hu
       have hpart:∀ zs:List Value,(part f.type zs.toArray f.offset).run P w=.ok (mkV (Xsh P f.type) []) w:=by
        intro zs
        have hagr:(isAgg f.type).run P w=.ok (Xsh P f.type) w:=by
         simp only[isAgg,Sem.run_bind,run_underlying hu,Result.andThen_ok,Xsh,hu]
         cases dd <;> rfl
        simp only[part,Sem.run_bind,hagr,Result.andThen_ok,hag,if_true,run_sizeOf w hi,Sem.run_pure,mkV,<- hlen]
        congr 2
        apply Array.ext'
        simp[List.extract]
       have hE:=IH f.type [] hl [] [] true w (by simp[Qaf])
       simp only[List.take_zero,Qaf,Option.some.injEq]at e1
       subst e1
       simp only[Op.eqFields,hc.1,ne_eq,not_false_eq_true,if_true,Sem.run_bind,hpart,Result.andThen_ok,hE,Bool.not_true,Bool.false_eq_true,if_false,ih,e3,Bool.true_and]
      ·have hb:=hzl hne
       have p1:=Qtm hu xs f.offset w (by rw[hc.2];exact hb.1) hz
       have p2:=Qtm hu ys f.offset w (by rw[hc.2];exact hb.2) hz
       rw[hc.2,<- hlen]at p1 p2
       have hE:=IH f.type l hl _ _ r1 w e1
       simp only[Op.eqFields,hc.1,ne_eq,not_false_eq_true,if_true,Sem.run_bind,hc.2,p1,p2,Result.andThen_ok,hE]
       cases r1 with
       | false=>simp[e3]
       | true=>simp[e3,ih]
    ·cases h
theorem Ypz{d k:Nat}{e:TypeId}{l:List Nat}(xs ys:List Value)(IH:EqL P d e l)(hl:Qsd P k e=some l)(hlen:l.length=P.cellsOf e)(hne:l ≠ []):∀ (m s:Nat) (r:Bool) (w:World),
  Qaf (rep l m) (xs.drop (s*P.cellsOf e)) (ys.drop (s*P.cellsOf e))=some r->(Op.eqItems d e (P.cellsOf e) xs.toArray ys.toArray (List.range' s m)).run P w=.ok r w
 | 0,s,r,w,he=>by
  have:=Qny _ _ _ _ he
  simp only[rep,List.length_nil]at this
  have h1:xs.drop (s*P.cellsOf e)=[]:=List.eq_nil_of_length_eq_zero this.1
  have h2:ys.drop (s*P.cellsOf e)=[]:=List.eq_nil_of_length_eq_zero this.2
  rw[h1,h2]at he
  simp only[rep,Qaf,Option.some.injEq]at he
  subst he
  simp[Op.eqItems]
 | m+1,s,r,w,he=>by
  have hln:=Qny _ _ _ _ he
  obtain⟨r1,r2,e1,e2,e3⟩:=Xaq l (rep l m) _ _ _ he
  rw[List.drop_drop,List.drop_drop,hlen,show s*P.cellsOf e+P.cellsOf e=(s+1)*P.cellsOf e by rw[Nat.succ_mul]]at e2
  have ih:=Ypz xs ys IH hl hlen hne m (s+1) r2 w e2
  obtain⟨dd,hu,h1⟩:=Q46 hl
  simp only[List.length_drop,rep,List.length_append]at hln
  have h0:0 < l.length:=List.length_pos_iff.2 hne
  have p1:=Qtm hu xs (s*P.cellsOf e) w (by omega) (fun _=>by omega)
  have p2:=Qtm hu ys (s*P.cellsOf e) w (by omega) (fun _=>by omega)
  rw[<- hlen]at p1 p2
  rw[<- hlen]at e1
  have hE:=IH _ _ r1 w e1
  rw[<- hlen]at ih ⊢
  simp only[List.range'_succ,Op.eqItems,Sem.run_bind,p1,p2,Result.andThen_ok,hE]
  cases r1 with
  | false=>simp[e3]
  | true=>simp[e3,ih]
theorem Y1g(c:Nat):∀ (k:Nat) (t:TypeId) (ls:List Nat),Qsd P k t=some ls->EqL P (c+k) t ls
 | 0,t,ls,h=>by simp[Qsd]at h
 | k+1,t,ls,h=>by
  have IH:∀ t l,Qsd P k t=some l->EqL P (c+k) t l:=fun t l h=>Y1g c k t l h
  intro xs ys b w he
  simp only[Qsd]at h
  have single:∀ n,ls=[n]->Xsh P t=false->(∀ x y,X6j n x y=some b->(Op.equalIn (c+(k+1)) t x y).run P w=.ok b w)->(Op.equalIn (c+(k+1)) t (mkV (Xsh P t) xs) (mkV (Xsh P t) ys)).run P w=.ok b w:=by
   intro n hn ha hx
   subst hn
   have hl:=Qny _ _ _ _ he
   match xs,ys,hl with
   | [x],[y],_ =>
    simp only[Qaf]at he
    split at he
    ·rename_i p q h1 h2
     cases h2;cases he
     simp only[ha,mkV,Bool.false_eq_true,if_false,List.headD_cons]
     exact hx x y (by rw[h1];simp)
    ·cases he
  split at h
  ·rename_i hu;cases h
   refine single 2 rfl (by simp[Xsh,hu,Qei]) fun x y hxy => ?_
   unfold X6j at hxy
   split at hxy <;> simp at *
   subst hxy
   rw[<- Nat.add_assoc]
   exact run_equalIn_bool' w _ t _ _ hu
  ·rename_i q hu;cases h
   refine single 1 rfl (by simp[Xsh,hu,Qei]) fun x y hxy => ?_
   unfold X6j at hxy
   split at hxy <;> simp at *
   obtain⟨rfl,hxy⟩:=hxy
   subst hxy
   rw[<- Nat.add_assoc]
   exact run_equalIn_int w _ t _ q _ _ hu
  ·rename_i hu;cases h
   refine single 3 rfl (by simp[Xsh,hu,Qei]) fun x y hxy => ?_
   unfold X6j at hxy
   split at hxy <;> simp at *
   subst hxy
   rw[<- Nat.add_assoc]
   rename_i s1 s2
   rw[run_equalIn_string w _ t _ _ hu,beq_toListBytes]
  ·rename_i n e hu
   split at h
   ·rename_i l hl
    split at h
    ·rename_i hc
     simp only[Bool.and_eq_true,beq_iff_eq,Bool.not_eq_true',List.isEmpty_eq_false_iff]at hc
     cases h
     obtain⟨dd,hue,_⟩:=Q46 hl
     obtain⟨i,hi⟩:=info_of_underlying hue
     have hag:Xsh P t=true:=by simp[Xsh,hu,Qei]
     simp only[hag,mkV,if_true]
     rw[<- Nat.add_assoc,run_equalIn_array w _ _ _ hu hi,List.range_eq_range']
     exact Ypz xs ys (IH e l hl) hl hc.1 hc.2 n 0 b w (by simpa using he)
    ·cases h
   ·cases h
  ·rename_i fs hu
   split at h
   ·cases h
   ·rename_i hst
    have hag:Xsh P t=true:=by simp[Xsh,hu,Qei]
    simp only[hag,mkV,if_true]
    have hf:P.fieldsOf t=fs:=by simp[Program.fieldsOf,hu]
    rw[<- Nat.add_assoc,run_equalIn_struct w _ t _ _ (by rw[hf];exact hu) (by simpa using hst),hf]
    exact Yhf xs ys _ 0 ls b w IH h (by simpa using he)
  ·cases h
def Z03(P:Program)(d:Nat)(t:TypeId)(ls:List Nat):Prop :=
 ∀ (em:Bool) (xs:List Value) (w:World),xs.length=ls.length->(Instr.checkKey em d t (mkV (Xsh P t) xs)).run P w=.ok () w
theorem Zez(l:List Nat)(n:Nat):(rep l n).length=n*l.length:=by
 induction n with
 | zero=>simp[rep]
 | succ n ih=>simp[rep,ih,Nat.succ_mul];omega
theorem You(c:Nat):∀ (k:Nat) (t:TypeId) (ls:List Nat),Qsd P k t=some ls->Z03 P (c+k) t ls
 | 0,t,ls,h=>by simp[Qsd]at h
 | k+1,t,ls,h=>by
  have IH:∀ t l,Qsd P k t=some l->Z03 P (c+k) t l:=fun t l h=>You c k t l h
  intro em xs w hlen
  simp only[Qsd]at h
  rw[<- Nat.add_assoc,Instr.checkKey]
  split at h
  ·rename_i hu;simp only[Sem.run_bind,run_underlying hu,Result.andThen_ok,Sem.run_pure]
  ·rename_i q hu;simp only[Sem.run_bind,run_underlying hu,Result.andThen_ok,Sem.run_pure]
  ·rename_i hu;simp only[Sem.run_bind,run_underlying hu,Result.andThen_ok,Sem.run_pure]
  ·rename_i n e hu
   split at h
   ·rename_i l hl
    split at h
    ·rename_i hc
     simp only[Bool.and_eq_true,beq_iff_eq,Bool.not_eq_true',List.isEmpty_eq_false_iff]at hc
     cases h
     obtain⟨dd,hue,h1⟩:=Q46 hl
     obtain⟨i,hi⟩:=info_of_underlying hue
     have hag:Xsh P t=true:=by simp[Xsh,hu,Qei]
     simp only[hag,mkV,if_true]
     simp only[Sem.run_bind,run_underlying hu,Result.andThen_ok]
     simp only[Std.Legacy.Range.forIn_eq_forIn_range',Std.Legacy.Range.size,Nat.sub_zero,Nat.add_one_sub_one,Nat.div_one]
     have hz:0 < l.length:=List.length_pos_iff.2 hc.2
     rw[Zez]at hlen
     have each:∀ j ∈ List.range' 0 n,j < n:=fun j hj=>by simpa using hj
     generalize List.range' 0 n=is at each
     induction is with
     | nil=>simp
     | cons j is ih =>
      have hj:=each j (by simp)
      have hle:j*P.cellsOf e+P.cellsOf e<=xs.length:=by
       rw[hlen,<- hc.1,<- Nat.succ_mul];exact Nat.mul_le_mul_right _ hj
      have p1:=Qtm hue xs (j*P.cellsOf e) w hle (fun _=>by omega)
      have p2:=IH e l hl em ((xs.drop (j*P.cellsOf e)).take (P.cellsOf e)) w (by
       rw[List.length_take,List.length_drop,hc.1];omega)
      simp only[List.forIn_cons,Sem.run_bind,run_sizeOf w hi,Result.andThen_ok,p1,p2,Sem.run_pure]
      exact ih (fun y hy=>each y (by simp[hy]))
    ·cases h
   ·cases h
  ·rename_i fs hu
   split at h
   ·cases h
   ·rename_i hst
    have hag:Xsh P t=true:=by simp[Xsh,hu,Qei]
    simp only[hag,mkV,if_true]
    simp only[Sem.run_bind,run_underlying hu,Result.andThen_ok]
    rw[<- Array.forIn_toList]
    have key:∀ (L:List Field) (acc:Nat) (ls:List Nat),Qty P (Qsd P k) L acc=some ls->acc+ls.length<=xs.length ->
      (forIn L PUnit.unit fun f (_:PUnit)=>(if f.name ≠ "_" then do
        let x <- part f.type xs.toArray f.offset
        Instr.checkKey em (c+k) f.type x
        pure (ForInStep.yield PUnit.unit)
       else pure (ForInStep.yield PUnit.unit):Sem (ForInStep PUnit))).run P w=.ok PUnit.unit w:=by
     intro L
     induction L with
     | nil=>intro acc ls _ _;simp
     | cons f L ih =>
      intro acc ls hL hb
      simp only[Qty]at hL
      split at hL
      ·cases hL
      ·rename_i hcn
       simp only[Bool.or_eq_true,beq_iff_eq,bne_iff_ne,ne_eq,not_or,Decidable.not_not]at hcn
       split at hL
       ·rename_i l hl
        split at hL
        ·rename_i hlen'
         simp only[beq_iff_eq]at hlen'
         split at hL
         ·rename_i r hr
          cases hL
          obtain⟨dd,hue,h1⟩:=Q46 hl
          rw[List.length_append]at hb
          have hz:Xsh P f.type=false->0 < P.cellsOf f.type:=fun ha=>by
           have:=h1 (by simpa[Xsh,hue]using ha)
           omega
          have p1:=Qtm hue xs f.offset w (by rw[hcn.2,<- hlen'];omega) hz
          have p2:=IH f.type l hl em ((xs.drop f.offset).take (P.cellsOf f.type)) w (by
           rw[List.length_take,List.length_drop,hcn.2,<- hlen'];omega)
          simp only[List.forIn_cons,Sem.run_bind,hcn.1,ne_eq,not_false_eq_true,if_true,Result.andThen_ok,p1,p2,Sem.run_pure]
          exact ih _ _ hr (by omega)
         ·cases hL
        ·cases hL
       ·cases hL
    have h9:=key fs.toList 0 ls h (by omega)
    rw[h9]
    simp
  ·cases h
def Zkc(P:Program)(t:TypeId):List Nat :=
 if P.eqGuardType P.depth t then []else if Xsh P t then(Qsd P 40 t).getD []else []
theorem Zlj(P:Program)(t:TypeId):Zyj P t (Zkc P t):=by
 intro hne
 unfold Zkc at hne ⊢
 split at hne
 ·exact absurd rfl hne
 ·rename_i hg
  simp only[hg,Bool.false_eq_true,if_false]at hne ⊢
  split at hne
  ·rename_i ha
   simp only[ha,if_true]
   cases hl:Qsd P 40 t with
   | none=>simp[hl]at hne
   | some ls =>
    refine⟨trivial,fun xs ys b w he => ?_,fun em xs w hx => ?_⟩
    ·have:=Y1g (P:=P) 9960 40 t ls hl xs ys b w he
     simpa[ha,mkV,Op.equal,Op.maxDepth]using this
    ·have:=You (P:=P) 9960 40 t ls hl em xs w hx
     simpa[ha,mkV]using this
  ·exact absurd rfl hne
def Znk(P:Program)(t:TypeId):Option TyRec :=
 match P.underlying t,P.info? t with
 | some d,some i =>
  match i.zero with
  | some z=>if flat z && Qgn z && z.cells.size == i.size then some {desc:=d,size:=i.size,bytes:=i.bytes,zero:=z,leaf:=Zkc P t} else none
  | none=>none
 | _,_=>none
theorem Znt{P:Program}{t:TypeId}{r:TyRec}(h:Znk P t=some r):Zee P t r:=by
 unfold Znk at h
 split at h
 ·rename_i d i hu hi
  split at h
  ·rename_i z hz
   split at h
   ·rename_i hc
    simp only[Bool.and_eq_true,beq_iff_eq]at hc
    cases h
    exact⟨hu,i,hi,rfl,rfl,hz,hc.1.1,hc.1.2,hc.2,Zlj P t⟩
   ·cases h
  ·cases h
 ·cases h
def Yzl(P:Program):Nat->Tr TyRec
 | 0 => .leaf
 | n+1=>(Yzl P n).put n (Znk P n)
theorem Y3a(P:Program):∀ (n:Nat) (t:TypeId) (r:TyRec),(Yzl P n).get t=some r->Znk P t=some r
 | 0,t,r,h=>by simp[Yzl]at h
 | n+1,t,r,h=>by
  simp only[Yzl,Tr.get_put]at h
  split at h
  ·rename_i e;subst e;exact h
  ·exact Y3a P n t r h
end
section
variable{P:Program}{α:Ren}{h:Heap}{w:World}
theorem Qm2(α:Ren)(a:Addr)(ha:dom α a.block)(hs:a.spot=none)(n:Nat):Wa α (a.add n)=(Wa α a).add n:=by
 obtain⟨p,hp⟩:=Option.isSome_iff_exists.1 ha
 obtain⟨b,o,s⟩:=a
 simp only at hs hp;subst hs
 by_cases hn:n=0
 ·subst hn;rfl
 ·rw[Qoh]
  simp[Wa,hp,Addr.add,hn,Nat.add_assoc]
theorem Qpr(a:Addr)(n:Nat):(a.add n).block=a.block:=by unfold Addr.add;split <;> rfl
theorem Qy6(a:Addr)(n:Nat)(hs:a.spot=none):(a.add n).spot=none:=by unfold Addr.add;split <;> simp[hs]
def Vj(E:Env P)(s:TypeId)(x:Value)(f:Nat):Option Value :=
 match x,E.ty.get s with
 | .pointer (some a),some r =>
  match r.desc with
  | .struct fs=>match nth fs.toList f with
   | some fd=>match E.ty.get fd.type with
    | some rf=>if rf.size == 0 then none else some (.pointer (some (a.add fd.offset)))
    | none=>none
   | none=>none
  | _=>none
 | _,_=>none
theorem Ysc(E:Env P)(H:HRel E.G α h w){s:TypeId}{x v:Value}{f:Nat}(hx:okV (dom α) x)(hv:Vj E s x f=some v) :
  Gives P E.G α h w (Instr.fieldAt s (ren α x) f) v h:=by
 unfold Vj at hv
 split at hv
 ·rename_i a r hr
  simp only[okV]at hx
  split at hv
  ·rename_i fs hd
   split at hv
   ·rename_i fd hfd
    split at hv
    ·rename_i rf hrf
     split at hv
     ·cases hv
     ·rename_i hsz
      cases hv
      rw[Q8r]at hfd
      have hfd':fs[f]? = some fd:=by simpa using hfd
      refine Gives.plain H (by simp only[okV,Qpr];exact⟨hx.1,Qy6 _ _ hx.2⟩) ?_
      have hne:¬ rf.size=0:=by simpa using hsz
      simp only[Instr.fieldAt,Sem.run_bind,run_underlying (E.tyok s r hr).1,hd,Result.andThen_ok,hfd',ren,Option.map_some,Instr.sureAddr,Sem.run_pure,fieldPlace,
       W3 (E.tyok _ rf hrf),hne,if_false]
      rw[Qm2 α a hx.1 hx.2]
    ·cases hv
   ·cases hv
  ·cases hv
 ·cases hv
def Vg(E:Env P)(t:TypeId)(x ix:Value):Option Value :=
 match E.ty.get t,ix with
 | some r,.int _ i =>
  match r.desc,x with
  | .array n e,.pointer (some a)=>match E.ty.get e with
   | some re=>if 0<=i/\i < n then some (.pointer (some (a.add (i.toNat*re.size))))else none
   | none=>none
  | .slice e,.slice (some a) n _=>match E.ty.get e with
   | some re=>if 0<=i/\i < n then some (.pointer (some (a.add (i.toNat*re.size))))else none
   | none=>none
  | _,_=>none
 | _,_=>none
theorem Ywk(E:Env P)(H:HRel E.G α h w){t:TypeId}{x ix v:Value}(hx:okV (dom α) x)(hv:Vg E t x ix=some v) :
  Gives P E.G α h w (Instr.indexAt t (ren α x) (ren α ix)) v h:=by
 unfold Vg at hv
 split at hv
 ·rename_i r k i hr
  split at hv
  ·rename_i n e a hd
   split at hv
   ·rename_i re hre
    split at hv
    ·rename_i hc
     cases hv
     simp only[okV]at hx
     refine Gives.plain H (by simp only[okV,Qpr];exact⟨hx.1,Qy6 _ _ hx.2⟩) ?_
     simp only[Instr.indexAt,ren,asIntOf,Sem.run_bind,Sem.run_pure,Result.andThen_ok,run_underlying (E.tyok t r hr).1,hd,Option.map_some,Instr.sureAddr,
      Sem.run_ite,hc,and_self,if_true,W3 (E.tyok _ re hre)]
     rw[Qm2 α a hx.1 hx.2]
    ·cases hv
   ·cases hv
  ·rename_i e a n c hd
   split at hv
   ·rename_i re hre
    split at hv
    ·rename_i hc
     cases hv
     simp only[okV]at hx
     refine Gives.plain H (by simp only[okV,Qpr];exact⟨hx.1,Qy6 _ _ hx.2⟩) ?_
     simp only[Instr.indexAt,ren,asIntOf,Sem.run_bind,Sem.run_pure,Result.andThen_ok,run_underlying (E.tyok t r hr).1,hd,Option.map_some,
      Sem.run_ite,hc,and_self,if_true,W3 (E.tyok _ re hre)]
     rw[Qm2 α a hx.1 hx.2]
    ·cases hv
   ·cases hv
  ·cases hv
 ·cases hv
def Zmi(r:TyRec)(cs:List Value)(off:Nat):Option Value :=
 if Qei r.desc then(Q1n r.size (cs.drop off)).map fun l => .agg l.toArray else nth cs off
theorem X5s{n off:Nat}{cs l:List Value}(h:Q1n n (cs.drop off)=some l):l=(cs.drop off).take n:=by
 obtain⟨h1,h2⟩:=Qwt _ _ _ h
 apply List.ext_getElem?
 intro i
 by_cases hi:i < n
 ·have hi':i < l.length:=by omega
  have:=h2 i l[i] (List.getElem?_eq_getElem hi')
  rw[List.getElem?_take_of_lt hi,this,List.getElem?_eq_getElem hi']
 ·rw[List.getElem?_eq_none (by omega),List.getElem?_eq_none (by simp;omega)]
theorem Ygb{t:TypeId}{r:TyRec}(hr:Zee P t r){cs:Array Value}{off:Nat}{v:Value}(hv:Zmi r cs.toList off=some v)(hc:okV (dom α) (.agg cs))(w:World) :
  okV (dom α) v/\(part t (cs.map (ren α)) off).run P w=.ok (ren α v) w:=by
 have hcs:=(Y8b (dom α) cs).1 hc
 unfold Zmi at hv
 simp only[part,Sem.run_bind,X5x hr,Result.andThen_ok]
 split at hv
 ·rename_i hagg
  rw[Option.map_eq_some_iff]at hv
  obtain⟨l,hl,rfl⟩:=hv
  have he:=X5s hl
  obtain⟨h1,h2⟩:=Qwt _ _ _ hl
  refine⟨Q8x _ _ fun v hv => ?_,?_⟩
  ·obtain⟨i,hi⟩:=List.getElem?_of_mem hv
   have:=h2 i v hi
   rw[List.getElem?_drop]at this
   exact hcs v (by simpa using List.mem_of_getElem? this)
  ·simp only[hagg,if_true,Sem.run_bind,W3 hr,Result.andThen_ok,Sem.run_pure,ren_agg]
   congr 2
   apply Array.ext'
   rw[he]
   simp[List.extract,List.map_take,List.map_drop]
 ·rename_i hagg
  rw[Q8r]at hv
  refine⟨(hcs v (by simpa using List.mem_of_getElem? hv)).1,?_⟩
  have : (cs.map (ren α))[off]? = some (ren α v):=by
   rw[Array.getElem?_map]
   have hv':cs[off]? = some v:=by simpa using hv
   rw[hv'];rfl
  simp only[hagg,if_false,Bool.false_eq_true,this,Sem.run_pure]
def Zck(E:Env P)(t:TypeId)(x:Value)(f:Nat):Option Value :=
 match x,E.ty.get t with
 | .agg cs,some r =>
  match r.desc with
  | .struct fs=>match nth fs.toList f with
   | some fd=>match E.ty.get fd.type with
    | some rf=>Zmi rf cs.toList fd.offset
    | none=>none
   | none=>none
  | _=>none
 | _,_=>none
theorem Zkr(E:Env P)(H:HRel E.G α h w){t:TypeId}{x v:Value}{f:Nat}(hx:okV (dom α) x)(hv:Zck E t x f=some v) :
  Gives P E.G α h w (Instr.field t (ren α x) f) v h:=by
 unfold Zck at hv
 split at hv
 ·rename_i cs r hr
  split at hv
  ·rename_i fs hd
   split at hv
   ·rename_i fd hfd
    split at hv
    ·rename_i rf hrf
     rw[Q8r]at hfd
     have hfd':fs[f]? = some fd:=by simpa using hfd
     obtain⟨h1,h2⟩:=Ygb (E.tyok _ rf hrf) hv hx w
     refine Gives.plain H h1 ?_
     simp only[Instr.field,Sem.run_bind,run_underlying (E.tyok t r hr).1,hd,Result.andThen_ok,hfd',ren_agg,asAgg,Sem.run_pure,h2]
    ·cases hv
   ·cases hv
  ·cases hv
 ·cases hv
def Y66(E:Env P)(t:TypeId)(x ix:Value):Option Value :=
 match E.ty.get t,ix with
 | some r,.int _ i =>
  match r.desc,x with
  | .array n e,.agg cs=>match E.ty.get e with
   | some re=>if 0<=i/\i < n then Zmi re cs.toList (i.toNat*re.size)else none
   | none=>none
  | .string,.string s=>if 0<=i then(match nth s.data.toList i.toNat with | some b=>some (.int .u8 b.toNat) | none=>none)else none
  | _,_=>none
 | _,_=>none
theorem Zhu(E:Env P)(H:HRel E.G α h w){t:TypeId}{x ix v:Value}(hx:okV (dom α) x)(hv:Y66 E t x ix=some v) :
  Gives P E.G α h w (Instr.index t (ren α x) (ren α ix)) v h:=by
 unfold Y66 at hv
 split at hv
 ·rename_i r k i hr
  split at hv
  ·rename_i n e cs hd
   split at hv
   ·rename_i re hre
    split at hv
    ·rename_i hc
     obtain⟨h1,h2⟩:=Ygb (E.tyok _ re hre) hv hx w
     refine Gives.plain H h1 ?_
     simp only[Instr.index,ren_int,asIntOf,Sem.run_bind,Sem.run_pure,Result.andThen_ok,run_underlying (E.tyok t r hr).1,hd,ren_agg,Sem.run_ite,hc,and_self,if_true,
      W3 (E.tyok _ re hre),h2]
    ·cases hv
   ·cases hv
  ·rename_i s hd
   split at hv
   ·rename_i hc
    split at hv
    ·rename_i b hb
     cases hv
     rw[Q8r]at hb
     have hs:s[i.toNat]? = some b:=by
      have hb':s.data[i.toNat]? = some b:=by simpa using hb
      have hlt:i.toNat < s.size:=by
       rcases Nat.lt_or_ge i.toNat s.data.size with h | h
       ·exact h
       ·simp[Array.getElem?_eq_none h]at hb'
      have h2:s[i.toNat]? = some (s[i.toNat]'hlt):=by rw[getElem?_pos]
      rw[h2]
      have h3:s.data[i.toNat]? = some (s.data[i.toNat]'hlt):=by rw[getElem?_pos]
      rw[h3]at hb'
      exact hb'
     refine Gives.flat H rfl ?_
     simp only[Instr.index,ren_int,asIntOf,Sem.run_bind,Sem.run_pure,Result.andThen_ok,run_underlying (E.tyok t r hr).1,hd,ren_string,hc,if_true,hs]
    ·cases hv
   ·cases hv
  ·cases hv
 ·cases hv
def Q7(x:Value)(i:Nat):Option Value :=
 match x with
 | .tuple vs=>nth vs.toList i
 | _=>none
theorem Za3{G:Bs}(H:HRel G α h w){x v:Value}{i:Nat}(hx:okV (dom α) x)(hv:Q7 x i=some v) :
  Gives P G α h w (Instr.extract (ren α x) i) v h:=by
 unfold Q7 at hv
 split at hv
 ·rename_i vs
  rw[Q8r]at hv
  have hv':vs[i]? = some v:=by simpa using hv
  refine Gives.plain H ((Quq _ _).1 hx v (Array.mem_of_getElem? hv')) ?_
  have : (vs.map (ren α))[i]? = some (ren α v):=by rw[Array.getElem?_map,hv'];rfl
  simp only[Instr.extract,ren_tuple,this,Sem.run_pure]
 ·cases hv
def Qgm(x:Option Value)(dflt lim:Nat):Option Nat :=
 match x with
 | none=>some dflt
 | some (.int _ i)=>if 0<=i/\i<=lim then some i.toNat else none
 | _=>none
theorem Qhl{k:IntKind}{i:Int}{n:Nat}(hc:0<=i/\i<=n)(c:BoundsCode)(w:World):(Instr.sliceBound (.int k i) n c).run P w=.ok i.toNat w:=by
 simp[Instr.sliceBound,asIntOf,hc]
theorem Q4o(b:Bool)(len cap:Nat)(lo hi mx:Option Value){l h m:Nat}(hm:Qgm mx cap cap=some m)(hh:Qgm hi len m=some h)(hmx:hi=none->mx=none)(hl:Qgm lo 0 h=some l)(w:World) :
  (Instr.sliceBounds b len cap (lo.map (ren α)) (hi.map (ren α)) (mx.map (ren α))).run P w=.ok (l,h,m) w:=by
 have ha:∀ (x:Option Value) (d n k:Nat),Qgm x d n=some k->(x=none/\d=k) ∨ ∃ q i,x=some (.int q i)/\0<=i/\i<=n/\i.toNat=k:=by
  intro x d n k hx
  unfold Qgm at hx
  split at hx
  ·left;simpa using hx
  ·rename_i q i
   split at hx
   ·rename_i hc;right;exact⟨q,i,rfl,hc.1,hc.2,by simpa using hx⟩
   ·cases hx
  ·cases hx
 rcases ha _ _ _ _ hm with⟨rfl,rfl⟩ | ⟨qm,im,rfl,m1,m2,rfl⟩
 ·rcases ha _ _ _ _ hh with⟨rfl,rfl⟩ | ⟨qh,ih,rfl,h1,h2,rfl⟩
  ·rcases ha _ _ _ _ hl with⟨rfl,rfl⟩ | ⟨ql,il,rfl,l1,l2,rfl⟩
   ·simp[Instr.sliceBounds]
   ·simp[Instr.sliceBounds,Qhl ⟨l1,l2⟩]
  ·rcases ha _ _ _ _ hl with⟨rfl,rfl⟩ | ⟨ql,il,rfl,l1,l2,rfl⟩
   ·simp[Instr.sliceBounds,Qhl ⟨h1,h2⟩]
   ·simp[Instr.sliceBounds,Qhl ⟨h1,h2⟩,Qhl ⟨l1,l2⟩]
 ·rcases ha _ _ _ _ hh with⟨rfl,rfl⟩ | ⟨qh,ih,rfl,h1,h2,rfl⟩
  ·exact absurd (hmx rfl) (by simp)
  ·rcases ha _ _ _ _ hl with⟨rfl,rfl⟩ | ⟨ql,il,rfl,l1,l2,rfl⟩
   ·simp[Instr.sliceBounds,Qhl ⟨m1,m2⟩,Qhl ⟨h1,h2⟩]
   ·simp[Instr.sliceBounds,Qhl ⟨m1,m2⟩,Qhl ⟨h1,h2⟩,Qhl ⟨l1,l2⟩]
end
section
variable{P:Program}{α:Ren}{h:Heap}{w:World}
theorem Qg8(α:Ren)(a:Option Addr)(n c:Nat)(hc:c≠Qhx):ren α (.slice a n c)=.slice (a.map (Wa α)) n c:=by simp[ren,Xdx,hc]
theorem Qo0(α:Ren)(a:Addr)(n:Nat){p:Place}(hp:α a.block=some p):ren α (.slice (some a) n Qhx)=.slice (some (Wa α a)) n (p.room-a.off / p.sz):=by
 simp[ren,Xdx,hp]
def Ztk(a:Option Addr)(sz l h m:Nat):Option Value :=
 if m-l == Qhx then none else some (.slice (if m=l then a else a.map (·.add (l*sz))) (h-l) (m-l))
def Qer(E:Env P)(t:TypeId)(x:Value)(lo hi mx:Option Value)(h:Heap):Option (Value × Heap) :=
 if hi.isNone && mx.isSome then none else
 match E.ty.get t,x with
 | some r,.pointer (some a)=>match r.desc with
  | .array n e=>match E.ty.get e,Qgm mx n n with
   | some re,some m=>match Qgm hi n m with
    | some hh=>match Qgm lo 0 hh with
     | some l=>(Ztk (some a) re.size l hh m).map fun v=>(v,h)
     | none=>none
    | none=>none
   | _,_=>none
  | _=>none
 | some r,.slice a n c=>match r.desc with
  | .slice e=>match E.ty.get e with
   | none=>none
   | some re =>
    if c != Qhx then
     match Qgm mx c c with
     | some m=>match Qgm hi n m with
      | some hh=>match Qgm lo 0 hh with
       | some l=>(Ztk a re.size l hh m).map fun v=>(v,h)
       | none=>none
      | none=>none
     | none=>none
    else match a with
     | none=>none
     | some ad=>match h.get ad.block with
      | some (.cells true sz cs) =>
       if sz == re.size && ad.off % sz == 0 && Nat.ble 1 sz then
        let room:=(cs.length-ad.off) / sz
        match hi,mx with
        | none,none=>match Qgm lo 0 n with
         | some l=>aCut ad sz cs.length l n h
         | none=>none
        | some _,none=>match Qgm hi n room with
         | some hh=>match Qgm lo 0 hh with
          | some l=>aCut ad sz cs.length l hh h
          | none=>none
         | none=>none
        | some _,some _=>match Qgm mx room room with
         | some m=>match Qgm hi n m with
          | some hh=>match Qgm lo 0 hh with
           | some l=>(Ztk a re.size l hh m).map fun v=>(v,h)
           | none=>none
          | none=>none
         | none=>none
        | none,some _=>none
       else none
      | some (.cells false sz []) =>
       if sz == re.size && ad.off % sz == 0 && Nat.ble 1 sz then
        match mx with
        | none=>match Qgm hi n 0 with
         | some hh=>match Qgm lo 0 hh with
          | some l=>if l == 0 then some (.slice (some ad) hh Qhx,h)else none
          | none=>none
         | none=>none
        | some _=>none
       else none
      | _=>none
  | _=>none
 | some r,.string s=>match r.desc,mx with
  | .string,none=>match Qgm hi s.size s.size with
   | some hh=>match Qgm lo 0 hh with
    | some l=>some (.string (s.extract l hh),h)
    | none=>none
   | none=>none
  | _,_=>none
 | _,_=>none
 where
 aCut (ad:Addr) (sz used l n:Nat) (h:Heap):Option (Value × Heap) :=
  if l == 0 then some (.slice (some ad) n Qhx,h)
  else if Nat.blt (ad.off+l*sz) used then some (.slice (some (ad.add (l*sz))) (n-l) Qhx,h)
  else if Nat.ble n l then some (.slice (some ⟨h.next,0,none⟩) 0 Qhx,h.push (.cells false sz []))
  else none
theorem Zlv{x:Option Value}{d n k:Nat}(hx:Qgm x d n=some k)(hd:d<=n):k<=n:=by
 unfold Qgm at hx
 split at hx
 ·cases hx;exact hd
 ·split at hx
  ·rename_i hc;cases hx;omega
  ·cases hx
 ·cases hx
theorem Xz8{x:Option Value}{d d' n n' k:Nat}(hx:Qgm x d n=some k)(hn:n<=n')(hd:x=none->d=d'):Qgm x d' n'=some k:=by
 unfold Qgm at hx ⊢
 split at hx
 ·rw[<- hd rfl];exact hx
 ·split at hx
  ·rename_i hc;cases hx;rw[if_pos ⟨hc.1,by omega⟩]
  ·cases hx
 ·cases hx
theorem Zb2{a:Option Addr}{sz l h m:Nat}{v:Value}(hv:Ztk a sz l h m=some v)(ha:∀ x,a=some x->dom α x.block/\x.spot=none) :
  okV (dom α) v/\ren α v=.slice (if m=l then a.map (Wa α)else(a.map (Wa α)).map (·.add (l*sz))) (h-l) (m-l):=by
 unfold Ztk at hv
 split at hv
 ·cases hv
 ·rename_i hc
  have hc':m-l≠Qhx:=by simpa using hc
  cases hv
  cases a with
  | none =>
   have e:(if m=l then(none:Option Addr)else Option.map (fun x:Addr=>x.add (l*sz)) none)=none:=by split <;> rfl
   have e2:(if m=l then Option.map (Wa α) (none:Option Addr)else Option.map (fun x:Addr=>x.add (l*sz)) (Option.map (Wa α) none))=none:=by split <;> rfl
   rw[e,e2]
   exact⟨by simpa only[okV]using hc',by rw[Qg8 _ _ _ _ hc'];rfl⟩
  | some x =>
   obtain⟨h1,h2⟩:=ha x rfl
   by_cases hm:m=l
   ·subst hm
    simp only[if_true]
    refine⟨by simp only[okV];exact⟨h1,h2⟩,?_⟩
    rw[Qg8 _ _ _ _ hc']
   ·simp only[hm,if_false,Option.map_some]
    refine⟨by simp only[okV,Qpr];exact⟨h1,Qy6 _ _ h2⟩,?_⟩
    rw[Qg8 _ _ _ _ hc',Option.map_some,Qm2 α x h1 h2]
theorem Zjx(E:Env P)(H:HRel E.G α h w){t:TypeId}{x:Value}{lo hi mx:Option Value}{v:Value}{h':Heap}(hx:okV (dom α) x)
  (hv:Qer E t x lo hi mx h=some (v,h')) :
  Gives P E.G α h w (Instr.sliceAt t (ren α x) (lo.map (ren α)) (hi.map (ren α)) (mx.map (ren α))) v h':=by
 unfold Qer at hv
 split at hv
 ·cases hv
 ·rename_i hnone
  have hmx:hi=none->mx=none:=by
   intro h0;subst h0
   cases mx with
   | none=>rfl
   | some _=>simp at hnone
  split at hv
  ·
   rename_i r a hr
   simp only[okV]at hx
   split at hv
   ·rename_i n e hd
    split at hv
    ·rename_i re m hre hm
     split at hv
     ·rename_i hh hhi
      split at hv
      ·rename_i l hl
       rw[Option.map_eq_some_iff]at hv
       obtain⟨v',hv',hq⟩:=hv
       cases hq
       obtain⟨o1,o2⟩:=Zb2 (α:=α) hv' (fun y hy=>by cases hy;exact hx)
       refine Gives.plain H o1 ?_
       rw[o2]
       simp only[Instr.sliceAt,Sem.run_bind,run_underlying (E.tyok t r hr).1,hd,Result.andThen_ok,ren,Option.map_some,Instr.sureAddr,Sem.run_pure,
        Q4o (α:=α) false n n lo hi mx hm hhi hmx hl,W3 (E.tyok _ re hre)]
       split <;> rfl
      ·cases hv
     ·cases hv
    ·cases hv
   ·cases hv
  ·
   rename_i r a n c hr
   split at hv
   ·rename_i e hd
    split at hv
    ·cases hv
    ·rename_i re hre
     have hrun:∀ (c' l hh m:Nat),Qgm mx c' c'=some m->Qgm hi n m=some hh->Qgm lo 0 hh=some l ->
       (Instr.sliceAt t (.slice (a.map (Wa α)) n c') (lo.map (ren α)) (hi.map (ren α)) (mx.map (ren α))).run P w =
        .ok (.slice (if m=l then a.map (Wa α)else(a.map (Wa α)).map (·.add (l*re.size))) (hh-l) (m-l)) w:=by
      intro c' l hh m e1 e2 e3
      simp only[Instr.sliceAt,Instr.slice,Sem.run_bind,run_underlying (E.tyok t r hr).1,hd,Result.andThen_ok,Sem.run_pure,
       Q4o (α:=α) true n c' lo hi mx e1 e2 hmx e3,W3 (E.tyok _ re hre)]
     split at hv
     ·rename_i hc
      have hc':c≠Qhx:=by simpa using hc
      split at hv
      ·rename_i m hm
       split at hv
       ·rename_i hh hhi
        split at hv
        ·rename_i l hl
         rw[Option.map_eq_some_iff]at hv
         obtain⟨v',hv',hq⟩:=hv
         cases hq
         obtain⟨o1,o2⟩:=Zb2 (α:=α) hv' (fun y hy=>by subst hy;simpa only[okV]using hx)
         refine Gives.plain H o1 ?_
         rw[o2,Qg8 _ _ _ _ hc']
         exact hrun c l hh m hm hhi hl
        ·cases hv
       ·cases hv
      ·cases hv
     ·rename_i hc
      have hc':c=Qhx:=by simpa using hc
      subst hc'
      split at hv
      ·cases hv
      ·rename_i ad
       simp only[okV]at hx
       obtain⟨p,hp⟩:=Option.isSome_iff_exists.1 hx.1
       split at hv
       ·rename_i sz cs hg
        split at hv
        ·rename_i hcond
         simp only[Bool.and_eq_true,beq_iff_eq,Nat.ble_eq]at hcond
         obtain⟨⟨rfl,hoff⟩,hsz⟩:=hcond
         have hfit:=H.fits _ p _ hp hg
         obtain⟨hpz,hfit⟩:=hfit
         rcases hfit with⟨h0,_⟩ | ⟨C,te,lo',hi',f1,f2,f3⟩
         ·cases h0
         obtain⟨f31,f32,f33⟩:=f3 rfl
         have hcl:cs.length<=p.room*re.size:=by
          rw[<- hpz,<- f33]
          rcases Nat.lt_or_ge C.size cs.length with hlt | hge
          ·have:=(f2 C.size _ (List.getElem?_eq_getElem hlt)).1
           simp[f31]at this
          ·exact hge
         have hdiv:(cs.length-ad.off) / re.size<=p.room-ad.off / re.size:=by
          have h1:(cs.length-ad.off) / re.size<=(p.room*re.size-ad.off) / re.size:=Nat.div_le_div_right (by omega)
          refine Nat.le_trans h1 ?_
          obtain⟨q,hq⟩:=Nat.dvd_of_mod_eq_zero hoff
          rw[hq,Nat.mul_comm p.room,<- Nat.mul_sub,Nat.mul_div_cancel_left _ hsz,Nat.mul_div_cancel_left _ hsz]
          exact Nat.le_refl _
         rw[Qo0 α ad n hp,hpz]
         have hcut:∀ l hh,Qgm hi n (p.room-ad.off / re.size)=some hh->Qgm lo 0 hh=some l->mx=none->Qer.aCut ad re.size cs.length l hh h=some (v,h') ->
           Gives P E.G α h w (Instr.sliceAt t (.slice (some (Wa α ad)) n (p.room-ad.off / re.size)) (lo.map (ren α)) (hi.map (ren α)) (mx.map (ren α))) v h':=by
          intro l hh e1 e2 e0 hcv
          have hr1:=hrun (p.room-ad.off / re.size) l hh _ (by rw[e0];rfl) e1 e2
          simp only[Option.map_some]at hr1
          have hlh:l<=hh:=Zlv e2 (by omega)
          unfold Qer.aCut at hcv
          split at hcv
          ·rename_i hl0
           have hl0':l=0:=by simpa using hl0
           subst hl0'
           cases hcv
           refine Gives.plain H (by simp only[okV];exact hx) ?_
           rw[hr1,Qo0 α ad _ hp,hpz]
           congr 1
           by_cases hm:p.room-ad.off / re.size=0
           ·simp[hm]
           ·simp[hm,Addr.add]
          ·rename_i hl0
           have hl0':l≠0:=by simpa using hl0
           split at hcv
           ·rename_i hlt
            have hlt':ad.off+l*re.size < cs.length:=by simpa[Nat.blt_eq]using hlt
            cases hcv
            have hm:ad.off / re.size+l < p.room:=by
             obtain⟨q,hq⟩:=Nat.dvd_of_mod_eq_zero hoff
             rw[hq,Nat.mul_div_cancel_left _ hsz]
             have : re.size*(q+l) < re.size*p.room:=by rw[Nat.mul_add,Nat.mul_comm re.size l,Nat.mul_comm re.size p.room];omega
             exact Nat.lt_of_mul_lt_mul_left this
            refine Gives.plain H (by simp only[okV,Qpr];exact⟨hx.1,Qy6 _ _ hx.2⟩) ?_
            rw[hr1,Qo0 α (ad.add (l*re.size)) _ (by rw[Qpr];exact hp),hpz,if_neg (by omega),Qm2 α ad hx.1 hx.2]
            congr 2
            have hao:(ad.add (l*re.size)).off=ad.off+l*re.size:=by
             obtain⟨b0,o0,s0⟩:=ad
             simp only at hx
             rw[hx.2,Qoh]
            rw[hao,Nat.add_mul_div_right _ _ hsz]
            omega
           ·rename_i hlt
            split at hcv
            ·rename_i hnl
             have hnl':hh<=l:=by simpa using hnl
             have hle:l=hh:=by omega
             subst hle
             cases hcv
             have hal:=H.alias (p:={blk:=p.blk,base:=p.base+(if p.room-ad.off / re.size=l then ad.off else ad.off+l*re.size),room:=p.room-ad.off / re.size-l,sz:=re.size,spot:=none}) (H.dom _ _ hp).2
             refine⟨_,w,?_,?_,Ren.add_ext _ _ _,hal.1,hal.2⟩
             ·rw[hr1]
              simp only[ren,Option.map_some,Wa,Ren.add_same,Xdx,if_true,Nat.add_zero,Nat.zero_div,Nat.sub_zero,Nat.sub_self]
              congr 2
              obtain⟨b0,o0,s0⟩:=ad
              have hsp:=H.spot hp hg rfl
              simp only at hx hp
              simp only[hp,hx.2,hsp,ite_self,Qoh]
              by_cases hm:p.room-o0 / re.size=l
              ·simp[hm]
              ·simp[hm,Nat.add_assoc]
             ·simp only[okV];exact⟨by simp[dom,Ren.add_same],trivial⟩
            ·cases hcv
         cases hi with
         | none =>
          have hmx0:=hmx rfl
          subst hmx0
          simp only at hv
          split at hv
          ·rename_i l hl
           exact hcut l n rfl hl rfl hv
          ·cases hv
         | some hv0 =>
          cases mx with
          | none =>
           simp only at hv
           split at hv
           ·rename_i hh hhi
            split at hv
            ·rename_i l hl
             exact hcut l hh (Xz8 hhi hdiv (by simp)) hl rfl hv
            ·cases hv
           ·cases hv
          | some mv =>
           simp only at hv
           split at hv
           ·rename_i m hm
            split at hv
            ·rename_i hh hhi
             split at hv
             ·rename_i l hl
              rw[Option.map_eq_some_iff]at hv
              obtain⟨v',hv',hq⟩:=hv
              cases hq
              obtain⟨o1,o2⟩:=Zb2 (α:=α) hv' (fun y hy=>by cases hy;exact hx)
              refine Gives.plain H o1 ?_
              rw[o2]
              exact hrun _ l hh m (Xz8 hm hdiv (by simp)) hhi hl
             ·cases hv
            ·cases hv
           ·cases hv
        ·cases hv
       ·rename_i sz hg
        split at hv
        ·rename_i hcond
         simp only[Bool.and_eq_true,beq_iff_eq,Nat.ble_eq]at hcond
         obtain⟨⟨rfl,hoff⟩,hsz⟩:=hcond
         obtain⟨hpz, -⟩:=H.fits _ p _ hp hg
         split at hv
         ·split at hv
          ·rename_i hh hhi
           split at hv
           ·rename_i l hl
            split at hv
            ·rename_i hl0
             have hl0':l=0:=by simpa using hl0
             subst hl0'
             cases hv
             have hr1:=hrun (p.room-ad.off / re.size) 0 hh _ rfl (Xz8 hhi (Nat.zero_le _) (fun _=>rfl)) hl
             simp only[Option.map_some,Option.map_none]at hr1
             rw[Qo0 α ad n hp,hpz]
             refine Gives.plain H (by simp only[okV];exact hx) ?_
             simp only[Option.map_none]
             rw[hr1,Qo0 α ad _ hp,hpz]
             congr 1
             by_cases hm:p.room-ad.off / re.size=0
             ·simp[hm]
             ·simp[hm,Addr.add]
            ·cases hv
           ·cases hv
          ·cases hv
         ·cases hv
        ·cases hv
       ·cases hv
   ·cases hv
  ·
   rename_i r s hr
   split at hv
   ·rename_i hd
    split at hv
    ·rename_i hh hhi
     split at hv
     ·rename_i l hl
      cases hv
      refine Gives.flat H rfl ?_
      have:=Q4o (α:=α) false s.size s.size lo hi none (by rfl) hhi (fun _=>rfl) hl w (P:=P)
      simp only[Option.map_none]at this
      simp only[Instr.sliceAt,Instr.slice,Sem.run_bind,run_underlying (E.tyok t r hr).1,hd,Result.andThen_ok,ren_string,Option.map_none,Option.isSome_none,Bool.false_eq_true,if_false,Sem.run_pure,this]
     ·cases hv
    ·cases hv
   ·cases hv
  ·cases hv
end
section
variable{P:Program}{α:Ren}{h:Heap}{w:World}
def aEq(E:Env P)(t:TypeId)(x y:Value):Option Bool :=
 match E.ty.get t with
 | none=>none
 | some r =>
  match r.desc,x,y with
  | .bool,.bool a,.bool b=>some (a == b)
  | .pointer _,.pointer none,.pointer b=>some b.isNone
  | .pointer _,.pointer (some _),.pointer none=>some false
  | .slice _,.slice none _ _,.slice b _ _=>some b.isNone
  | .slice _,.slice (some _) _ _,.slice none _ _=>some false
  | .map _ _,.map none,.map b=>some b.isNone
  | .map _ _,.map (some _),.map none=>some false
  | .func _ _ _,.nilFunc,.nilFunc=>some true
  | .func _ _ _,.nilFunc,.func _ _ _=>some false
  | .func _ _ _,.func _ _ _,.nilFunc=>some false
  | .interface _,.nilIface,.nilIface=>some true
  | .interface _,.nilIface,.iface _ _=>some false
  | .interface _,.iface _ _,.nilIface=>some false
  | .struct _,.agg xs,.agg ys=>if r.leaf.isEmpty then none else Qaf r.leaf xs.toList ys.toList
  | .array _ _,.agg xs,.agg ys=>if r.leaf.isEmpty then none else Qaf r.leaf xs.toList ys.toList
  | _,_,_=>none
theorem Xwx(α:Ren):∀ (ls:List Nat) (xs ys:List Value) (b:Bool),Qaf ls xs ys=some b->xs.map (ren α)=xs/\ys.map (ren α)=ys
 | [],[],[],_,_=>by simp
 | l::ls,x::xs,y::ys,b,h=>by
  simp only[Qaf]at h
  split at h
  ·rename_i a c h1 h2
   have ih:=Xwx α ls xs ys c h2
   unfold X6j at h1
   split at h1 <;> simp_all
  ·cases h
 | [],_::_,_,_,h=>by simp[Qaf]at h
 | [],[],_::_,_,h=>by simp[Qaf]at h
 | _::_,[],_,_,h=>by simp[Qaf]at h
 | _::_,_::_,[],_,h=>by simp[Qaf]at h
theorem Zpx(E:Env P){t:TypeId}{x y:Value}{b:Bool}(hv:aEq E t x y=some b)(w:World):(Op.equal t (ren α x) (ren α y)).run P w=.ok b w:=by
 unfold aEq at hv
 cases hr:E.ty.get t with
 | none=>simp[hr]at hv
 | some r =>
  simp only[hr]at hv
  have ho:=E.tyok t r hr
  have hu:=ho.1
  have hagg:∀ xs ys:Array Value,(if r.leaf.isEmpty=true then none else Qaf r.leaf xs.toList ys.toList)=some b->(Op.equal t (ren α (.agg xs)) (ren α (.agg ys))).run P w=.ok b w:=by
   intro xs ys he
   split at he
   ·cases he
   ·rename_i hne
    obtain⟨_,_,_,_,_,_,_,_,_,hq⟩:=ho
    have h1:=Xwx α _ _ _ _ he
    have h2:=(hq (by simpa using hne)).2.1 _ _ _ w he
    have e1:xs.map (ren α)=xs:=by apply Array.ext';rw[Array.toList_map];exact h1.1
    have e2:ys.map (ren α)=ys:=by apply Array.ext';rw[Array.toList_map];exact h1.2
    rw[ren_agg,ren_agg,e1,e2]
    exact h2
  have hone:(∀ d,(Op.equalIn (d+1) t (ren α x) (ren α y)).run P w=.ok b w)->(Op.equal t (ren α x) (ren α y)).run P w=.ok b w:=fun hd=>hd 9999
  split at hv <;> first
   | (rename_i hd;cases hv;refine hone fun d => ?_;simp[Op.equalIn,run_underlying hu,hd,ren];done)
   | exact hagg _ _ hv
   | cases hv
def Q6:Operand->Bool
 | .const _=>true
 | _=>false
def Y1s(E:Env P)(op:BinOp)(t:TypeId)(x y:Value):Option Value :=
 match op with
 | .eql=>(aEq E t x y).map .bool
 | .neq=>(aEq E t x y).map fun b => .bool (!b)
 | _=>none
def Qep(s:Sem Value):Option Value :=
 match Zrd s with
 | some v=>if flat v then some v else none
 | none=>none
theorem Yf6{s:Sem Value}{v:Value}(hs:Qep s=some v):flat v=true/\∀ w,s.run P w=.ok v w:=by
 unfold Qep at hs
 split at hs
 ·rename_i u hu
  split at hs
  ·rename_i hf
   cases hs
   exact⟨hf,Zib hu⟩
  ·cases hs
 ·cases hs
def Zu(E:Env P)(op:BinOp)(t:TypeId)(k:Bool)(x y:Value):Option Value :=
 match x,y with
 | .int _ _,.int _ _=>Qep (binOp op t x y)
 | .string _,.string _=>Qep (binOp op t x y)
 | .nilIface,.nilIface=>if k then Y1s E op t x y else none
 | _,_=>Y1s E op t x y
theorem Y9u(E:Env P){G:Bs}(H:HRel G α h w){op:BinOp}{t:TypeId}{ox oy:Operand}{x y v:Value}
  (hg:(eqGuard op t ox oy (ren α x) (ren α y)).run P w=.ok () w)
  (h1:binOp .eql t (ren α x) (ren α y)=(do pure (.bool (<- Op.equal t (ren α x) (ren α y)))))
  (h2:binOp .neq t (ren α x) (ren α y)=(do pure (.bool (!(<- Op.equal t (ren α x) (ren α y))))))
  (hv:Y1s E op t x y=some v):Gives P G α h w (do eqGuard op t ox oy (ren α x) (ren α y);binOp op t (ren α x) (ren α y)) v h:=by
 cases op <;> simp only[Y1s]at hv <;> first
  | cases hv;done
  | skip
 ·rw[Option.map_eq_some_iff]at hv
  obtain⟨b,hb,rfl⟩:=hv
  refine Gives.flat H rfl ?_
  simp only[Sem.run_bind,hg,Result.andThen_ok,h1,Zpx E hb,Sem.run_pure]
 ·rw[Option.map_eq_some_iff]at hv
  obtain⟨b,hb,rfl⟩:=hv
  refine Gives.flat H rfl ?_
  simp only[Sem.run_bind,hg,Result.andThen_ok,h2,Zpx E hb,Sem.run_pure]
theorem Y39{E:Env P}{op:BinOp}{t:TypeId}{x y v:Value}(hv:Y1s E op t x y=some v):∃ b,aEq E t x y=some b:=by
 cases op <;> simp only[Y1s]at hv <;> first
  | cases hv;done
  | (rw[Option.map_eq_some_iff]at hv;obtain⟨b,hb,_⟩:=hv;exact⟨b,hb⟩)
theorem Zqo (E : Env P) {G : Bs} (H : HRel G α h w) {op : BinOp} {t : TypeId} {ox oy : Operand} {x y v : Value} (hv : Zu E op t (Q6 ox || Q6 oy) x y = some v) :
    Gives P G α h w (do eqGuard op t ox oy (ren α x) (ren α y); binOp op t (ren α x) (ren α y)) v h := by
  have hscal : (eqGuard op t ox oy (ren α x) (ren α y)).run P w = .ok () w -> ren α x = x -> ren α y = y -> Qep (binOp op t x y) = some v ->
      Gives P G α h w (do eqGuard op t ox oy (ren α x) (ren α y); binOp op t (ren α x) (ren α y)) v h := by
    intro hg e1 e2 hp
    obtain ⟨hf, hr⟩ := Yf6 (P := P) hp
    refine Gives.flat H hf ?_
    simp only [Sem.run_bind,hg,Result.andThen_ok]
    rw [e1, e2]
    exact hr w
  cases x <;> cases y <;> simp only [Zu] at hv <;> first
    | (refine hscal ?_ (by simp) (by simp) hv; cases op <;> simp [eqGuard]; done)
    | (obtain ⟨b, hb⟩ := Y39 hv
       unfold aEq at hb
       cases hr : E.ty.get t with
       | none => simp [hr] at hb
       | some r =>
         simp only [hr] at hb
         cases hd : r.desc <;> simp [hd] at hb; done)
    | (refine Y9u E H ?_ ?_ ?_ hv
       · simp only [ren,eqGuard]; cases op <;> simp; done
       · simp only [ren]; rfl
       · simp only [ren]; rfl)
    | skip
  ·
    split at hv
    · rename_i hk
      refine Y9u E H ?_ rfl rfl hv
      simp only [Q6,Bool.or_eq_true] at hk
      simp only [ren,eqGuard]
      rcases hk with hk | hk
      · cases ox <;> simp at hk; cases op <;> simp
      · cases oy <;> simp at hk; cases op <;> simp
    · cases hv
  ·
    rename_i xs ys
    obtain ⟨b, hb⟩ := Y39 hv
    have hne : ∃ r, E.ty.get t = some r /\ r.leaf ≠ [] := by
      unfold aEq at hb
      cases hr : E.ty.get t with
      | none => simp [hr] at hb
      | some r =>
        simp only [hr] at hb
        refine ⟨r, rfl, fun h0 => ?_⟩
        cases hd : r.desc <;> simp [hd,h0] at hb
    obtain ⟨r, hr, hl⟩ := hne
    obtain ⟨_, _, _, _, _, _, _, _, _, hq⟩ := E.tyok t r hr
    refine Y9u E H ?_ ?_ ?_ hv
    · rw [ren_agg, ren_agg]; exact run_eqGuard_agg w op t ox oy _ _ (hq hl).1
    · rw [ren_agg, ren_agg]; rfl
    · rw [ren_agg, ren_agg]; rfl
end
end Go.Ab
