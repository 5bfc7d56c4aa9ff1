import Derived.WalkKit
import Derived.OrdersIn
import Derived.DefersIn
import Derived.Laws.StructEq
import Derived.ChangeKeysEq
set_option linter.all false
noncomputable section
namespace Go
theorem kR{A:Sort _}{a b:A}(h:a=b:=by kernel_rfl):a=b:=h
abbrev zU:Value:=.int .u8 0
end Go
namespace Go.Ab
abbrev ab:=@List.getElem?_eq_getElem
abbrev ac:=@List.mem_append
abbrev ae:=@Nat.le_refl
abbrev ai:=@Result.andThen_ok
abbrev aj:=@List.length_append
abbrev ak:=@List.mem_of_getElem?
abbrev al:=@Nat.le_trans
abbrev am:=@Option.map_eq_some_iff
abbrev ao:=@List.mem_map
abbrev aq:=@Bool.and_eq_true
abbrev ar:=@Sem.run_bind
abbrev au:=@List.getElem?_eq_some_iff
abbrev av:=@Option.some.injEq
abbrev aw:=@List.mem_singleton
abbrev ax:=@List.mem_cons
abbrev az:=@Nat.lt_of_lt_of_le
abbrev aJ:=@List.take_of_length_le
abbrev aK:=@Option.map_some
abbrev aL:=@Bool.false_eq_true
abbrev aM:=@List.getElem?_append_left
abbrev aN:=@Option.isSome_iff_exists
abbrev aQ:=@Sem.run_pure
abbrev aR:=@List.map_cons
abbrev aS:=@List.getElem?_append_right
abbrev aT:=@List.length_map
abbrev aU:=@List.eq_nil_of_length_eq_zero
abbrev aY:=@Nat.eq_of_beq_eq_true
abbrev ba:=@List.append_assoc
abbrev bb:=@List.mem_cons_of_mem
abbrev bc:=@List.map_append
abbrev bf:=@List.getElem?_map
abbrev bg:=@Nat.lt_or_ge
abbrev bh:=@List.length_singleton
abbrev bm:=@List.getElem?_eq_none
abbrev bn:=@List.take_succ
abbrev bo:=@Int.toNat_natCast
abbrev bu:=@Array.getElem?_eq_getElem
abbrev bz:=@Nat.zero_le
abbrev bA:=@List.take_append_drop
abbrev bB:=@Array.getD_eq_getD_getElem?
abbrev bD:=@List.take_append_of_le_length
abbrev bE:=@Option.some.inj
abbrev bF:=@List.drop_eq_getElem_cons
abbrev bG:=@List.length_take
abbrev bH:=@List.length_cons
abbrev bI:=@Array.toList_map
abbrev bJ:=@List.take_length
abbrev bK:=@List.length_drop
abbrev bL:=@Nat.le_succ
abbrev bM:=@List.map_congr_left
abbrev bN:=@Prod.mk.injEq
abbrev bO:=@Nat.zero_add
abbrev bQ:=@Array.getElem?_modify
abbrev bR:=@List.mem_cons_self
abbrev bS:=@Array.getElem?_setIfInBounds
abbrev bU:=@Array.ext'
abbrev bV:=@Nat.lt_succ_self
abbrev bW:=@Nat.lt_succ_of_lt
abbrev bX:=@List.drop_zero
abbrev bY:=@List.getElem?_cons_succ
abbrev bZ:=@Array.getElem?_eq_none
abbrev ca:=@List.map_map
abbrev cd:=@Bool.or_eq_true
abbrev ce:=@Bool.eq_false_iff
abbrev cf:=@Nat.add_mul
abbrev cg:=@Nat.add_zero
abbrev cj:=@Array.getElem?_map
abbrev ck:=@Array.mem_of_getElem?
abbrev cm:=@Nat.mul_le_mul_right
abbrev cr:=@List.mem_filterMap
abbrev ct:=@Array.ext_getElem?
abbrev cu:=@List.cons.injEq
abbrev cx:=@Bool.not_true
abbrev cy:=@List.drop_left
abbrev cz:=@List.drop_eq_nil_of_le
abbrev cB:=@List.drop_drop
abbrev cD:=@Bool.not_eq_true'
abbrev cE:=@Array.getElem?_eq_some_iff
abbrev cF:=@Classical.byContradiction
abbrev cG:=@List.set_append_right
abbrev cH:=@Nat.ble_eq
abbrev cJ:=@List.mem_flatMap
abbrev cK:=@List.getElem?_of_mem
abbrev cL:=@List.drop_of_length_le
abbrev cM:=@Nat.add_assoc
abbrev cN:=@List.getElem?_drop
abbrev cP:=@Array.getElem?_append_left
abbrev cQ:=@List.mem_of_mem_head?
abbrev cR:=@List.eq_nil_or_concat
abbrev cS:=@List.concat_eq_append
abbrev cU:=@Option.map_none
abbrev cX:=@List.length_nil
abbrev cY:=@List.any_eq_false
abbrev cZ:=@List.replicate_succ
abbrev d4:=@List.not_mem_nil
abbrev d5:=@List.length_eq_zero_iff
abbrev d6:=@List.getElem?_cons_zero
abbrev d7:=@Nat.ne_of_beq_eq_false
abbrev d8:=@Nat.le_of_ble_eq_true
abbrev d9:=@Function.comp_def
abbrev da:=@Nat.mul_one
abbrev dc:=@List.mem_of_mem_take
abbrev de:=@Int.fdiv_eq_ediv_of_nonneg
abbrev df:=@List.map_nil
abbrev dh:=@List.all_eq_true
abbrev di:=@Int.toNat_of_nonneg
abbrev dj:=@List.append_nil
abbrev dm:=@Nat.mul_div_cancel_left
abbrev dn:=@List.mem_singleton_self
abbrev dq:=@Nat.sub_zero
abbrev du:=@Nat.le_succ_of_le
abbrev dw:=@Bool.not_false
abbrev dx:=@Nat.mod_eq_of_lt
abbrev dy:=@List.getElem_mem
abbrev dz:=@List.drop_length
abbrev dA:=@Int.mul_le_mul_of_nonneg_right
abbrev dC:=@Bool.true_and
abbrev dD:=@Sem.run_ite
abbrev dE:=@List.range_eq_range'
abbrev dF:=@Array.mem_toList_iff
abbrev dG:=@Array.map_congr_left
abbrev dH:=@List.nodup_cons
abbrev dI:=@List.mem_filter
abbrev dJ:=@Nat.mul_comm
abbrev dK:=@Nat.lt_of_le_of_lt
abbrev dL:=@Nat.blt_eq
abbrev dM:=@List.nodup_append
abbrev dN:=@List.ext_getElem?
abbrev dO:=@Bool.not_eq_false
abbrev dP:=@List.getElem?_take_of_lt
abbrev dQ:=@Nat.add_sub_cancel_left
structure Place where
 blk:Nat
 base:Nat
 room:Nat
 sz:Nat
 spot:Option Nat
 deriving Inhabited
abbrev Ren:=Nat->Option Place
def Qm5:Nat:=9223372036854775808
def Uo(Y:Ren)(b:Nat):Nat:=match Y b with | some p=>p.blk | none=>b
def Uu(Y:Ren)(a:Addr):Addr:=match Y a.block with | some p=>{block:=p.blk,off:=p.base+a.off,spot:=if a.off=0 then p.spot else none} | none=>a
def Xdb(Y:Ren)(a:Option Addr)(c:Nat):Nat :=
 if c=Qm5 then(match a with | some a=>(match Y a.block with | some p=>p.room-a.off / p.sz | none=>c) | none=>c)else c
def Yg8(Y:Ren):Fn->Fn
 | .yield l => .yield (Uo Y l)
 | f=>f
mutual
def ren(Y:Ren):Value->Value
 | .pointer a => .pointer (a.map (Uu Y))
 | .slice a n c => .slice (a.map (Uu Y)) n (Xdb Y a c)
 | .map r => .map (r.map (Uo Y))
 | .chan r => .chan (r.map (Uo Y))
 | .func fn f c => .func (Yg8 Y fn) (renA Y f) (renA Y c)
 | .iface t v => .iface t (ren Y v)
 | .agg cs => .agg (renA Y cs)
 | .tuple cs => .tuple (renA Y cs)
 | .bool b => .bool b
 | .int k n => .int k n
 | .float k b => .float k b
 | .complex k a b => .complex k a b
 | .string s => .string s
 | .nilFunc => .nilFunc
 | .nilIface => .nilIface
def renA(Y:Ren):Array Value->Array Value
 | ⟨l⟩=>⟨renL Y l⟩
def renL(Y:Ren):List Value->List Value
 | []=>[]
 | v::l=>ren Y v::renL Y l
end
def Z0m(Y:Ren)(l:List Value):renL Y l=l.map (ren Y):=by
 induction l with
 | nil=>simp[renL]
 | cons v l ih=>simp[renL,ih]
def Qsk(Y:Ren)(l:Array Value):renA Y l=l.map (ren Y):=by
 cases l;simp[renA,Z0m]
mutual
def okV(D:Nat->Prop):Value->Prop
 | .pointer (some a)=>D a.block/\a.spot=none
 | .slice (some a) _ _=>D a.block/\a.spot=none
 | .slice none _ c=>c≠Qm5
 | .map (some r)=>D r
 | .chan (some _)=>False
 | .func (.yield l) f c=>D l/\okA D f/\okA D c
 | .func _ f c=>okA D f/\okA D c
 | .iface _ v=>okV D v
 | .agg cs=>okA D cs/\cs.toList.all (·.oneCell')=true
 | .tuple cs=>okA D cs
 | _=>True
def okA(D:Nat->Prop):Array Value->Prop
 | ⟨l⟩=>okL D l
def okL(D:Nat->Prop):List Value->Prop
 | []=>True
 | v::l=>okV D v/\okL D l
end
def Z3p(D:Nat->Prop)(l:List Value):okL D l ↔ ∀ v ∈ l,okV D v:=by
 induction l with
 | nil=>simp[okL]
 | cons v l ih=>simp[okL,ih]
def Q6u(D:Nat->Prop)(l:Array Value):okA D l ↔ ∀ v ∈ l,okV D v:=by
 cases l;simp[okA,Z3p]
mutual
def okV_mono{D E:Nat->Prop}(h:∀ b,D b->E b):(v:Value)->okV D v->okV E v
 | .pointer (some a),hv=>by simp only[okV]at hv ⊢;exact⟨h _ hv.1,hv.2⟩
 | .pointer none,_=>by simp[okV]
 | .slice (some a) _ _,hv=>by simp only[okV]at hv ⊢;exact⟨h _ hv.1,hv.2⟩
 | .slice none _ _,hv=>by simpa only[okV]using hv
 | .map (some r),hv=>by simp only[okV]at hv ⊢;exact h _ hv
 | .map none,_=>by simp[okV]
 | .chan (some _),hv=>by simp[okV]at hv
 | .chan none,_=>by simp[okV]
 | .func fn f c,hv=>by
  cases fn <;> simp only[okV]at hv ⊢ <;>
   first
    | exact⟨okA_mono h f hv.1,okA_mono h c hv.2⟩
    | exact⟨h _ hv.1,okA_mono h f hv.2.1,okA_mono h c hv.2.2⟩
 | .iface _ v,hv=>by simp only[okV]at hv ⊢;exact okV_mono h v hv
 | .agg cs,hv=>by simp only[okV]at hv ⊢;exact⟨okA_mono h cs hv.1,hv.2⟩
 | .tuple cs,hv=>by simp only[okV]at hv ⊢;exact okA_mono h cs hv
 | .bool _,_=>by simp[okV]
 | .int _ _,_=>by simp[okV]
 | .float _ _,_=>by simp[okV]
 | .complex _ _ _,_=>by simp[okV]
 | .string _,_=>by simp[okV]
 | .nilFunc,_=>by simp[okV]
 | .nilIface,_=>by simp[okV]
def okA_mono{D E:Nat->Prop}(h:∀ b,D b->E b):(v:Array Value)->okA D v->okA E v
 | ⟨l⟩,hv=>by simp only[okA]at hv ⊢;exact okL_mono h l hv
def okL_mono{D E:Nat->Prop}(h:∀ b,D b->E b):(v:List Value)->okL D v->okL E v
 | [],_=>by simp[okL]
 | v::l,hv=>by simp only[okL]at hv ⊢;exact⟨okV_mono h v hv.1,okL_mono h l hv.2⟩
end
def Qbr{Y β:Ren}{b:Nat}(h:β b=Y b):Uo β b=Uo Y b:=by simp[Uo,h]
def Ycn{Y β:Ren}{a:Addr}(h:β a.block=Y a.block):Uu β a=Uu Y a:=by simp[Uu,h]
mutual
def ren_congr{Y β:Ren}{D:Nat->Prop}(h:∀ b,D b->β b=Y b):(v:Value)->okV D v->ren β v=ren Y v
 | .pointer (some a),hv=>by simp only[okV]at hv;simp[ren,Ycn (h _ hv.1)]
 | .pointer none,_=>by simp[ren]
 | .slice (some a) _ _,hv=>by simp only[okV]at hv;simp[ren,Ycn (h _ hv.1),Xdb,h _ hv.1]
 | .slice none _ _,_=>by simp[ren,Xdb]
 | .map (some r),hv=>by simp only[okV]at hv;simp[ren,Qbr (h _ hv)]
 | .map none,_=>by simp[ren]
 | .chan (some _),hv=>by simp[okV]at hv
 | .chan none,_=>by simp[ren]
 | .func fn f c,hv=>by
  cases fn <;> simp only[okV]at hv <;>
   first
    | simp only[ren,Yg8,renA_congr h f hv.1,renA_congr h c hv.2]
    | simp only[ren,Yg8,Qbr (h _ hv.1),renA_congr h f hv.2.1,renA_congr h c hv.2.2]
 | .iface _ v,hv=>by simp only[okV]at hv;simp[ren,ren_congr h v hv]
 | .agg cs,hv=>by simp only[okV]at hv;simp[ren,renA_congr h cs hv.1]
 | .tuple cs,hv=>by simp only[okV]at hv;simp[ren,renA_congr h cs hv]
 | .bool _,_=>by simp[ren]
 | .int _ _,_=>by simp[ren]
 | .float _ _,_=>by simp[ren]
 | .complex _ _ _,_=>by simp[ren]
 | .string _,_=>by simp[ren]
 | .nilFunc,_=>by simp[ren]
 | .nilIface,_=>by simp[ren]
def renA_congr{Y β:Ren}{D:Nat->Prop}(h:∀ b,D b->β b=Y b):(v:Array Value)->okA D v->renA β v=renA Y v
 | ⟨l⟩,hv=>by simp only[okA]at hv;simp[renA,renL_congr h l hv]
def renL_congr{Y β:Ren}{D:Nat->Prop}(h:∀ b,D b->β b=Y b):(v:List Value)->okL D v->renL β v=renL Y v
 | [],_=>by simp[renL]
 | v::l,hv=>by simp only[okL]at hv;simp[renL,ren_congr h v hv.1,renL_congr h l hv.2]
end
mutual
def flat:Value->Bool
 | .pointer (some _)=>false
 | .slice (some _) _ _=>false
 | .slice none _ c => !(c == Qm5)
 | .map (some _)=>false
 | .chan (some _)=>false
 | .func (.yield _) _ _=>false
 | .func _ f c=>flatA f && flatA c
 | .iface _ v=>flat v
 | .agg cs=>flatA cs && cs.toList.all (·.oneCell')
 | .tuple cs=>flatA cs
 | _=>true
def flatA:Array Value->Bool
 | ⟨l⟩=>flatL l
def flatL:List Value->Bool
 | []=>true
 | v::l=>flat v && flatL l
end
mutual
def flat_ok(D:Nat->Prop):(v:Value)->flat v=true->okV D v
 | .pointer (some a),hv=>by simp[flat]at hv
 | .pointer none,_=>by simp[okV]
 | .slice (some a) _ _,hv=>by simp[flat]at hv
 | .slice none _ _,hv=>by simpa[flat,okV]using hv
 | .map (some r),hv=>by simp[flat]at hv
 | .map none,_=>by simp[okV]
 | .chan (some _),hv=>by simp[flat]at hv
 | .chan none,_=>by simp[okV]
 | .func fn f c,hv=>by
  cases fn <;> simp only[flat,aq]at hv <;>
   first
    | (simp only[okV];exact⟨flatA_ok D f hv.1,flatA_ok D c hv.2⟩)
    | exact absurd hv (by simp)
 | .iface _ v,hv=>by simp only[flat]at hv;simp only[okV];exact flat_ok D v hv
 | .agg cs,hv=>by simp only[flat,aq]at hv;simp only[okV];exact⟨flatA_ok D cs hv.1,hv.2⟩
 | .tuple cs,hv=>by simp only[flat]at hv;simp only[okV];exact flatA_ok D cs hv
 | .bool _,_=>by simp[okV]
 | .int _ _,_=>by simp[okV]
 | .float _ _,_=>by simp[okV]
 | .complex _ _ _,_=>by simp[okV]
 | .string _,_=>by simp[okV]
 | .nilFunc,_=>by simp[okV]
 | .nilIface,_=>by simp[okV]
def flatA_ok(D:Nat->Prop):(v:Array Value)->flatA v=true->okA D v
 | ⟨l⟩,hv=>by simp only[flatA]at hv;simp only[okA];exact flatL_ok D l hv
def flatL_ok(D:Nat->Prop):(v:List Value)->flatL v=true->okL D v
 | [],_=>by simp[okL]
 | v::l,hv=>by simp only[flatL,aq]at hv;simp only[okL];exact⟨flat_ok D v hv.1,flatL_ok D l hv.2⟩
end
mutual
def ren_none:(v:Value)->ren (fun _=>none) v=v
 | .pointer (some a)=>by simp[ren,Uu]
 | .pointer none=>by simp[ren]
 | .slice (some a) _ _=>by simp[ren,Uu,Xdb]
 | .slice none _ _=>by simp[ren,Xdb]
 | .map (some r)=>by simp[ren,Uo]
 | .map none=>by simp[ren]
 | .chan (some r)=>by simp[ren,Uo]
 | .chan none=>by simp[ren]
 | .func fn f c=>by cases fn <;> simp[ren,Yg8,Uo,renA_none f,renA_none c]
 | .iface _ v=>by simp[ren,ren_none v]
 | .agg cs=>by simp[ren,renA_none cs]
 | .tuple cs=>by simp[ren,renA_none cs]
 | .bool _=>by simp[ren]
 | .int _ _=>by simp[ren]
 | .float _ _=>by simp[ren]
 | .complex _ _ _=>by simp[ren]
 | .string _=>by simp[ren]
 | .nilFunc=>by simp[ren]
 | .nilIface=>by simp[ren]
def renA_none:(v:Array Value)->renA (fun _=>none) v=v
 | ⟨l⟩=>by simp[renA,renL_none l]
def renL_none:(v:List Value)->renL (fun _=>none) v=v
 | []=>by simp[renL]
 | v::l=>by simp[renL,ren_none v,renL_none l]
end
def Qgx(Y:Ren){v:Value}(h:flat v=true):ren Y v=v:=by
 have h1:=ren_congr (Y:=fun _=>none) (β:=Y) (D:=fun _=>False) (fun _ hb=>hb.elim) v (flat_ok _ v h);rw[h1,ren_none]
@[simp] def ren_int (Y:Ren) (k:IntKind) (n:Int):ren Y (.int k n)=.int k n:=by simp[ren]
@[simp] def ren_bool (Y:Ren) (b:Bool):ren Y (.bool b)=.bool b:=by simp[ren]
@[simp] def ren_string (Y:Ren) (b:ByteArray):ren Y (.string b)=.string b:=by simp[ren]
@[simp] def ren_nilIface (Y:Ren):ren Y .nilIface=.nilIface:=by simp[ren]
@[simp] def ren_agg (Y:Ren) (c:Array Value):ren Y (.agg c)=.agg (c.map (ren Y)):=by simp[ren,Qsk]
@[simp] def ren_tuple (Y:Ren) (c:Array Value):ren Y (.tuple c)=.tuple (c.map (ren Y)):=by simp[ren,Qsk]
@[simp] def ren_iface (Y:Ren) (t:TypeId) (v:Value):ren Y (.iface t v)=.iface t (ren Y v):=by simp[ren]
def Yts(Y:Ren)(v:Value):(ren Y v).cells=v.cells.map (ren Y):=by
 cases v <;> simp[ren,Value.cells,Qsk]
def Ysg(Y:Ren)(v:Value):(ren Y v).oneCell'=v.oneCell':=by
 cases v <;> simp[ren,Value.oneCell']
def Zrk(D:Nat->Prop)(c:Array Value):okV D (.agg c) ↔ ∀ v ∈ c,okV D v/\v.oneCell'=true:=by
 simp only[okV,Q6u,dh,dF];exact⟨fun h v hv=>⟨h.1 v hv,h.2 v hv⟩,fun h=>⟨fun v hv=>(h v hv).1,fun v hv=>(h v hv).2⟩⟩
def Q12(D:Nat->Prop)(c:Array Value):okV D (.tuple c) ↔ ∀ v ∈ c,okV D v:=by simp only[okV,Q6u]
def Qh6:Value->Bool
 | .tuple _=>false
 | _=>true
def Ydl(D:Nat->Prop)(v:Value)(h:okV D v)(ht:Qh6 v=true):∀ c ∈ v.cells,okV D c/\c.oneCell'=true:=by
 cases v <;> simp only[Value.cells] <;>
  first
   | exact(Zrk D _).1 h
   | (intro c hc;simp only[List.mem_toArray,aw]at hc;subst hc;exact⟨h,rfl⟩)
   | simp[Qh6]at ht
def Xgc(D:Nat->Prop)(l:List Value)(h:∀ c ∈ l,okV D c/\c.oneCell'=true):okV D (.agg l.toArray):=(Zrk D _).2 (by simpa using h)
inductive Tr (A:Type) where
 | leaf
 | node (v:Option A) (l r:Tr A)
namespace Tr
def get{A:Type}(t:Tr A):Nat->Option A :=
 Tr.rec (motive:=fun _=>Nat->Option A) (fun _=>none)
  (fun v _ _ gl gr n=>Nat.rec (motive:=fun _=>Option A) v (fun m _=>Bool.rec (motive:=fun _=>Option A) (gr (Nat.div m 2)) (gl (Nat.div m 2)) (Nat.beq (Nat.mod m 2) 0)) n) t
def one{A:Type}(x:Option A)(f:Nat):Nat->Tr A :=
 Nat.rec (motive:=fun _=>Nat->Tr A) (fun _=>leaf)
  (fun _ g n=>Nat.rec (motive:=fun _=>Tr A) (node x leaf leaf) (fun m _=>Bool.rec (motive:=fun _=>Tr A) (node none leaf (g (Nat.div m 2))) (node none (g (Nat.div m 2)) leaf) (Nat.beq (Nat.mod m 2) 0)) n) f
def put{A:Type}(t:Tr A)(n:Nat)(x:Option A):Tr A :=
 Tr.rec (motive:=fun _=>Nat->Tr A) (fun n=>one x (Nat.succ n) n)
  (fun v l r pl pr n=>Nat.rec (motive:=fun _=>Tr A) (node x l r) (fun m _=>Bool.rec (motive:=fun _=>Tr A) (node v l (pr (Nat.div m 2))) (node v (pl (Nat.div m 2)) r) (Nat.beq (Nat.mod m 2) 0)) n) t n
@[simp] def get_leaf {A:Type} (n:Nat):(leaf:Tr A).get n=none:=rfl
def Yr9{A:Type}(v:Option A)(l r:Tr A):(node v l r).get 0=v:=rfl
def Xn4{A:Type}(v:Option A)(l r:Tr A)(n:Nat):(node v l r).get (n+1)=if n % 2=0 then l.get (n / 2)else r.get (n / 2):=by
 have h:(node v l r).get (n+1)=Bool.rec (motive:=fun _=>Option A) (r.get (n / 2)) (l.get (n / 2)) (Nat.beq (n % 2) 0):=rfl;rw[h];cases hb:Nat.beq (n % 2) 0 with
 | true=>rw[if_pos (aY hb)]
 | false=>rw[if_neg (d7 hb)]
def Zdz{A:Type}(x:Option A)(f:Nat):one x (f+1) 0=node x leaf leaf:=rfl
def Zgl{A:Type}(x:Option A)(f n:Nat):one x (f+1) (n+1)=if n % 2=0 then node none (one x f (n / 2)) leaf else node none leaf (one x f (n / 2)):=by
 have h:one x (f+1) (n+1)=Bool.rec (motive:=fun _=>Tr A) (node none leaf (one x f (n / 2))) (node none (one x f (n / 2)) leaf) (Nat.beq (n % 2) 0):=rfl;rw[h];cases hb:Nat.beq (n % 2) 0 with
 | true=>rw[if_pos (aY hb)]
 | false=>rw[if_neg (d7 hb)]
def Zud{A:Type}(x:Option A):∀ (f n m:Nat),n < f->(one x f n).get m=if n=m then x else none
 | 0,n,m,h=>by omega
 | f+1,0,m,_=>by
  rw[Zdz];cases m with
  | zero=>simp[Yr9]
  | succ m=>rw[Xn4];simp
 | f+1,n+1,m,h=>by
  rw[Zgl];have hn:n / 2 < f:=by omega
  cases m with
  | zero=>split <;> simp[Yr9]
  | succ m =>
   split
   ·rename_i h0;rw[Xn4];split
    ·rename_i h1;rw[Zud x f _ _ hn];by_cases e:n=m
     ·subst e;simp
     ·rw[if_neg (by omega),if_neg (by omega)]
    ·rw[if_neg (by omega)];rfl
   ·rename_i h0;rw[Xn4];split
    ·rw[if_neg (by omega)];rfl
    ·rename_i h1;rw[Zud x f _ _ hn];by_cases e:n=m
     ·subst e;simp
     ·rw[if_neg (by omega),if_neg (by omega)]
def Zbb{A:Type}(n:Nat)(x:Option A):(leaf:Tr A).put n x=one x (n+1) n:=rfl
def Yf2{A:Type}(v:Option A)(l r:Tr A)(x:Option A):(node v l r).put 0 x=node x l r:=rfl
def Xgk{A:Type}(v:Option A)(l r:Tr A)(n:Nat)(x:Option A):(node v l r).put (n+1) x=if n % 2=0 then node v (l.put (n / 2) x) r else node v l (r.put (n / 2) x):=by
 have h:(node v l r).put (n+1) x=Bool.rec (motive:=fun _=>Tr A) (node v l (r.put (n / 2) x)) (node v (l.put (n / 2) x) r) (Nat.beq (n % 2) 0):=rfl;rw[h];cases hb:Nat.beq (n % 2) 0 with
 | true=>rw[if_pos (aY hb)]
 | false=>rw[if_neg (d7 hb)]
def get_put{A:Type}:∀ (t:Tr A) (n m:Nat) (x:Option A),(t.put n x).get m=if n=m then x else t.get m
 | leaf,n,m,x=>by rw[Zbb,Zud _ _ _ _ (bV n)];rfl
 | node v l r,0,m,x=>by
  rw[Yf2];cases m with
  | zero=>simp[Yr9]
  | succ m=>simp[Xn4]
 | node v l r,n+1,0,x=>by
  rw[Xgk];split <;> simp[Yr9]
 | node v l r,n+1,m+1,x=>by
  rw[Xgk,Xn4 v l r m];split
  ·rename_i h0;rw[Xn4];split
   ·rw[get_put l];by_cases e:n=m
    ·subst e;simp
    ·rw[if_neg (by omega),if_neg (by omega)]
   ·rw[if_neg (by omega)]
  ·rename_i h0;rw[Xn4];split
   ·rw[if_neg (by omega)]
   ·rw[get_put r];by_cases e:n=m
    ·subst e;simp
    ·rw[if_neg (by omega),if_neg (by omega)]
def Zrw{A:Type}(x y:Option A):∀ (f n:Nat),n < f->(one x f n).put n y=one y f n
 | 0,n,h=>by omega
 | f+1,0,_=>by rw[Zdz,Zdz,Yf2]
 | f+1,n+1,h=>by
  have hn:n / 2 < f:=by omega
  rw[Zgl,Zgl];by_cases h0:n % 2=0
  ·rw[if_pos h0,if_pos h0,Xgk,if_pos h0,Zrw x y f _ hn]
  ·rw[if_neg h0,if_neg h0,Xgk,if_neg h0,Zrw x y f _ hn]
def put_put{A:Type}:∀ (t:Tr A) (n:Nat) (x y:Option A),(t.put n x).put n y=t.put n y
 | leaf,n,x,y=>by rw[Zbb,Zbb,Zrw _ _ _ _ (bV n)]
 | node v l r,0,x,y=>by rw[Yf2,Yf2,Yf2]
 | node v l r,n+1,x,y=>by
  rw[Xgk,Xgk];by_cases h0:n % 2=0
  ·rw[if_pos h0,if_pos h0,Xgk,if_pos h0,put_put l]
  ·rw[if_neg h0,if_neg h0,Xgk,if_neg h0,put_put r]
end Tr
structure Tm where
 size:Nat
 t:Tr Value
def Tm.put(t:Tm)(i:Nat)(v:Value):Tm:=match t with | ⟨n,t⟩=>⟨n,t.put i (some v)⟩
inductive AObj where
 | loop (st:LoopState) (pend:Option Code) (t:Tm) (params:Array Tmp) (assign body:Code) (defers:Nat)
 | defs
 | strIter (s:ByteArray) (pos:Nat)
 | mapIter (m:Option Nat) (since:Nat) (seen:Array Nat) (last:Nat)
 | any
inductive Blk where
 | cells (own:Bool) (sz:Nat) (c:List Value)
 | map (es:Array MapEntry) (clk:Nat)
 | obj (o:AObj)
instance : Inhabited Blk:=⟨.cells true 0 []⟩
structure Heap where
 next:Nat
 low:Nat
 t:Tr Blk
def Blk.own:Blk->Bool
 | .cells o _ _=>o
 | _=>true
def Blk.solid:Blk->Bool
 | .cells false _ []=>false
 | _=>true
def dT{x:Blk}(h:x.own=true):x.solid=true:=by
 cases x with
 | cells o s c=>cases o <;> simp[Blk.own]at h;rfl
 | map _ _=>rfl
 | obj _=>rfl
namespace Heap
def get(h:Heap)(b:Nat):Option Blk:=if b < h.next then h.t.get b else none
def set(h:Heap)(b:Nat)(x:Option Blk):Heap:={next:=h.next,low:=min h.low b,t:=h.t.put b x}
def push(h:Heap)(x:Blk):Heap:={next:=h.next+1,low:=h.low,t:=h.t.put h.next (some x)}
def get_set(h:Heap)(b c:Nat)(x:Option Blk)(hb:b < h.next):(h.set b x).get c=if b=c then x else h.get c:=by
 simp only[get,set];rw[Tr.get_put];by_cases e:b=c
 ·subst e;simp[hb]
 ·simp[e]
def get_push(h:Heap)(c:Nat)(x:Blk):(h.push x).get c=if h.next=c then some x else h.get c:=by
 simp only[get,push];rw[Tr.get_put];by_cases e:h.next=c
 ·subst e;simp
 ·simp only[e,if_false];by_cases h2:c < h.next
  ·simp[h2,bW h2]
  ·have : ¬ c < h.next+1:=by omega
   simp[h2,this]
def get_none{h:Heap}{b:Nat}(hb:h.next<=b):h.get b=none:=by
 unfold get;rw[if_neg (by omega)]
def get_lt{h:Heap}{b:Nat}{x:Blk}(hb:h.get b=some x):b < h.next:=by
 unfold get at hb;split at hb
 ·assumption
 ·cases hb
def own(h:Heap)(b:Nat):Bool:=match h.get b with | some x=>x.own | none=>false
def live(h:Heap)(b:Nat):Bool:=match h.get b with | some x=>x.solid | none=>false
end Heap
abbrev gY{h:Heap}{b c:Nat}{x:Option Blk}:=Heap.get_set h b c x
def Qru(Y:Ren)(e:MapEntry):MapEntry:={key:=ren Y e.key,val:=ren Y e.val,born:=e.born}
def Qvs(Y:Ren):Deferred->Deferred
 | {target:=.fn f c,args}=>{target:=.fn (Yg8 Y f) (renA Y c),args:=renA Y args}
 | {target:=.collected r,args}=>{target:=.collected (Uo Y r),args:=renA Y args}
 | {target,args}=>{target,args:=renA Y args}
def Yc9(D:Nat->Prop):Deferred->Prop
 | {target:=.fn f c,args}=>okV D (.func f #[] c)/\okA D args
 | {target:=.collected r,args}=>D r/\okA D args
 | {target:=.nil,args}=>okA D args
 | {target:=.builtin ..,args}=>okA D args
 | {target:=.coroexit _,.. }=>False
abbrev dom(Y:Ren):Nat->Prop:=fun b=>(Y b).isSome=true
structure TRel (Y:Ren) (t:Tm) (tmps:Array Value):Prop where
 size:tmps.size=t.size
 vals:∀ i v,t.t.get i=some v->okV (Go.Ab.dom Y) v/\tmps[i]? = some (ren Y v)
def Z8s(D:Nat->Prop):AObj->Prop
 | .loop _ _ t _ _ _ d=>(∀ i v,t.t.get i=some v->okV D v)/\D d
 | .mapIter m _ _ _ => ∀ b,m=some b->D b
 | _=>True
def FitObj(Y:Ren)(o:Obj):AObj->Prop
 | .loop st pend t ps as bd d=>dom Y d/\∃ fn tmps,o=.loop {state:=st,pending:=pend,fn,tmps,params:=ps,assign:=as,body:=bd,defers:=Uo Y d}/\TRel Y t tmps
 | .defs=>o=.deferred (some [])
 | .strIter s k=>o=.stringIter s k
 | .mapIter m since seen last=>(∀ b,m=some b->dom Y b)/\o=.mapIter (m.map (Uo Y)) since seen last
 | .any=>True
def Thawed(n lo hi:Nat):Prop:=lo=hi∨n<=lo
def Thawed.not{n lo hi:Nat}(h:Thawed n lo hi):∀ i,i < n->¬ (lo<=i/\i < hi):=by
 intro i hi h2;rcases h with h | h <;> omega
def Fits(Y:Ren)(p:Place)(w:World):Blk->Prop
 | .cells own sz c=>p.sz=sz/\((own=false/\c=[]) ∨ ∃ C e lo hi,w.heap[p.blk]? = some (.cells C e (lo,hi))/\(∀ i v,c[i]? = some v->C[p.base+i]? = some (ren Y v)/\okV (dom Y) v/\v.oneCell'=true) /\
   (own=true->p.base=0/\Thawed C.size lo hi/\C.size=p.room*p.sz))
 | .map es clk=>p.base=0/\w.heap[p.blk]? = some (.map (es.map (Qru Y)) clk)/\∀ x ∈ es,flat x.key=true/\okV (dom Y) x.val
 | .obj a=>p.base=0/\∃ o,w.heap[p.blk]? = some o/\FitObj Y o a
def okB(D:Nat->Prop):Blk->Prop
 | .cells _ _ c => ∀ v ∈ c,okV D v/\v.oneCell'=true
 | .map es _ => ∀ x ∈ es,flat x.key=true/\okV D x.val
 | .obj o=>Z8s D o
structure Bs where
 n:Nat
 b:Nat
structure HRel (G:Bs) (Y:Ren) (h:Heap) (w:World):Prop where
 dom:∀ b p,Y b=some p->b < h.next/\True
 fits:∀ b p x,Y b=some p->h.get b=some x->Fits Y p w x
 apart:∀ b c p q,Y b=some p->Y c=some q->b≠c->h.own b=true->h.live c=true->p.blk≠q.blk
 glob:∀ g,g < G.n->Y g=some ⟨g,0,0,0,none⟩/\h.own g=false
 globs:G.n<=h.next
 wf:∀ b x,h.get b=some x->okB (fun c=>c < h.next) x
 base:∀ b p x,Y b=some p->h.get b=some x->(x.own=true->G.b<=p.blk/\p.spot=none)/\(x.own=false->x.solid=true->p.blk < G.b/\p.spot=none)
 bsz:G.b<=w.heap.size
def Ext(n:Nat)(Y Y':Ren):Prop:=∀ b,b < n->Y' b=Y b
structure Turn (Y:Ren) (h:Heap) (w:World) (Y':Ren) (h':Heap) (w':World):Prop where
 size:w.heap.size<=w'.heap.size
 same:∀ k,k < w.heap.size->(∀ b p,Y b=some p->h.own b=true->p.blk≠k)->w'.heap[k]? = w.heap[k]?
 owns:∀ b p,Y' b=some p->h'.own b=true->w.heap.size<=p.blk ∨ ∃ c q,Y c=some q/\h.own c=true/\q.blk=p.blk
 tape:w'.tape=w.tape
 os:w'.os=w.os
 output:w'.output=w.output
 drawn:w.drawn<=w'.drawn
 next:h.next<=h'.next
def Ext.refl(n:Nat)(Y:Ren):Ext n Y Y:=fun _ _=>rfl
def Ext.trans{n m:Nat}{Y β γ:Ren}(h:Ext n Y β)(k:Ext m β γ)(hnm:n<=m):Ext n Y γ:=fun b hb=>(k b (by omega)).trans (h b hb)
def Ext.mono{n m:Nat}{Y β:Ren}(h:Ext m Y β)(hnm:n<=m):Ext n Y β:=fun b hb=>h b (by omega)
def Turn.refl(Y:Ren)(h:Heap)(w:World):Turn Y h w Y h w :=
 ⟨ae _,fun _ _ _=>rfl,fun b p hb ho => .inr ⟨b,p,hb,ho,rfl⟩,rfl,rfl,rfl,ae _,ae _⟩
def Turn.trans{Y Y1 Y2:Ren}{h h1 h2:Heap}{w w1 w2:World}(a:Turn Y h w Y1 h1 w1)(b:Turn Y1 h1 w1 Y2 h2 w2):Turn Y h w Y2 h2 w2:=by
 refine⟨al a.size b.size,fun k hk hno => ?_,fun c p hc ho => ?_,b.tape.trans a.tape,b.os.trans a.os,b.output.trans a.output,al a.drawn b.drawn,al a.next b.next⟩
 ·rw[b.same k (az hk a.size) ?_,a.same k hk hno];intro c p hc ho e;rcases a.owns c p hc ho with h1 | ⟨c0,q,hq,hqo,hqe⟩
  ·omega
  ·exact hno c0 q hq hqo (hqe.trans e)
 ·rcases b.owns c p hc ho with h1 | ⟨c0,q,hq,hqo,hqe⟩
  ·exact .inl (al a.size h1)
  ·rcases a.owns c0 q hq hqo with h2 | ⟨c1,q1,hq1,hqo1,hqe1⟩
   ·exact .inl (hqe ▸ h2)
   ·exact .inr ⟨c1,q1,hq1,hqo1,hqe1.trans hqe⟩
def Ql2{G:Bs}{Y:Ren}{h:Heap}{w:World}(H:HRel G Y h w){b:Nat}(hb:dom Y b):b < h.next:=by
 cases hp:Y b with
 | none=>simp[dom,hp]at hb
 | some p=>exact(H.dom b p hp).1
def Yrj{h:Heap}{b:Nat}(ho:h.own b=true):h.live b=true:=by
 unfold Heap.own at ho;unfold Heap.live;cases hg:h.get b with
 | none=>simp[hg]at ho
 | some x=>simp only[hg]at ho ⊢;exact dT ho
def Q4b{h:Heap}{b:Nat}(ho:h.own b=true):∃ x,h.get b=some x/\x.own=true:=by
 unfold Heap.own at ho;cases hg:h.get b with
 | none=>simp[hg]at ho
 | some x=>simp only[hg]at ho;exact⟨x,rfl,ho⟩
def Qy3{h:Heap}{b:Nat}{x:Blk}(hg:h.get b=some x):h.own b=x.own:=by simp[Heap.own,hg]
def Yjx{h:Heap}{b:Nat}{x:Blk}(hg:h.get b=some x):h.live b=x.solid:=by simp[Heap.live,hg]
def HRel.blk_lt{G:Bs}{Y:Ren}{h:Heap}{w:World}(H:HRel G Y h w){b:Nat}{p:Place}{x:Blk}(hb:Y b=some p)(hg:h.get b=some x)(hs:x.solid=true):p.blk < w.heap.size:=by
 have hf:=H.fits b p x hb hg;have key:∀ o,w.heap[p.blk]? = some o->p.blk < w.heap.size:=fun o ho=>(cE.1 ho).1;cases x with
 | cells o z c =>
  rcases hf.2 with⟨rfl,rfl⟩ | ⟨C,e,lo,hi,h1,_⟩
  ·cases hs
  ·exact key _ h1
 | map es k=>exact key _ hf.2.1
 | obj o=>obtain⟨_,o',h1,_⟩:=hf;exact key _ h1
def HRel.blk_own{G:Bs}{Y:Ren}{h:Heap}{w:World}(H:HRel G Y h w){b:Nat}{p:Place}(hb:Y b=some p)(ho:h.own b=true):p.blk < w.heap.size:=by
 obtain⟨x,hx,hxo⟩:=Q4b ho;exact H.blk_lt hb hx (dT hxo)
def HRel.blk_live{G:Bs}{Y:Ren}{h:Heap}{w:World}(H:HRel G Y h w){b:Nat}{p:Place}(hb:Y b=some p)(hl:h.live b=true):p.blk < w.heap.size:=by
 unfold Heap.live at hl;split at hl
 ·rename_i x hx;exact H.blk_lt hb hx hl
 ·cases hl
def HRel.spot{G:Bs}{Y:Ren}{h:Heap}{w:World}(H:HRel G Y h w){b:Nat}{p:Place}{x:Blk}(hb:Y b=some p)(hg:h.get b=some x)(hs:x.solid=true):p.spot=none:=by
 have h1:=H.base b p x hb hg;cases ho:x.own with
 | true=>exact(h1.1 ho).2
 | false=>exact(h1.2 ho hs).2
def Yk3{Y β:Ren}{D:Nat->Prop}(h:∀ b,D b->β b=Y b){x:MapEntry}(hk:flat x.key=true)(hv:okV D x.val):Qru β x=Qru Y x:=by
 simp[Qru,Qgx,hk,ren_congr h x.val hv]
def TRel.keep{Y β:Ren}{t:Tm}{tmps:Array Value}(h:∀ b,dom Y b->β b=Y b)(ht:TRel Y t tmps):TRel β t tmps :=
 ⟨ht.size,fun i v hv=>by
  have h1:=ht.vals i v hv;exact⟨okV_mono (fun b hb=>by simpa[dom,h b hb]using hb) v h1.1,by rw[h1.2,ren_congr h v h1.1]⟩⟩
def FitObj.keep{Y β:Ren}{o:Obj}{a:AObj}(h:∀ b,dom Y b->β b=Y b)(hf:FitObj Y o a):FitObj β o a:=by
 cases a with
 | loop st pend t ps as bd d =>
  obtain⟨h1,fn,tmps,h2,h3⟩:=hf;exact⟨by simpa[dom,h d h1]using h1,fn,tmps,by rw[h2,Qbr (h d h1)],h3.keep h⟩
 | defs=>exact hf
 | strIter s k=>exact hf
 | mapIter m since seen last =>
  obtain⟨h1,h2⟩:=hf;refine⟨fun b hb=>by have:=h1 b hb;simpa[dom,h b this]using this,?_⟩;rw[h2];cases m with
  | none=>rfl
  | some b=>simp only[aK,Qbr (h b (h1 b rfl))]
 | any=>trivial
def Zyt{D E:Nat->Prop}(h:∀ b,D b->E b){o:AObj}(ho:Z8s D o):Z8s E o:=by
 cases o with
 | loop st pend t ps as bd d=>exact⟨fun i v hv=>okV_mono h v (ho.1 i v hv),h _ ho.2⟩
 | defs=>trivial
 | strIter s k=>trivial
 | mapIter m since seen last=>exact fun b hb=>h b (ho b hb)
 | any=>trivial
def FitObj.ok{Y:Ren}{o:Obj}{a:AObj}(hf:FitObj Y o a):Z8s (dom Y) a:=by
 cases a with
 | loop st pend t ps as bd d =>
  obtain⟨h1,fn,tmps,h2,h3⟩:=hf;exact⟨fun i v hv=>(h3.vals i v hv).1,h1⟩
 | defs=>trivial
 | strIter s k=>trivial
 | mapIter m since seen last=>exact hf.1
 | any=>trivial
def Fits.keep{Y β:Ren}{p:Place}{w w':World}{x:Blk}(hf:Fits Y p w x)(h:∀ b,dom Y b->β b=Y b)(hw:w'.heap[p.blk]? = w.heap[p.blk]?):Fits β p w' x:=by
 have hd:∀ b,dom Y b->dom β b:=fun b hb=>by simpa[dom,h b hb]using hb
 cases x with
 | cells own sz c =>
  obtain⟨hsz,hf⟩:=hf;rcases hf with hf | ⟨C,e,lo,hi,h1,h2,h3⟩
  ·exact⟨hsz,.inl hf⟩
  refine⟨hsz,.inr ⟨C,e,lo,hi,by rw[hw,h1],fun i v hv => ?_,h3⟩⟩;obtain⟨a1,a2,a3⟩:=h2 i v hv;exact⟨by rw[a1,ren_congr h v a2],okV_mono hd v a2,a3⟩
 | map es clk =>
  obtain⟨h0,h1,h2⟩:=hf;refine⟨h0,?_,fun x hx=>⟨(h2 x hx).1,okV_mono hd _ (h2 x hx).2⟩⟩;rw[hw,h1];congr 2;apply dG;intro x hx;exact(Yk3 h (h2 x hx).1 (h2 x hx).2).symm
 | obj o =>
  obtain⟨h0,o',h1,h2⟩:=hf;exact⟨h0,o',by rw[hw,h1],h2.keep h⟩
def Fits.keepS{Y β:Ren}{p:Place}{w w':World}{x:Blk}(hf:Fits Y p w x)(h:∀ b,dom Y b->β b=Y b)(hw:x.solid=true->w'.heap[p.blk]? = w.heap[p.blk]?):Fits β p w' x:=by
 cases hs:x.solid with
 | true=>exact hf.keep h (hw hs)
 | false =>
  cases x with
  | cells o z l=>cases o <;> cases l <;> simp[Blk.solid]at hs;exact⟨hf.1,.inl ⟨rfl,rfl⟩⟩
  | map _ _=>simp[Blk.solid]at hs
  | obj _=>simp[Blk.solid]at hs
def Q0y{h:Heap}{b c:Nat}{x:Option Blk}(hb:b < h.next):(h.set b x).own c=if b=c then(match x with | some y=>y.own | none=>false)else h.own c:=by
 unfold Heap.own;rw[gY hb];by_cases e:b=c
 ·simp only[e,if_true] <;> (cases x <;> rfl)
 ·simp only[e,if_false]
def Yrm{h:Heap}{b c:Nat}{x:Option Blk}(hb:b < h.next):(h.set b x).live c=if b=c then(match x with | some y=>y.solid | none=>false)else h.live c:=by
 unfold Heap.live;rw[gY hb];by_cases e:b=c
 ·simp only[e,if_true] <;> (cases x <;> rfl)
 ·simp only[e,if_false]
def Q0q{h:Heap}{c:Nat}{x:Blk}:(h.push x).own c=if h.next=c then x.own else h.own c:=by
 unfold Heap.own;rw[Heap.get_push];by_cases e:h.next=c
 ·simp only[e,if_true]
 ·simp only[e,if_false]
def Yg4{h:Heap}{c:Nat}{x:Blk}:(h.push x).live c=if h.next=c then x.solid else h.live c:=by
 unfold Heap.live;rw[Heap.get_push];by_cases e:h.next=c
 ·simp only[e,if_true]
 ·simp only[e,if_false]
def Xfa{D E:Nat->Prop}(h:∀ b,D b->E b){x:Blk}(hx:okB D x):okB E x:=by
 cases x with
 | cells o z c=>exact fun v hv=>⟨okV_mono h v (hx v hv).1,(hx v hv).2⟩
 | map es k=>exact fun e he=>⟨(hx e he).1,okV_mono h _ (hx e he).2⟩
 | obj o=>exact Zyt h hx
def Fits.okB{Y:Ren}{p:Place}{w:World}{x:Blk}(hf:Fits Y p w x):Go.Ab.okB (dom Y) x:=by
 cases x with
 | cells o z c =>
  intro v hv;obtain⟨i,hi⟩:=cK hv;rcases hf.2 with⟨_,rfl⟩ | ⟨C,e,lo,hi',h1,h2,h3⟩
  ·simp at hv
  ·exact(h2 i v hi).2
 | map es k=>exact hf.2.2
 | obj o=>obtain⟨h0,o',h1,h2⟩:=hf;exact h2.ok
def World.turned(w:World)(k:Nat)(o:Obj):World:={w with heap:=w.heap.setIfInBounds k o}
def Qs8{w:World}{k:Nat}{o:Obj}(h:k < w.heap.size):(World.turned w k o).heap[k]? = some o:=by
 simp[World.turned,h]
def Zov{w:World}{k j:Nat}{o:Obj}(h:k≠j):(World.turned w k o).heap[j]? = w.heap[j]? := by
 simp[World.turned,h]
section
variable{G:Bs}{Y:Ren}{h:Heap}{w:World}
def HRel.upd(H:HRel G Y h w){b:Nat}{p:Place}(hb:Y b=some p)(ho:h.own b=true){x:Blk}(hx:x.own=true){o:Obj}
  (hf:Fits Y p (World.turned w p.blk o) x):HRel G Y (h.set b (some x)) (World.turned w p.blk o)/\Turn Y h w Y (h.set b (some x)) (World.turned w p.blk o):=by
 have hlt:=(H.dom b p hb).1;have hp:=H.blk_own hb ho;have hold:=Q4b ho;constructor
 ·refine⟨fun c q hc=>⟨(H.dom c q hc).1,trivial⟩,fun c q y hc hy => ?_,fun c d q r hc hd hne hoc hld => ?_,fun g hg => ?_,H.globs,fun c y hy => ?_,fun c q y hc hy => ?_,by simpa[World.turned]using H.bsz⟩
  ·rw[gY hlt]at hy;split at hy
   ·rename_i e;subst e;rw[hb]at hc;cases hc;cases hy;exact hf
   ·rename_i e;cases hs:y.solid with
    | true =>
     have hne:=H.apart b c p q hb hc e ho (by rw[Yjx hy,hs]);exact(H.fits c q y hc hy).keep (fun _ _=>rfl) (Zov hne)
    | false =>
     cases y with
     | cells o z l=>cases o <;> cases l <;> simp[Blk.solid]at hs;exact⟨(H.fits c q _ hc hy).1,.inl ⟨rfl,rfl⟩⟩
     | map _ _=>simp[Blk.solid]at hs
     | obj _=>simp[Blk.solid]at hs
  ·rw[Q0y hlt]at hoc;rw[Yrm hlt]at hld;have ho':h.own c=true:=by
    split at hoc
    ·rename_i e;exact e ▸ ho
    ·exact hoc
   have hl':h.live d=true:=by
    split at hld
    ·rename_i e;exact e ▸ Yrj ho
    ·exact hld
   exact H.apart c d q r hc hd hne ho' hl'
  ·refine⟨(H.glob g hg).1,?_⟩;rw[Q0y hlt];split
   ·rename_i e;subst e;rw[(H.glob b hg).2]at ho;cases ho
   ·exact(H.glob g hg).2
  ·rw[gY hlt]at hy;split at hy
   ·cases hy;exact Xfa (fun c hc=>Ql2 H hc) hf.okB
   ·exact H.wf c y hy
  ·rw[gY hlt]at hy;split at hy
   ·rename_i e;subst e;rw[hb]at hc;cases hc;cases hy;obtain⟨x0,hx0,hxo⟩:=hold;exact⟨fun _=>(H.base b p x0 hb hx0).1 hxo,fun h0=>by rw[hx]at h0;cases h0⟩
   ·exact H.base c q y hc hy
 ·refine⟨by simp[World.turned],fun k hk hno=>Zov (hno b p hb ho),fun c q hc hoc => .inr ⟨c,q,hc,?_,rfl⟩,rfl,rfl,rfl,ae _,ae _⟩;rw[Q0y hlt]at hoc;split at hoc
  ·rename_i e;exact e ▸ ho
  ·exact hoc
def HRel.kill(H:HRel G Y h w){b:Nat}(hlt:b < h.next):HRel G Y (h.set b none) w/\Turn Y h w Y (h.set b none) w:=by
 constructor
 ·refine⟨H.dom,fun c q y hc hy => ?_,fun c d q r hc hd hne hoc hld => ?_,fun g hg => ?_,H.globs,fun c y hy => ?_,fun c q y hc hy => ?_,H.bsz⟩
  ·rw[gY hlt]at hy;split at hy
   ·cases hy
   ·exact H.fits c q y hc hy
  ·rw[Q0y hlt]at hoc;rw[Yrm hlt]at hld;split at hoc
   ·cases hoc
   ·split at hld
    ·cases hld
    ·exact H.apart c d q r hc hd hne hoc hld
  ·refine⟨(H.glob g hg).1,?_⟩;rw[Q0y hlt];split
   ·rfl
   ·exact(H.glob g hg).2
  ·rw[gY hlt]at hy;split at hy
   ·cases hy
   ·exact H.wf c y hy
  ·rw[gY hlt]at hy;split at hy
   ·cases hy
   ·exact H.base c q y hc hy
 ·refine⟨ae _,fun _ _ _=>rfl,fun c q hc hoc => .inr ⟨c,q,hc,?_,rfl⟩,rfl,rfl,rfl,ae _,ae _⟩;rw[Q0y hlt]at hoc;split at hoc
  ·cases hoc
  ·exact hoc
def Ren.add(Y:Ren)(n:Nat)(p:Place):Ren:=fun b=>if b=n then some p else Y b
def dS(Y:Ren)(n:Nat)(p:Place):Ext n Y (Ren.add Y n p):=fun b hb=>by simp[Ren.add,Nat.ne_of_lt hb]
def dR(Y:Ren)(n:Nat)(p:Place):Ren.add Y n p n=some p:=by simp[Ren.add]
def HRel.add_dom(H:HRel G Y h w)(p:Place):∀ b,Go.Ab.dom Y b->Ren.add Y h.next p b=Y b:=fun b hb=>dS Y h.next p b (Ql2 H hb)
def HRel.push(H:HRel G Y h w){x:Blk}(hx:x.own=true){p:Place}(hp:p.blk=w.heap.size){o:Obj}{w':World}(hw':w' = {w with heap:=w.heap.push o})
  (hf:Fits (Ren.add Y h.next p) p w' x) (hsp:p.spot=none:=by rfl) :
  HRel G (Ren.add Y h.next p) (h.push x) w'/\Turn Y h w (Ren.add Y h.next p) (h.push x) w':=by
 subst hw';have hold:∀ k,k < w.heap.size->(w.heap.push o)[k]? = w.heap[k]? := fun k hk=>by rw[Array.getElem?_push,if_neg (by omega)]
 have hcase:∀ c q,Ren.add Y h.next p c=some q->(c=h.next/\q=p)∨(c < h.next/\Y c=some q):=by
  intro c q hc;unfold Ren.add at hc;split at hc
  ·cases hc;exact .inl ⟨by assumption,rfl⟩
  ·exact .inr ⟨(H.dom c q hc).1,hc⟩
 constructor
 ·refine⟨fun c q hc => ?_,fun c q y hc hy => ?_,fun c d q r hc hd hne hoc hld => ?_,fun g hg => ?_,du H.globs,fun c y hy => ?_,fun c q y hc hy => ?_,by have:=H.bsz;simp;omega⟩
  ·rcases hcase c q hc with⟨rfl,rfl⟩ | ⟨h1,h2⟩
   ·exact⟨bV _,by simp[hp]⟩
   ·exact⟨bW h1,trivial⟩
  ·rw[Heap.get_push]at hy;rcases hcase c q hc with⟨rfl,rfl⟩ | ⟨h1,h2⟩
   ·simp only[if_true]at hy;cases hy;exact hf
   ·rw[if_neg (by omega)]at hy;exact(H.fits c q y h2 hy).keepS (H.add_dom p) fun hs=>hold _ (H.blk_lt h2 hy hs)
  ·rw[Q0q]at hoc;rw[Yg4]at hld;rcases hcase c q hc with⟨rfl,rfl⟩ | ⟨h1,h2⟩
   ·rcases hcase d r hd with⟨rfl,rfl⟩ | ⟨h3,h4⟩
    ·exact absurd rfl hne
    ·rw[if_neg (by omega)]at hld;have:=H.blk_live h4 hld;omega
   ·rcases hcase d r hd with⟨rfl,rfl⟩ | ⟨h3,h4⟩
    ·rw[if_neg (by omega)]at hoc;have:=H.blk_own h2 hoc;omega
    ·rw[if_neg (by omega)]at hoc;rw[if_neg (by omega)]at hld;exact H.apart c d q r h2 h4 hne hoc hld
  ·have:=H.globs;refine⟨by rw[dS Y h.next p g (by omega)];exact(H.glob g hg).1,?_⟩;rw[Q0q,if_neg (by omega)];exact(H.glob g hg).2
  ·rw[Heap.get_push]at hy;split at hy
   ·cases hy;refine Xfa (fun c hc => ?_) hf.okB;obtain⟨q,hq⟩:=aN.1 hc;rcases hcase c q hq with⟨rfl,_⟩ | ⟨h1,_⟩
    ·exact bV _
    ·exact bW h1
   ·exact Xfa (fun c hc=>bW hc) (H.wf c y hy)
  ·rw[Heap.get_push]at hy;rcases hcase c q hc with⟨rfl,rfl⟩ | ⟨h1,h2⟩
   ·simp only[if_true]at hy;cases hy;exact⟨fun _=>⟨by rw[hp];exact H.bsz,hsp⟩,fun h0=>by rw[hx]at h0;cases h0⟩
   ·rw[if_neg (by omega)]at hy;exact H.base c q y h2 hy
 ·refine⟨by simp,fun k hk _=>hold k hk,fun c q hc hoc => ?_,rfl,rfl,rfl,ae _,bL _⟩;rcases hcase c q hc with⟨rfl,rfl⟩ | ⟨h1,h2⟩
  ·exact .inl (by omega)
  ·rw[Q0q,if_neg (by omega)]at hoc;exact .inr ⟨c,q,h2,hoc,rfl⟩
def HRel.alias(H:HRel G Y h w){p:Place}(hp:True) :
  HRel G (Ren.add Y h.next p) (h.push (.cells false p.sz [])) w/\Turn Y h w (Ren.add Y h.next p) (h.push (.cells false p.sz [])) w:=by
 have hcase:∀ c q,Ren.add Y h.next p c=some q->(c=h.next/\q=p)∨(c < h.next/\Y c=some q):=by
  intro c q hc;unfold Ren.add at hc;split at hc
  ·cases hc;exact .inl ⟨by assumption,rfl⟩
  ·exact .inr ⟨(H.dom c q hc).1,hc⟩
 constructor
 ·refine⟨fun c q hc => ?_,fun c q y hc hy => ?_,fun c d q r hc hd hne hoc hld => ?_,fun g hg => ?_,du H.globs,fun c y hy => ?_,fun c q y hc hy => ?_,H.bsz⟩
  ·rcases hcase c q hc with⟨rfl,rfl⟩ | ⟨h1,h2⟩
   ·exact⟨bV _,hp⟩
   ·exact⟨bW h1,(H.dom c q h2).2⟩
  ·rw[Heap.get_push]at hy;rcases hcase c q hc with⟨rfl,rfl⟩ | ⟨h1,h2⟩
   ·simp only[if_true]at hy;cases hy;exact⟨rfl,.inl ⟨rfl,rfl⟩⟩
   ·rw[if_neg (by omega)]at hy;exact(H.fits c q y h2 hy).keep (H.add_dom p) rfl
  ·rw[Q0q]at hoc;rw[Yg4]at hld;rcases hcase c q hc with⟨rfl,rfl⟩ | ⟨h1,h2⟩
   ·simp[Blk.own]at hoc
   ·rcases hcase d r hd with⟨rfl,rfl⟩ | ⟨h3,h4⟩
    ·simp[Blk.solid]at hld
    ·rw[if_neg (by omega)]at hoc;rw[if_neg (by omega)]at hld;exact H.apart c d q r h2 h4 hne hoc hld
  ·have:=H.globs;refine⟨by rw[dS Y h.next p g (by omega)];exact(H.glob g hg).1,?_⟩;rw[Q0q,if_neg (by omega)];exact(H.glob g hg).2
  ·rw[Heap.get_push]at hy;split at hy
   ·cases hy;intro v hv;simp at hv
   ·exact Xfa (fun c hc=>bW hc) (H.wf c y hy)
  ·rw[Heap.get_push]at hy;rcases hcase c q hc with⟨rfl,rfl⟩ | ⟨h1,h2⟩
   ·simp only[if_true]at hy;cases hy;exact⟨fun h0=>(by cases h0),fun _ h0=>(by cases h0)⟩
   ·rw[if_neg (by omega)]at hy;exact H.base c q y h2 hy
 ·refine⟨ae _,fun k _ _=>rfl,fun c q hc hoc => ?_,rfl,rfl,rfl,ae _,bL _⟩;rw[Q0q]at hoc;rcases hcase c q hc with⟨rfl,rfl⟩ | ⟨h1,h2⟩
  ·simp[Blk.own]at hoc
  ·rw[if_neg (by omega)]at hoc;exact .inr ⟨c,q,h2,hoc,rfl⟩
def HRel.same(H:HRel G Y h w){w':World}(hh:w'.heap=w.heap):HRel G Y h w' :=
 ⟨H.dom,fun b p x hb hx=>(H.fits b p x hb hx).keep (fun _ _=>rfl) (by rw[hh]),H.apart,H.glob,H.globs,H.wf,H.base,by rw[hh];exact H.bsz⟩
def Turn.drew(Y:Ren)(h:Heap)(w:World){n:Nat}(hn:w.drawn<=n):Turn Y h w Y h {w with drawn:=n} :=
 ⟨ae _,fun _ _ _=>rfl,fun b p hb ho => .inr ⟨b,p,hb,ho,rfl⟩,rfl,rfl,rfl,hn,ae _⟩
end
def Qmw{h h':Heap}{b:Nat}(hg:h'.get b=h.get b):h'.own b=h.own b:=by simp[Heap.own,hg]
def Yk8{h h':Heap}{b:Nat}(hg:h'.get b=h.get b):h'.live b=h.live b:=by simp[Heap.live,hg]
section
variable{G:Bs}{Y:Ren}{h:Heap}{w:World}
def Quc{Y:Ren}{b:Nat}{p:Place}(h:Y b=some p):dom Y b:=by simp[dom,h]
def HRel.congr(H:HRel G Y h w){h':Heap}(hn:G.n<=h'.next)(hd:∀ b,Go.Ab.dom Y b->b < h'.next)(hg:∀ b,Go.Ab.dom Y b->h'.get b=h.get b)(hwf:∀ b x,h'.get b=some x->okB (fun c=>c < h'.next) x):HRel G Y h' w :=
  ⟨fun b p hb=>⟨hd b (Quc hb),(H.dom b p hb).2⟩,fun b p x hb hx=>H.fits b p x hb (by rw[<- hg b (Quc hb)];exact hx),
   fun b c p q hb hc hne ho hl=>H.apart b c p q hb hc hne (by rw[<- Qmw (hg b (Quc hb))];exact ho) (by rw[<- Yk8 (hg c (Quc hc))];exact hl),
   fun g hg'=>⟨(H.glob g hg').1,by rw[Qmw (hg g (Quc (H.glob g hg').1))];exact(H.glob g hg').2⟩,hn,hwf,
   fun b p x hb hx=>H.base b p x hb (by rw[<- hg b (Quc hb)];exact hx),H.bsz⟩
def Turn.heap{Y Y':Ren}{h h' h'':Heap}{w w':World}(t:Turn Y h w Y' h' w')(hg:∀ b,dom Y' b->h''.get b=h'.get b)(hn:h'.next<=h''.next):Turn Y h w Y' h'' w' :=
 ⟨t.size,t.same,fun b p hb ho=>t.owns b p hb (by rw[<- Qmw (hg b (Quc hb))];exact ho),t.tape,t.os,t.output,t.drawn,al t.next hn⟩
end
structure TyRec where
 desc:TypeDesc
 size:Nat
 bytes:Nat
 zero:Value
 leaf:List Nat
def Ylh:Nat->Value->Value->Option Bool
 | 1,.int k a,.int j b=>if k=j then some (a == b)else none
 | 2,.bool a,.bool b=>some (a == b)
 | 3,.string a,.string b=>some (a == b)
 | _,_,_=>none
def Qal:List Nat->List Value->List Value->Option Bool
 | [],[],[]=>some true
 | l::ls,x::xs,y::ys =>
  match Ylh l x y,Qal ls xs ys with
  | some a,some b=>some (a && b)
  | _,_=>none
 | _,_,_=>none
def Jid(P:Program)(t:TypeId)(leaf:List Nat):Prop :=
 leaf ≠ []->P.eqGuardType P.depth t=false/\(∀ (xs ys:List Value) (b:Bool) (w:World),Qal leaf xs ys=some b->(Op.equal t (.agg xs.toArray) (.agg ys.toArray)).run P w=.ok b w) /\
  ∀ (em:Bool) (xs:List Value) (w:World),xs.length=leaf.length->(Instr.checkKey em 10000 t (.agg xs.toArray)).run P w=.ok () w
def Zxf(P:Program)(t:TypeId)(r:TyRec):Prop :=
 P.underlying t=some r.desc/\∃ i,P.info? t=some i/\i.size=r.size/\i.bytes=r.bytes/\i.zero=some r.zero/\flat r.zero=true/\Qh6 r.zero=true/\r.zero.cells.size=r.size/\Jid P t r.leaf
def Qeg:TypeDesc->Bool
 | .struct _ | .array _ _=>true
 | _=>false
def TRel.put{Y:Ren}{t:Tm}{tmps:Array Value}(h:TRel Y t tmps){i:Nat}{v:Value}(hi:i < t.size)(hv:okV (dom Y) v):TRel Y (t.put i v) (tmps.setIfInBounds i (ren Y v)):=by
 refine⟨by simp[Tm.put,h.size],fun j u hj => ?_⟩;simp only[Tm.put,Tr.get_put]at hj;split at hj
 ·rename_i e;subst e;cases hj;exact⟨hv,by rw[bS];simp[h.size,hi]⟩
 ·rename_i e;have:=h.vals j u hj;exact⟨this.1,by rw[bS,if_neg e];exact this.2⟩
def TRel.ext{G:Bs}{Y β:Ren}{h:Heap}{w:World}{t:Tm}{tmps:Array Value}(H:HRel G Y h w)(he:Ext h.next Y β)(ht:TRel Y t tmps):TRel β t tmps:=by
 refine⟨ht.size,fun i v hv => ?_⟩;have:=ht.vals i v hv;have hd:∀ b,dom Y b->β b=Y b:=fun b hb=>he b (Ql2 H hb);exact⟨okV_mono (fun b hb=>by simpa[dom,hd b hb]using hb) v this.1,by rw[this.2,ren_congr hd v this.1]⟩
def aev(G:Bs)(t:Tm):Operand->Option Value
 | .tmp i=>t.t.get i
 | .const v=>if flat v then some v else none
 | .global g=>if g < G.n then some (.pointer (some ⟨g,0,none⟩))else none
 | .func f=>some (.func (.func f) #[] #[])
def Xmb{G:Bs}{Y:Ren}{h:Heap}{w:World}(H:HRel G Y h w){t:Tm}{a:Act}(ht:TRel Y t a.tmps){x:Operand}{v:Value}(hx:aev G t x=some v) :
  okV (dom Y) v/\a.eval x=ren Y v:=by
 cases x with
 | tmp i =>
  have:=ht.vals i v hx;exact⟨this.1,by simp[Act.eval,bB,this.2]⟩
 | const c =>
  simp only[aev]at hx;split at hx
  ·rename_i hf;cases hx;exact⟨flat_ok _ _ hf,by rw[Qgx Y hf];rfl⟩
  ·cases hx
 | global g =>
  simp only[aev]at hx;split at hx
  ·rename_i hg;cases hx;have:=(H.glob g hg).1;exact⟨by simp[okV,dom,this],by simp[Act.eval,ren,Uu,this]⟩
  ·cases hx
 | func f =>
  simp only[aev,av]at hx;subst hx;exact⟨by simp[okV,okA,okL],by simp[Act.eval,ren,Yg8,renA,renL]⟩
def Q35:Nat->List Value->Option (List Value)
 | 0,_=>some []
 | n+1,v::l=>(Q35 n l).map (v :: ·)
 | _+1,[]=>none
def Q3c:∀ (n:Nat) (l r:List Value),Q35 n l=some r->r.length=n/\∀ (i:Nat) (v:Value),r[i]? = some v->l[i]? = some v
 | 0,l,r,h=>by simp[Q35]at h;subst h;simp
 | n+1,[],r,h=>by simp[Q35]at h
 | n+1,v::l,r,h=>by
  simp only[Q35,am]at h;obtain⟨r',hr,rfl⟩:=h;obtain⟨h1,h2⟩:=Q3c n l r' hr;refine⟨by simp[h1],fun i u hu => ?_⟩;cases i with
  | zero=>simpa using hu
  | succ i=>simp only[bY]at hu ⊢;exact h2 i u hu
def over:List Value->List Value->Option (List Value)
 | c,[]=>some c
 | _::c,v::l=>(over c l).map (v :: ·)
 | [],_::_=>none
def Ql3:List Value->Nat->List Value->Option (List Value)
 | c,0,l=>over c l
 | x::c,n+1,l=>(Ql3 c n l).map (x :: ·)
 | [],_+1,[]=>some []
 | [],_+1,_::_=>none
def Zjm:∀ (c l r:List Value),over c l=some r->r.length=c.length/\l.length<=c.length/\∀ i,r[i]? = if i < l.length then l[i]? else c[i]?
 | c,[],r,h=>by cases c <;> (simp only[over,av]at h;subst h;simp)
 | x::c,v::l,r,h=>by
  simp only[over,am]at h;obtain⟨r',hr,rfl⟩:=h;obtain⟨h1,h2,h3⟩:=Zjm c l r' hr;refine⟨by simp[h1],by simpa using h2,fun i => ?_⟩;cases i with
  | zero=>simp
  | succ i=>simp only[bY,bH,Nat.succ_lt_succ_iff];exact h3 i
 | [],_::_,r,h=>by simp[over]at h
def X8q:∀ (c:List Value) (n:Nat) (l r:List Value),Ql3 c n l=some r->r.length=c.length/\(l=[]∨n+l.length<=c.length)/\∀ i,r[i]? = if n<=i/\i < n+l.length then l[i-n]? else c[i]?
 | c,0,l,r,h=>by
  have h':over c l=some r:=by cases c <;> simpa[Ql3]using h
  obtain⟨h1,h2,h3⟩:=Zjm c l r h';exact⟨h1,.inr (by omega),fun i=>by simp[h3 i]⟩
 | x::c,n+1,l,r,h=>by
  simp only[Ql3,am]at h;obtain⟨r',hr,rfl⟩:=h;obtain⟨h1,h2,h3⟩:=X8q c n l r' hr;refine⟨by simp[h1],h2.imp id (fun h2=>by simp;omega),fun i => ?_⟩;cases i with
  | zero=>simp
  | succ i =>
   simp only[bY,h3 i,Nat.add_le_add_iff_right,Nat.add_sub_add_right];by_cases hc:n<=i/\i < n+l.length
   ·rw[if_pos hc,if_pos ⟨hc.1,by omega⟩]
   ·rw[if_neg hc,if_neg (by omega)]
 | [],n+1,[],r,h=>by simp[Ql3]at h;subst h;simp
 | [],_+1,_::_,r,h=>by simp[Ql3]at h
def cellsAt(h:Heap)(a:Addr)(n:Nat):Option (List Value) :=
 match h.get a.block with
 | some (.cells _ _ c)=>Q35 n (c.drop a.off)
 | _=>none
def Qsg(g o n:Nat):(⟨g,o,none⟩:Addr).add n=⟨g,o+n,none⟩:=by unfold Addr.add;split <;> simp_all
section
variable{P:Program}{G:Bs}{Y:Ren}{h:Heap}{w:World}
def Q02(H:HRel G Y h w){a:Addr}(ha:dom Y a.block)(hs:a.spot=none){n:Nat}{l:List Value}(hl:cellsAt h a n=some l) :
  l.length=n/\(∀ v ∈ l,okV (dom Y) v/\v.oneCell'=true)/\∀ j v,(l.map (ren Y))[j]? = some v->w.cell? ((Uu Y a).add j)=some v:=by
 obtain⟨p,hp⟩:=aN.1 ha;unfold cellsAt at hl;cases hg:h.get a.block with
 | none=>simp[hg]at hl
 | some x =>
  cases x with
  | map _ _=>simp[hg]at hl
  | obj _=>simp[hg]at hl
  | cells own sz c =>
   simp only[hg]at hl;obtain⟨h1,h2⟩:=Q3c _ _ _ hl;rcases(H.fits a.block p _ hp hg).2 with⟨_,rfl⟩ | ⟨C,e,lo,hi,f1,f2,f3⟩
   ·have hnil:l=[]:=by
     cases l with
     | nil=>rfl
     | cons v r=>have:=h2 0 v (by simp);simp at this
    subst hnil;exact⟨h1,by simp,by simp⟩
   ·have hcell:∀ i v,l[i]? = some v->C[p.base+(a.off+i)]? = some (ren Y v)/\okV (dom Y) v/\v.oneCell'=true:=by
     intro i v hi';have:=h2 i v hi';rw[cN]at this;exact f2 _ _ this
    refine⟨h1,fun v hv => ?_,fun j v hv => ?_⟩
    ·obtain⟨i,hi'⟩:=cK hv;exact(hcell i v hi').2
    ·rw[bf,am]at hv;obtain⟨u,hu,rfl⟩:=hv;have:=(hcell j u hu).1;have hsp:p.spot=none:=by
      refine H.spot hp hg ?_;have h3:=h2 j u hu;cases c with
      | nil=>simp at h3
      | cons _ _=>cases own <;> rfl
     simp only[Uu,hp,hsp,ite_self];rw[Qsg];simp only[World.cell?,f1];simpa[cM]using this
def Qsy(H:HRel G Y h w){a:Addr}(ha:dom Y a.block)(hs:a.spot=none){n:Nat}{l:List Value}(hl:cellsAt h a n=some l) :
  (loadCells (Uu Y a) n).run P w=.ok (l.map (ren Y)).toArray w:=by
 obtain⟨h1,_,h3⟩:=Q02 H ha hs hl;have:=run_loadCells_list (P:=P) w (Uu Y a) (l.map (ren Y)) h3;rwa [aT,h1]at this
def Zcs(r:TyRec)(h:Heap)(a:Addr):Option Value :=
 if Qeg r.desc then(cellsAt h a r.size).map fun l => .agg l.toArray
 else match cellsAt h a 1 with
  | some [v]=>some v
  | _=>none
def Ykv{t:TypeId}{r:TyRec}(hr:Zxf P t r)(w:World):(isAgg t).run P w=.ok (Qeg r.desc) w:=by
 simp only[isAgg,ar,run_underlying hr.1,ai];cases r.desc <;> rfl
def Uz{t:TypeId}{r:TyRec}(hr:Zxf P t r)(w:World):(sizeOf t).run P w=.ok r.size w:=by
 obtain⟨_,i,hi,h1,_⟩:=hr;simp[sizeOf,typeInfo,hi,h1]
def Qie{t:TypeId}{r:TyRec}(hr:Zxf P t r)(w:World):(zeroValue t).run P w=.ok r.zero w:=by
 obtain⟨_,i,hi,h1,h2,h3,_⟩:=hr;simp[zeroValue,typeInfo,hi,h3]
def X7g(H:HRel G Y h w){t:TypeId}{r:TyRec}(hr:Zxf P t r){a:Addr}(ha:dom Y a.block)(hs:a.spot=none){v:Value}(hv:Zcs r h a=some v) :
  okV (dom Y) v/\(loadVar t (Uu Y a)).run P w=.ok (ren Y v) w:=by
 unfold Zcs at hv;simp only[loadVar,ar,Ykv hr,ai];split at hv
 ·rename_i hagg;rw[am]at hv;obtain⟨l,hl,rfl⟩:=hv;refine⟨Xgc _ _ (Q02 H ha hs hl).2.1,?_⟩;simp[hagg,Uz hr,Qsy H ha hs hl]
 ·rename_i hagg;split at hv
  ·rename_i u hl;cases hv;obtain⟨_,h2,h3⟩:=Q02 H ha hs hl;refine⟨(h2 v (by simp)).1,?_⟩;have hc:=h3 0 (ren Y v) (by simp);have hb:(Uu Y a).add 0=Uu Y a:=rfl;rw[hb]at hc;simp[hagg,run_load,hc]
  ·cases hv
def storeAt(h:Heap)(a:Addr)(l:List Value):Option Heap :=
 match h.get a.block with
 | some (.cells true sz c)=>(Ql3 c a.off l).map fun c'=>h.set a.block (some (.cells true sz c'))
 | _=>none
def Yun{w:World}{g:Nat}{o:Obj}(hg:w.heap[g]? = some o):World.turned w g o=w:=by
 have hh:w.heap.setIfInBounds g o=w.heap:=by
  apply ct;intro i;rw[bS];split
  ·rename_i e';subst e';have hlt:g < w.heap.size:=by
    rcases bg g w.heap.size with h | h
    ·exact h
    ·simp[bZ h]at hg
   rw[if_pos hlt,hg]
  ·rfl
 simp[World.turned,hh]
def Y6e{w:World}{g o e lo hi:Nat}{C:Array Value}(v:Value)(hg:w.heap[g]? = some (.cells C e (lo,hi))):w.setCell ⟨g,o,none⟩ v=World.turned w g (.cells (C.setIfInBounds o v) e (lo,hi)):=by
 simp only[World.setCell,World.turned];congr 1;apply ct;intro i;rw[bQ,bS];by_cases hi':g=i
 ·subst hi';have hlt:g < w.heap.size:=by
   rcases bg g w.heap.size with h | h
   ·exact h
   ·simp[bZ h]at hg
  rw[if_pos rfl,if_pos rfl,if_pos hlt,hg];rfl
 ·rw[if_neg hi',if_neg hi']
def Q0p(g e:Nat)(lo hi:Nat):∀ (l:List Value) (o:Nat) (C:Array Value) (w:World),w.heap[g]? = some (.cells C e (lo,hi)) ->
  (∀ i,i < C.size->¬ (lo<=i/\i < hi))->o+l.length<=C.size->(∀ v ∈ l,v.oneCell'=true)->∀ k off,off+k=o ->
  ∃ C',(storeCells ⟨g,off,none⟩ l k).run P w=.ok () (World.turned w g (.cells C' e (lo,hi)))/\C'.size=C.size/\∀ i,C'[i]? = if o<=i/\i < o+l.length then l[i-o]? else C[i]?
 | [],o,C,w,hg,_,_,_,k,off,_=>by
  refine⟨C,?_,rfl,fun i=>by rw[if_neg (by simp)]⟩;rw[Yun hg];rfl
 | v::l,o,C,w,hg,hz,hl,h1,k,off,hk=>by
  simp only[bH]at hl;have hlt:g < w.heap.size:=by
   rcases bg g w.heap.size with h | h
   ·exact h
   ·simp[bZ h]at hg
  have hcell:w.cell? ⟨g,o,none⟩=some C[o]:=by simp[World.cell?,hg]
  have hfz:w.frozen? ⟨g,o,none⟩=false:=by
   have:=hz o (by omega);simp[World.frozen?,hg];omega
  have hset:=Y6e (o:=o) v hg;have hst:(store ((⟨g,off,none⟩:Addr).add k) v).run P w=.ok () (World.turned w g (.cells (C.setIfInBounds o v) e (lo,hi))):=by
   rw[Qsg,hk,run_store P w _ v _ (h1 v (by simp)),hcell,hfz,hset];simp
  obtain⟨C',r1,r2,r3⟩:=Q0p g e lo hi l (o+1) (C.setIfInBounds o v) (World.turned w g (.cells (C.setIfInBounds o v) e (lo,hi))) (Qs8 hlt)
   (by simpa using hz) (by simp;omega) (fun u hu=>h1 u (by simp[hu])) (k+1) off (by omega)
  refine⟨C',?_,by simpa using r2,fun i => ?_⟩
  ·simp only[storeCells,ar,hst,ai,r1];simp[World.turned]
  ·rw[r3 i];by_cases hi':i=o
   ·subst hi';rw[if_neg (by omega),if_pos (by simp)];simp[show i < C.size by omega]
   ·by_cases hc:o+1<=i/\i < o+1+l.length
    ·rw[if_pos hc,if_pos (by simp;omega),show i-o=(i-(o+1))+1 by omega,bY]
    ·rw[if_neg hc,if_neg (by simp;omega),bS,if_neg (by omega)]
def Xbx(H:HRel G Y h w){a:Addr}(ha:dom Y a.block)(hs:a.spot=none){l:List Value}(hl:∀ v ∈ l,okV (dom Y) v/\v.oneCell'=true){h':Heap}(hh:storeAt h a l=some h') :
  ∃ w',(storeCells (Uu Y a) (l.map (ren Y))).run P w=.ok () w'/\HRel G Y h' w'/\Turn Y h w Y h' w':=by
 obtain⟨p,hp⟩:=aN.1 ha;unfold storeAt at hh;split at hh
 ·rename_i sz c hg;rw[am]at hh;obtain⟨c',hc',rfl⟩:=hh;obtain⟨s1,s2,s3⟩:=X8q _ _ _ _ hc';have hfit:=H.fits a.block p _ hp hg;rcases hfit.2 with⟨h0,_⟩ | ⟨C,e,lo,hi,f1,f2,f3⟩
  ·cases h0
  obtain⟨f31,f32,f33⟩:=f3 rfl;have hcl:c.length<=C.size:=by
   rcases bg C.size c.length with hlt | hge
   ·have:=(f2 C.size _ (ab hlt)).1;simp[f31]at this
   ·exact hge
  rcases s2 with hnil | s2
  ·subst hnil;have hcc:c'=c:=by
    apply dN;intro i;rw[s3 i,if_neg (by simp only[cX];omega)]
   subst hcc;have hw:=Yun f1;have:=H.upd hp (Qy3 hg) (x:=.cells true sz c') rfl (o:=.cells C e (lo,hi)) (by rw[hw];exact hfit);rw[hw]at this;exact⟨w,by simp[storeCells],this.1,this.2⟩
  ·obtain⟨C',r1,r2,r3⟩:=Q0p (P:=P) p.blk e lo hi (l.map (ren Y)) a.off C w f1 f32.not (by simp;omega)
    (fun v hv=>by obtain⟨u,hu,rfl⟩:=ao.1 hv;rw[Ysg];exact(hl u hu).2) 0 a.off (by omega)
   refine⟨World.turned w p.blk (.cells C' e (lo,hi)),?_,?_⟩
   ·simp only[Uu,hp,f31,H.spot hp hg rfl,ite_self,bO];exact r1
   ·refine H.upd hp (Qy3 hg) rfl ⟨hfit.1,.inr ⟨C',e,lo,hi,Qs8 (H.blk_lt hp hg rfl),fun i v hv => ?_,fun _=>⟨f31,by rw[r2];exact f32,by rw[r2];exact f33⟩⟩⟩;rw[s3 i]at hv;rw[f31,bO,r3 i];simp only[aT];split
    ·rename_i hc;rw[if_pos hc]at hv;refine⟨by rw[bf,hv];rfl,?_⟩;exact hl v (ak hv)
    ·rename_i hc;rw[if_neg hc]at hv;have:=f2 i v hv;rwa [f31,bO]at this
 ·cases hh
def Ytg(r:TyRec)(h:Heap)(a:Addr)(v:Value):Option Heap :=
 if Qh6 v && v.cells.size == r.size then storeAt h a v.cells.toList else none
def Yyj(H:HRel G Y h w){t:TypeId}{r:TyRec}(hr:Zxf P t r){a:Addr}(ha:dom Y a.block)(hs:a.spot=none){v:Value}(hv:okV (dom Y) v){h':Heap}(hh:Ytg r h a v=some h') :
  ∃ w',(storeVar t (Uu Y a) (ren Y v)).run P w=.ok () w'/\HRel G Y h' w'/\Turn Y h w Y h' w':=by
 unfold Ytg at hh;split at hh
 ·rename_i hc;simp only[aq,beq_iff_eq]at hc;obtain⟨w',r1,r2,r3⟩:=Xbx (P:=P) H ha hs (fun u hu=>Ydl _ v hv hc.1 u (by simpa using hu)) hh;refine⟨w',?_,r2,r3⟩;simp[storeVar,Uz hr,Yts,hc.2,bI,r1]
 ·cases hh
def Ygk(H:HRel G Y h w)(e:TypeId){l:List Value}(hl:∀ v ∈ l,okV (dom Y) v/\v.oneCell'=true) :
  ∃ Y' w',(newRow e (l.map (ren Y)).toArray).run P w=.ok ⟨w.heap.size,0,none⟩ w'/\Uu Y' ⟨h.next,0,none⟩=⟨w.heap.size,0,none⟩/\dom Y' h.next/\Ext h.next Y Y' /\
   HRel G Y' (h.push (.cells true 1 l)) w'/\Turn Y h w Y' (h.push (.cells true 1 l)) w':=by
 refine⟨Ren.add Y h.next ⟨w.heap.size,0,l.length,1,none⟩,_,rfl,?_,?_,dS _ _ _,?_⟩
 ·simp[Uu,dR]
 ·simp[dom,dR]
 ·refine H.push rfl rfl rfl ⟨rfl,.inr ⟨(l.map (ren Y)).toArray,e,0,0,by simp,fun i v hv => ?_,fun _=>⟨rfl,.inl rfl,by simp⟩⟩⟩;have hm:=hl v (ak hv);have hd:∀ b,dom Y b->Ren.add Y h.next ⟨w.heap.size,0,l.length,1,none⟩ b=Y b:=H.add_dom _;refine⟨?_,okV_mono (fun b hb=>by simpa[dom,hd b hb]using hb) v hm.1,hm.2⟩;rw[ren_congr hd v hm.1];simp[hv]
end
structure Env (P:Program) where
 ty:Tr TyRec
 tyok:∀ t r,ty.get t=some r->Zxf P t r
 G:Bs
def Gives(P:Program)(G:Bs)(Y:Ren)(h:Heap)(w:World)(s:Sem Value)(v:Value)(h':Heap):Prop :=
 ∃ Y' w',s.run P w=.ok (ren Y' v) w'/\okV (dom Y') v/\Ext h.next Y Y'/\HRel G Y' h' w'/\Turn Y h w Y' h' w'
section
variable{P:Program}{G:Bs}{Y:Ren}{h:Heap}{w:World}
def Gives.plain(H:HRel G Y h w){s:Sem Value}{v:Value}(hv:okV (dom Y) v)(hr:s.run P w=.ok (ren Y v) w):Gives P G Y h w s v h :=
 ⟨Y,w,hr,hv,Ext.refl _ _,H,Turn.refl _ _ _⟩
def Gives.flat(H:HRel G Y h w){s:Sem Value}{v:Value}(hv:Go.Ab.flat v=true)(hr:s.run P w=.ok v w):Gives P G Y h w s v h :=
 Gives.plain H (flat_ok _ _ hv) (by rw[Qgx Y hv];exact hr)
def Jb8:Sem Value->Option Value
 | .pure v=>some v
 | _=>none
def Z1d{s:Sem Value}{v:Value}(hs:Jb8 s=some v)(w:World):s.run P w=.ok v w:=by
 cases s <;> simp[Jb8]at hs;subst hs;rfl
def Qk3(E:Env P)(t:TypeId)(x:Value)(h:Heap):Option Value :=
 match x,E.ty.get t with
 | .pointer (some a),some r=>Zcs r h a
 | _,_=>none
def Z8x(E:Env P)(H:HRel E.G Y h w){t:TypeId}{x v:Value}(hx:okV (dom Y) x)(hv:Qk3 E t x h=some v) :
  Gives P E.G Y h w (Instr.loadAt t (ren Y x)) v h:=by
 unfold Qk3 at hv;split at hv
 ·rename_i a r hr;simp only[okV]at hx;have:=X7g (P:=P) H (E.tyok t r hr) hx.1 hx.2 hv;exact Gives.plain H this.1 (by simp[Instr.loadAt,Instr.sureAddr,ren,this.2])
 ·cases hv
def Qbx(E:Env P)(t:TypeId)(x v:Value)(h:Heap):Option Heap :=
 match x,E.ty.get t with
 | .pointer (some a),some r=>Ytg r h a v
 | _,_=>none
def Z0l(E:Env P)(H:HRel E.G Y h w){t:TypeId}{x v:Value}{h':Heap}(hx:okV (dom Y) x)(hv:okV (dom Y) v)(hh:Qbx E t x v h=some h') :
  ∃ w',(Instr.storeAt t (ren Y x) (ren Y v)).run P w=.ok () w'/\HRel E.G Y h' w'/\Turn Y h w Y h' w':=by
 unfold Qbx at hh;split at hh
 ·rename_i a r hr;simp only[okV]at hx;obtain⟨w',r1,r2,r3⟩:=Yyj (P:=P) H (E.tyok t r hr) hx.1 hx.2 hv hh;exact⟨w',by simp[Instr.storeAt,Instr.sureAddr,ren,r1],r2,r3⟩
 ·cases hh
def Zj1(H:HRel G Y h w)(e:TypeId){l:List Value}(hl:∀ v ∈ l,okV (dom Y) v/\v.oneCell'=true) :
  Gives P G Y h w (do pure (.pointer (some (<- newRow e (l.map (ren Y)).toArray)))) (.pointer (some ⟨h.next,0,none⟩)) (h.push (.cells true 1 l)):=by
 obtain⟨Y',w',r1,r2,r3,r4,r5,r6⟩:=Ygk (P:=P) H e hl;exact⟨Y',w',by simp[r1,ren,r2],by simp only[okV];exact⟨r3,trivial⟩,r4,r5,r6⟩
def Yzz(H:HRel G Y h w)(e:TypeId){l:List Value}(hl:∀ v ∈ l,okV (dom Y) v/\v.oneCell'=true)(n c:Nat)(hc:c≠Qm5) :
  Gives P G Y h w (do pure (.slice (some (<- newRow e (l.map (ren Y)).toArray)) n c)) (.slice (some ⟨h.next,0,none⟩) n c) (h.push (.cells true 1 l)):=by
 obtain⟨Y',w',r1,r2,r3,r4,r5,r6⟩:=Ygk (P:=P) H e hl;exact⟨Y',w',by simp[r1,ren,r2,Xdb,hc],by simp only[okV];exact⟨r3,trivial⟩,r4,r5,r6⟩
def Qbd(E:Env P)(t:TypeId)(h:Heap):Option (Value × Heap) :=
 match E.ty.get t with
 | some r=>some (.pointer (some ⟨h.next,0,none⟩),h.push (.cells true 1 r.zero.cells.toList))
 | none=>none
def Q4x(Y:Ren)(l:List Value)(h:∀ v ∈ l,flat v=true):l.map (ren Y)=l:=by
 induction l with
 | nil=>rfl
 | cons v l ih=>simp[Qgx Y (h v (by simp)),ih fun u hu=>h u (by simp[hu])]
def Xac{z:Value}(hz:flat z=true)(hn:Qh6 z=true)(D:Nat->Prop):∀ v ∈ z.cells.toList,okV D v/\v.oneCell'=true :=
 fun v hv=>Ydl D z (flat_ok D z hz) hn v (by simpa using hv)
def Z6f{c:Array Value}(hz:flat (.agg c)=true):∀ v ∈ c.toList,flat v=true:=by
 simp only[flat,aq]at hz;have : ∀ l:List Value,flatL l=true->∀ v ∈ l,flat v=true:=by
  intro l;induction l with
  | nil=>simp
  | cons u l ih=>intro hl v hv;simp only[flatL,aq]at hl;rcases ax.1 hv with rfl | h;exact hl.1;exact ih hl.2 v h
 cases c;exact this _ (by simpa[flatA]using hz.1)
def Qr3{z:Value}(hz:flat z=true)(hn:Qh6 z=true):∀ v ∈ z.cells.toList,flat v=true:=by
 cases z <;> simp only[Value.cells] <;>
  first
   | exact Z6f hz
   | (intro v hv;simp only[aw]at hv;subst hv;exact hz)
   | simp[Qh6]at hn
def Z2g(E:Env P)(H:HRel E.G Y h w){t:TypeId}{v old:Value}{h':Heap}(hh:Qbd E t h=some (v,h')) :
  Gives P E.G Y h w (Instr.alloc t true old) v h':=by
 unfold Qbd at hh;split at hh
 ·rename_i r hr;cases hh;have ho:=E.tyok t r hr;obtain⟨_,i,_,_,_,_,hf,hn,_⟩:=ho;have:=Zj1 (P:=P) H t (Xac hf hn _);rw[Q4x Y _ (Qr3 hf hn)]at this;obtain⟨Y',w',r1,r2⟩:=this;refine⟨Y',w',?_,r2⟩;simp only[Instr.alloc,ar,Qie (E.tyok t r hr),ai]at r1 ⊢;simpa[newVar]using r1
 ·cases hh
def Zqi(x:Value)(h:Heap):Option (Value × Heap) :=
 if Qh6 x then some (.pointer (some ⟨h.next,0,none⟩),h.push (.cells true 1 x.cells.toList))else none
def Jcm(H:HRel G Y h w){t:TypeId}{x v:Value}{h':Heap}(hx:okV (dom Y) x)(hh:Zqi x h=some (v,h')) :
  Gives P G Y h w (Instr.box t (ren Y x)) v h':=by
 unfold Zqi at hh;split at hh
 ·rename_i hn;cases hh;have:=Zj1 (P:=P) H t (l:=x.cells.toList) (fun u hu=>Ydl _ x hx hn u (by simpa using hu));obtain⟨Y',w',r1,r2⟩:=this;refine⟨Y',w',?_,r2⟩;have e:(List.map (ren Y) x.cells.toList).toArray=x.cells.map (ren Y):=by rw[<- bI]
  rw[e]at r1;simp only[Instr.box,newVar,Yts];exact r1
 ·cases hh
def Xqi(place:Nat->Option (Nat × Nat)):List Value->List (Nat × Value)->Option (List Value)
 | c,[]=>some c
 | c,(i,v)::r =>
  match place i with
  | none=>none
  | some (off,size) =>
   if Qh6 v && v.cells.size == size && Nat.ble (off+size) c.length then
    match Ql3 c off v.cells.toList with
    | some c'=>Xqi place c' r
    | none=>none
   else none
def Zpo(off:Nat):∀ (l:List Value) (k:Nat) (c:Array Value),off+k+l.length<=c.size ->
  ((l.zipIdx k).foldl (fun cs (x:Value × Nat)=>cs.setIfInBounds (off+x.2) x.1) c).size=c.size /\
  ∀ i,((l.zipIdx k).foldl (fun cs (x:Value × Nat)=>cs.setIfInBounds (off+x.2) x.1) c)[i]? = if off+k<=i/\i < off+k+l.length then l[i-(off+k)]? else c[i]?
 | [],k,c,_=>⟨rfl,fun i=>by rw[if_neg (by simp)];rfl⟩
 | v::l,k,c,h=>by
  simp only[bH]at h;obtain⟨h1,h2⟩:=Zpo off l (k+1) (c.setIfInBounds (off+k) v) (by simp;omega);refine⟨by simpa using h1,fun i => ?_⟩;simp only[List.zipIdx_cons,List.foldl_cons];rw[h2 i];by_cases hi:i=off+k
  ·subst hi;rw[if_neg (by omega),if_pos (by simp)];simp[show off+k < c.size by omega]
  ·by_cases hc:off+(k+1)<=i/\i < off+(k+1)+l.length
   ·rw[if_pos hc,if_pos (by simp;omega),show i-(off+k)=(i-(off+(k+1)))+1 by omega,bY]
   ·rw[if_neg hc,if_neg (by simp;omega),bS,if_neg (by omega)]
def Yr5(place:Nat->Option (Nat × Nat)):∀ (parts:List (Nat × Value)) (c c':List Value),Xqi place c parts=some c'->(∀ p ∈ parts,okV (dom Y) p.2) ->
  (∀ v ∈ c,okV (dom Y) v/\v.oneCell'=true) ->
  Instr.fill place (c.map (ren Y)).toArray (parts.map fun p=>(p.1,ren Y p.2))=some (c'.map (ren Y)).toArray/\c'.length=c.length/\∀ v ∈ c',okV (dom Y) v/\v.oneCell'=true
 | [],c,c',h,_,hc=>by simp only[Xqi,av]at h;subst h;exact⟨rfl,rfl,hc⟩
 | (i,v)::r,c,c',h,hp,hc=>by
  simp only[Xqi]at h;cases hpl:place i with
  | none=>simp[hpl]at h
  | some os =>
   obtain⟨off,size⟩:=os;simp only[hpl]at h;split at h
   ·rename_i hcond;simp only[aq,beq_iff_eq,cH]at hcond;obtain⟨⟨hn,hsz⟩,hle⟩:=hcond;cases hs:Ql3 c off v.cells.toList with
    | none=>simp[hs]at h
    | some c1 =>
     simp only[hs]at h;obtain⟨s1,s2,s3⟩:=X8q _ _ _ _ hs;have hvc:=Ydl (dom Y) v (hp (i,v) bR) hn;have hc1:∀ u ∈ c1,okV (dom Y) u/\u.oneCell'=true:=by
      intro u hu;obtain⟨j,hj⟩:=cK hu;rw[s3 j]at hj;split at hj
      ·exact hvc u (by simpa using ak hj)
      ·exact hc u (ak hj)
     obtain⟨f1,f2,f3⟩:=Yr5 place r c1 c' h (fun p hp'=>hp p (bb _ hp')) hc1;refine⟨?_,by rw[f2,s1],f3⟩;simp only[aR,Instr.fill,hpl,Yts,Array.size_map,hsz,List.size_toArray,aT];rw[if_neg (by simp;omega)];rw[<- f1];congr 1;have hz:=Zpo off (v.cells.toList.map (ren Y)) 0 (c.map (ren Y)).toArray (by simp[hsz];omega);have he:((v.cells.map (ren Y)).zipIdx.foldl (fun cs (x:Value × Nat)=>cs.setIfInBounds (off+x.2) x.1) (c.map (ren Y)).toArray) =
       (((v.cells.toList.map (ren Y)).zipIdx 0).foldl (fun cs (x:Value × Nat)=>cs.setIfInBounds (off+x.2) x.1) (c.map (ren Y)).toArray):=by
      rw[<- Array.foldl_toList,Array.toList_zipIdx,bI]
     refine he.trans ?_;apply ct;intro j;rw[hz.2 j];simp only[cg,aT,List.getElem?_toArray,bf];rw[s3 j];split <;> simp
   ·cases h
def Q17(E:Env P):List Field->Option (List (Nat × Nat))
 | []=>some []
 | f::r=>match E.ty.get f.type,Q17 E r with
  | some t,some l=>some ((f.offset,t.size)::l)
  | _,_=>none
def nth{A:Type}:List A->Nat->Option A
 | [],_=>none
 | x::_,0=>some x
 | _::l,n+1=>nth l n
def Xg5{A:Type}:∀ (l:List A) (n:Nat),nth l n=l[n]?
 | [],n=>by simp[nth]
 | x::l,0=>by simp[nth]
 | x::l,n+1=>by simp[nth,Xg5 l n]
def Yrz(E:Env P)(w:World):∀ (fs:List Field) (l:List (Nat × Nat)),Q17 E fs=some l ->
  (fs.mapM fun f=>(do pure (f.offset,<- sizeOf f.type):Sem (Nat × Nat))).run P w=.ok l w
 | [],l,h=>by simp[Q17]at h;subst h;rfl
 | f::r,l,h=>by
  simp only[Q17]at h;split at h
  ·rename_i t l' ht hl';cases h;have:=Yrz E w r l' hl';simp only[List.mapM_cons,ar,Uz (E.tyok _ _ ht),ai,aQ,this]
  ·cases h
def Qm8(E:Env P)(t:TypeId)(parts:List (Nat × Value)):Option Value :=
 match E.ty.get t with
 | none=>none
 | some r =>
  match r.desc with
  | .struct fs=>match Q17 E fs.toList with
   | some pl=>(Xqi (nth pl) r.zero.cells.toList parts).map fun c => .agg c.toArray
   | none=>none
  | .array _ e=>match E.ty.get e with
   | some re=>(Xqi (fun i=>some (i*re.size,re.size)) r.zero.cells.toList parts).map fun c => .agg c.toArray
   | none=>none
  | _=>none
def Z0a(E:Env P)(H:HRel E.G Y h w){t:TypeId}{parts:List (Nat × Value)}{v:Value}(hp:∀ p ∈ parts,okV (dom Y) p.2)(hv:Qm8 E t parts=some v) :
  Gives P E.G Y h w (Instr.build t (parts.map fun p=>(p.1,ren Y p.2)).toArray) v h:=by
 unfold Qm8 at hv;cases hr:E.ty.get t with
 | none=>simp[hr]at hv
 | some r =>
  simp only[hr]at hv;have ho:=E.tyok t r hr;obtain⟨hu,i,_,_,_,_,hf,hn,_⟩:=ho;have hz:=Xac hf hn (dom Y);have hzm:=Q4x Y _ (Qr3 hf hn);split at hv
  ·rename_i fs hd;cases hpl:Q17 E fs.toList with
   | none=>simp[hpl]at hv
   | some pl =>
    simp only[hpl,am]at hv;obtain⟨c,hc,rfl⟩:=hv;obtain⟨f1,f2,f3⟩:=Yr5 (Y:=Y) _ _ _ _ hc hp hz;rw[hzm]at f1;refine Gives.plain H (Xgc _ _ f3) ?_;have hm:(fs.mapM fun f=>(do pure (f.offset,<- sizeOf f.type):Sem (Nat × Nat))).run P w=.ok pl.toArray w:=by
     rw[Array.mapM_eq_mapM_toList,Sem.run_map,Yrz E w _ _ hpl];rfl
    have hpl':(fun x=>pl.toArray[x]?)=nth pl:=by funext x;simp[Xg5]
    simp only[Instr.build,ar,Qie (E.tyok t r hr),ai,run_underlying hu,hd,hm,hpl'];rw[show r.zero.cells=r.zero.cells.toList.toArray by simp,f1];simp
  ·rename_i n e hd;cases he:E.ty.get e with
   | none=>simp[he]at hv
   | some re =>
    simp only[he,am]at hv;obtain⟨c,hc,rfl⟩:=hv;obtain⟨f1,f2,f3⟩:=Yr5 (Y:=Y) _ _ _ _ hc hp hz;rw[hzm]at f1;refine Gives.plain H (Xgc _ _ f3) ?_;simp only[Instr.build,ar,Qie (E.tyok t r hr),ai,run_underlying hu,hd,Uz (E.tyok e re he)];rw[show r.zero.cells=r.zero.cells.toList.toArray by simp,f1];simp
  ·cases hv
def Qda(z:List Value):Nat->List Value
 | 0=>[]
 | n+1=>z++Qda z n
def Y5u(z:List Value)(n:Nat):(Qda z n).length=n*z.length:=by
 induction n with
 | zero=>simp[Qda]
 | succ n ih=>simp[Qda,ih,Nat.succ_mul];omega
def Yyq(z:List Value)(hz:0 < z.length):∀ (n i:Nat),i < n*z.length->(Qda z n)[i]? = z[i % z.length]?
 | 0,i,h=>by simp at h
 | n+1,i,h=>by
  simp only[Qda];by_cases hi:i < z.length
  ·rw[aM hi,dx hi]
  ·have hge:z.length<=i:=Nat.le_of_not_lt hi;rw[aS hge,Yyq z hz n (i-z.length) (by rw[Nat.succ_mul]at h;omega)];congr 1
   conv=>rhs;rw[show i=(i-z.length)+z.length by omega,Nat.add_mod_right]
def Q5s(z:Array Value)(n:Nat)(hz:0 < z.size):((Array.range (n*z.size)).map (fun x=>z[x % z.size]!))=(Qda z.toList n).toArray:=by
 apply ct;intro i;by_cases hi:i < n*z.size
 ·have hm:i % z.size < z.size:=Nat.mod_lt _ hz;have h1:=Yyq z.toList (by simpa using hz) n i (by simpa using hi);simp only[List.getElem?_toArray,h1];simp[hi,hm]
 ·have h2:(Qda z.toList n).length<=i:=by rw[Y5u];simpa using hi
  simp[hi,bm h2]
def Qsh{z:List Value}{v:Value}:∀ {n:Nat},v ∈ Qda z n->v ∈ z
 | 0,h=>by simp[Qda]at h
 | n+1,h=>by simp only[Qda,ac]at h;exact h.elim id Qsh
def Vj(E:Env P)(t:TypeId)(len:Nat)(parts:List (Nat × Value))(h:Heap):Option (Value × Heap) :=
 match E.ty.get t with
 | none=>none
 | some r =>
  match r.desc with
  | .slice e=>match E.ty.get e with
   | some re =>
    if Nat.ble (len*re.size) 16777216 && Nat.ble 1 re.size then
     (Xqi (fun i=>some (i*re.size,re.size)) (Qda re.zero.cells.toList len) parts).map fun c=>(.slice (some ⟨h.next,0,none⟩) len len,h.push (.cells true 1 c))
    else none
   | none=>none
  | _=>none
def Y6z(E:Env P)(H:HRel E.G Y h w){t:TypeId}{len:Nat}{parts:List (Nat × Value)}{v:Value}{h':Heap}(hp:∀ p ∈ parts,okV (dom Y) p.2)(hv:Vj E t len parts h=some (v,h')) :
  Gives P E.G Y h w (Instr.buildSlice t len (parts.map fun p=>(p.1,ren Y p.2)).toArray) v h':=by
 unfold Vj at hv;cases hr:E.ty.get t with
 | none=>simp[hr]at hv
 | some r =>
  simp only[hr]at hv;split at hv
  ·rename_i e hd;cases he:E.ty.get e with
   | none=>simp[he]at hv
   | some re =>
    simp only[he]at hv;split at hv
    ·rename_i hcond;simp only[aq,cH]at hcond;obtain⟨hle,h1⟩:=hcond;simp only[am]at hv;obtain⟨c,hc,hv⟩:=hv;cases hv;have ho:=E.tyok e re he;obtain⟨_,i,_,_,_,_,hf,hn,hzs,_⟩:=ho;have hz:∀ v ∈ Qda re.zero.cells.toList len,okV (dom Y) v/\v.oneCell'=true:=fun v hv=>Xac hf hn (dom Y) v (Qsh hv);have hzm:=Q4x Y (Qda re.zero.cells.toList len) (fun v hv=>Qr3 hf hn v (Qsh hv));obtain⟨f1,f2,f3⟩:=Yr5 (Y:=Y) _ _ _ _ hc hp hz;rw[hzm]at f1;have hlen:len<=16777216:=al (Nat.le_mul_of_pos_right _ h1) hle;have hg:=Yzz (P:=P) H e f3 len len (by unfold Qm5;omega);obtain⟨Y',w',r1,r2⟩:=hg;refine⟨Y',w',?_,r2⟩;rw[<- r1];have hn2:¬ len*re.size > 2 ^ 24:=(by simpa using hle);simp only[Instr.buildSlice,ar,run_underlying (E.tyok t r hr).1,hd,ai,Uz (E.tyok e re he),dD];rw[if_neg hn2];by_cases h0:len*re.size=0
     ·have hl0:len=0:=by rcases Nat.mul_eq_zero.1 h0 with h | h <;> omega
      subst hl0;have f1':Instr.fill (fun i=>some (i*re.size,re.size)) #[] (List.map (fun p=>(p.fst,ren Y p.snd)) parts)=some (List.map (ren Y) c).toArray:=f1;have hr0:∀ f:Nat->Value,(Array.range 0).map f = #[]:=fun f=>by simp
      simp only[h0,if_true,aQ,ai,hr0,f1',ar]
     ·simp only[aQ,ai];rw[if_neg h0];simp only[Qie (E.tyok e re he),ai];rw[<- hzs,Q5s _ _ (by omega),hzs,f1];simp
    ·cases hv
  ·cases hv
end
section
variable(P:Program)
def mkV(agg:Bool)(l:List Value):Value:=if agg then .agg l.toArray else l.headD undef
def rep(l:List Nat):Nat->List Nat
 | 0=>[]
 | n+1=>l++rep l n
def X1z(t:TypeId):Bool:=match P.underlying t with | some d=>Qeg d | none=>false
def Q07(g:TypeId->Option (List Nat)):List Field->Nat->Option (List Nat)
 | [],_=>some []
 | f::fs,acc =>
  if f.name == "_" || f.offset != acc then none else
  match g f.type with
  | some l=>if l.length == P.cellsOf f.type then(match Q07 g fs (acc+l.length)with | some r=>some (l++r) | none=>none)else none
  | none=>none
def Qy9:Nat->TypeId->Option (List Nat)
 | 0,_=>none
 | d+1,t =>
  match P.underlying t with
  | some .bool=>some [2]
  | some (.int _)=>some [1]
  | some .string=>some [3]
  | some (.array n e)=>match Qy9 d e with
   | some l=>if l.length == P.cellsOf e && !l.isEmpty then some (rep l n)else none
   | none=>none
  | some (.struct fs)=>if P.stoodInHeld t then none else Q07 P (Qy9 d) fs.toList 0
  | _=>none
end
section
variable{P:Program}
def Qtb:∀ (ls:List Nat) (xs ys:List Value) (b:Bool),Qal ls xs ys=some b->xs.length=ls.length/\ys.length=ls.length
 | [],[],[],_,_=>by simp
 | l::ls,x::xs,y::ys,b,h=>by
  simp only[Qal]at h;split at h
  ·rename_i a c h1 h2;have:=Qtb ls xs ys c h2;simp[this]
  ·cases h
 | [],_::_,_,_,h=>by simp[Qal]at h
 | [],[],_::_,_,h=>by simp[Qal]at h
 | _::_,[],_,_,h=>by simp[Qal]at h
 | _::_,_::_,[],_,h=>by simp[Qal]at h
def Xih:∀ (a c:List Nat) (xs ys:List Value) (r:Bool),Qal (a++c) xs ys=some r ->
  ∃ r1 r2,Qal a (xs.take a.length) (ys.take a.length)=some r1/\Qal c (xs.drop a.length) (ys.drop a.length)=some r2/\r=(r1 && r2)
 | [],c,xs,ys,r,h=>⟨true,r,by simp[Qal],by simpa using h,by simp⟩
 | l::a,c,x::xs,y::ys,r,h=>by
  simp only[List.cons_append,Qal]at h;split at h
  ·rename_i p q h1 h2;obtain⟨r1,r2,e1,e2,e3⟩:=Xih a c xs ys q h2;cases h;exact⟨p && r1,r2,by simp[Qal,h1,e1],by simpa using e2,by rw[e3,Bool.and_assoc]⟩
  ·cases h
 | _::_,_,[],_,_,h=>by simp[Qal]at h
 | _::_,_,_::_,[],_,h=>by simp[Qal]at h
def EqL(P:Program)(d:Nat)(t:TypeId)(ls:List Nat):Prop :=
 ∀ (xs ys:List Value) (b:Bool) (w:World),Qal ls xs ys=some b->(Op.equalIn d t (mkV (X1z P t) xs) (mkV (X1z P t) ys)).run P w=.ok b w
def Qzy{e:TypeId}{dd:TypeDesc}(hu:P.underlying e=some dd)(xs:List Value)(off:Nat)(w:World)(hl:off+P.cellsOf e<=xs.length)(h1:X1z P e=false->0 < P.cellsOf e) :
  (part e xs.toArray off).run P w=.ok (mkV (X1z P e) ((xs.drop off).take (P.cellsOf e))) w:=by
 obtain⟨i,hi⟩:=info_of_underlying hu;have hag:(isAgg e).run P w=.ok (X1z P e) w:=by
  simp only[isAgg,ar,run_underlying hu,ai,X1z,hu];cases dd <;> rfl
 simp only[part,ar,hag,ai];cases ha:X1z P e with
 | true =>
  simp only[if_true,ar,run_sizeOf w hi,ai,aQ,mkV];congr 2;apply bU;simp[List.extract]
 | false =>
  have h0:=h1 ha;have hx:xs.toArray[off]? = some (xs[off]'(by omega)):=by simp
  simp only[aL,if_false,hx,mkV,aQ];congr 1;rw[bF (by omega),show P.cellsOf e=(P.cellsOf e-1)+1 by omega,List.take_succ_cons];rfl
def Xb8{d:Nat}{t:TypeId}{ls:List Nat}(h:Qy9 P d t=some ls):∃ dd,P.underlying t=some dd/\(Qeg dd=false->ls.length=1):=by
 cases d with
 | zero=>simp[Qy9]at h
 | succ d =>
  simp only[Qy9]at h;split at h <;> first
   | (rename_i hu;cases h;exact⟨_,hu,fun _=>rfl⟩)
   | (rename_i hu;exact⟨_,hu,fun hx=>by simp[Qeg]at hx⟩)
   | cases h
def Yzr{d k:Nat}(xs ys:List Value):∀ (fs:List Field) (acc:Nat) (ls:List Nat) (r:Bool) (w:World),(∀ t l,Qy9 P k t=some l->EqL P d t l)->Q07 P (Qy9 P k) fs acc=some ls ->
  Qal ls (xs.drop acc) (ys.drop acc)=some r->(Op.eqFields d xs.toArray ys.toArray fs).run P w=.ok r w
 | [],acc,ls,r,w,_,h,he=>by
  simp only[Q07,av]at h;subst h;have:=Qtb _ _ _ _ he;have h1:xs.drop acc=[]:=aU this.1;have h2:ys.drop acc=[]:=aU this.2;rw[h1,h2]at he;simp only[Qal,av]at he;subst he;simp[Op.eqFields]
 | f::fs,acc,ls,r,w,IH,h,he=>by
  simp only[Q07]at h;split at h
  ·cases h
  ·rename_i hc;simp only[cd,beq_iff_eq,bne_iff_ne,ne_eq,not_or,Decidable.not_not]at hc;cases hl:Qy9 P k f.type with
   | none=>simp[hl]at h
   | some l =>
    simp only[hl]at h;split at h
    ·rename_i hlen;simp only[beq_iff_eq]at hlen;cases hr:Q07 P (Qy9 P k) fs (acc+l.length)with
     | none=>simp[hr]at h
     | some rs =>
      simp only[hr,av]at h;subst h;obtain⟨r1,r2,e1,e2,e3⟩:=Xih l rs _ _ _ he;rw[cB,cB]at e2;have ih:=Yzr xs ys fs (acc+l.length) rs r2 w IH hr e2;obtain⟨dd,hu,h1⟩:=Xb8 hl;have hln:=Qtb _ _ _ _ he;simp only[bK,aj]at hln;have hz:X1z P f.type=false->0 < P.cellsOf f.type:=fun ha=>by
       have:=h1 (by simpa[X1z,hu]using ha);omega
      have hzl:l ≠ []->acc+P.cellsOf f.type<=xs.length/\acc+P.cellsOf f.type<=ys.length:=fun hne=>by
       have : 0 < l.length:=List.length_pos_iff.2 hne;omega
      by_cases hne:l=[]
      ·subst hne;have hag:X1z P f.type=true:=by
        cases ha:X1z P f.type with
        | true=>rfl
        | false=>have:=h1 (by simpa[X1z,hu]using ha);simp at this
       simp only[cX]at hlen e1;obtain⟨i,hi⟩:=info_of_underlying hu;have hpart:∀ zs:List Value,(part f.type zs.toArray f.offset).run P w=.ok (mkV (X1z P f.type) []) w:=by
        intro zs;have hagr:(isAgg f.type).run P w=.ok (X1z P f.type) w:=by
         simp only[isAgg,ar,run_underlying hu,ai,X1z,hu];cases dd <;> rfl
        simp only[part,ar,hagr,ai,hag,if_true,run_sizeOf w hi,aQ,mkV,<- hlen];congr 2;apply bU;simp[List.extract]
       have hE:=IH f.type [] hl [] [] true w (by simp[Qal]);simp only[List.take_zero,Qal,av]at e1;subst e1;simp only[Op.eqFields,hc.1,ne_eq,not_false_eq_true,if_true,ar,hpart,ai,hE,cx,aL,if_false,ih,e3,dC]
      ·have hb:=hzl hne;have p1:=Qzy hu xs f.offset w (by rw[hc.2];exact hb.1) hz;have p2:=Qzy hu ys f.offset w (by rw[hc.2];exact hb.2) hz;rw[hc.2,<- hlen]at p1 p2;have hE:=IH f.type l hl _ _ r1 w e1;simp only[Op.eqFields,hc.1,ne_eq,not_false_eq_true,if_true,ar,hc.2,p1,p2,ai,hE];cases r1 with
       | false=>simp[e3]
       | true=>simp[e3,ih]
    ·cases h
def Y9o{d k:Nat}{e:TypeId}{l:List Nat}(xs ys:List Value)(IH:EqL P d e l)(hl:Qy9 P k e=some l)(hlen:l.length=P.cellsOf e)(hne:l ≠ []):∀ (m s:Nat) (r:Bool) (w:World),
  Qal (rep l m) (xs.drop (s*P.cellsOf e)) (ys.drop (s*P.cellsOf e))=some r->(Op.eqItems d e (P.cellsOf e) xs.toArray ys.toArray (List.range' s m)).run P w=.ok r w
 | 0,s,r,w,he=>by
  have:=Qtb _ _ _ _ he;simp only[rep,cX]at this;have h1:xs.drop (s*P.cellsOf e)=[]:=aU this.1;have h2:ys.drop (s*P.cellsOf e)=[]:=aU this.2;rw[h1,h2]at he;simp only[rep,Qal,av]at he;subst he;simp[Op.eqItems]
 | m+1,s,r,w,he=>by
  have hln:=Qtb _ _ _ _ he;obtain⟨r1,r2,e1,e2,e3⟩:=Xih l (rep l m) _ _ _ he;rw[cB,cB,hlen,show s*P.cellsOf e+P.cellsOf e=(s+1)*P.cellsOf e by rw[Nat.succ_mul]]at e2;have ih:=Y9o xs ys IH hl hlen hne m (s+1) r2 w e2;obtain⟨dd,hu,h1⟩:=Xb8 hl;simp only[bK,rep,aj]at hln;have h0:0 < l.length:=List.length_pos_iff.2 hne;have p1:=Qzy hu xs (s*P.cellsOf e) w (by omega) (fun _=>by omega);have p2:=Qzy hu ys (s*P.cellsOf e) w (by omega) (fun _=>by omega);rw[<- hlen]at p1 p2;rw[<- hlen]at e1;have hE:=IH _ _ r1 w e1;rw[<- hlen]at ih ⊢;simp only[List.range'_succ,Op.eqItems,ar,p1,p2,ai,hE];cases r1 with
  | false=>simp[e3]
  | true=>simp[e3,ih]
def Zkz(c:Nat):∀ (k:Nat) (t:TypeId) (ls:List Nat),Qy9 P k t=some ls->EqL P (c+k) t ls
 | 0,t,ls,h=>by simp[Qy9]at h
 | k+1,t,ls,h=>by
  have IH:∀ t l,Qy9 P k t=some l->EqL P (c+k) t l:=fun t l h=>Zkz c k t l h;intro xs ys b w he;simp only[Qy9]at h;have single:∀ n,ls=[n]->X1z P t=false->(∀ x y,Ylh n x y=some b->(Op.equalIn (c+(k+1)) t x y).run P w=.ok b w)->(Op.equalIn (c+(k+1)) t (mkV (X1z P t) xs) (mkV (X1z P t) ys)).run P w=.ok b w:=by
   intro n hn ha hx;subst hn;have hl:=Qtb _ _ _ _ he
   match xs,ys,hl with
   | [x],[y],_ =>
    simp only[Qal]at he;split at he
    ·rename_i p q h1 h2;cases h2;cases he;simp only[ha,mkV,aL,if_false,List.headD_cons];exact hx x y (by rw[h1];simp)
    ·cases he
  split at h
  ·rename_i hu;cases h;refine single 2 rfl (by simp[X1z,hu,Qeg]) fun x y hxy => ?_;unfold Ylh at hxy;split at hxy <;> simp at *;subst hxy;rw[<- cM];exact run_equalIn_bool' w _ t _ _ hu
  ·rename_i q hu;cases h;refine single 1 rfl (by simp[X1z,hu,Qeg]) fun x y hxy => ?_;unfold Ylh at hxy;split at hxy <;> simp at *;obtain⟨rfl,hxy⟩:=hxy;subst hxy;rw[<- cM];exact run_equalIn_int w _ t _ q _ _ hu
  ·rename_i hu;cases h;refine single 3 rfl (by simp[X1z,hu,Qeg]) fun x y hxy => ?_;unfold Ylh at hxy;split at hxy <;> simp at *;subst hxy;rw[<- cM];rename_i s1 s2;rw[run_equalIn_string w _ t _ _ hu,beq_toListBytes]
  ·rename_i n e hu;split at h
   ·rename_i l hl;split at h
    ·rename_i hc;simp only[aq,beq_iff_eq,cD,List.isEmpty_eq_false_iff]at hc;cases h;obtain⟨dd,hue,_⟩:=Xb8 hl;obtain⟨i,hi⟩:=info_of_underlying hue;have hag:X1z P t=true:=(by simp[X1z,hu,Qeg]);simp only[hag,mkV,if_true];rw[<- cM,run_equalIn_array w _ _ _ hu hi,dE];exact Y9o xs ys (IH e l hl) hl hc.1 hc.2 n 0 b w (by simpa using he)
    ·cases h
   ·cases h
  ·rename_i fs hu;split at h
   ·cases h
   ·rename_i hst;have hag:X1z P t=true:=(by simp[X1z,hu,Qeg]);simp only[hag,mkV,if_true];have hf:P.fieldsOf t=fs:=(by simp[Program.fieldsOf,hu]);rw[<- cM,run_equalIn_struct w _ t _ _ (by rw[hf];exact hu) (by simpa using hst),hf];exact Yzr xs ys _ 0 ls b w IH h (by simpa using he)
  ·cases h
def Jk2(P:Program)(d:Nat)(t:TypeId)(ls:List Nat):Prop :=
 ∀ (em:Bool) (xs:List Value) (w:World),xs.length=ls.length->(Instr.checkKey em d t (mkV (X1z P t) xs)).run P w=.ok () w
def Zxy(l:List Nat)(n:Nat):(rep l n).length=n*l.length:=by
 induction n with
 | zero=>simp[rep]
 | succ n ih=>simp[rep,ih,Nat.succ_mul];omega
def Y8c(c:Nat):∀ (k:Nat) (t:TypeId) (ls:List Nat),Qy9 P k t=some ls->Jk2 P (c+k) t ls
 | 0,t,ls,h=>by simp[Qy9]at h
 | k+1,t,ls,h=>by
  have IH:∀ t l,Qy9 P k t=some l->Jk2 P (c+k) t l:=fun t l h=>Y8c c k t l h;intro em xs w hlen;simp only[Qy9]at h;rw[<- cM,Instr.checkKey];split at h
  ·rename_i hu;simp only[ar,run_underlying hu,ai,aQ]
  ·rename_i q hu;simp only[ar,run_underlying hu,ai,aQ]
  ·rename_i hu;simp only[ar,run_underlying hu,ai,aQ]
  ·rename_i n e hu;split at h
   ·rename_i l hl;split at h
    ·rename_i hc;simp only[aq,beq_iff_eq,cD,List.isEmpty_eq_false_iff]at hc;cases h;obtain⟨dd,hue,h1⟩:=Xb8 hl;obtain⟨i,hi⟩:=info_of_underlying hue;have hag:X1z P t=true:=(by simp[X1z,hu,Qeg]);simp only[hag,mkV,if_true];simp only[ar,run_underlying hu,ai];simp only[Std.Legacy.Range.forIn_eq_forIn_range',Std.Legacy.Range.size,dq,Nat.add_one_sub_one,Nat.div_one];have hz:0 < l.length:=List.length_pos_iff.2 hc.2;rw[Zxy]at hlen;have each:∀ j ∈ List.range' 0 n,j < n:=fun j hj=>by simpa using hj
     generalize List.range' 0 n=is at each;induction is with
     | nil=>simp
     | cons j is ih =>
      have hj:=each j (by simp);have hle:j*P.cellsOf e+P.cellsOf e<=xs.length:=by
       rw[hlen,<- hc.1,<- Nat.succ_mul];exact cm _ hj
      have p1:=Qzy hue xs (j*P.cellsOf e) w hle (fun _=>by omega);have p2:=IH e l hl em ((xs.drop (j*P.cellsOf e)).take (P.cellsOf e)) w (by
       rw[bG,bK,hc.1];omega)
      simp only[List.forIn_cons,ar,run_sizeOf w hi,ai,p1,p2,aQ];exact ih (fun y hy=>each y (by simp[hy]))
    ·cases h
   ·cases h
  ·rename_i fs hu;split at h
   ·cases h
   ·rename_i hst;have hag:X1z P t=true:=(by simp[X1z,hu,Qeg]);simp only[hag,mkV,if_true];simp only[ar,run_underlying hu,ai];rw[<- Array.forIn_toList];have key:∀ (L:List Field) (acc:Nat) (ls:List Nat),Q07 P (Qy9 P k) L acc=some ls->acc+ls.length<=xs.length ->
      (forIn L PUnit.unit fun f (_:PUnit)=>(if f.name ≠ "_" then do
        let x <- part f.type xs.toArray f.offset
        Instr.checkKey em (c+k) f.type x
        pure (ForInStep.yield PUnit.unit)
       else pure (ForInStep.yield PUnit.unit):Sem (ForInStep PUnit))).run P w=.ok PUnit.unit w:=by
     intro L;induction L with
     | nil=>intro acc ls _ _;simp
     | cons f L ih =>
      intro acc ls hL hb;simp only[Q07]at hL;split at hL
      ·cases hL
      ·rename_i hcn;simp only[cd,beq_iff_eq,bne_iff_ne,ne_eq,not_or,Decidable.not_not]at hcn;split at hL
       ·rename_i l hl;split at hL
        ·rename_i hlen';simp only[beq_iff_eq]at hlen';split at hL
         ·rename_i r hr;cases hL;obtain⟨dd,hue,h1⟩:=Xb8 hl;rw[aj]at hb;have hz:X1z P f.type=false->0 < P.cellsOf f.type:=fun ha=>by
           have:=h1 (by simpa[X1z,hue]using ha);omega
          have p1:=Qzy hue xs f.offset w (by rw[hcn.2,<- hlen'];omega) hz;have p2:=IH f.type l hl em ((xs.drop f.offset).take (P.cellsOf f.type)) w (by
           rw[bG,bK,hcn.2,<- hlen'];omega)
          simp only[List.forIn_cons,ar,hcn.1,ne_eq,not_false_eq_true,if_true,ai,p1,p2,aQ];exact ih _ _ hr (by omega)
         ·cases hL
        ·cases hL
       ·cases hL
    have h9:=key fs.toList 0 ls h (by omega);rw[h9];simp
  ·cases h
def Z3t(P:Program)(t:TypeId):List Nat :=
 if P.eqGuardType P.depth t then []else if X1z P t then(Qy9 P 40 t).getD []else []
def Z52(P:Program)(t:TypeId):Jid P t (Z3t P t):=by
 intro hne;unfold Z3t at hne ⊢;split at hne
 ·exact absurd rfl hne
 ·rename_i hg;simp only[hg,aL,if_false]at hne ⊢;split at hne
  ·rename_i ha;simp only[ha,if_true];cases hl:Qy9 P 40 t with
   | none=>simp[hl]at hne
   | some ls =>
    refine⟨trivial,fun xs ys b w he => ?_,fun em xs w hx => ?_⟩
    ·have:=Zkz (P:=P) 9960 40 t ls hl xs ys b w he;simpa[ha,mkV,Op.equal,Op.maxDepth]using this
    ·have:=Y8c (P:=P) 9960 40 t ls hl em xs w hx;simpa[ha,mkV]using this
  ·exact absurd rfl hne
def Z7d(P:Program)(t:TypeId):Option TyRec :=
 match P.underlying t,P.info? t with
 | some d,some i =>
  match i.zero with
  | some z=>if flat z && Qh6 z && z.cells.size == i.size then some {desc:=d,size:=i.size,bytes:=i.bytes,zero:=z,leaf:=Z3t P t} else none
  | none=>none
 | _,_=>none
def Z7o{P:Program}{t:TypeId}{r:TyRec}(h:Z7d P t=some r):Zxf P t r:=by
 unfold Z7d at h;split at h
 ·rename_i d i hu hi;split at h
  ·rename_i z hz;split at h
   ·rename_i hc;simp only[aq,beq_iff_eq]at hc;cases h;exact⟨hu,i,hi,rfl,rfl,hz,hc.1.1,hc.1.2,hc.2,Z52 P t⟩
   ·cases h
  ·cases h
 ·cases h
def Zj5(P:Program):Nat->Tr TyRec
 | 0 => .leaf
 | n+1=>(Zj5 P n).put n (Z7d P n)
def Zmn(P:Program):∀ (n:Nat) (t:TypeId) (r:TyRec),(Zj5 P n).get t=some r->Z7d P t=some r
 | 0,t,r,h=>by simp[Zj5]at h
 | n+1,t,r,h=>by
  simp only[Zj5,Tr.get_put]at h;split at h
  ·rename_i e;subst e;exact h
  ·exact Zmn P n t r h
end
section
variable{P:Program}{Y:Ren}{h:Heap}{w:World}
def Qqi(Y:Ren)(a:Addr)(ha:dom Y a.block)(hs:a.spot=none)(n:Nat):Uu Y (a.add n)=(Uu Y a).add n:=by
 obtain⟨p,hp⟩:=aN.1 ha;obtain⟨b,o,s⟩:=a;simp only at hs hp;subst hs;by_cases hn:n=0
 ·subst hn;rfl
 ·rw[Qsg];simp[Uu,hp,Addr.add,hn,cM]
def Qvm(a:Addr)(n:Nat):(a.add n).block=a.block:=by unfold Addr.add;split <;> rfl
def Q4y(a:Addr)(n:Nat)(hs:a.spot=none):(a.add n).spot=none:=by unfold Addr.add;split <;> simp[hs]
def Vp(E:Env P)(s:TypeId)(x:Value)(f:Nat):Option Value :=
 match x,E.ty.get s with
 | .pointer (some a),some r =>
  match r.desc with
  | .struct fs=>match nth fs.toList f with
   | some fd=>match E.ty.get fd.type with
    | some rf=>if rf.size == 0 then none else some (.pointer (some (a.add fd.offset)))
    | none=>none
   | none=>none
  | _=>none
 | _,_=>none
def Zc5(E:Env P)(H:HRel E.G Y h w){s:TypeId}{x v:Value}{f:Nat}(hx:okV (dom Y) x)(hv:Vp E s x f=some v) :
  Gives P E.G Y h w (Instr.fieldAt s (ren Y x) f) v h:=by
 unfold Vp at hv;split at hv
 ·rename_i a r hr;simp only[okV]at hx;split at hv
  ·rename_i fs hd;split at hv
   ·rename_i fd hfd;split at hv
    ·rename_i rf hrf;split at hv
     ·cases hv
     ·rename_i hsz;cases hv;rw[Xg5]at hfd;have hfd':fs[f]? = some fd:=(by simpa using hfd);refine Gives.plain H (by simp only[okV,Qvm];exact⟨hx.1,Q4y _ _ hx.2⟩) ?_;have hne:¬ rf.size=0:=(by simpa using hsz);simp only[Instr.fieldAt,ar,run_underlying (E.tyok s r hr).1,hd,ai,hfd',ren,aK,Instr.sureAddr,aQ,fieldPlace,
       Uz (E.tyok _ rf hrf),hne,if_false]
      rw[Qqi Y a hx.1 hx.2]
    ·cases hv
   ·cases hv
  ·cases hv
 ·cases hv
def Jx(E:Env P)(t:TypeId)(x ix:Value):Option Value :=
 match E.ty.get t,ix with
 | some r,.int _ i =>
  match r.desc,x with
  | .array n e,.pointer (some a)=>match E.ty.get e with
   | some re=>if 0<=i/\i < n then some (.pointer (some (a.add (i.toNat*re.size))))else none
   | none=>none
  | .slice e,.slice (some a) n _=>match E.ty.get e with
   | some re=>if 0<=i/\i < n then some (.pointer (some (a.add (i.toNat*re.size))))else none
   | none=>none
  | _,_=>none
 | _,_=>none
def Zg6(E:Env P)(H:HRel E.G Y h w){t:TypeId}{x ix v:Value}(hx:okV (dom Y) x)(hv:Jx E t x ix=some v) :
  Gives P E.G Y h w (Instr.indexAt t (ren Y x) (ren Y ix)) v h:=by
 unfold Jx at hv;split at hv
 ·rename_i r k i hr;split at hv
  ·rename_i n e a hd;split at hv
   ·rename_i re hre;split at hv
    ·rename_i hc;cases hv;simp only[okV]at hx;refine Gives.plain H (by simp only[okV,Qvm];exact⟨hx.1,Q4y _ _ hx.2⟩) ?_;simp only[Instr.indexAt,ren,asIntOf,ar,aQ,ai,run_underlying (E.tyok t r hr).1,hd,aK,Instr.sureAddr,
      dD,hc,and_self,if_true,Uz (E.tyok _ re hre)]
     rw[Qqi Y a hx.1 hx.2]
    ·cases hv
   ·cases hv
  ·rename_i e a n c hd;split at hv
   ·rename_i re hre;split at hv
    ·rename_i hc;cases hv;simp only[okV]at hx;refine Gives.plain H (by simp only[okV,Qvm];exact⟨hx.1,Q4y _ _ hx.2⟩) ?_;simp only[Instr.indexAt,ren,asIntOf,ar,aQ,ai,run_underlying (E.tyok t r hr).1,hd,aK,
      dD,hc,and_self,if_true,Uz (E.tyok _ re hre)]
     rw[Qqi Y a hx.1 hx.2]
    ·cases hv
   ·cases hv
  ·cases hv
 ·cases hv
def Z65(r:TyRec)(cs:List Value)(off:Nat):Option Value :=
 if Qeg r.desc then(Q35 r.size (cs.drop off)).map fun l => .agg l.toArray else nth cs off
def Ykr{n off:Nat}{cs l:List Value}(h:Q35 n (cs.drop off)=some l):l=(cs.drop off).take n:=by
 obtain⟨h1,h2⟩:=Q3c _ _ _ h;apply dN;intro i;by_cases hi:i < n
 ·have hi':i < l.length:=by omega
  have:=h2 i l[i] (ab hi');rw[dP hi,this,ab hi']
 ·rw[bm (by omega),bm (by simp;omega)]
def Yyg{t:TypeId}{r:TyRec}(hr:Zxf P t r){cs:Array Value}{off:Nat}{v:Value}(hv:Z65 r cs.toList off=some v)(hc:okV (dom Y) (.agg cs))(w:World) :
  okV (dom Y) v/\(part t (cs.map (ren Y)) off).run P w=.ok (ren Y v) w:=by
 have hcs:=(Zrk (dom Y) cs).1 hc;unfold Z65 at hv;simp only[part,ar,Ykv hr,ai];split at hv
 ·rename_i hagg;rw[am]at hv;obtain⟨l,hl,rfl⟩:=hv;have he:=Ykr hl;obtain⟨h1,h2⟩:=Q3c _ _ _ hl;refine⟨Xgc _ _ fun v hv => ?_,?_⟩
  ·obtain⟨i,hi⟩:=cK hv;have:=h2 i v hi;rw[cN]at this;exact hcs v (by simpa using ak this)
  ·simp only[hagg,if_true,ar,Uz hr,ai,aQ,ren_agg];congr 2;apply bU;rw[he];simp[List.extract,List.map_take,List.map_drop]
 ·rename_i hagg;rw[Xg5]at hv;refine⟨(hcs v (by simpa using ak hv)).1,?_⟩;have : (cs.map (ren Y))[off]? = some (ren Y v):=by
   rw[cj];have hv':cs[off]? = some v:=by simpa using hv
   rw[hv'];rfl
  simp only[hagg,if_false,aL,this,aQ]
def Zvu(E:Env P)(t:TypeId)(x:Value)(f:Nat):Option Value :=
 match x,E.ty.get t with
 | .agg cs,some r =>
  match r.desc with
  | .struct fs=>match nth fs.toList f with
   | some fd=>match E.ty.get fd.type with
    | some rf=>Z65 rf cs.toList fd.offset
    | none=>none
   | none=>none
  | _=>none
 | _,_=>none
def Z48(E:Env P)(H:HRel E.G Y h w){t:TypeId}{x v:Value}{f:Nat}(hx:okV (dom Y) x)(hv:Zvu E t x f=some v) :
  Gives P E.G Y h w (Instr.field t (ren Y x) f) v h:=by
 unfold Zvu at hv;split at hv
 ·rename_i cs r hr;split at hv
  ·rename_i fs hd;split at hv
   ·rename_i fd hfd;split at hv
    ·rename_i rf hrf;rw[Xg5]at hfd;have hfd':fs[f]? = some fd:=(by simpa using hfd);obtain⟨h1,h2⟩:=Yyg (E.tyok _ rf hrf) hv hx w;refine Gives.plain H h1 ?_;simp only[Instr.field,ar,run_underlying (E.tyok t r hr).1,hd,ai,hfd',ren_agg,asAgg,aQ,h2]
    ·cases hv
   ·cases hv
  ·cases hv
 ·cases hv
def Zpj(E:Env P)(t:TypeId)(x ix:Value):Option Value :=
 match E.ty.get t,ix with
 | some r,.int _ i =>
  match r.desc,x with
  | .array n e,.agg cs=>match E.ty.get e with
   | some re=>if 0<=i/\i < n then Z65 re cs.toList (i.toNat*re.size)else none
   | none=>none
  | .string,.string s=>if 0<=i then(match nth s.data.toList i.toNat with | some b=>some (.int .u8 b.toNat) | none=>none)else none
  | _,_=>none
 | _,_=>none
def Z0w(E:Env P)(H:HRel E.G Y h w){t:TypeId}{x ix v:Value}(hx:okV (dom Y) x)(hv:Zpj E t x ix=some v) :
  Gives P E.G Y h w (Instr.index t (ren Y x) (ren Y ix)) v h:=by
 unfold Zpj at hv;split at hv
 ·rename_i r k i hr;split at hv
  ·rename_i n e cs hd;split at hv
   ·rename_i re hre;split at hv
    ·rename_i hc;obtain⟨h1,h2⟩:=Yyg (E.tyok _ re hre) hv hx w;refine Gives.plain H h1 ?_;simp only[Instr.index,ren_int,asIntOf,ar,aQ,ai,run_underlying (E.tyok t r hr).1,hd,ren_agg,dD,hc,and_self,if_true,
      Uz (E.tyok _ re hre),h2]
    ·cases hv
   ·cases hv
  ·rename_i s hd;split at hv
   ·rename_i hc;split at hv
    ·rename_i b hb;cases hv;rw[Xg5]at hb;have hs:s[i.toNat]? = some b:=by
      have hb':s.data[i.toNat]? = some b:=(by simpa using hb);have hlt:i.toNat < s.size:=by
       rcases bg i.toNat s.data.size with h | h
       ·exact h
       ·simp[bZ h]at hb'
      have h2:s[i.toNat]? = some (s[i.toNat]'hlt):=by rw[getElem?_pos]
      rw[h2];have h3:s.data[i.toNat]? = some (s.data[i.toNat]'hlt):=by rw[getElem?_pos]
      rw[h3]at hb';exact hb'
     refine Gives.flat H rfl ?_;simp only[Instr.index,ren_int,asIntOf,ar,aQ,ai,run_underlying (E.tyok t r hr).1,hd,ren_string,hc,if_true,hs]
    ·cases hv
   ·cases hv
  ·cases hv
 ·cases hv
def Q7(x:Value)(i:Nat):Option Value :=
 match x with
 | .tuple vs=>nth vs.toList i
 | _=>none
def Zt3{G:Bs}(H:HRel G Y h w){x v:Value}{i:Nat}(hx:okV (dom Y) x)(hv:Q7 x i=some v) :
  Gives P G Y h w (Instr.extract (ren Y x) i) v h:=by
 unfold Q7 at hv;split at hv
 ·rename_i vs;rw[Xg5]at hv;have hv':vs[i]? = some v:=by simpa using hv
  refine Gives.plain H ((Q12 _ _).1 hx v (ck hv')) ?_;have : (vs.map (ren Y))[i]? = some (ren Y v):=by rw[cj,hv'];rfl
  simp only[Instr.extract,ren_tuple,this,aQ]
 ·cases hv
def Qjv(x:Option Value)(dflt lim:Nat):Option Nat :=
 match x with
 | none=>some dflt
 | some (.int _ i)=>if 0<=i/\i<=lim then some i.toNat else none
 | _=>none
def Ql6{k:IntKind}{i:Int}{n:Nat}(hc:0<=i/\i<=n)(c:BoundsCode)(w:World):(Instr.sliceBound (.int k i) n c).run P w=.ok i.toNat w:=by
 simp[Instr.sliceBound,asIntOf,hc]
def Xbr(b:Bool)(len cap:Nat)(lo hi mx:Option Value){l h m:Nat}(hm:Qjv mx cap cap=some m)(hh:Qjv hi len m=some h)(hmx:hi=none->mx=none)(hl:Qjv lo 0 h=some l)(w:World) :
  (Instr.sliceBounds b len cap (lo.map (ren Y)) (hi.map (ren Y)) (mx.map (ren Y))).run P w=.ok (l,h,m) w:=by
 have ha:∀ (x:Option Value) (d n k:Nat),Qjv x d n=some k->(x=none/\d=k) ∨ ∃ q i,x=some (.int q i)/\0<=i/\i<=n/\i.toNat=k:=by
  intro x d n k hx;unfold Qjv at hx;split at hx
  ·left;simpa using hx
  ·rename_i q i;split at hx
   ·rename_i hc;right;exact⟨q,i,rfl,hc.1,hc.2,by simpa using hx⟩
   ·cases hx
  ·cases hx
 rcases ha _ _ _ _ hm with⟨rfl,rfl⟩ | ⟨qm,im,rfl,m1,m2,rfl⟩
 ·rcases ha _ _ _ _ hh with⟨rfl,rfl⟩ | ⟨qh,ih,rfl,h1,h2,rfl⟩
  ·rcases ha _ _ _ _ hl with⟨rfl,rfl⟩ | ⟨ql,il,rfl,l1,l2,rfl⟩
   ·simp[Instr.sliceBounds]
   ·simp[Instr.sliceBounds,Ql6 ⟨l1,l2⟩]
  ·rcases ha _ _ _ _ hl with⟨rfl,rfl⟩ | ⟨ql,il,rfl,l1,l2,rfl⟩
   ·simp[Instr.sliceBounds,Ql6 ⟨h1,h2⟩]
   ·simp[Instr.sliceBounds,Ql6 ⟨h1,h2⟩,Ql6 ⟨l1,l2⟩]
 ·rcases ha _ _ _ _ hh with⟨rfl,rfl⟩ | ⟨qh,ih,rfl,h1,h2,rfl⟩
  ·exact absurd (hmx rfl) (by simp)
  ·rcases ha _ _ _ _ hl with⟨rfl,rfl⟩ | ⟨ql,il,rfl,l1,l2,rfl⟩
   ·simp[Instr.sliceBounds,Ql6 ⟨m1,m2⟩,Ql6 ⟨h1,h2⟩]
   ·simp[Instr.sliceBounds,Ql6 ⟨m1,m2⟩,Ql6 ⟨h1,h2⟩,Ql6 ⟨l1,l2⟩]
end
section
variable{P:Program}{Y:Ren}{h:Heap}{w:World}
def Qfj(Y:Ren)(a:Option Addr)(n c:Nat)(hc:c≠Qm5):ren Y (.slice a n c)=.slice (a.map (Uu Y)) n c:=by simp[ren,Xdb,hc]
def Qte(Y:Ren)(a:Addr)(n:Nat){p:Place}(hp:Y a.block=some p):ren Y (.slice (some a) n Qm5)=.slice (some (Uu Y a)) n (p.room-a.off / p.sz):=by
 simp[ren,Xdb,hp]
def Jda(a:Option Addr)(sz l h m:Nat):Option Value :=
 if m-l == Qm5 then none else some (.slice (if m=l then a else a.map (·.add (l*sz))) (h-l) (m-l))
def Qhk(E:Env P)(t:TypeId)(x:Value)(lo hi mx:Option Value)(h:Heap):Option (Value × Heap) :=
 if hi.isNone && mx.isSome then none else
 match E.ty.get t,x with
 | some r,.pointer (some a)=>match r.desc with
  | .array n e=>match E.ty.get e,Qjv mx n n with
   | some re,some m=>match Qjv hi n m with
    | some hh=>match Qjv lo 0 hh with
     | some l=>(Jda (some a) re.size l hh m).map fun v=>(v,h)
     | none=>none
    | none=>none
   | _,_=>none
  | _=>none
 | some r,.slice a n c=>match r.desc with
  | .slice e=>match E.ty.get e with
   | none=>none
   | some re =>
    if c != Qm5 then
     match Qjv mx c c with
     | some m=>match Qjv hi n m with
      | some hh=>match Qjv lo 0 hh with
       | some l=>(Jda a re.size l hh m).map fun v=>(v,h)
       | none=>none
      | none=>none
     | none=>none
    else match a with
     | none=>none
     | some ad=>match h.get ad.block with
      | some (.cells true sz cs) =>
       if sz == re.size && ad.off % sz == 0 && Nat.ble 1 sz then
        let room:=(cs.length-ad.off) / sz
        match hi,mx with
        | none,none=>match Qjv lo 0 n with
         | some l=>aCut ad sz cs.length l n h
         | none=>none
        | some _,none=>match Qjv hi n room with
         | some hh=>match Qjv lo 0 hh with
          | some l=>aCut ad sz cs.length l hh h
          | none=>none
         | none=>none
        | some _,some _=>match Qjv mx room room with
         | some m=>match Qjv hi n m with
          | some hh=>match Qjv lo 0 hh with
           | some l=>(Jda a re.size l hh m).map fun v=>(v,h)
           | none=>none
          | none=>none
         | none=>none
        | none,some _=>none
       else none
      | some (.cells false sz []) =>
       if sz == re.size && ad.off % sz == 0 && Nat.ble 1 sz then
        match mx with
        | none=>match Qjv hi n 0 with
         | some hh=>match Qjv lo 0 hh with
          | some l=>if l == 0 then some (.slice (some ad) hh Qm5,h)else none
          | none=>none
         | none=>none
        | some _=>none
       else none
      | _=>none
  | _=>none
 | some r,.string s=>match r.desc,mx with
  | .string,none=>match Qjv hi s.size s.size with
   | some hh=>match Qjv lo 0 hh with
    | some l=>some (.string (s.extract l hh),h)
    | none=>none
   | none=>none
  | _,_=>none
 | _,_=>none
 where
 aCut (ad:Addr) (sz used l n:Nat) (h:Heap):Option (Value × Heap) :=
  if l == 0 then some (.slice (some ad) n Qm5,h)
  else if Nat.blt (ad.off+l*sz) used then some (.slice (some (ad.add (l*sz))) (n-l) Qm5,h)
  else if Nat.ble n l then some (.slice (some ⟨h.next,0,none⟩) 0 Qm5,h.push (.cells false sz []))
  else none
def Z5e{x:Option Value}{d n k:Nat}(hx:Qjv x d n=some k)(hd:d<=n):k<=n:=by
 unfold Qjv at hx;split at hx
 ·cases hx;exact hd
 ·split at hx
  ·rename_i hc;cases hx;omega
  ·cases hx
 ·cases hx
def Yc0{x:Option Value}{d d' n n' k:Nat}(hx:Qjv x d n=some k)(hn:n<=n')(hd:x=none->d=d'):Qjv x d' n'=some k:=by
 unfold Qjv at hx ⊢;split at hx
 ·rw[<- hd rfl];exact hx
 ·split at hx
  ·rename_i hc;cases hx;rw[if_pos ⟨hc.1,by omega⟩]
  ·cases hx
 ·cases hx
def Zu3{a:Option Addr}{sz l h m:Nat}{v:Value}(hv:Jda a sz l h m=some v)(ha:∀ x,a=some x->dom Y x.block/\x.spot=none) :
  okV (dom Y) v/\ren Y v=.slice (if m=l then a.map (Uu Y)else(a.map (Uu Y)).map (·.add (l*sz))) (h-l) (m-l):=by
 unfold Jda at hv;split at hv
 ·cases hv
 ·rename_i hc;have hc':m-l≠Qm5:=by simpa using hc
  cases hv;cases a with
  | none =>
   have e:(if m=l then(none:Option Addr)else Option.map (fun x:Addr=>x.add (l*sz)) none)=none:=by split <;> rfl
   have e2:(if m=l then Option.map (Uu Y) (none:Option Addr)else Option.map (fun x:Addr=>x.add (l*sz)) (Option.map (Uu Y) none))=none:=by split <;> rfl
   rw[e,e2];exact⟨by simpa only[okV]using hc',by rw[Qfj _ _ _ _ hc'];rfl⟩
  | some x =>
   obtain⟨h1,h2⟩:=ha x rfl;by_cases hm:m=l
   ·subst hm;simp only[if_true];refine⟨by simp only[okV];exact⟨h1,h2⟩,?_⟩;rw[Qfj _ _ _ _ hc']
   ·simp only[hm,if_false,aK];refine⟨by simp only[okV,Qvm];exact⟨h1,Q4y _ _ h2⟩,?_⟩;rw[Qfj _ _ _ _ hc',aK,Qqi Y x h1 h2]
def Z3a(E:Env P)(H:HRel E.G Y h w){t:TypeId}{x:Value}{lo hi mx:Option Value}{v:Value}{h':Heap}(hx:okV (dom Y) x)
  (hv:Qhk E t x lo hi mx h=some (v,h')) :
  Gives P E.G Y h w (Instr.sliceAt t (ren Y x) (lo.map (ren Y)) (hi.map (ren Y)) (mx.map (ren Y))) v h':=by
 unfold Qhk at hv;split at hv
 ·cases hv
 ·rename_i hnone;have hmx:hi=none->mx=none:=by
   intro h0;subst h0;cases mx with
   | none=>rfl
   | some _=>simp at hnone
  split at hv
  ·
   rename_i r a hr;simp only[okV]at hx;split at hv
   ·rename_i n e hd;split at hv
    ·rename_i re m hre hm;split at hv
     ·rename_i hh hhi;split at hv
      ·rename_i l hl;rw[am]at hv;obtain⟨v',hv',hq⟩:=hv;cases hq;obtain⟨o1,o2⟩:=Zu3 (Y:=Y) hv' (fun y hy=>by cases hy;exact hx);refine Gives.plain H o1 ?_;rw[o2];simp only[Instr.sliceAt,ar,run_underlying (E.tyok t r hr).1,hd,ai,ren,aK,Instr.sureAddr,aQ,
        Xbr (Y:=Y) false n n lo hi mx hm hhi hmx hl,Uz (E.tyok _ re hre)]
       split <;> rfl
      ·cases hv
     ·cases hv
    ·cases hv
   ·cases hv
  ·
   rename_i r a n c hr;split at hv
   ·rename_i e hd;split at hv
    ·cases hv
    ·rename_i re hre;have hrun:∀ (c' l hh m:Nat),Qjv mx c' c'=some m->Qjv hi n m=some hh->Qjv lo 0 hh=some l ->
       (Instr.sliceAt t (.slice (a.map (Uu Y)) n c') (lo.map (ren Y)) (hi.map (ren Y)) (mx.map (ren Y))).run P w =
        .ok (.slice (if m=l then a.map (Uu Y)else(a.map (Uu Y)).map (·.add (l*re.size))) (hh-l) (m-l)) w:=by
      intro c' l hh m e1 e2 e3;simp only[Instr.sliceAt,Instr.slice,ar,run_underlying (E.tyok t r hr).1,hd,ai,aQ,
       Xbr (Y:=Y) true n c' lo hi mx e1 e2 hmx e3,Uz (E.tyok _ re hre)]
     split at hv
     ·rename_i hc;have hc':c≠Qm5:=(by simpa using hc);split at hv
      ·rename_i m hm;split at hv
       ·rename_i hh hhi;split at hv
        ·rename_i l hl;rw[am]at hv;obtain⟨v',hv',hq⟩:=hv;cases hq;obtain⟨o1,o2⟩:=Zu3 (Y:=Y) hv' (fun y hy=>by subst hy;simpa only[okV]using hx);refine Gives.plain H o1 ?_;rw[o2,Qfj _ _ _ _ hc'];exact hrun c l hh m hm hhi hl
        ·cases hv
       ·cases hv
      ·cases hv
     ·rename_i hc;have hc':c=Qm5:=(by simpa using hc);subst hc';split at hv
      ·cases hv
      ·rename_i ad;simp only[okV]at hx;obtain⟨p,hp⟩:=aN.1 hx.1;split at hv
       ·rename_i sz cs hg;split at hv
        ·rename_i hcond;simp only[aq,beq_iff_eq,cH]at hcond;obtain⟨⟨rfl,hoff⟩,hsz⟩:=hcond;have hfit:=H.fits _ p _ hp hg;obtain⟨hpz,hfit⟩:=hfit;rcases hfit with⟨h0,_⟩ | ⟨C,te,lo',hi',f1,f2,f3⟩
         ·cases h0
         obtain⟨f31,f32,f33⟩:=f3 rfl;have hcl:cs.length<=p.room*re.size:=by
          rw[<- hpz,<- f33];rcases bg C.size cs.length with hlt | hge
          ·have:=(f2 C.size _ (ab hlt)).1;simp[f31]at this
          ·exact hge
         have hdiv:(cs.length-ad.off) / re.size<=p.room-ad.off / re.size:=by
          have h1:(cs.length-ad.off) / re.size<=(p.room*re.size-ad.off) / re.size:=Nat.div_le_div_right (by omega);refine al h1 ?_;obtain⟨q,hq⟩:=Nat.dvd_of_mod_eq_zero hoff;rw[hq,dJ p.room,<- Nat.mul_sub,dm _ hsz,dm _ hsz];exact ae _
         rw[Qte Y ad n hp,hpz];have hcut:∀ l hh,Qjv hi n (p.room-ad.off / re.size)=some hh->Qjv lo 0 hh=some l->mx=none->Qhk.aCut ad re.size cs.length l hh h=some (v,h') ->
           Gives P E.G Y h w (Instr.sliceAt t (.slice (some (Uu Y ad)) n (p.room-ad.off / re.size)) (lo.map (ren Y)) (hi.map (ren Y)) (mx.map (ren Y))) v h':=by
          intro l hh e1 e2 e0 hcv;have hr1:=hrun (p.room-ad.off / re.size) l hh _ (by rw[e0];rfl) e1 e2;simp only[aK]at hr1;have hlh:l<=hh:=Z5e e2 (by omega);unfold Qhk.aCut at hcv;split at hcv
          ·rename_i hl0;have hl0':l=0:=(by simpa using hl0);subst hl0';cases hcv;refine Gives.plain H (by simp only[okV];exact hx) ?_;rw[hr1,Qte Y ad _ hp,hpz];congr 1;by_cases hm:p.room-ad.off / re.size=0
           ·simp[hm]
           ·simp[hm,Addr.add]
          ·rename_i hl0;have hl0':l≠0:=(by simpa using hl0);split at hcv
           ·rename_i hlt;have hlt':ad.off+l*re.size < cs.length:=(by simpa[dL]using hlt);cases hcv;have hm:ad.off / re.size+l < p.room:=by
             obtain⟨q,hq⟩:=Nat.dvd_of_mod_eq_zero hoff;rw[hq,dm _ hsz];have : re.size*(q+l) < re.size*p.room:=by rw[Nat.mul_add,dJ re.size l,dJ re.size p.room];omega
             exact Nat.lt_of_mul_lt_mul_left this
            refine Gives.plain H (by simp only[okV,Qvm];exact⟨hx.1,Q4y _ _ hx.2⟩) ?_;rw[hr1,Qte Y (ad.add (l*re.size)) _ (by rw[Qvm];exact hp),hpz,if_neg (by omega),Qqi Y ad hx.1 hx.2];congr 2;have hao:(ad.add (l*re.size)).off=ad.off+l*re.size:=by
             obtain⟨b0,o0,s0⟩:=ad;simp only at hx;rw[hx.2,Qsg]
            rw[hao,Nat.add_mul_div_right _ _ hsz];omega
           ·rename_i hlt;split at hcv
            ·rename_i hnl;have hnl':hh<=l:=(by simpa using hnl);have hle:l=hh:=(by omega);subst hle;cases hcv;have hal:=H.alias (p:={blk:=p.blk,base:=p.base+(if p.room-ad.off / re.size=l then ad.off else ad.off+l*re.size),room:=p.room-ad.off / re.size-l,sz:=re.size,spot:=none}) (H.dom _ _ hp).2;refine⟨_,w,?_,?_,dS _ _ _,hal.1,hal.2⟩
             ·rw[hr1];simp only[ren,aK,Uu,dR,Xdb,if_true,cg,Nat.zero_div,dq,Nat.sub_self];congr 2;obtain⟨b0,o0,s0⟩:=ad;have hsp:=H.spot hp hg rfl;simp only at hx hp;simp only[hp,hx.2,hsp,ite_self,Qsg];by_cases hm:p.room-o0 / re.size=l
              ·simp[hm]
              ·simp[hm,cM]
             ·simp only[okV];exact⟨by simp[dom,dR],trivial⟩
            ·cases hcv
         cases hi with
         | none =>
          have hmx0:=hmx rfl;subst hmx0;simp only at hv;split at hv
          ·rename_i l hl;exact hcut l n rfl hl rfl hv
          ·cases hv
         | some hv0 =>
          cases mx with
          | none =>
           simp only at hv;split at hv
           ·rename_i hh hhi;split at hv
            ·rename_i l hl;exact hcut l hh (Yc0 hhi hdiv (by simp)) hl rfl hv
            ·cases hv
           ·cases hv
          | some mv =>
           simp only at hv;split at hv
           ·rename_i m hm;split at hv
            ·rename_i hh hhi;split at hv
             ·rename_i l hl;rw[am]at hv;obtain⟨v',hv',hq⟩:=hv;cases hq;obtain⟨o1,o2⟩:=Zu3 (Y:=Y) hv' (fun y hy=>by cases hy;exact hx);refine Gives.plain H o1 ?_;rw[o2];exact hrun _ l hh m (Yc0 hm hdiv (by simp)) hhi hl
             ·cases hv
            ·cases hv
           ·cases hv
        ·cases hv
       ·rename_i sz hg;split at hv
        ·rename_i hcond;simp only[aq,beq_iff_eq,cH]at hcond;obtain⟨⟨rfl,hoff⟩,hsz⟩:=hcond;obtain⟨hpz, -⟩:=H.fits _ p _ hp hg;split at hv
         ·split at hv
          ·rename_i hh hhi;split at hv
           ·rename_i l hl;split at hv
            ·rename_i hl0;have hl0':l=0:=(by simpa using hl0);subst hl0';cases hv;have hr1:=hrun (p.room-ad.off / re.size) 0 hh _ rfl (Yc0 hhi (bz _) (fun _=>rfl)) hl;simp only[aK,cU]at hr1;rw[Qte Y ad n hp,hpz];refine Gives.plain H (by simp only[okV];exact hx) ?_;simp only[cU];rw[hr1,Qte Y ad _ hp,hpz];congr 1;by_cases hm:p.room-ad.off / re.size=0
             ·simp[hm]
             ·simp[hm,Addr.add]
            ·cases hv
           ·cases hv
          ·cases hv
         ·cases hv
        ·cases hv
       ·cases hv
   ·cases hv
  ·
   rename_i r s hr;split at hv
   ·rename_i hd;split at hv
    ·rename_i hh hhi;split at hv
     ·rename_i l hl;cases hv;refine Gives.flat H rfl ?_;have:=Xbr (Y:=Y) false s.size s.size lo hi none (by rfl) hhi (fun _=>rfl) hl w (P:=P);simp only[cU]at this;simp only[Instr.sliceAt,Instr.slice,ar,run_underlying (E.tyok t r hr).1,hd,ai,ren_string,cU,Option.isSome_none,aL,if_false,aQ,this]
     ·cases hv
    ·cases hv
   ·cases hv
  ·cases hv
end
section
variable{P:Program}{Y:Ren}{h:Heap}{w:World}
def aEq(E:Env P)(t:TypeId)(x y:Value):Option Bool :=
 match E.ty.get t with
 | none=>none
 | some r =>
  match r.desc,x,y with
  | .bool,.bool a,.bool b=>some (a == b)
  | .pointer _,.pointer none,.pointer b=>some b.isNone
  | .pointer _,.pointer (some _),.pointer none=>some false
  | .slice _,.slice none _ _,.slice b _ _=>some b.isNone
  | .slice _,.slice (some _) _ _,.slice none _ _=>some false
  | .map _ _,.map none,.map b=>some b.isNone
  | .map _ _,.map (some _),.map none=>some false
  | .func _ _ _,.nilFunc,.nilFunc=>some true
  | .func _ _ _,.nilFunc,.func _ _ _=>some false
  | .func _ _ _,.func _ _ _,.nilFunc=>some false
  | .interface _,.nilIface,.nilIface=>some true
  | .interface _,.nilIface,.iface _ _=>some false
  | .interface _,.iface _ _,.nilIface=>some false
  | .struct _,.agg xs,.agg ys=>if r.leaf.isEmpty then none else Qal r.leaf xs.toList ys.toList
  | .array _ _,.agg xs,.agg ys=>if r.leaf.isEmpty then none else Qal r.leaf xs.toList ys.toList
  | _,_,_=>none
def X92(Y:Ren):∀ (ls:List Nat) (xs ys:List Value) (b:Bool),Qal ls xs ys=some b->xs.map (ren Y)=xs/\ys.map (ren Y)=ys
 | [],[],[],_,_=>by simp
 | l::ls,x::xs,y::ys,b,h=>by
  simp only[Qal]at h;split at h
  ·rename_i a c h1 h2;have ih:=X92 Y ls xs ys c h2;unfold Ylh at h1;split at h1 <;> simp_all
  ·cases h
 | [],_::_,_,_,h=>by simp[Qal]at h
 | [],[],_::_,_,h=>by simp[Qal]at h
 | _::_,[],_,_,h=>by simp[Qal]at h
 | _::_,_::_,[],_,h=>by simp[Qal]at h
def Z9u(E:Env P){t:TypeId}{x y:Value}{b:Bool}(hv:aEq E t x y=some b)(w:World):(Op.equal t (ren Y x) (ren Y y)).run P w=.ok b w:=by
 unfold aEq at hv;cases hr:E.ty.get t with
 | none=>simp[hr]at hv
 | some r =>
  simp only[hr]at hv;have ho:=E.tyok t r hr;have hu:=ho.1;have hagg:∀ xs ys:Array Value,(if r.leaf.isEmpty=true then none else Qal r.leaf xs.toList ys.toList)=some b->(Op.equal t (ren Y (.agg xs)) (ren Y (.agg ys))).run P w=.ok b w:=by
   intro xs ys he;split at he
   ·cases he
   ·rename_i hne;obtain⟨_,_,_,_,_,_,_,_,_,hq⟩:=ho;have h1:=X92 Y _ _ _ _ he;have h2:=(hq (by simpa using hne)).2.1 _ _ _ w he;have e1:xs.map (ren Y)=xs:=by apply bU;rw[bI];exact h1.1
    have e2:ys.map (ren Y)=ys:=by apply bU;rw[bI];exact h1.2
    rw[ren_agg,ren_agg,e1,e2];exact h2
  have hone:(∀ d,(Op.equalIn (d+1) t (ren Y x) (ren Y y)).run P w=.ok b w)->(Op.equal t (ren Y x) (ren Y y)).run P w=.ok b w:=fun hd=>hd 9999;split at hv <;> first
   | (rename_i hd;cases hv;refine hone fun d => ?_;simp[Op.equalIn,run_underlying hu,hd,ren];done)
   | exact hagg _ _ hv
   | cases hv
def Q6:Operand->Bool
 | .const _=>true
 | _=>false
def Y40(E:Env P)(op:BinOp)(t:TypeId)(x y:Value):Option Value :=
 match op with
 | .eql=>(aEq E t x y).map .bool
 | .neq=>(aEq E t x y).map fun b => .bool (!b)
 | _=>none
def Qgb(s:Sem Value):Option Value :=
 match Jb8 s with
 | some v=>if flat v then some v else none
 | none=>none
def Ywu{s:Sem Value}{v:Value}(hs:Qgb s=some v):flat v=true/\∀ w,s.run P w=.ok v w:=by
 unfold Qgb at hs;split at hs
 ·rename_i u hu;split at hs
  ·rename_i hf;cases hs;exact⟨hf,Z1d hu⟩
  ·cases hs
 ·cases hs
def Yj(E:Env P)(op:BinOp)(t:TypeId)(k:Bool)(x y:Value):Option Value :=
 match x,y with
 | .int _ _,.int _ _=>Qgb (binOp op t x y)
 | .string _,.string _=>Qgb (binOp op t x y)
 | .nilIface,.nilIface=>if k then Y40 E op t x y else none
 | _,_=>Y40 E op t x y
def Zsx(E:Env P){G:Bs}(H:HRel G Y h w){op:BinOp}{t:TypeId}{ox oy:Operand}{x y v:Value}
  (hg:(eqGuard op t ox oy (ren Y x) (ren Y y)).run P w=.ok () w)
  (h1:binOp .eql t (ren Y x) (ren Y y)=(do pure (.bool (<- Op.equal t (ren Y x) (ren Y y)))))
  (h2:binOp .neq t (ren Y x) (ren Y y)=(do pure (.bool (!(<- Op.equal t (ren Y x) (ren Y y))))))
  (hv:Y40 E op t x y=some v):Gives P G Y h w (do eqGuard op t ox oy (ren Y x) (ren Y y);binOp op t (ren Y x) (ren Y y)) v h:=by
 cases op <;> simp only[Y40]at hv <;> first
  | cases hv;done
  | skip
 ·rw[am]at hv;obtain⟨b,hb,rfl⟩:=hv;refine Gives.flat H rfl ?_;simp only[ar,hg,ai,h1,Z9u E hb,aQ]
 ·rw[am]at hv;obtain⟨b,hb,rfl⟩:=hv;refine Gives.flat H rfl ?_;simp only[ar,hg,ai,h2,Z9u E hb,aQ]
def Zmm{E:Env P}{op:BinOp}{t:TypeId}{x y v:Value}(hv:Y40 E op t x y=some v):∃ b,aEq E t x y=some b:=by
 cases op <;> simp only[Y40]at hv <;> first
  | cases hv;done
  | (rw[am]at hv;obtain⟨b,hb,_⟩:=hv;exact⟨b,hb⟩)
def Jan (E : Env P) {G : Bs} (H : HRel G Y h w) {op : BinOp} {t : TypeId} {ox oy : Operand} {x y v : Value} (hv : Yj E op t (Q6 ox || Q6 oy) x y = some v) :
    Gives P G Y h w (do eqGuard op t ox oy (ren Y x) (ren Y y); binOp op t (ren Y x) (ren Y y)) v h := by
  have hscal : (eqGuard op t ox oy (ren Y x) (ren Y y)).run P w = .ok () w -> ren Y x = x -> ren Y y = y -> Qgb (binOp op t x y) = some v ->
      Gives P G Y h w (do eqGuard op t ox oy (ren Y x) (ren Y y); binOp op t (ren Y x) (ren Y y)) v h := by
    intro hg e1 e2 hp;obtain ⟨hf, hr⟩ := Ywu (P := P) hp;refine Gives.flat H hf ?_;simp only [ar,hg,ai];rw [e1, e2];exact hr w
  cases x <;> cases y <;> simp only [Yj] at hv <;> first
    | (refine hscal ?_ (by simp) (by simp) hv; cases op <;> simp [eqGuard]; done)
    | (obtain ⟨b, hb⟩ := Zmm hv
       unfold aEq at hb;cases hr : E.ty.get t with
       | none => simp [hr] at hb
       | some r =>
         simp only [hr] at hb;cases hd : r.desc <;> simp [hd] at hb; done)
    | (refine Zsx E H ?_ ?_ ?_ hv
       · simp only [ren,eqGuard]; cases op <;> simp; done
       · simp only [ren]; rfl
       · simp only [ren]; rfl)
    | skip
  ·
    split at hv
    · rename_i hk
      refine Zsx E H ?_ rfl rfl hv;simp only [Q6,cd] at hk;simp only [ren,eqGuard];rcases hk with hk | hk
      · cases ox <;> simp at hk; cases op <;> simp
      · cases oy <;> simp at hk; cases op <;> simp
    · cases hv
  ·
    rename_i xs ys;obtain ⟨b, hb⟩ := Zmm hv;have hne : ∃ r, E.ty.get t = some r /\ r.leaf ≠ [] := by
      unfold aEq at hb;cases hr : E.ty.get t with
      | none => simp [hr] at hb
      | some r =>
        simp only [hr] at hb;refine ⟨r, rfl, fun h0 => ?_⟩;cases hd : r.desc <;> simp [hd,h0] at hb
    obtain ⟨r, hr, hl⟩ := hne;obtain ⟨_, _, _, _, _, _, _, _, _, hq⟩ := E.tyok t r hr;refine Zsx E H ?_ ?_ ?_ hv
    · rw [ren_agg, ren_agg]; exact run_eqGuard_agg w op t ox oy _ _ (hq hl).1
    · rw [ren_agg, ren_agg]; rfl
    · rw [ren_agg, ren_agg]; rfl
end
end Go.Ab
