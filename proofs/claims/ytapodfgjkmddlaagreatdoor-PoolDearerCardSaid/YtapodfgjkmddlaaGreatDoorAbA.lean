import Derived.WalkKit
import Derived.OrdersIn
import Derived.DefersIn
import Derived.Laws.StructEq
import Derived.ChangeKeysEq
set_option linter.all false
noncomputable section
namespace Go
theorem kR{A:Sort _}{a b:A}(h:a=b:=by kernel_rfl):a=b:=h
abbrev zU:Value:=.int .u8 0
end Go
namespace Go.Ab
abbrev pO(b o:Nat):Value:=.pointer (some ⟨b,o,none⟩)
abbrev ab:=@Nat.le_refl
abbrev ac:=@Result.andThen_ok
abbrev ae:=@List.length_append
abbrev ai:=@Nat.le_trans
abbrev aj:=@List.take_of_length_le
abbrev ak:=@Option.map_eq_some_iff
abbrev al:=@List.mem_append
abbrev am:=@List.mem_map
abbrev ao:=@Bool.and_eq_true
abbrev ap:=@List.mem_cons
abbrev aq:=@Sem.run_bind
abbrev ar:=@Option.some.injEq
abbrev au:=@Nat.lt_of_lt_of_le
abbrev av:=@Bool.false_eq_true
abbrev aw:=@List.mem_singleton
abbrev ax:=@Option.map_some
abbrev az:=@Option.isSome_iff_exists
abbrev aE:=@List.map_cons
abbrev aF:=@List.take_append_of_le_length
abbrev aJ:=@Sem.run_pure
abbrev aK:=@Nat.eq_of_beq_eq_true
abbrev aL:=@List.length_map
abbrev aM:=@List.append_assoc
abbrev aN:=@List.mem_cons_of_mem
abbrev aQ:=@List.take_succ
abbrev aR:=@List.map_append
abbrev aS:=@List.length_cons
abbrev aT:=@Int.toNat_natCast
abbrev aU:=@Nat.lt_or_ge
abbrev aY:=@List.eq_nil_of_length_eq_zero
abbrev ba:=@Nat.zero_add
abbrev bb:=@List.drop_eq_getElem_cons
abbrev bc:=@List.take_length
abbrev bf:=@List.take_append_drop
abbrev bh:=@Array.toList_map
abbrev bm:=@List.length_drop
abbrev bn:=@Nat.zero_le
abbrev bo:=@List.mem_cons_self
abbrev br:=@List.length_take
abbrev bu:=@Array.ext'
abbrev bz:=@Option.some.inj
abbrev bA:=@List.map_congr_left
abbrev bB:=@List.drop_zero
abbrev bC:=@Nat.mul_le_mul_right
abbrev bD:=@Nat.lt_succ_self
abbrev bE:=@Nat.lt_succ_of_lt
abbrev bF:=@Nat.add_mul
abbrev bG:=@Prod.mk.injEq
abbrev bH:=@Nat.le_succ
abbrev bI:=@List.drop_eq_nil_of_le
abbrev bJ:=@Bool.eq_false_iff
abbrev bK:=@List.length_singleton
abbrev bL:=@List.map_map
abbrev bM:=@Bool.or_eq_true
abbrev bN:=@List.set_append_right
abbrev bO:=@List.cons.injEq
abbrev bP:=@List.append_nil
abbrev bQ:=@List.drop_of_length_le
abbrev bR:=@List.drop_drop
abbrev bS:=@Bool.not_eq_true'
abbrev bT:=@Classical.byContradiction
abbrev bU:=@Nat.ble_eq
abbrev bV:=@Bool.not_true
abbrev bW:=@List.mem_filter
abbrev bX:=@Nat.add_zero
abbrev bY:=@Nat.add_assoc
abbrev bZ:=@List.drop_left
abbrev ca:=@Option.map_none
abbrev cd:=@List.length_nil
abbrev ce:=@List.mem_of_mem_take
abbrev cf:=@List.any_eq_false
abbrev cj:=@Function.comp_def
abbrev ck:=@List.replicate_succ
abbrev cm:=@List.not_mem_nil
abbrev cr:=@List.length_eq_zero_iff
abbrev ct:=@Nat.ne_of_beq_eq_false
abbrev cu:=@Nat.blt_eq
abbrev cx:=@Int.fdiv_eq_ediv_of_nonneg
abbrev cy:=@List.any_eq_true
abbrev cz:=@Nat.mul_div_cancel_left
abbrev cB:=@List.mem_singleton_self
abbrev cD:=@List.filter_cons_of_pos
abbrev cE:=@List.filter_cons_of_neg
abbrev cF:=@Nat.le_succ_of_le
abbrev cG:=@List.nodup_append
abbrev cH:=@List.map_nil
abbrev cJ:=@Bool.not_false
abbrev cK:=@Nat.le_of_ble_eq_true
abbrev cL:=@List.length_filter_le
abbrev cM:=@Nat.mod_eq_of_lt
abbrev cN:=@List.mem_flatMap
abbrev cP:=@List.getElem_mem
abbrev cQ:=@List.drop_length
abbrev cR:=@List.all_eq_true
abbrev cS:=@Int.mul_le_mul_of_nonneg_right
abbrev cT:=@Bool.true_and
abbrev cU:=@List.range_eq_range'
abbrev cY:=@Array.mem_toList_iff
abbrev cZ:=@Array.map_congr_left
abbrev d4:=@List.nodup_cons
abbrev d5:=@List.length_pos_iff
abbrev d6:=@Int.toNat_of_nonneg
abbrev d7:=@Nat.sub_zero
abbrev d8:=@Nat.mul_comm
abbrev d9:=@List.flatMap_cons
abbrev da:=@Bool.not_eq_false
abbrev dc:=@Option.bind_some
abbrev de:=@Nat.add_sub_cancel_left
abbrev df:=@List.range'_succ
abbrev dh:=@List.drop_append
abbrev di:=@Nat.zero_mul
abbrev dj:=@Nat.succ_mul
abbrev dm:=@Nat.mod_lt
abbrev dn:=@Nat.dvd_of_mod_eq_zero
abbrev dq:=@Nat.mul_eq_zero
abbrev du:=@List.foldl_cons
abbrev dw:=@Sem.run_ite
abbrev dx:=@Nat.mul_one
abbrev dy:=@List.mem_of_mem_drop
abbrev dz:=@Array.isEmpty_toList
abbrev dA:=@Array.length_toList
abbrev dC:=@Oper.semAt_eq
abbrev dD:=@Nat.lt_of_le_of_lt
abbrev dE:=@Oper.uponIn_round
abbrev dF:=@Oper.uponIn_enter
abbrev dG:=@Nat.sub_self
abbrev dH:=@Nat.lt_trichotomy
abbrev dI:=@List.size_toArray
abbrev dJ:=@DataW.trod_struct
abbrev dK:=@Array.size_append
abbrev dL:=@Option.getD_some
abbrev dM:=@Nat.min_eq_right
abbrev dN:=@List.mem_nil_iff
abbrev dO:=@List.filter_cons
abbrev dP:=@List.cons_append
abbrev dQ:=@List.map_id
abbrev dR:=@UInt8.toNat_inj
abbrev dS:=@Nat.min_le_left
abbrev dT:=@Nat.min_eq_left
abbrev dU:=@List.nil_append
abbrev dV:=@List.filter_map
abbrev dW:=@Option.map_map
abbrev dX:=@List.take_left
abbrev dY:=@List.tail_drop
abbrev dZ:=@List.mapM_cons
abbrev ee:=@List.map_take
abbrev ef:=@Array.mem_def
abbrev eg:=@Nat.le_total
abbrev eh:=@Nat.le_of_lt
abbrev ej:=@List.any_map
abbrev ep:=@Bool.true_or
abbrev eu:=@Nat.sub_mul
structure Place where
 blk:Nat
 base:Nat
 room:Nat
 sz:Nat
 spot:Option Nat
 deriving Inhabited
abbrev Ren:=Nat->Option Place
def Ql9:Nat:=9223372036854775808
def W8(Y:Ren)(b:Nat):Nat:=match Y b with | some p=>p.blk | none=>b
def Wc(Y:Ren)(a:Addr):Addr:=match Y a.block with | some p=>{block:=p.blk,off:=p.base+a.off,spot:=if a.off=0 then p.spot else none} | none=>a
def Xfs(Y:Ren)(a:Option Addr)(c:Nat):Nat :=
 if c=Ql9 then(match a with | some a=>(match Y a.block with | some p=>p.room-a.off / p.sz | none=>c) | none=>c)else c
def Ykn(Y:Ren):Fn->Fn
 | .yield l => .yield (W8 Y l)
 | f=>f
mutual
def ren(Y:Ren):Value->Value
 | .pointer a => .pointer (a.map (Wc Y))
 | .slice a n c => .slice (a.map (Wc Y)) n (Xfs Y a c)
 | .map r => .map (r.map (W8 Y))
 | .chan r => .chan (r.map (W8 Y))
 | .func fn f c => .func (Ykn Y fn) (renA Y f) (renA Y c)
 | .iface t v => .iface t (ren Y v)
 | .agg cs => .agg (renA Y cs)
 | .tuple cs => .tuple (renA Y cs)
 | .bool b => .bool b
 | .int k n => .int k n
 | .float k b => .float k b
 | .complex k a b => .complex k a b
 | .string s => .string s
 | .nilFunc => .nilFunc
 | .nilIface => .nilIface
def renA(Y:Ren):Array Value->Array Value
 | ⟨l⟩=>⟨renL Y l⟩
def renL(Y:Ren):List Value->List Value
 | []=>[]
 | v::l=>ren Y v::renL Y l
end
def Jld(Y:Ren)(l:List Value):renL Y l=l.map (ren Y):=by
 induction l with
 | nil=>simp[renL]
 | cons v l ih=>simp[renL,ih]
def Qub(Y:Ren)(l:Array Value):renA Y l=l.map (ren Y):=by
 cases l;simp[renA,Jld]
mutual
def okV(D:Nat->Prop):Value->Prop
 | .pointer (some a)=>D a.block/\a.spot=none
 | .slice (some a) _ _=>D a.block/\a.spot=none
 | .slice none _ c=>c≠Ql9
 | .map (some r)=>D r
 | .chan (some _)=>False
 | .func (.yield l) f c=>D l/\okA D f/\okA D c
 | .func _ f c=>okA D f/\okA D c
 | .iface _ v=>okV D v
 | .agg cs=>okA D cs/\cs.toList.all (·.oneCell')=true
 | .tuple cs=>okA D cs
 | _=>True
def okA(D:Nat->Prop):Array Value->Prop
 | ⟨l⟩=>okL D l
def okL(D:Nat->Prop):List Value->Prop
 | []=>True
 | v::l=>okV D v/\okL D l
end
def Jn3(D:Nat->Prop)(l:List Value):okL D l ↔ ∀ v ∈ l,okV D v:=by
 induction l with
 | nil=>simp[okL]
 | cons v l ih=>simp[okL,ih]
def Q8x(D:Nat->Prop)(l:Array Value):okA D l ↔ ∀ v ∈ l,okV D v:=by
 cases l;simp[okA,Jn3]
mutual
def okV_mono{D E:Nat->Prop}(h:∀ b,D b->E b):(v:Value)->okV D v->okV E v
 | .pointer (some a),hv=>by simp only[okV]at hv ⊢;exact⟨h _ hv.1,hv.2⟩
 | .pointer none,_=>by simp[okV]
 | .slice (some a) _ _,hv=>by simp only[okV]at hv ⊢;exact⟨h _ hv.1,hv.2⟩
 | .slice none _ _,hv=>by simpa only[okV]using hv
 | .map (some r),hv=>by simp only[okV]at hv ⊢;exact h _ hv
 | .map none,_=>by simp[okV]
 | .chan (some _),hv=>by simp[okV]at hv
 | .chan none,_=>by simp[okV]
 | .func fn f c,hv=>by
  cases fn <;> simp only[okV]at hv ⊢ <;>
   first
    | exact⟨okA_mono h f hv.1,okA_mono h c hv.2⟩
    | exact⟨h _ hv.1,okA_mono h f hv.2.1,okA_mono h c hv.2.2⟩
 | .iface _ v,hv=>by simp only[okV]at hv ⊢;exact okV_mono h v hv
 | .agg cs,hv=>by simp only[okV]at hv ⊢;exact⟨okA_mono h cs hv.1,hv.2⟩
 | .tuple cs,hv=>by simp only[okV]at hv ⊢;exact okA_mono h cs hv
 | .bool _,_=>by simp[okV]
 | .int _ _,_=>by simp[okV]
 | .float _ _,_=>by simp[okV]
 | .complex _ _ _,_=>by simp[okV]
 | .string _,_=>by simp[okV]
 | .nilFunc,_=>by simp[okV]
 | .nilIface,_=>by simp[okV]
def okA_mono{D E:Nat->Prop}(h:∀ b,D b->E b):(v:Array Value)->okA D v->okA E v
 | ⟨l⟩,hv=>by simp only[okA]at hv ⊢;exact okL_mono h l hv
def okL_mono{D E:Nat->Prop}(h:∀ b,D b->E b):(v:List Value)->okL D v->okL E v
 | [],_=>by simp[okL]
 | v::l,hv=>by simp only[okL]at hv ⊢;exact⟨okV_mono h v hv.1,okL_mono h l hv.2⟩
end
def Qc5{Y β:Ren}{b:Nat}(h:β b=Y b):W8 β b=W8 Y b:=by simp[W8,h]
def Yfd{Y β:Ren}{a:Addr}(h:β a.block=Y a.block):Wc β a=Wc Y a:=by simp[Wc,h]
mutual
def ren_congr{Y β:Ren}{D:Nat->Prop}(h:∀ b,D b->β b=Y b):(v:Value)->okV D v->ren β v=ren Y v
 | .pointer (some a),hv=>by simp only[okV]at hv;simp[ren,Yfd (h _ hv.1)]
 | .pointer none,_=>by simp[ren]
 | .slice (some a) _ _,hv=>by simp only[okV]at hv;simp[ren,Yfd (h _ hv.1),Xfs,h _ hv.1]
 | .slice none _ _,_=>by simp[ren,Xfs]
 | .map (some r),hv=>by simp only[okV]at hv;simp[ren,Qc5 (h _ hv)]
 | .map none,_=>by simp[ren]
 | .chan (some _),hv=>by simp[okV]at hv
 | .chan none,_=>by simp[ren]
 | .func fn f c,hv=>by
  cases fn <;> simp only[okV]at hv <;>
   first
    | simp only[ren,Ykn,renA_congr h f hv.1,renA_congr h c hv.2]
    | simp only[ren,Ykn,Qc5 (h _ hv.1),renA_congr h f hv.2.1,renA_congr h c hv.2.2]
 | .iface _ v,hv=>by simp only[okV]at hv;simp[ren,ren_congr h v hv]
 | .agg cs,hv=>by simp only[okV]at hv;simp[ren,renA_congr h cs hv.1]
 | .tuple cs,hv=>by simp only[okV]at hv;simp[ren,renA_congr h cs hv]
 | .bool _,_=>by simp[ren]
 | .int _ _,_=>by simp[ren]
 | .float _ _,_=>by simp[ren]
 | .complex _ _ _,_=>by simp[ren]
 | .string _,_=>by simp[ren]
 | .nilFunc,_=>by simp[ren]
 | .nilIface,_=>by simp[ren]
def renA_congr{Y β:Ren}{D:Nat->Prop}(h:∀ b,D b->β b=Y b):(v:Array Value)->okA D v->renA β v=renA Y v
 | ⟨l⟩,hv=>by simp only[okA]at hv;simp[renA,renL_congr h l hv]
def renL_congr{Y β:Ren}{D:Nat->Prop}(h:∀ b,D b->β b=Y b):(v:List Value)->okL D v->renL β v=renL Y v
 | [],_=>by simp[renL]
 | v::l,hv=>by simp only[okL]at hv;simp[renL,ren_congr h v hv.1,renL_congr h l hv.2]
end
mutual
def flat:Value->Bool
 | .pointer (some _)=>false
 | .slice (some _) _ _=>false
 | .slice none _ c => !(c == Ql9)
 | .map (some _)=>false
 | .chan (some _)=>false
 | .func (.yield _) _ _=>false
 | .func _ f c=>flatA f && flatA c
 | .iface _ v=>flat v
 | .agg cs=>flatA cs && cs.toList.all (·.oneCell')
 | .tuple cs=>flatA cs
 | _=>true
def flatA:Array Value->Bool
 | ⟨l⟩=>flatL l
def flatL:List Value->Bool
 | []=>true
 | v::l=>flat v && flatL l
end
mutual
def flat_ok(D:Nat->Prop):(v:Value)->flat v=true->okV D v
 | .pointer (some a),hv=>by simp[flat]at hv
 | .pointer none,_=>by simp[okV]
 | .slice (some a) _ _,hv=>by simp[flat]at hv
 | .slice none _ _,hv=>by simpa[flat,okV]using hv
 | .map (some r),hv=>by simp[flat]at hv
 | .map none,_=>by simp[okV]
 | .chan (some _),hv=>by simp[flat]at hv
 | .chan none,_=>by simp[okV]
 | .func fn f c,hv=>by
  cases fn <;> simp only[flat,ao]at hv <;>
   first
    | (simp only[okV];exact⟨flatA_ok D f hv.1,flatA_ok D c hv.2⟩)
    | exact absurd hv (by simp)
 | .iface _ v,hv=>by simp only[flat]at hv;simp only[okV];exact flat_ok D v hv
 | .agg cs,hv=>by simp only[flat,ao]at hv;simp only[okV];exact⟨flatA_ok D cs hv.1,hv.2⟩
 | .tuple cs,hv=>by simp only[flat]at hv;simp only[okV];exact flatA_ok D cs hv
 | .bool _,_=>by simp[okV]
 | .int _ _,_=>by simp[okV]
 | .float _ _,_=>by simp[okV]
 | .complex _ _ _,_=>by simp[okV]
 | .string _,_=>by simp[okV]
 | .nilFunc,_=>by simp[okV]
 | .nilIface,_=>by simp[okV]
def flatA_ok(D:Nat->Prop):(v:Array Value)->flatA v=true->okA D v
 | ⟨l⟩,hv=>by simp only[flatA]at hv;simp only[okA];exact flatL_ok D l hv
def flatL_ok(D:Nat->Prop):(v:List Value)->flatL v=true->okL D v
 | [],_=>by simp[okL]
 | v::l,hv=>by simp only[flatL,ao]at hv;simp only[okL];exact⟨flat_ok D v hv.1,flatL_ok D l hv.2⟩
end
mutual
def ren_none:(v:Value)->ren (fun _=>none) v=v
 | .pointer (some a)=>by simp[ren,Wc]
 | .pointer none=>by simp[ren]
 | .slice (some a) _ _=>by simp[ren,Wc,Xfs]
 | .slice none _ _=>by simp[ren,Xfs]
 | .map (some r)=>by simp[ren,W8]
 | .map none=>by simp[ren]
 | .chan (some r)=>by simp[ren,W8]
 | .chan none=>by simp[ren]
 | .func fn f c=>by cases fn <;> simp[ren,Ykn,W8,renA_none f,renA_none c]
 | .iface _ v=>by simp[ren,ren_none v]
 | .agg cs=>by simp[ren,renA_none cs]
 | .tuple cs=>by simp[ren,renA_none cs]
 | .bool _=>by simp[ren]
 | .int _ _=>by simp[ren]
 | .float _ _=>by simp[ren]
 | .complex _ _ _=>by simp[ren]
 | .string _=>by simp[ren]
 | .nilFunc=>by simp[ren]
 | .nilIface=>by simp[ren]
def renA_none:(v:Array Value)->renA (fun _=>none) v=v
 | ⟨l⟩=>by simp[renA,renL_none l]
def renL_none:(v:List Value)->renL (fun _=>none) v=v
 | []=>by simp[renL]
 | v::l=>by simp[renL,ren_none v,renL_none l]
end
def Qgu(Y:Ren){v:Value}(h:flat v=true):ren Y v=v:=by
 have h1:=ren_congr (Y:=fun _=>none) (β:=Y) (D:=fun _=>False) (fun _ hb=>hb.elim) v (flat_ok _ v h);rw[h1,ren_none]
@[simp] def ren_int (Y:Ren) (k:IntKind) (n:Int):ren Y (.int k n)=.int k n:=by simp[ren]
@[simp] def ren_bool (Y:Ren) (b:Bool):ren Y (.bool b)=.bool b:=by simp[ren]
@[simp] def ren_string (Y:Ren) (b:ByteArray):ren Y (.string b)=.string b:=by simp[ren]
@[simp] def ren_nilIface (Y:Ren):ren Y .nilIface=.nilIface:=by simp[ren]
@[simp] def ren_agg (Y:Ren) (c:Array Value):ren Y (.agg c)=.agg (c.map (ren Y)):=by simp[ren,Qub]
@[simp] def ren_tuple (Y:Ren) (c:Array Value):ren Y (.tuple c)=.tuple (c.map (ren Y)):=by simp[ren,Qub]
@[simp] def ren_iface (Y:Ren) (t:TypeId) (v:Value):ren Y (.iface t v)=.iface t (ren Y v):=by simp[ren]
def Y07(Y:Ren)(v:Value):(ren Y v).cells=v.cells.map (ren Y):=by
 cases v <;> simp[ren,Value.cells,Qub]
def Yyt(Y:Ren)(v:Value):(ren Y v).oneCell'=v.oneCell':=by
 cases v <;> simp[ren,Value.oneCell']
def Z0v(D:Nat->Prop)(c:Array Value):okV D (.agg c) ↔ ∀ v ∈ c,okV D v/\v.oneCell'=true:=by
 simp only[okV,Q8x,cR,cY];exact⟨fun h v hv=>⟨h.1 v hv,h.2 v hv⟩,fun h=>⟨fun v hv=>(h v hv).1,fun v hv=>(h v hv).2⟩⟩
def Q36(D:Nat->Prop)(c:Array Value):okV D (.tuple c) ↔ ∀ v ∈ c,okV D v:=by simp only[okV,Q8x]
def Qid:Value->Bool
 | .tuple _=>false
 | _=>true
def Ygo(D:Nat->Prop)(v:Value)(h:okV D v)(ht:Qid v=true):∀ c ∈ v.cells,okV D c/\c.oneCell'=true:=by
 cases v <;> simp only[Value.cells] <;>
  first
   | exact(Z0v D _).1 h
   | (intro c hc;simp only[List.mem_toArray,aw]at hc;subst hc;exact⟨h,rfl⟩)
   | simp[Qid]at ht
def Xiy(D:Nat->Prop)(l:List Value)(h:∀ c ∈ l,okV D c/\c.oneCell'=true):okV D (.agg l.toArray):=(Z0v D _).2 (by simpa using h)
inductive Tr (A:Type) where
 | leaf
 | node (v:Option A) (l r:Tr A)
namespace Tr
def get{A:Type}(t:Tr A):Nat->Option A :=
 Tr.rec (motive:=fun _=>Nat->Option A) (fun _=>none)
  (fun v _ _ gl gr n=>Nat.rec (motive:=fun _=>Option A) v (fun m _=>Bool.rec (motive:=fun _=>Option A) (gr (Nat.div m 2)) (gl (Nat.div m 2)) (Nat.beq (Nat.mod m 2) 0)) n) t
def one{A:Type}(x:Option A)(f:Nat):Nat->Tr A :=
 Nat.rec (motive:=fun _=>Nat->Tr A) (fun _=>leaf)
  (fun _ g n=>Nat.rec (motive:=fun _=>Tr A) (node x leaf leaf) (fun m _=>Bool.rec (motive:=fun _=>Tr A) (node none leaf (g (Nat.div m 2))) (node none (g (Nat.div m 2)) leaf) (Nat.beq (Nat.mod m 2) 0)) n) f
def put{A:Type}(t:Tr A)(n:Nat)(x:Option A):Tr A :=
 Tr.rec (motive:=fun _=>Nat->Tr A) (fun n=>one x (Nat.succ n) n)
  (fun v l r pl pr n=>Nat.rec (motive:=fun _=>Tr A) (node x l r) (fun m _=>Bool.rec (motive:=fun _=>Tr A) (node v l (pr (Nat.div m 2))) (node v (pl (Nat.div m 2)) r) (Nat.beq (Nat.mod m 2) 0)) n) t n
@[simp] def get_leaf {A:Type} (n:Nat):(leaf:Tr A).get n=none:=rfl
def Yxl{A:Type}(v:Option A)(l r:Tr A):(node v l r).get 0=v:=rfl
def Xpg{A:Type}(v:Option A)(l r:Tr A)(n:Nat):(node v l r).get (n+1)=if n % 2=0 then l.get (n / 2)else r.get (n / 2):=by
 have h:(node v l r).get (n+1)=Bool.rec (motive:=fun _=>Option A) (r.get (n / 2)) (l.get (n / 2)) (Nat.beq (n % 2) 0):=rfl;rw[h];cases hb:Nat.beq (n % 2) 0 with
 | true=>rw[if_pos (aK hb)]
 | false=>rw[if_neg (ct hb)]
def Zms{A:Type}(x:Option A)(f:Nat):one x (f+1) 0=node x leaf leaf:=rfl
def Zpj{A:Type}(x:Option A)(f n:Nat):one x (f+1) (n+1)=if n % 2=0 then node none (one x f (n / 2)) leaf else node none leaf (one x f (n / 2)):=by
 have h:one x (f+1) (n+1)=Bool.rec (motive:=fun _=>Tr A) (node none leaf (one x f (n / 2))) (node none (one x f (n / 2)) leaf) (Nat.beq (n % 2) 0):=rfl;rw[h];cases hb:Nat.beq (n % 2) 0 with
 | true=>rw[if_pos (aK hb)]
 | false=>rw[if_neg (ct hb)]
def Z42{A:Type}(x:Option A):∀ (f n m:Nat),n < f->(one x f n).get m=if n=m then x else none
 | 0,n,m,h=>by omega
 | f+1,0,m,_=>by
  rw[Zms];cases m with
  | zero=>simp[Yxl]
  | succ m=>rw[Xpg];simp
 | f+1,n+1,m,h=>by
  rw[Zpj];have hn:n / 2 < f:=by omega
  cases m with
  | zero=>split <;> simp[Yxl]
  | succ m =>
   split
   ·rename_i h0;rw[Xpg];split
    ·rename_i h1;rw[Z42 x f _ _ hn];by_cases e:n=m
     ·subst e;simp
     ·rw[if_neg (by omega),if_neg (by omega)]
    ·rw[if_neg (by omega)];rfl
   ·rename_i h0;rw[Xpg];split
    ·rw[if_neg (by omega)];rfl
    ·rename_i h1;rw[Z42 x f _ _ hn];by_cases e:n=m
     ·subst e;simp
     ·rw[if_neg (by omega),if_neg (by omega)]
def Zjp{A:Type}(n:Nat)(x:Option A):(leaf:Tr A).put n x=one x (n+1) n:=rfl
def Yj4{A:Type}(v:Option A)(l r:Tr A)(x:Option A):(node v l r).put 0 x=node x l r:=rfl
def Xj7{A:Type}(v:Option A)(l r:Tr A)(n:Nat)(x:Option A):(node v l r).put (n+1) x=if n % 2=0 then node v (l.put (n / 2) x) r else node v l (r.put (n / 2) x):=by
 have h:(node v l r).put (n+1) x=Bool.rec (motive:=fun _=>Tr A) (node v l (r.put (n / 2) x)) (node v (l.put (n / 2) x) r) (Nat.beq (n % 2) 0):=rfl;rw[h];cases hb:Nat.beq (n % 2) 0 with
 | true=>rw[if_pos (aK hb)]
 | false=>rw[if_neg (ct hb)]
def get_put{A:Type}:∀ (t:Tr A) (n m:Nat) (x:Option A),(t.put n x).get m=if n=m then x else t.get m
 | leaf,n,m,x=>by rw[Zjp,Z42 _ _ _ _ (bD n)];rfl
 | node v l r,0,m,x=>by
  rw[Yj4];cases m with
  | zero=>simp[Yxl]
  | succ m=>simp[Xpg]
 | node v l r,n+1,0,x=>by
  rw[Xj7];split <;> simp[Yxl]
 | node v l r,n+1,m+1,x=>by
  rw[Xj7,Xpg v l r m];split
  ·rename_i h0;rw[Xpg];split
   ·rw[get_put l];by_cases e:n=m
    ·subst e;simp
    ·rw[if_neg (by omega),if_neg (by omega)]
   ·rw[if_neg (by omega)]
  ·rename_i h0;rw[Xpg];split
   ·rw[if_neg (by omega)]
   ·rw[get_put r];by_cases e:n=m
    ·subst e;simp
    ·rw[if_neg (by omega),if_neg (by omega)]
def Z18{A:Type}(x y:Option A):∀ (f n:Nat),n < f->(one x f n).put n y=one y f n
 | 0,n,h=>by omega
 | f+1,0,_=>by rw[Zms,Zms,Yj4]
 | f+1,n+1,h=>by
  have hn:n / 2 < f:=by omega
  rw[Zpj,Zpj];by_cases h0:n % 2=0
  ·rw[if_pos h0,if_pos h0,Xj7,if_pos h0,Z18 x y f _ hn]
  ·rw[if_neg h0,if_neg h0,Xj7,if_neg h0,Z18 x y f _ hn]
def put_put{A:Type}:∀ (t:Tr A) (n:Nat) (x y:Option A),(t.put n x).put n y=t.put n y
 | leaf,n,x,y=>by rw[Zjp,Zjp,Z18 _ _ _ _ (bD n)]
 | node v l r,0,x,y=>by rw[Yj4,Yj4,Yj4]
 | node v l r,n+1,x,y=>by
  rw[Xj7,Xj7];by_cases h0:n % 2=0
  ·rw[if_pos h0,if_pos h0,Xj7,if_pos h0,put_put l]
  ·rw[if_neg h0,if_neg h0,Xj7,if_neg h0,put_put r]
end Tr
structure Tm where
 size:Nat
 t:Tr Value
def Tm.put(t:Tm)(i:Nat)(v:Value):Tm:=match t with | ⟨n,t⟩=>⟨n,t.put i (some v)⟩
inductive AObj where
 | loop (st:LoopState) (pend:Option Code) (t:Tm) (params:Array Tmp) (assign body:Code) (defers:Nat)
 | defs
 | strIter (s:ByteArray) (pos:Nat)
 | mapIter (m:Option Nat) (since:Nat) (seen:Array Nat) (last:Nat)
 | any
inductive Blk where
 | cells (own:Bool) (sz:Nat) (c:List Value)
 | map (es:Array MapEntry) (clk:Nat)
 | obj (o:AObj)
instance : Inhabited Blk:=⟨.cells true 0 []⟩
structure Heap where
 next:Nat
 low:Nat
 t:Tr Blk
def Blk.own:Blk->Bool
 | .cells o _ _=>o
 | _=>true
def Blk.solid:Blk->Bool
 | .cells false _ []=>false
 | _=>true
def eJ{x:Blk}(h:x.own=true):x.solid=true:=by
 cases x with
 | cells o s c=>cases o <;> simp[Blk.own]at h;rfl
 | map _ _=>rfl
 | obj _=>rfl
namespace Heap
def get(h:Heap)(b:Nat):Option Blk:=if b < h.next then h.t.get b else none
def set(h:Heap)(b:Nat)(x:Option Blk):Heap:={next:=h.next,low:=min h.low b,t:=h.t.put b x}
def push(h:Heap)(x:Blk):Heap:={next:=h.next+1,low:=h.low,t:=h.t.put h.next (some x)}
def get_set(h:Heap)(b c:Nat)(x:Option Blk)(hb:b < h.next):(h.set b x).get c=if b=c then x else h.get c:=by
 simp only[get,set];rw[Tr.get_put];by_cases e:b=c
 ·subst e;simp[hb]
 ·simp[e]
def get_push(h:Heap)(c:Nat)(x:Blk):(h.push x).get c=if h.next=c then some x else h.get c:=by
 simp only[get,push];rw[Tr.get_put];by_cases e:h.next=c
 ·subst e;simp
 ·simp only[e,if_false];by_cases h2:c < h.next
  ·simp[h2,bE h2]
  ·have : ¬ c < h.next+1:=by omega
   simp[h2,this]
def get_none{h:Heap}{b:Nat}(hb:h.next<=b):h.get b=none:=by
 unfold get;rw[if_neg (by omega)]
def get_lt{h:Heap}{b:Nat}{x:Blk}(hb:h.get b=some x):b < h.next:=by
 unfold get at hb;split at hb
 ·assumption
 ·cases hb
def own(h:Heap)(b:Nat):Bool:=match h.get b with | some x=>x.own | none=>false
def live(h:Heap)(b:Nat):Bool:=match h.get b with | some x=>x.solid | none=>false
end Heap
abbrev gY{h:Heap}{b c:Nat}{x:Option Blk}:=Heap.get_set h b c x
def Qtk(Y:Ren)(e:MapEntry):MapEntry:={key:=ren Y e.key,val:=ren Y e.val,born:=e.born}
def Qxs(Y:Ren):Deferred->Deferred
 | {target:=.fn f c,args}=>{target:=.fn (Ykn Y f) (renA Y c),args:=renA Y args}
 | {target:=.collected r,args}=>{target:=.collected (W8 Y r),args:=renA Y args}
 | {target,args}=>{target,args:=renA Y args}
def Yes(D:Nat->Prop):Deferred->Prop
 | {target:=.fn f c,args}=>okV D (.func f #[] c)/\okA D args
 | {target:=.collected r,args}=>D r/\okA D args
 | {target:=.nil,args}=>okA D args
 | {target:=.builtin ..,args}=>okA D args
 | {target:=.coroexit _,.. }=>False
abbrev dom(Y:Ren):Nat->Prop:=fun b=>(Y b).isSome=true
structure TRel (Y:Ren) (t:Tm) (tmps:Array Value):Prop where
 size:tmps.size=t.size
 vals:∀ i v,t.t.get i=some v->okV (Go.Ab.dom Y) v/\tmps[i]? = some (ren Y v)
def Jj6(D:Nat->Prop):AObj->Prop
 | .loop _ _ t _ _ _ d=>(∀ i v,t.t.get i=some v->okV D v)/\D d
 | .mapIter m _ _ _ => ∀ b,m=some b->D b
 | _=>True
def FitObj(Y:Ren)(o:Obj):AObj->Prop
 | .loop st pend t ps as bd d=>dom Y d/\∃ fn tmps,o=.loop {state:=st,pending:=pend,fn,tmps,params:=ps,assign:=as,body:=bd,defers:=W8 Y d}/\TRel Y t tmps
 | .defs=>o=.deferred (some [])
 | .strIter s k=>o=.stringIter s k
 | .mapIter m since seen last=>(∀ b,m=some b->dom Y b)/\o=.mapIter (m.map (W8 Y)) since seen last
 | .any=>True
def Thawed(n lo hi:Nat):Prop:=lo=hi∨n<=lo
def Thawed.not{n lo hi:Nat}(h:Thawed n lo hi):∀ i,i < n->¬ (lo<=i/\i < hi):=by
 intro i hi h2;rcases h with h | h <;> omega
def Fits(Y:Ren)(p:Place)(w:World):Blk->Prop
 | .cells own sz c=>p.sz=sz/\((own=false/\c=[]) ∨ ∃ C e lo hi,w.heap[p.blk]? = some (.cells C e (lo,hi))/\(∀ i v,c[i]? = some v->C[p.base+i]? = some (ren Y v)/\okV (dom Y) v/\v.oneCell'=true) /\
   (own=true->p.base=0/\Thawed C.size lo hi/\C.size=p.room*p.sz))
 | .map es clk=>p.base=0/\w.heap[p.blk]? = some (.map (es.map (Qtk Y)) clk)/\∀ x ∈ es,flat x.key=true/\okV (dom Y) x.val
 | .obj a=>p.base=0/\∃ o,w.heap[p.blk]? = some o/\FitObj Y o a
def okB(D:Nat->Prop):Blk->Prop
 | .cells _ _ c => ∀ v ∈ c,okV D v/\v.oneCell'=true
 | .map es _ => ∀ x ∈ es,flat x.key=true/\okV D x.val
 | .obj o=>Jj6 D o
structure Bs where
 n:Nat
 b:Nat
structure HRel (G:Bs) (Y:Ren) (h:Heap) (w:World):Prop where
 dom:∀ b p,Y b=some p->b < h.next/\True
 fits:∀ b p x,Y b=some p->h.get b=some x->Fits Y p w x
 apart:∀ b c p q,Y b=some p->Y c=some q->b≠c->h.own b=true->h.live c=true->p.blk≠q.blk
 glob:∀ g,g < G.n->Y g=some ⟨g,0,0,0,none⟩/\h.own g=false
 globs:G.n<=h.next
 wf:∀ b x,h.get b=some x->okB (fun c=>c < h.next) x
 base:∀ b p x,Y b=some p->h.get b=some x->(x.own=true->G.b<=p.blk/\p.spot=none)/\(x.own=false->x.solid=true->p.blk < G.b/\p.spot=none)
 bsz:G.b<=w.heap.size
def Ext(n:Nat)(Y Y':Ren):Prop:=∀ b,b < n->Y' b=Y b
structure Turn (Y:Ren) (h:Heap) (w:World) (Y':Ren) (h':Heap) (w':World):Prop where
 size:w.heap.size<=w'.heap.size
 same:∀ k,k < w.heap.size->(∀ b p,Y b=some p->h.own b=true->p.blk≠k)->w'.heap[k]? = w.heap[k]?
 owns:∀ b p,Y' b=some p->h'.own b=true->w.heap.size<=p.blk ∨ ∃ c q,Y c=some q/\h.own c=true/\q.blk=p.blk
 tape:w'.tape=w.tape
 os:w'.os=w.os
 output:w'.output=w.output
 drawn:w.drawn<=w'.drawn
 next:h.next<=h'.next
def Ext.refl(n:Nat)(Y:Ren):Ext n Y Y:=fun _ _=>rfl
def Ext.trans{n m:Nat}{Y β γ:Ren}(h:Ext n Y β)(k:Ext m β γ)(hnm:n<=m):Ext n Y γ:=fun b hb=>(k b (by omega)).trans (h b hb)
def Ext.mono{n m:Nat}{Y β:Ren}(h:Ext m Y β)(hnm:n<=m):Ext n Y β:=fun b hb=>h b (by omega)
def Turn.refl(Y:Ren)(h:Heap)(w:World):Turn Y h w Y h w :=
 ⟨ab _,fun _ _ _=>rfl,fun b p hb ho => .inr ⟨b,p,hb,ho,rfl⟩,rfl,rfl,rfl,ab _,ab _⟩
def Turn.trans{Y Y1 Y2:Ren}{h h1 h2:Heap}{w w1 w2:World}(a:Turn Y h w Y1 h1 w1)(b:Turn Y1 h1 w1 Y2 h2 w2):Turn Y h w Y2 h2 w2:=by
 refine⟨ai a.size b.size,fun k hk hno => ?_,fun c p hc ho => ?_,b.tape.trans a.tape,b.os.trans a.os,b.output.trans a.output,ai a.drawn b.drawn,ai a.next b.next⟩
 ·rw[b.same k (au hk a.size) ?_,a.same k hk hno];intro c p hc ho e;rcases a.owns c p hc ho with h1 | ⟨c0,q,hq,hqo,hqe⟩
  ·omega
  ·exact hno c0 q hq hqo (hqe.trans e)
 ·rcases b.owns c p hc ho with h1 | ⟨c0,q,hq,hqo,hqe⟩
  ·exact .inl (ai a.size h1)
  ·rcases a.owns c0 q hq hqo with h2 | ⟨c1,q1,hq1,hqo1,hqe1⟩
   ·exact .inl (hqe ▸ h2)
   ·exact .inr ⟨c1,q1,hq1,hqo1,hqe1.trans hqe⟩
def Qkr{G:Bs}{Y:Ren}{h:Heap}{w:World}(H:HRel G Y h w){b:Nat}(hb:dom Y b):b < h.next:=by
 cases hp:Y b with
 | none=>simp[dom,hp]at hb
 | some p=>exact(H.dom b p hp).1
def Yxu{h:Heap}{b:Nat}(ho:h.own b=true):h.live b=true:=by
 unfold Heap.own at ho;unfold Heap.live;cases hg:h.get b with
 | none=>simp[hg]at ho
 | some x=>simp only[hg]at ho ⊢;exact eJ ho
def Q6c{h:Heap}{b:Nat}(ho:h.own b=true):∃ x,h.get b=some x/\x.own=true:=by
 unfold Heap.own at ho;cases hg:h.get b with
 | none=>simp[hg]at ho
 | some x=>simp only[hg]at ho;exact⟨x,rfl,ho⟩
def Q05{h:Heap}{b:Nat}{x:Blk}(hg:h.get b=some x):h.own b=x.own:=by simp[Heap.own,hg]
def Ypd{h:Heap}{b:Nat}{x:Blk}(hg:h.get b=some x):h.live b=x.solid:=by simp[Heap.live,hg]
def HRel.blk_lt{G:Bs}{Y:Ren}{h:Heap}{w:World}(H:HRel G Y h w){b:Nat}{p:Place}{x:Blk}(hb:Y b=some p)(hg:h.get b=some x)(hs:x.solid=true):p.blk < w.heap.size:=by
 have hf:=H.fits b p x hb hg;have key:∀ o,w.heap[p.blk]? = some o->p.blk < w.heap.size:=fun o ho=>(Array.getElem?_eq_some_iff.1 ho).1;cases x with
 | cells o z c =>
  rcases hf.2 with⟨rfl,rfl⟩ | ⟨C,e,lo,hi,h1,_⟩
  ·cases hs
  ·exact key _ h1
 | map es k=>exact key _ hf.2.1
 | obj o=>obtain⟨_,o',h1,_⟩:=hf;exact key _ h1
def HRel.blk_own{G:Bs}{Y:Ren}{h:Heap}{w:World}(H:HRel G Y h w){b:Nat}{p:Place}(hb:Y b=some p)(ho:h.own b=true):p.blk < w.heap.size:=by
 obtain⟨x,hx,hxo⟩:=Q6c ho;exact H.blk_lt hb hx (eJ hxo)
def HRel.blk_live{G:Bs}{Y:Ren}{h:Heap}{w:World}(H:HRel G Y h w){b:Nat}{p:Place}(hb:Y b=some p)(hl:h.live b=true):p.blk < w.heap.size:=by
 unfold Heap.live at hl;split at hl
 ·rename_i x hx;exact H.blk_lt hb hx hl
 ·cases hl
def HRel.spot{G:Bs}{Y:Ren}{h:Heap}{w:World}(H:HRel G Y h w){b:Nat}{p:Place}{x:Blk}(hb:Y b=some p)(hg:h.get b=some x)(hs:x.solid=true):p.spot=none:=by
 have h1:=H.base b p x hb hg;cases ho:x.own with
 | true=>exact(h1.1 ho).2
 | false=>exact(h1.2 ho hs).2
def Ypp{Y β:Ren}{D:Nat->Prop}(h:∀ b,D b->β b=Y b){x:MapEntry}(hk:flat x.key=true)(hv:okV D x.val):Qtk β x=Qtk Y x:=by
 simp[Qtk,Qgu,hk,ren_congr h x.val hv]
def TRel.keep{Y β:Ren}{t:Tm}{tmps:Array Value}(h:∀ b,dom Y b->β b=Y b)(ht:TRel Y t tmps):TRel β t tmps :=
 ⟨ht.size,fun i v hv=>by
  have h1:=ht.vals i v hv;exact⟨okV_mono (fun b hb=>by simpa[dom,h b hb]using hb) v h1.1,by rw[h1.2,ren_congr h v h1.1]⟩⟩
def FitObj.keep{Y β:Ren}{o:Obj}{a:AObj}(h:∀ b,dom Y b->β b=Y b)(hf:FitObj Y o a):FitObj β o a:=by
 cases a with
 | loop st pend t ps as bd d =>
  obtain⟨h1,fn,tmps,h2,h3⟩:=hf;exact⟨by simpa[dom,h d h1]using h1,fn,tmps,by rw[h2,Qc5 (h d h1)],h3.keep h⟩
 | defs=>exact hf
 | strIter s k=>exact hf
 | mapIter m since seen last =>
  obtain⟨h1,h2⟩:=hf;refine⟨fun b hb=>by have:=h1 b hb;simpa[dom,h b this]using this,?_⟩;rw[h2];cases m with
  | none=>rfl
  | some b=>simp only[ax,Qc5 (h b (h1 b rfl))]
 | any=>trivial
def Z8r{D E:Nat->Prop}(h:∀ b,D b->E b){o:AObj}(ho:Jj6 D o):Jj6 E o:=by
 cases o with
 | loop st pend t ps as bd d=>exact⟨fun i v hv=>okV_mono h v (ho.1 i v hv),h _ ho.2⟩
 | defs=>trivial
 | strIter s k=>trivial
 | mapIter m since seen last=>exact fun b hb=>h b (ho b hb)
 | any=>trivial
def FitObj.ok{Y:Ren}{o:Obj}{a:AObj}(hf:FitObj Y o a):Jj6 (dom Y) a:=by
 cases a with
 | loop st pend t ps as bd d =>
  obtain⟨h1,fn,tmps,h2,h3⟩:=hf;exact⟨fun i v hv=>(h3.vals i v hv).1,h1⟩
 | defs=>trivial
 | strIter s k=>trivial
 | mapIter m since seen last=>exact hf.1
 | any=>trivial
def Fits.keep{Y β:Ren}{p:Place}{w w':World}{x:Blk}(hf:Fits Y p w x)(h:∀ b,dom Y b->β b=Y b)(hw:w'.heap[p.blk]? = w.heap[p.blk]?):Fits β p w' x:=by
 have hd:∀ b,dom Y b->dom β b:=fun b hb=>by simpa[dom,h b hb]using hb
 cases x with
 | cells own sz c =>
  obtain⟨hsz,hf⟩:=hf;rcases hf with hf | ⟨C,e,lo,hi,h1,h2,h3⟩
  ·exact⟨hsz,.inl hf⟩
  refine⟨hsz,.inr ⟨C,e,lo,hi,by rw[hw,h1],fun i v hv => ?_,h3⟩⟩;obtain⟨a1,a2,a3⟩:=h2 i v hv;exact⟨by rw[a1,ren_congr h v a2],okV_mono hd v a2,a3⟩
 | map es clk =>
  obtain⟨h0,h1,h2⟩:=hf;refine⟨h0,?_,fun x hx=>⟨(h2 x hx).1,okV_mono hd _ (h2 x hx).2⟩⟩;rw[hw,h1];congr 2;apply cZ;intro x hx;exact(Ypp h (h2 x hx).1 (h2 x hx).2).symm
 | obj o =>
  obtain⟨h0,o',h1,h2⟩:=hf;exact⟨h0,o',by rw[hw,h1],h2.keep h⟩
def Fits.keepS{Y β:Ren}{p:Place}{w w':World}{x:Blk}(hf:Fits Y p w x)(h:∀ b,dom Y b->β b=Y b)(hw:x.solid=true->w'.heap[p.blk]? = w.heap[p.blk]?):Fits β p w' x:=by
 cases hs:x.solid with
 | true=>exact hf.keep h (hw hs)
 | false =>
  cases x with
  | cells o z l=>cases o <;> cases l <;> simp[Blk.solid]at hs;exact⟨hf.1,.inl ⟨rfl,rfl⟩⟩
  | map _ _=>simp[Blk.solid]at hs
  | obj _=>simp[Blk.solid]at hs
def Q34{h:Heap}{b c:Nat}{x:Option Blk}(hb:b < h.next):(h.set b x).own c=if b=c then(match x with | some y=>y.own | none=>false)else h.own c:=by
 unfold Heap.own;rw[gY hb];by_cases e:b=c
 ·simp only[e,if_true] <;> (cases x <;> rfl)
 ·simp only[e,if_false]
def Yxx{h:Heap}{b c:Nat}{x:Option Blk}(hb:b < h.next):(h.set b x).live c=if b=c then(match x with | some y=>y.solid | none=>false)else h.live c:=by
 unfold Heap.live;rw[gY hb];by_cases e:b=c
 ·simp only[e,if_true] <;> (cases x <;> rfl)
 ·simp only[e,if_false]
def Q2v{h:Heap}{c:Nat}{x:Blk}:(h.push x).own c=if h.next=c then x.own else h.own c:=by
 unfold Heap.own;rw[Heap.get_push];by_cases e:h.next=c
 ·simp only[e,if_true]
 ·simp only[e,if_false]
def Ykh{h:Heap}{c:Nat}{x:Blk}:(h.push x).live c=if h.next=c then x.solid else h.live c:=by
 unfold Heap.live;rw[Heap.get_push];by_cases e:h.next=c
 ·simp only[e,if_true]
 ·simp only[e,if_false]
def Xho{D E:Nat->Prop}(h:∀ b,D b->E b){x:Blk}(hx:okB D x):okB E x:=by
 cases x with
 | cells o z c=>exact fun v hv=>⟨okV_mono h v (hx v hv).1,(hx v hv).2⟩
 | map es k=>exact fun e he=>⟨(hx e he).1,okV_mono h _ (hx e he).2⟩
 | obj o=>exact Z8r h hx
def Fits.okB{Y:Ren}{p:Place}{w:World}{x:Blk}(hf:Fits Y p w x):Go.Ab.okB (dom Y) x:=by
 cases x with
 | cells o z c =>
  intro v hv;obtain⟨i,hi⟩:=List.getElem?_of_mem hv;rcases hf.2 with⟨_,rfl⟩ | ⟨C,e,lo,hi',h1,h2,h3⟩
  ·simp at hv
  ·exact(h2 i v hi).2
 | map es k=>exact hf.2.2
 | obj o=>obtain⟨h0,o',h1,h2⟩:=hf;exact h2.ok
def World.turned(w:World)(k:Nat)(o:Obj):World:={w with heap:=w.heap.setIfInBounds k o}
def Qtz{w:World}{k:Nat}{o:Obj}(h:k < w.heap.size):(World.turned w k o).heap[k]? = some o:=by
 simp[World.turned,h]
def Zxy{w:World}{k j:Nat}{o:Obj}(h:k≠j):(World.turned w k o).heap[j]? = w.heap[j]? := by
 simp[World.turned,h]
section
variable{G:Bs}{Y:Ren}{h:Heap}{w:World}
def HRel.upd(H:HRel G Y h w){b:Nat}{p:Place}(hb:Y b=some p)(ho:h.own b=true){x:Blk}(hx:x.own=true){o:Obj}
  (hf:Fits Y p (World.turned w p.blk o) x):HRel G Y (h.set b (some x)) (World.turned w p.blk o)/\Turn Y h w Y (h.set b (some x)) (World.turned w p.blk o):=by
 have hlt:=(H.dom b p hb).1;have hp:=H.blk_own hb ho;have hold:=Q6c ho;constructor
 ·refine⟨fun c q hc=>⟨(H.dom c q hc).1,trivial⟩,fun c q y hc hy => ?_,fun c d q r hc hd hne hoc hld => ?_,fun g hg => ?_,H.globs,fun c y hy => ?_,fun c q y hc hy => ?_,by simpa[World.turned]using H.bsz⟩
  ·rw[gY hlt]at hy;split at hy
   ·rename_i e;subst e;rw[hb]at hc;cases hc;cases hy;exact hf
   ·rename_i e;cases hs:y.solid with
    | true =>
     have hne:=H.apart b c p q hb hc e ho (by rw[Ypd hy,hs]);exact(H.fits c q y hc hy).keep (fun _ _=>rfl) (Zxy hne)
    | false =>
     cases y with
     | cells o z l=>cases o <;> cases l <;> simp[Blk.solid]at hs;exact⟨(H.fits c q _ hc hy).1,.inl ⟨rfl,rfl⟩⟩
     | map _ _=>simp[Blk.solid]at hs
     | obj _=>simp[Blk.solid]at hs
  ·rw[Q34 hlt]at hoc;rw[Yxx hlt]at hld;have ho':h.own c=true:=by
    split at hoc
    ·rename_i e;exact e ▸ ho
    ·exact hoc
   have hl':h.live d=true:=by
    split at hld
    ·rename_i e;exact e ▸ Yxu ho
    ·exact hld
   exact H.apart c d q r hc hd hne ho' hl'
  ·refine⟨(H.glob g hg).1,?_⟩;rw[Q34 hlt];split
   ·rename_i e;subst e;rw[(H.glob b hg).2]at ho;cases ho
   ·exact(H.glob g hg).2
  ·rw[gY hlt]at hy;split at hy
   ·cases hy;exact Xho (fun c hc=>Qkr H hc) hf.okB
   ·exact H.wf c y hy
  ·rw[gY hlt]at hy;split at hy
   ·rename_i e;subst e;rw[hb]at hc;cases hc;cases hy;obtain⟨x0,hx0,hxo⟩:=hold;exact⟨fun _=>(H.base b p x0 hb hx0).1 hxo,fun h0=>by rw[hx]at h0;cases h0⟩
   ·exact H.base c q y hc hy
 ·refine⟨by simp[World.turned],fun k hk hno=>Zxy (hno b p hb ho),fun c q hc hoc => .inr ⟨c,q,hc,?_,rfl⟩,rfl,rfl,rfl,ab _,ab _⟩;rw[Q34 hlt]at hoc;split at hoc
  ·rename_i e;exact e ▸ ho
  ·exact hoc
def HRel.kill(H:HRel G Y h w){b:Nat}(hlt:b < h.next):HRel G Y (h.set b none) w/\Turn Y h w Y (h.set b none) w:=by
 constructor
 ·refine⟨H.dom,fun c q y hc hy => ?_,fun c d q r hc hd hne hoc hld => ?_,fun g hg => ?_,H.globs,fun c y hy => ?_,fun c q y hc hy => ?_,H.bsz⟩
  ·rw[gY hlt]at hy;split at hy
   ·cases hy
   ·exact H.fits c q y hc hy
  ·rw[Q34 hlt]at hoc;rw[Yxx hlt]at hld;split at hoc
   ·cases hoc
   ·split at hld
    ·cases hld
    ·exact H.apart c d q r hc hd hne hoc hld
  ·refine⟨(H.glob g hg).1,?_⟩;rw[Q34 hlt];split
   ·rfl
   ·exact(H.glob g hg).2
  ·rw[gY hlt]at hy;split at hy
   ·cases hy
   ·exact H.wf c y hy
  ·rw[gY hlt]at hy;split at hy
   ·cases hy
   ·exact H.base c q y hc hy
 ·refine⟨ab _,fun _ _ _=>rfl,fun c q hc hoc => .inr ⟨c,q,hc,?_,rfl⟩,rfl,rfl,rfl,ab _,ab _⟩;rw[Q34 hlt]at hoc;split at hoc
  ·cases hoc
  ·exact hoc
def Ren.add(Y:Ren)(n:Nat)(p:Place):Ren:=fun b=>if b=n then some p else Y b
def eH(Y:Ren)(n:Nat)(p:Place):Ext n Y (Ren.add Y n p):=fun b hb=>by simp[Ren.add,Nat.ne_of_lt hb]
def eF(Y:Ren)(n:Nat)(p:Place):Ren.add Y n p n=some p:=by simp[Ren.add]
def HRel.add_dom(H:HRel G Y h w)(p:Place):∀ b,Go.Ab.dom Y b->Ren.add Y h.next p b=Y b:=fun b hb=>eH Y h.next p b (Qkr H hb)
def HRel.push(H:HRel G Y h w){x:Blk}(hx:x.own=true){p:Place}(hp:p.blk=w.heap.size){o:Obj}{w':World}(hw':w' = {w with heap:=w.heap.push o})
  (hf:Fits (Ren.add Y h.next p) p w' x) (hsp:p.spot=none:=by rfl) :
  HRel G (Ren.add Y h.next p) (h.push x) w'/\Turn Y h w (Ren.add Y h.next p) (h.push x) w':=by
 subst hw';have hold:∀ k,k < w.heap.size->(w.heap.push o)[k]? = w.heap[k]? := fun k hk=>by rw[Array.getElem?_push,if_neg (by omega)]
 have hcase:∀ c q,Ren.add Y h.next p c=some q->(c=h.next/\q=p)∨(c < h.next/\Y c=some q):=by
  intro c q hc;unfold Ren.add at hc;split at hc
  ·cases hc;exact .inl ⟨by assumption,rfl⟩
  ·exact .inr ⟨(H.dom c q hc).1,hc⟩
 constructor
 ·refine⟨fun c q hc => ?_,fun c q y hc hy => ?_,fun c d q r hc hd hne hoc hld => ?_,fun g hg => ?_,cF H.globs,fun c y hy => ?_,fun c q y hc hy => ?_,by have:=H.bsz;simp;omega⟩
  ·rcases hcase c q hc with⟨rfl,rfl⟩ | ⟨h1,h2⟩
   ·exact⟨bD _,by simp[hp]⟩
   ·exact⟨bE h1,trivial⟩
  ·rw[Heap.get_push]at hy;rcases hcase c q hc with⟨rfl,rfl⟩ | ⟨h1,h2⟩
   ·simp only[if_true]at hy;cases hy;exact hf
   ·rw[if_neg (by omega)]at hy;exact(H.fits c q y h2 hy).keepS (H.add_dom p) fun hs=>hold _ (H.blk_lt h2 hy hs)
  ·rw[Q2v]at hoc;rw[Ykh]at hld;rcases hcase c q hc with⟨rfl,rfl⟩ | ⟨h1,h2⟩
   ·rcases hcase d r hd with⟨rfl,rfl⟩ | ⟨h3,h4⟩
    ·exact absurd rfl hne
    ·rw[if_neg (by omega)]at hld;have:=H.blk_live h4 hld;omega
   ·rcases hcase d r hd with⟨rfl,rfl⟩ | ⟨h3,h4⟩
    ·rw[if_neg (by omega)]at hoc;have:=H.blk_own h2 hoc;omega
    ·rw[if_neg (by omega)]at hoc;rw[if_neg (by omega)]at hld;exact H.apart c d q r h2 h4 hne hoc hld
  ·have:=H.globs;refine⟨by rw[eH Y h.next p g (by omega)];exact(H.glob g hg).1,?_⟩;rw[Q2v,if_neg (by omega)];exact(H.glob g hg).2
  ·rw[Heap.get_push]at hy;split at hy
   ·cases hy;refine Xho (fun c hc => ?_) hf.okB;obtain⟨q,hq⟩:=az.1 hc;rcases hcase c q hq with⟨rfl,_⟩ | ⟨h1,_⟩
    ·exact bD _
    ·exact bE h1
   ·exact Xho (fun c hc=>bE hc) (H.wf c y hy)
  ·rw[Heap.get_push]at hy;rcases hcase c q hc with⟨rfl,rfl⟩ | ⟨h1,h2⟩
   ·simp only[if_true]at hy;cases hy;exact⟨fun _=>⟨by rw[hp];exact H.bsz,hsp⟩,fun h0=>by rw[hx]at h0;cases h0⟩
   ·rw[if_neg (by omega)]at hy;exact H.base c q y h2 hy
 ·refine⟨by simp,fun k hk _=>hold k hk,fun c q hc hoc => ?_,rfl,rfl,rfl,ab _,bH _⟩;rcases hcase c q hc with⟨rfl,rfl⟩ | ⟨h1,h2⟩
  ·exact .inl (by omega)
  ·rw[Q2v,if_neg (by omega)]at hoc;exact .inr ⟨c,q,h2,hoc,rfl⟩
def HRel.alias(H:HRel G Y h w){p:Place}(hp:True) :
  HRel G (Ren.add Y h.next p) (h.push (.cells false p.sz [])) w/\Turn Y h w (Ren.add Y h.next p) (h.push (.cells false p.sz [])) w:=by
 have hcase:∀ c q,Ren.add Y h.next p c=some q->(c=h.next/\q=p)∨(c < h.next/\Y c=some q):=by
  intro c q hc;unfold Ren.add at hc;split at hc
  ·cases hc;exact .inl ⟨by assumption,rfl⟩
  ·exact .inr ⟨(H.dom c q hc).1,hc⟩
 constructor
 ·refine⟨fun c q hc => ?_,fun c q y hc hy => ?_,fun c d q r hc hd hne hoc hld => ?_,fun g hg => ?_,cF H.globs,fun c y hy => ?_,fun c q y hc hy => ?_,H.bsz⟩
  ·rcases hcase c q hc with⟨rfl,rfl⟩ | ⟨h1,h2⟩
   ·exact⟨bD _,hp⟩
   ·exact⟨bE h1,(H.dom c q h2).2⟩
  ·rw[Heap.get_push]at hy;rcases hcase c q hc with⟨rfl,rfl⟩ | ⟨h1,h2⟩
   ·simp only[if_true]at hy;cases hy;exact⟨rfl,.inl ⟨rfl,rfl⟩⟩
   ·rw[if_neg (by omega)]at hy;exact(H.fits c q y h2 hy).keep (H.add_dom p) rfl
  ·rw[Q2v]at hoc;rw[Ykh]at hld;rcases hcase c q hc with⟨rfl,rfl⟩ | ⟨h1,h2⟩
   ·simp[Blk.own]at hoc
   ·rcases hcase d r hd with⟨rfl,rfl⟩ | ⟨h3,h4⟩
    ·simp[Blk.solid]at hld
    ·rw[if_neg (by omega)]at hoc;rw[if_neg (by omega)]at hld;exact H.apart c d q r h2 h4 hne hoc hld
  ·have:=H.globs;refine⟨by rw[eH Y h.next p g (by omega)];exact(H.glob g hg).1,?_⟩;rw[Q2v,if_neg (by omega)];exact(H.glob g hg).2
  ·rw[Heap.get_push]at hy;split at hy
   ·cases hy;intro v hv;simp at hv
   ·exact Xho (fun c hc=>bE hc) (H.wf c y hy)
  ·rw[Heap.get_push]at hy;rcases hcase c q hc with⟨rfl,rfl⟩ | ⟨h1,h2⟩
   ·simp only[if_true]at hy;cases hy;exact⟨fun h0=>(by cases h0),fun _ h0=>(by cases h0)⟩
   ·rw[if_neg (by omega)]at hy;exact H.base c q y h2 hy
 ·refine⟨ab _,fun k _ _=>rfl,fun c q hc hoc => ?_,rfl,rfl,rfl,ab _,bH _⟩;rw[Q2v]at hoc;rcases hcase c q hc with⟨rfl,rfl⟩ | ⟨h1,h2⟩
  ·simp[Blk.own]at hoc
  ·rw[if_neg (by omega)]at hoc;exact .inr ⟨c,q,h2,hoc,rfl⟩
def HRel.same(H:HRel G Y h w){w':World}(hh:w'.heap=w.heap):HRel G Y h w' :=
 ⟨H.dom,fun b p x hb hx=>(H.fits b p x hb hx).keep (fun _ _=>rfl) (by rw[hh]),H.apart,H.glob,H.globs,H.wf,H.base,by rw[hh];exact H.bsz⟩
def Turn.drew(Y:Ren)(h:Heap)(w:World){n:Nat}(hn:w.drawn<=n):Turn Y h w Y h {w with drawn:=n} :=
 ⟨ab _,fun _ _ _=>rfl,fun b p hb ho => .inr ⟨b,p,hb,ho,rfl⟩,rfl,rfl,rfl,hn,ab _⟩
end
def Qpw{h h':Heap}{b:Nat}(hg:h'.get b=h.get b):h'.own b=h.own b:=by simp[Heap.own,hg]
def Ypy{h h':Heap}{b:Nat}(hg:h'.get b=h.get b):h'.live b=h.live b:=by simp[Heap.live,hg]
section
variable{G:Bs}{Y:Ren}{h:Heap}{w:World}
def Qw5{Y:Ren}{b:Nat}{p:Place}(h:Y b=some p):dom Y b:=by simp[dom,h]
def HRel.congr(H:HRel G Y h w){h':Heap}(hn:G.n<=h'.next)(hd:∀ b,Go.Ab.dom Y b->b < h'.next)(hg:∀ b,Go.Ab.dom Y b->h'.get b=h.get b)(hwf:∀ b x,h'.get b=some x->okB (fun c=>c < h'.next) x):HRel G Y h' w :=
  ⟨fun b p hb=>⟨hd b (Qw5 hb),(H.dom b p hb).2⟩,fun b p x hb hx=>H.fits b p x hb (by rw[<- hg b (Qw5 hb)];exact hx),
   fun b c p q hb hc hne ho hl=>H.apart b c p q hb hc hne (by rw[<- Qpw (hg b (Qw5 hb))];exact ho) (by rw[<- Ypy (hg c (Qw5 hc))];exact hl),
   fun g hg'=>⟨(H.glob g hg').1,by rw[Qpw (hg g (Qw5 (H.glob g hg').1))];exact(H.glob g hg').2⟩,hn,hwf,
   fun b p x hb hx=>H.base b p x hb (by rw[<- hg b (Qw5 hb)];exact hx),H.bsz⟩
def Turn.heap{Y Y':Ren}{h h' h'':Heap}{w w':World}(t:Turn Y h w Y' h' w')(hg:∀ b,dom Y' b->h''.get b=h'.get b)(hn:h'.next<=h''.next):Turn Y h w Y' h'' w' :=
 ⟨t.size,t.same,fun b p hb ho=>t.owns b p hb (by rw[<- Qpw (hg b (Qw5 hb))];exact ho),t.tape,t.os,t.output,t.drawn,ai t.next hn⟩
end
structure TyRec where
 desc:TypeDesc
 size:Nat
 bytes:Nat
 zero:Value
 leaf:List Nat
def Yrl:Nat->Value->Value->Option Bool
 | 1,.int k a,.int j b=>if k=j then some (a == b)else none
 | 2,.bool a,.bool b=>some (a == b)
 | 3,.string a,.string b=>some (a == b)
 | _,_,_=>none
def Wr:List Nat->List Value->List Value->Option Bool
 | [],[],[]=>some true
 | l::ls,x::xs,y::ys =>
  match Yrl l x y,Wr ls xs ys with
  | some a,some b=>some (a && b)
  | _,_=>none
 | _,_,_=>none
def Jt1(P:Program)(t:TypeId)(leaf:List Nat):Prop :=
 leaf ≠ []->P.eqGuardType P.depth t=false/\(∀ (xs ys:List Value) (b:Bool) (w:World),Wr leaf xs ys=some b->(Op.equal t (.agg xs.toArray) (.agg ys.toArray)).run P w=.ok b w) /\
  ∀ (em:Bool) (xs:List Value) (w:World),xs.length=leaf.length->(Instr.checkKey em 10000 t (.agg xs.toArray)).run P w=.ok () w
def Z77(P:Program)(t:TypeId)(r:TyRec):Prop :=
 P.underlying t=some r.desc/\∃ i,P.info? t=some i/\i.size=r.size/\i.bytes=r.bytes/\i.zero=some r.zero/\flat r.zero=true/\Qid r.zero=true/\r.zero.cells.size=r.size/\Jt1 P t r.leaf
def Qea:TypeDesc->Bool
 | .struct _ | .array _ _=>true
 | _=>false
def TRel.put{Y:Ren}{t:Tm}{tmps:Array Value}(h:TRel Y t tmps){i:Nat}{v:Value}(hi:i < t.size)(hv:okV (dom Y) v):TRel Y (t.put i v) (tmps.setIfInBounds i (ren Y v)):=by
 refine⟨by simp[Tm.put,h.size],fun j u hj => ?_⟩;simp only[Tm.put,Tr.get_put]at hj;split at hj
 ·rename_i e;subst e;cases hj;exact⟨hv,by rw[Array.getElem?_setIfInBounds];simp[h.size,hi]⟩
 ·rename_i e;have:=h.vals j u hj;exact⟨this.1,by rw[Array.getElem?_setIfInBounds,if_neg e];exact this.2⟩
def TRel.ext{G:Bs}{Y β:Ren}{h:Heap}{w:World}{t:Tm}{tmps:Array Value}(H:HRel G Y h w)(he:Ext h.next Y β)(ht:TRel Y t tmps):TRel β t tmps:=by
 refine⟨ht.size,fun i v hv => ?_⟩;have:=ht.vals i v hv;have hd:∀ b,dom Y b->β b=Y b:=fun b hb=>he b (Qkr H hb);exact⟨okV_mono (fun b hb=>by simpa[dom,hd b hb]using hb) v this.1,by rw[this.2,ren_congr hd v this.1]⟩
def aev(G:Bs)(t:Tm):Operand->Option Value
 | .tmp i=>t.t.get i
 | .const v=>if flat v then some v else none
 | .global g=>if g < G.n then some (.pointer (some ⟨g,0,none⟩))else none
 | .func f=>some (.func (.func f) #[] #[])
def Xvk{G:Bs}{Y:Ren}{h:Heap}{w:World}(H:HRel G Y h w){t:Tm}{a:Act}(ht:TRel Y t a.tmps){x:Operand}{v:Value}(hx:aev G t x=some v) :
  okV (dom Y) v/\a.eval x=ren Y v:=by
 cases x with
 | tmp i =>
  have:=ht.vals i v hx;exact⟨this.1,by simp[Act.eval,Array.getD_eq_getD_getElem?,this.2]⟩
 | const c =>
  simp only[aev]at hx;split at hx
  ·rename_i hf;cases hx;exact⟨flat_ok _ _ hf,by rw[Qgu Y hf];rfl⟩
  ·cases hx
 | global g =>
  simp only[aev]at hx;split at hx
  ·rename_i hg;cases hx;have:=(H.glob g hg).1;exact⟨by simp[okV,dom,this],by simp[Act.eval,ren,Wc,this]⟩
  ·cases hx
 | func f =>
  simp only[aev,ar]at hx;subst hx;exact⟨by simp[okV,okA,okL],by simp[Act.eval,ren,Ykn,renA,renL]⟩
def Q72:Nat->List Value->Option (List Value)
 | 0,_=>some []
 | n+1,v::l=>(Q72 n l).map (v :: ·)
 | _+1,[]=>none
def Q5e:∀ (n:Nat) (l r:List Value),Q72 n l=some r->r.length=n/\∀ (i:Nat) (v:Value),r[i]? = some v->l[i]? = some v
 | 0,l,r,h=>by simp[Q72]at h;subst h;simp
 | n+1,[],r,h=>by simp[Q72]at h
 | n+1,v::l,r,h=>by
  simp only[Q72,ak]at h;obtain⟨r',hr,rfl⟩:=h;obtain⟨h1,h2⟩:=Q5e n l r' hr;refine⟨by simp[h1],fun i u hu => ?_⟩;cases i with
  | zero=>simpa using hu
  | succ i=>simp only[List.getElem?_cons_succ]at hu ⊢;exact h2 i u hu
def over:List Value->List Value->Option (List Value)
 | c,[]=>some c
 | _::c,v::l=>(over c l).map (v :: ·)
 | [],_::_=>none
def Qlj:List Value->Nat->List Value->Option (List Value)
 | c,0,l=>over c l
 | x::c,n+1,l=>(Qlj c n l).map (x :: ·)
 | [],_+1,[]=>some []
 | [],_+1,_::_=>none
def Zsl:∀ (c l r:List Value),over c l=some r->r.length=c.length/\l.length<=c.length/\∀ i,r[i]? = if i < l.length then l[i]? else c[i]?
 | c,[],r,h=>by cases c <;> (simp only[over,ar]at h;subst h;simp)
 | x::c,v::l,r,h=>by
  simp only[over,ak]at h;obtain⟨r',hr,rfl⟩:=h;obtain⟨h1,h2,h3⟩:=Zsl c l r' hr;refine⟨by simp[h1],by simpa using h2,fun i => ?_⟩;cases i with
  | zero=>simp
  | succ i=>simp only[List.getElem?_cons_succ,aS,Nat.succ_lt_succ_iff];exact h3 i
 | [],_::_,r,h=>by simp[over]at h
def X9i:∀ (c:List Value) (n:Nat) (l r:List Value),Qlj c n l=some r->r.length=c.length/\(l=[]∨n+l.length<=c.length)/\∀ i,r[i]? = if n<=i/\i < n+l.length then l[i-n]? else c[i]?
 | c,0,l,r,h=>by
  have h':over c l=some r:=by cases c <;> simpa[Qlj]using h
  obtain⟨h1,h2,h3⟩:=Zsl c l r h';exact⟨h1,.inr (by omega),fun i=>by simp[h3 i]⟩
 | x::c,n+1,l,r,h=>by
  simp only[Qlj,ak]at h;obtain⟨r',hr,rfl⟩:=h;obtain⟨h1,h2,h3⟩:=X9i c n l r' hr;refine⟨by simp[h1],h2.imp id (fun h2=>by simp;omega),fun i => ?_⟩;cases i with
  | zero=>simp
  | succ i =>
   simp only[List.getElem?_cons_succ,h3 i,Nat.add_le_add_iff_right,Nat.add_sub_add_right];by_cases hc:n<=i/\i < n+l.length
   ·rw[if_pos hc,if_pos ⟨hc.1,by omega⟩]
   ·rw[if_neg hc,if_neg (by omega)]
 | [],n+1,[],r,h=>by simp[Qlj]at h;subst h;simp
 | [],_+1,_::_,r,h=>by simp[Qlj]at h
def cellsAt(h:Heap)(a:Addr)(n:Nat):Option (List Value) :=
 match h.get a.block with
 | some (.cells _ _ c)=>Q72 n (c.drop a.off)
 | _=>none
def Qq7(g o n:Nat):(⟨g,o,none⟩:Addr).add n=⟨g,o+n,none⟩:=by unfold Addr.add;split <;> simp_all
section
variable{P:Program}{G:Bs}{Y:Ren}{h:Heap}{w:World}
def Q22(H:HRel G Y h w){a:Addr}(ha:dom Y a.block)(hs:a.spot=none){n:Nat}{l:List Value}(hl:cellsAt h a n=some l) :
  l.length=n/\(∀ v ∈ l,okV (dom Y) v/\v.oneCell'=true)/\∀ j v,(l.map (ren Y))[j]? = some v->w.cell? ((Wc Y a).add j)=some v:=by
 obtain⟨p,hp⟩:=az.1 ha;unfold cellsAt at hl;cases hg:h.get a.block with
 | none=>simp[hg]at hl
 | some x =>
  cases x with
  | map _ _=>simp[hg]at hl
  | obj _=>simp[hg]at hl
  | cells own sz c =>
   simp only[hg]at hl;obtain⟨h1,h2⟩:=Q5e _ _ _ hl;rcases(H.fits a.block p _ hp hg).2 with⟨_,rfl⟩ | ⟨C,e,lo,hi,f1,f2,f3⟩
   ·have hnil:l=[]:=by
     cases l with
     | nil=>rfl
     | cons v r=>have:=h2 0 v (by simp);simp at this
    subst hnil;exact⟨h1,by simp,by simp⟩
   ·have hcell:∀ i v,l[i]? = some v->C[p.base+(a.off+i)]? = some (ren Y v)/\okV (dom Y) v/\v.oneCell'=true:=by
     intro i v hi';have:=h2 i v hi';rw[List.getElem?_drop]at this;exact f2 _ _ this
    refine⟨h1,fun v hv => ?_,fun j v hv => ?_⟩
    ·obtain⟨i,hi'⟩:=List.getElem?_of_mem hv;exact(hcell i v hi').2
    ·rw[List.getElem?_map,ak]at hv;obtain⟨u,hu,rfl⟩:=hv;have:=(hcell j u hu).1;have hsp:p.spot=none:=by
      refine H.spot hp hg ?_;have h3:=h2 j u hu;cases c with
      | nil=>simp at h3
      | cons _ _=>cases own <;> rfl
     simp only[Wc,hp,hsp,ite_self];rw[Qq7];simp only[World.cell?,f1];simpa[bY]using this
def Qup(H:HRel G Y h w){a:Addr}(ha:dom Y a.block)(hs:a.spot=none){n:Nat}{l:List Value}(hl:cellsAt h a n=some l) :
  (loadCells (Wc Y a) n).run P w=.ok (l.map (ren Y)).toArray w:=by
 obtain⟨h1,_,h3⟩:=Q22 H ha hs hl;have:=run_loadCells_list (P:=P) w (Wc Y a) (l.map (ren Y)) h3;rwa [aL,h1]at this
def Zlf(r:TyRec)(h:Heap)(a:Addr):Option Value :=
 if Qea r.desc then(cellsAt h a r.size).map fun l => .agg l.toArray
 else match cellsAt h a 1 with
  | some [v]=>some v
  | _=>none
def Yqu{t:TypeId}{r:TyRec}(hr:Z77 P t r)(w:World):(isAgg t).run P w=.ok (Qea r.desc) w:=by
 simp only[isAgg,aq,run_underlying hr.1,ac];cases r.desc <;> rfl
def Qap{t:TypeId}{r:TyRec}(hr:Z77 P t r)(w:World):(sizeOf t).run P w=.ok r.size w:=by
 obtain⟨_,i,hi,h1,_⟩:=hr;simp[sizeOf,typeInfo,hi,h1]
def Qif{t:TypeId}{r:TyRec}(hr:Z77 P t r)(w:World):(zeroValue t).run P w=.ok r.zero w:=by
 obtain⟨_,i,hi,h1,h2,h3,_⟩:=hr;simp[zeroValue,typeInfo,hi,h3]
def X7z(H:HRel G Y h w){t:TypeId}{r:TyRec}(hr:Z77 P t r){a:Addr}(ha:dom Y a.block)(hs:a.spot=none){v:Value}(hv:Zlf r h a=some v) :
  okV (dom Y) v/\(loadVar t (Wc Y a)).run P w=.ok (ren Y v) w:=by
 unfold Zlf at hv;simp only[loadVar,aq,Yqu hr,ac];split at hv
 ·rename_i hagg;rw[ak]at hv;obtain⟨l,hl,rfl⟩:=hv;refine⟨Xiy _ _ (Q22 H ha hs hl).2.1,?_⟩;simp[hagg,Qap hr,Qup H ha hs hl]
 ·rename_i hagg;split at hv
  ·rename_i u hl;cases hv;obtain⟨_,h2,h3⟩:=Q22 H ha hs hl;refine⟨(h2 v (by simp)).1,?_⟩;have hc:=h3 0 (ren Y v) (by simp);have hb:(Wc Y a).add 0=Wc Y a:=rfl;rw[hb]at hc;simp[hagg,run_load,hc]
  ·cases hv
def storeAt(h:Heap)(a:Addr)(l:List Value):Option Heap :=
 match h.get a.block with
 | some (.cells true sz c)=>(Qlj c a.off l).map fun c'=>h.set a.block (some (.cells true sz c'))
 | _=>none
def Y16{w:World}{g:Nat}{o:Obj}(hg:w.heap[g]? = some o):World.turned w g o=w:=by
 have hh:w.heap.setIfInBounds g o=w.heap:=by
  apply Array.ext_getElem?;intro i;rw[Array.getElem?_setIfInBounds];split
  ·rename_i e';subst e';have hlt:g < w.heap.size:=by
    rcases aU g w.heap.size with h | h
    ·exact h
    ·simp[Array.getElem?_eq_none h]at hg
   rw[if_pos hlt,hg]
  ·rfl
 simp[World.turned,hh]
def Zee{w:World}{g o e lo hi:Nat}{C:Array Value}(v:Value)(hg:w.heap[g]? = some (.cells C e (lo,hi))):w.setCell ⟨g,o,none⟩ v=World.turned w g (.cells (C.setIfInBounds o v) e (lo,hi)):=by
 simp only[World.setCell,World.turned];congr 1;apply Array.ext_getElem?;intro i;rw[Array.getElem?_modify,Array.getElem?_setIfInBounds];by_cases hi':g=i
 ·subst hi';have hlt:g < w.heap.size:=by
   rcases aU g w.heap.size with h | h
   ·exact h
   ·simp[Array.getElem?_eq_none h]at hg
  rw[if_pos rfl,if_pos rfl,if_pos hlt,hg];rfl
 ·rw[if_neg hi',if_neg hi']
def Q2t(g e:Nat)(lo hi:Nat):∀ (l:List Value) (o:Nat) (C:Array Value) (w:World),w.heap[g]? = some (.cells C e (lo,hi)) ->
  (∀ i,i < C.size->¬ (lo<=i/\i < hi))->o+l.length<=C.size->(∀ v ∈ l,v.oneCell'=true)->∀ k off,off+k=o ->
  ∃ C',(storeCells ⟨g,off,none⟩ l k).run P w=.ok () (World.turned w g (.cells C' e (lo,hi)))/\C'.size=C.size/\∀ i,C'[i]? = if o<=i/\i < o+l.length then l[i-o]? else C[i]?
 | [],o,C,w,hg,_,_,_,k,off,_=>by
  refine⟨C,?_,rfl,fun i=>by rw[if_neg (by simp)]⟩;rw[Y16 hg];rfl
 | v::l,o,C,w,hg,hz,hl,h1,k,off,hk=>by
  simp only[aS]at hl;have hlt:g < w.heap.size:=by
   rcases aU g w.heap.size with h | h
   ·exact h
   ·simp[Array.getElem?_eq_none h]at hg
  have hcell:w.cell? ⟨g,o,none⟩=some C[o]:=by simp[World.cell?,hg]
  have hfz:w.frozen? ⟨g,o,none⟩=false:=by
   have:=hz o (by omega);simp[World.frozen?,hg];omega
  have hset:=Zee (o:=o) v hg;have hst:(store ((⟨g,off,none⟩:Addr).add k) v).run P w=.ok () (World.turned w g (.cells (C.setIfInBounds o v) e (lo,hi))):=by
   rw[Qq7,hk,run_store P w _ v _ (h1 v (by simp)),hcell,hfz,hset];simp
  obtain⟨C',r1,r2,r3⟩:=Q2t g e lo hi l (o+1) (C.setIfInBounds o v) (World.turned w g (.cells (C.setIfInBounds o v) e (lo,hi))) (Qtz hlt)
   (by simpa using hz) (by simp;omega) (fun u hu=>h1 u (by simp[hu])) (k+1) off (by omega)
  refine⟨C',?_,by simpa using r2,fun i => ?_⟩
  ·simp only[storeCells,aq,hst,ac,r1];simp[World.turned]
  ·rw[r3 i];by_cases hi':i=o
   ·subst hi';rw[if_neg (by omega),if_pos (by simp)];simp[show i < C.size by omega]
   ·by_cases hc:o+1<=i/\i < o+1+l.length
    ·rw[if_pos hc,if_pos (by simp;omega),show i-o=(i-(o+1))+1 by omega,List.getElem?_cons_succ]
    ·rw[if_neg hc,if_neg (by simp;omega),Array.getElem?_setIfInBounds,if_neg (by omega)]
def Xef(H:HRel G Y h w){a:Addr}(ha:dom Y a.block)(hs:a.spot=none){l:List Value}(hl:∀ v ∈ l,okV (dom Y) v/\v.oneCell'=true){h':Heap}(hh:storeAt h a l=some h') :
  ∃ w',(storeCells (Wc Y a) (l.map (ren Y))).run P w=.ok () w'/\HRel G Y h' w'/\Turn Y h w Y h' w':=by
 obtain⟨p,hp⟩:=az.1 ha;unfold storeAt at hh;split at hh
 ·rename_i sz c hg;rw[ak]at hh;obtain⟨c',hc',rfl⟩:=hh;obtain⟨s1,s2,s3⟩:=X9i _ _ _ _ hc';have hfit:=H.fits a.block p _ hp hg;rcases hfit.2 with⟨h0,_⟩ | ⟨C,e,lo,hi,f1,f2,f3⟩
  ·cases h0
  obtain⟨f31,f32,f33⟩:=f3 rfl;have hcl:c.length<=C.size:=by
   rcases aU C.size c.length with hlt | hge
   ·have:=(f2 C.size _ (List.getElem?_eq_getElem hlt)).1;simp[f31]at this
   ·exact hge
  rcases s2 with hnil | s2
  ·subst hnil;have hcc:c'=c:=by
    apply List.ext_getElem?;intro i;rw[s3 i,if_neg (by simp only[cd];omega)]
   subst hcc;have hw:=Y16 f1;have:=H.upd hp (Q05 hg) (x:=.cells true sz c') rfl (o:=.cells C e (lo,hi)) (by rw[hw];exact hfit);rw[hw]at this;exact⟨w,by simp[storeCells],this.1,this.2⟩
  ·obtain⟨C',r1,r2,r3⟩:=Q2t (P:=P) p.blk e lo hi (l.map (ren Y)) a.off C w f1 f32.not (by simp;omega)
    (fun v hv=>by obtain⟨u,hu,rfl⟩:=am.1 hv;rw[Yyt];exact(hl u hu).2) 0 a.off (by omega)
   refine⟨World.turned w p.blk (.cells C' e (lo,hi)),?_,?_⟩
   ·simp only[Wc,hp,f31,H.spot hp hg rfl,ite_self,ba];exact r1
   ·refine H.upd hp (Q05 hg) rfl ⟨hfit.1,.inr ⟨C',e,lo,hi,Qtz (H.blk_lt hp hg rfl),fun i v hv => ?_,fun _=>⟨f31,by rw[r2];exact f32,by rw[r2];exact f33⟩⟩⟩;rw[s3 i]at hv;rw[f31,ba,r3 i];simp only[aL];split
    ·rename_i hc;rw[if_pos hc]at hv;refine⟨by rw[List.getElem?_map,hv];rfl,?_⟩;exact hl v (List.mem_of_getElem? hv)
    ·rename_i hc;rw[if_neg hc]at hv;have:=f2 i v hv;rwa [f31,ba]at this
 ·cases hh
def Yzu(r:TyRec)(h:Heap)(a:Addr)(v:Value):Option Heap :=
 if Qid v && v.cells.size == r.size then storeAt h a v.cells.toList else none
def Y5f(H:HRel G Y h w){t:TypeId}{r:TyRec}(hr:Z77 P t r){a:Addr}(ha:dom Y a.block)(hs:a.spot=none){v:Value}(hv:okV (dom Y) v){h':Heap}(hh:Yzu r h a v=some h') :
  ∃ w',(storeVar t (Wc Y a) (ren Y v)).run P w=.ok () w'/\HRel G Y h' w'/\Turn Y h w Y h' w':=by
 unfold Yzu at hh;split at hh
 ·rename_i hc;simp only[ao,beq_iff_eq]at hc;obtain⟨w',r1,r2,r3⟩:=Xef (P:=P) H ha hs (fun u hu=>Ygo _ v hv hc.1 u (by simpa using hu)) hh;refine⟨w',?_,r2,r3⟩;simp[storeVar,Qap hr,Y07,hc.2,bh,r1]
 ·cases hh
def Yl2(H:HRel G Y h w)(e:TypeId){l:List Value}(hl:∀ v ∈ l,okV (dom Y) v/\v.oneCell'=true) :
  ∃ Y' w',(newRow e (l.map (ren Y)).toArray).run P w=.ok ⟨w.heap.size,0,none⟩ w'/\Wc Y' ⟨h.next,0,none⟩=⟨w.heap.size,0,none⟩/\dom Y' h.next/\Ext h.next Y Y' /\
   HRel G Y' (h.push (.cells true 1 l)) w'/\Turn Y h w Y' (h.push (.cells true 1 l)) w':=by
 refine⟨Ren.add Y h.next ⟨w.heap.size,0,l.length,1,none⟩,_,rfl,?_,?_,eH _ _ _,?_⟩
 ·simp[Wc,eF]
 ·simp[dom,eF]
 ·refine H.push rfl rfl rfl ⟨rfl,.inr ⟨(l.map (ren Y)).toArray,e,0,0,by simp,fun i v hv => ?_,fun _=>⟨rfl,.inl rfl,by simp⟩⟩⟩;have hm:=hl v (List.mem_of_getElem? hv);have hd:∀ b,dom Y b->Ren.add Y h.next ⟨w.heap.size,0,l.length,1,none⟩ b=Y b:=H.add_dom _;refine⟨?_,okV_mono (fun b hb=>by simpa[dom,hd b hb]using hb) v hm.1,hm.2⟩;rw[ren_congr hd v hm.1];simp[hv]
end
structure Env (P:Program) where
 ty:Tr TyRec
 tyok:∀ t r,ty.get t=some r->Z77 P t r
 G:Bs
def Gives(P:Program)(G:Bs)(Y:Ren)(h:Heap)(w:World)(s:Sem Value)(v:Value)(h':Heap):Prop :=
 ∃ Y' w',s.run P w=.ok (ren Y' v) w'/\okV (dom Y') v/\Ext h.next Y Y'/\HRel G Y' h' w'/\Turn Y h w Y' h' w'
section
variable{P:Program}{G:Bs}{Y:Ren}{h:Heap}{w:World}
def Gives.plain(H:HRel G Y h w){s:Sem Value}{v:Value}(hv:okV (dom Y) v)(hr:s.run P w=.ok (ren Y v) w):Gives P G Y h w s v h :=
 ⟨Y,w,hr,hv,Ext.refl _ _,H,Turn.refl _ _ _⟩
def Gives.flat(H:HRel G Y h w){s:Sem Value}{v:Value}(hv:Go.Ab.flat v=true)(hr:s.run P w=.ok v w):Gives P G Y h w s v h :=
 Gives.plain H (flat_ok _ _ hv) (by rw[Qgu Y hv];exact hr)
def Jlo:Sem Value->Option Value
 | .pure v=>some v
 | _=>none
def Jbu{s:Sem Value}{v:Value}(hs:Jlo s=some v)(w:World):s.run P w=.ok v w:=by
 cases s <;> simp[Jlo]at hs;subst hs;rfl
def Qjm(E:Env P)(t:TypeId)(x:Value)(h:Heap):Option Value :=
 match x,E.ty.get t with
 | .pointer (some a),some r=>Zlf r h a
 | _,_=>none
def Jjb(E:Env P)(H:HRel E.G Y h w){t:TypeId}{x v:Value}(hx:okV (dom Y) x)(hv:Qjm E t x h=some v) :
  Gives P E.G Y h w (Instr.loadAt t (ren Y x)) v h:=by
 unfold Qjm at hv;split at hv
 ·rename_i a r hr;simp only[okV]at hx;have:=X7z (P:=P) H (E.tyok t r hr) hx.1 hx.2 hv;exact Gives.plain H this.1 (by simp[Instr.loadAt,Instr.sureAddr,ren,this.2])
 ·cases hv
def Qbw(E:Env P)(t:TypeId)(x v:Value)(h:Heap):Option Heap :=
 match x,E.ty.get t with
 | .pointer (some a),some r=>Yzu r h a v
 | _,_=>none
def Jb0(E:Env P)(H:HRel E.G Y h w){t:TypeId}{x v:Value}{h':Heap}(hx:okV (dom Y) x)(hv:okV (dom Y) v)(hh:Qbw E t x v h=some h') :
  ∃ w',(Instr.storeAt t (ren Y x) (ren Y v)).run P w=.ok () w'/\HRel E.G Y h' w'/\Turn Y h w Y h' w':=by
 unfold Qbw at hh;split at hh
 ·rename_i a r hr;simp only[okV]at hx;obtain⟨w',r1,r2,r3⟩:=Y5f (P:=P) H (E.tyok t r hr) hx.1 hx.2 hv hh;exact⟨w',by simp[Instr.storeAt,Instr.sureAddr,ren,r1],r2,r3⟩
 ·cases hh
def Zs0(H:HRel G Y h w)(e:TypeId){l:List Value}(hl:∀ v ∈ l,okV (dom Y) v/\v.oneCell'=true) :
  Gives P G Y h w (do pure (.pointer (some (<- newRow e (l.map (ren Y)).toArray)))) (.pointer (some ⟨h.next,0,none⟩)) (h.push (.cells true 1 l)):=by
 obtain⟨Y',w',r1,r2,r3,r4,r5,r6⟩:=Yl2 (P:=P) H e hl;exact⟨Y',w',by simp[r1,ren,r2],by simp only[okV];exact⟨r3,trivial⟩,r4,r5,r6⟩
def Y6u(H:HRel G Y h w)(e:TypeId){l:List Value}(hl:∀ v ∈ l,okV (dom Y) v/\v.oneCell'=true)(n c:Nat)(hc:c≠Ql9) :
  Gives P G Y h w (do pure (.slice (some (<- newRow e (l.map (ren Y)).toArray)) n c)) (.slice (some ⟨h.next,0,none⟩) n c) (h.push (.cells true 1 l)):=by
 obtain⟨Y',w',r1,r2,r3,r4,r5,r6⟩:=Yl2 (P:=P) H e hl;exact⟨Y',w',by simp[r1,ren,r2,Xfs,hc],by simp only[okV];exact⟨r3,trivial⟩,r4,r5,r6⟩
def Qbx(E:Env P)(t:TypeId)(h:Heap):Option (Value × Heap) :=
 match E.ty.get t with
 | some r=>some (.pointer (some ⟨h.next,0,none⟩),h.push (.cells true 1 r.zero.cells.toList))
 | none=>none
def Q6v(Y:Ren)(l:List Value)(h:∀ v ∈ l,flat v=true):l.map (ren Y)=l:=by
 induction l with
 | nil=>rfl
 | cons v l ih=>simp[Qgu Y (h v (by simp)),ih fun u hu=>h u (by simp[hu])]
def Xcs{z:Value}(hz:flat z=true)(hn:Qid z=true)(D:Nat->Prop):∀ v ∈ z.cells.toList,okV D v/\v.oneCell'=true :=
 fun v hv=>Ygo D z (flat_ok D z hz) hn v (by simpa using hv)
def Jgu{c:Array Value}(hz:flat (.agg c)=true):∀ v ∈ c.toList,flat v=true:=by
 simp only[flat,ao]at hz;have : ∀ l:List Value,flatL l=true->∀ v ∈ l,flat v=true:=by
  intro l;induction l with
  | nil=>simp
  | cons u l ih=>intro hl v hv;simp only[flatL,ao]at hl;rcases ap.1 hv with rfl | h;exact hl.1;exact ih hl.2 v h
 cases c;exact this _ (by simpa[flatA]using hz.1)
def Qsp{z:Value}(hz:flat z=true)(hn:Qid z=true):∀ v ∈ z.cells.toList,flat v=true:=by
 cases z <;> simp only[Value.cells] <;>
  first
   | exact Jgu hz
   | (intro v hv;simp only[aw]at hv;subst hv;exact hz)
   | simp[Qid]at hn
def Jcv(E:Env P)(H:HRel E.G Y h w){t:TypeId}{v old:Value}{h':Heap}(hh:Qbx E t h=some (v,h')) :
  Gives P E.G Y h w (Instr.alloc t true old) v h':=by
 unfold Qbx at hh;split at hh
 ·rename_i r hr;cases hh;have ho:=E.tyok t r hr;obtain⟨_,i,_,_,_,_,hf,hn,_⟩:=ho;have:=Zs0 (P:=P) H t (Xcs hf hn _);rw[Q6v Y _ (Qsp hf hn)]at this;obtain⟨Y',w',r1,r2⟩:=this;refine⟨Y',w',?_,r2⟩;simp only[Instr.alloc,aq,Qif (E.tyok t r hr),ac]at r1 ⊢;simpa[newVar]using r1
 ·cases hh
def Zzo(x:Value)(h:Heap):Option (Value × Heap) :=
 if Qid x then some (.pointer (some ⟨h.next,0,none⟩),h.push (.cells true 1 x.cells.toList))else none
def Jn5(H:HRel G Y h w){t:TypeId}{x v:Value}{h':Heap}(hx:okV (dom Y) x)(hh:Zzo x h=some (v,h')) :
  Gives P G Y h w (Instr.box t (ren Y x)) v h':=by
 unfold Zzo at hh;split at hh
 ·rename_i hn;cases hh;have:=Zs0 (P:=P) H t (l:=x.cells.toList) (fun u hu=>Ygo _ x hx hn u (by simpa using hu));obtain⟨Y',w',r1,r2⟩:=this;refine⟨Y',w',?_,r2⟩;have e:(List.map (ren Y) x.cells.toList).toArray=x.cells.map (ren Y):=by rw[<- bh]
  rw[e]at r1;simp only[Instr.box,newVar,Y07];exact r1
 ·cases hh
def Xsb(place:Nat->Option (Nat × Nat)):List Value->List (Nat × Value)->Option (List Value)
 | c,[]=>some c
 | c,(i,v)::r =>
  match place i with
  | none=>none
  | some (off,size) =>
   if Qid v && v.cells.size == size && Nat.ble (off+size) c.length then
    match Qlj c off v.cells.toList with
    | some c'=>Xsb place c' r
    | none=>none
   else none
def Zyu(off:Nat):∀ (l:List Value) (k:Nat) (c:Array Value),off+k+l.length<=c.size ->
  ((l.zipIdx k).foldl (fun cs (x:Value × Nat)=>cs.setIfInBounds (off+x.2) x.1) c).size=c.size /\
  ∀ i,((l.zipIdx k).foldl (fun cs (x:Value × Nat)=>cs.setIfInBounds (off+x.2) x.1) c)[i]? = if off+k<=i/\i < off+k+l.length then l[i-(off+k)]? else c[i]?
 | [],k,c,_=>⟨rfl,fun i=>by rw[if_neg (by simp)];rfl⟩
 | v::l,k,c,h=>by
  simp only[aS]at h;obtain⟨h1,h2⟩:=Zyu off l (k+1) (c.setIfInBounds (off+k) v) (by simp;omega);refine⟨by simpa using h1,fun i => ?_⟩;simp only[List.zipIdx_cons,du];rw[h2 i];by_cases hi:i=off+k
  ·subst hi;rw[if_neg (by omega),if_pos (by simp)];simp[show off+k < c.size by omega]
  ·by_cases hc:off+(k+1)<=i/\i < off+(k+1)+l.length
   ·rw[if_pos hc,if_pos (by simp;omega),show i-(off+k)=(i-(off+(k+1)))+1 by omega,List.getElem?_cons_succ]
   ·rw[if_neg hc,if_neg (by simp;omega),Array.getElem?_setIfInBounds,if_neg (by omega)]
def Yxj(place:Nat->Option (Nat × Nat)):∀ (parts:List (Nat × Value)) (c c':List Value),Xsb place c parts=some c'->(∀ p ∈ parts,okV (dom Y) p.2) ->
  (∀ v ∈ c,okV (dom Y) v/\v.oneCell'=true) ->
  Instr.fill place (c.map (ren Y)).toArray (parts.map fun p=>(p.1,ren Y p.2))=some (c'.map (ren Y)).toArray/\c'.length=c.length/\∀ v ∈ c',okV (dom Y) v/\v.oneCell'=true
 | [],c,c',h,_,hc=>by simp only[Xsb,ar]at h;subst h;exact⟨rfl,rfl,hc⟩
 | (i,v)::r,c,c',h,hp,hc=>by
  simp only[Xsb]at h;cases hpl:place i with
  | none=>simp[hpl]at h
  | some os =>
   obtain⟨off,size⟩:=os;simp only[hpl]at h;split at h
   ·rename_i hcond;simp only[ao,beq_iff_eq,bU]at hcond;obtain⟨⟨hn,hsz⟩,hle⟩:=hcond;cases hs:Qlj c off v.cells.toList with
    | none=>simp[hs]at h
    | some c1 =>
     simp only[hs]at h;obtain⟨s1,s2,s3⟩:=X9i _ _ _ _ hs;have hvc:=Ygo (dom Y) v (hp (i,v) bo) hn;have hc1:∀ u ∈ c1,okV (dom Y) u/\u.oneCell'=true:=by
      intro u hu;obtain⟨j,hj⟩:=List.getElem?_of_mem hu;rw[s3 j]at hj;split at hj
      ·exact hvc u (by simpa using List.mem_of_getElem? hj)
      ·exact hc u (List.mem_of_getElem? hj)
     obtain⟨f1,f2,f3⟩:=Yxj place r c1 c' h (fun p hp'=>hp p (aN _ hp')) hc1;refine⟨?_,by rw[f2,s1],f3⟩;simp only[aE,Instr.fill,hpl,Y07,Array.size_map,hsz,dI,aL];rw[if_neg (by simp;omega)];rw[<- f1];congr 1;have hz:=Zyu off (v.cells.toList.map (ren Y)) 0 (c.map (ren Y)).toArray (by simp[hsz];omega);have he:((v.cells.map (ren Y)).zipIdx.foldl (fun cs (x:Value × Nat)=>cs.setIfInBounds (off+x.2) x.1) (c.map (ren Y)).toArray) =
       (((v.cells.toList.map (ren Y)).zipIdx 0).foldl (fun cs (x:Value × Nat)=>cs.setIfInBounds (off+x.2) x.1) (c.map (ren Y)).toArray):=by
      rw[<- Array.foldl_toList,Array.toList_zipIdx,bh]
     refine he.trans ?_;apply Array.ext_getElem?;intro j;rw[hz.2 j];simp only[bX,aL,List.getElem?_toArray,List.getElem?_map];rw[s3 j];split <;> simp
   ·cases h
def Q8g(E:Env P):List Field->Option (List (Nat × Nat))
 | []=>some []
 | f::r=>match E.ty.get f.type,Q8g E r with
  | some t,some l=>some ((f.offset,t.size)::l)
  | _,_=>none
def nth{A:Type}:List A->Nat->Option A
 | [],_=>none
 | x::_,0=>some x
 | _::l,n+1=>nth l n
def Xv5{A:Type}:∀ (l:List A) (n:Nat),nth l n=l[n]?
 | [],n=>by simp[nth]
 | x::l,0=>by simp[nth]
 | x::l,n+1=>by simp[nth,Xv5 l n]
def Yye(E:Env P)(w:World):∀ (fs:List Field) (l:List (Nat × Nat)),Q8g E fs=some l ->
  (fs.mapM fun f=>(do pure (f.offset,<- sizeOf f.type):Sem (Nat × Nat))).run P w=.ok l w
 | [],l,h=>by simp[Q8g]at h;subst h;rfl
 | f::r,l,h=>by
  simp only[Q8g]at h;split at h
  ·rename_i t l' ht hl';cases h;have:=Yye E w r l' hl';simp only[dZ,aq,Qap (E.tyok _ _ ht),ac,aJ,this]
  ·cases h
def Qn1(E:Env P)(t:TypeId)(parts:List (Nat × Value)):Option Value :=
 match E.ty.get t with
 | none=>none
 | some r =>
  match r.desc with
  | .struct fs=>match Q8g E fs.toList with
   | some pl=>(Xsb (nth pl) r.zero.cells.toList parts).map fun c => .agg c.toArray
   | none=>none
  | .array _ e=>match E.ty.get e with
   | some re=>(Xsb (fun i=>some (i*re.size,re.size)) r.zero.cells.toList parts).map fun c => .agg c.toArray
   | none=>none
  | _=>none
def Jap(E:Env P)(H:HRel E.G Y h w){t:TypeId}{parts:List (Nat × Value)}{v:Value}(hp:∀ p ∈ parts,okV (dom Y) p.2)(hv:Qn1 E t parts=some v) :
  Gives P E.G Y h w (Instr.build t (parts.map fun p=>(p.1,ren Y p.2)).toArray) v h:=by
 unfold Qn1 at hv;cases hr:E.ty.get t with
 | none=>simp[hr]at hv
 | some r =>
  simp only[hr]at hv;have ho:=E.tyok t r hr;obtain⟨hu,i,_,_,_,_,hf,hn,_⟩:=ho;have hz:=Xcs hf hn (dom Y);have hzm:=Q6v Y _ (Qsp hf hn);split at hv
  ·rename_i fs hd;cases hpl:Q8g E fs.toList with
   | none=>simp[hpl]at hv
   | some pl =>
    simp only[hpl,ak]at hv;obtain⟨c,hc,rfl⟩:=hv;obtain⟨f1,f2,f3⟩:=Yxj (Y:=Y) _ _ _ _ hc hp hz;rw[hzm]at f1;refine Gives.plain H (Xiy _ _ f3) ?_;have hm:(fs.mapM fun f=>(do pure (f.offset,<- sizeOf f.type):Sem (Nat × Nat))).run P w=.ok pl.toArray w:=by
     rw[Array.mapM_eq_mapM_toList,Sem.run_map,Yye E w _ _ hpl];rfl
    have hpl':(fun x=>pl.toArray[x]?)=nth pl:=by funext x;simp[Xv5]
    simp only[Instr.build,aq,Qif (E.tyok t r hr),ac,run_underlying hu,hd,hm,hpl'];rw[show r.zero.cells=r.zero.cells.toList.toArray by simp,f1];simp
  ·rename_i n e hd;cases he:E.ty.get e with
   | none=>simp[he]at hv
   | some re =>
    simp only[he,ak]at hv;obtain⟨c,hc,rfl⟩:=hv;obtain⟨f1,f2,f3⟩:=Yxj (Y:=Y) _ _ _ _ hc hp hz;rw[hzm]at f1;refine Gives.plain H (Xiy _ _ f3) ?_;simp only[Instr.build,aq,Qif (E.tyok t r hr),ac,run_underlying hu,hd,Qap (E.tyok e re he)];rw[show r.zero.cells=r.zero.cells.toList.toArray by simp,f1];simp
  ·cases hv
def Qc2(z:List Value):Nat->List Value
 | 0=>[]
 | n+1=>z++Qc2 z n
def Zdp(z:List Value)(n:Nat):(Qc2 z n).length=n*z.length:=by
 induction n with
 | zero=>simp[Qc2]
 | succ n ih=>simp[Qc2,ih,dj];omega
def Y5n(z:List Value)(hz:0 < z.length):∀ (n i:Nat),i < n*z.length->(Qc2 z n)[i]? = z[i % z.length]?
 | 0,i,h=>by simp at h
 | n+1,i,h=>by
  simp only[Qc2];by_cases hi:i < z.length
  ·rw[List.getElem?_append_left hi,cM hi]
  ·have hge:z.length<=i:=Nat.le_of_not_lt hi;rw[List.getElem?_append_right hge,Y5n z hz n (i-z.length) (by rw[dj]at h;omega)];congr 1
   conv=>rhs;rw[show i=(i-z.length)+z.length by omega,Nat.add_mod_right]
def Q7s(z:Array Value)(n:Nat)(hz:0 < z.size):((Array.range (n*z.size)).map (fun x=>z[x % z.size]!))=(Qc2 z.toList n).toArray:=by
 apply Array.ext_getElem?;intro i;by_cases hi:i < n*z.size
 ·have hm:i % z.size < z.size:=dm _ hz;have h1:=Y5n z.toList (by simpa using hz) n i (by simpa using hi);simp only[List.getElem?_toArray,h1];simp[hi,hm]
 ·have h2:(Qc2 z.toList n).length<=i:=by rw[Zdp];simpa using hi
  simp[hi,List.getElem?_eq_none h2]
def Qu9{z:List Value}{v:Value}:∀ {n:Nat},v ∈ Qc2 z n->v ∈ z
 | 0,h=>by simp[Qc2]at h
 | n+1,h=>by simp only[Qc2,al]at h;exact h.elim id Qu9
def W7(E:Env P)(t:TypeId)(len:Nat)(parts:List (Nat × Value))(h:Heap):Option (Value × Heap) :=
 match E.ty.get t with
 | none=>none
 | some r =>
  match r.desc with
  | .slice e=>match E.ty.get e with
   | some re =>
    if Nat.ble (len*re.size) 16777216 && Nat.ble 1 re.size then
     (Xsb (fun i=>some (i*re.size,re.size)) (Qc2 re.zero.cells.toList len) parts).map fun c=>(.slice (some ⟨h.next,0,none⟩) len len,h.push (.cells true 1 c))
    else none
   | none=>none
  | _=>none
def Zfb(E:Env P)(H:HRel E.G Y h w){t:TypeId}{len:Nat}{parts:List (Nat × Value)}{v:Value}{h':Heap}(hp:∀ p ∈ parts,okV (dom Y) p.2)(hv:W7 E t len parts h=some (v,h')) :
  Gives P E.G Y h w (Instr.buildSlice t len (parts.map fun p=>(p.1,ren Y p.2)).toArray) v h':=by
 unfold W7 at hv;cases hr:E.ty.get t with
 | none=>simp[hr]at hv
 | some r =>
  simp only[hr]at hv;split at hv
  ·rename_i e hd;cases he:E.ty.get e with
   | none=>simp[he]at hv
   | some re =>
    simp only[he]at hv;split at hv
    ·rename_i hcond;simp only[ao,bU]at hcond;obtain⟨hle,h1⟩:=hcond;simp only[ak]at hv;obtain⟨c,hc,hv⟩:=hv;cases hv;have ho:=E.tyok e re he;obtain⟨_,i,_,_,_,_,hf,hn,hzs,_⟩:=ho;have hz:∀ v ∈ Qc2 re.zero.cells.toList len,okV (dom Y) v/\v.oneCell'=true:=fun v hv=>Xcs hf hn (dom Y) v (Qu9 hv);have hzm:=Q6v Y (Qc2 re.zero.cells.toList len) (fun v hv=>Qsp hf hn v (Qu9 hv));obtain⟨f1,f2,f3⟩:=Yxj (Y:=Y) _ _ _ _ hc hp hz;rw[hzm]at f1;have hlen:len<=16777216:=ai (Nat.le_mul_of_pos_right _ h1) hle;have hg:=Y6u (P:=P) H e f3 len len (by unfold Ql9;omega);obtain⟨Y',w',r1,r2⟩:=hg;refine⟨Y',w',?_,r2⟩;rw[<- r1];have hn2:¬ len*re.size > 2 ^ 24:=(by simpa using hle);simp only[Instr.buildSlice,aq,run_underlying (E.tyok t r hr).1,hd,ac,Qap (E.tyok e re he),dw];rw[if_neg hn2];by_cases h0:len*re.size=0
     ·have hl0:len=0:=by rcases dq.1 h0 with h | h <;> omega
      subst hl0;have f1':Instr.fill (fun i=>some (i*re.size,re.size)) #[] (List.map (fun p=>(p.fst,ren Y p.snd)) parts)=some (List.map (ren Y) c).toArray:=f1;have hr0:∀ f:Nat->Value,(Array.range 0).map f = #[]:=fun f=>by simp
      simp only[h0,if_true,aJ,ac,hr0,f1',aq]
     ·simp only[aJ,ac];rw[if_neg h0];simp only[Qif (E.tyok e re he),ac];rw[<- hzs,Q7s _ _ (by omega),hzs,f1];simp
    ·cases hv
  ·cases hv
end
section
variable(P:Program)
def mkV(agg:Bool)(l:List Value):Value:=if agg then .agg l.toArray else l.headD undef
def rep(l:List Nat):Nat->List Nat
 | 0=>[]
 | n+1=>l++rep l n
def X2p(t:TypeId):Bool:=match P.underlying t with | some d=>Qea d | none=>false
def Q28(g:TypeId->Option (List Nat)):List Field->Nat->Option (List Nat)
 | [],_=>some []
 | f::fs,acc =>
  if f.name == "_" || f.offset != acc then none else
  match g f.type with
  | some l=>if l.length == P.cellsOf f.type then(match Q28 g fs (acc+l.length)with | some r=>some (l++r) | none=>none)else none
  | none=>none
def Q0a:Nat->TypeId->Option (List Nat)
 | 0,_=>none
 | d+1,t =>
  match P.underlying t with
  | some .bool=>some [2]
  | some (.int _)=>some [1]
  | some .string=>some [3]
  | some (.array n e)=>match Q0a d e with
   | some l=>if l.length == P.cellsOf e && !l.isEmpty then some (rep l n)else none
   | none=>none
  | some (.struct fs)=>if P.stoodInHeld t then none else Q28 P (Q0a d) fs.toList 0
  | _=>none
end
section
variable{P:Program}
def Qv0:∀ (ls:List Nat) (xs ys:List Value) (b:Bool),Wr ls xs ys=some b->xs.length=ls.length/\ys.length=ls.length
 | [],[],[],_,_=>by simp
 | l::ls,x::xs,y::ys,b,h=>by
  simp only[Wr]at h;split at h
  ·rename_i a c h1 h2;have:=Qv0 ls xs ys c h2;simp[this]
  ·cases h
 | [],_::_,_,_,h=>by simp[Wr]at h
 | [],[],_::_,_,h=>by simp[Wr]at h
 | _::_,[],_,_,h=>by simp[Wr]at h
 | _::_,_::_,[],_,h=>by simp[Wr]at h
def Xky:∀ (a c:List Nat) (xs ys:List Value) (r:Bool),Wr (a++c) xs ys=some r ->
  ∃ r1 r2,Wr a (xs.take a.length) (ys.take a.length)=some r1/\Wr c (xs.drop a.length) (ys.drop a.length)=some r2/\r=(r1 && r2)
 | [],c,xs,ys,r,h=>⟨true,r,by simp[Wr],by simpa using h,by simp⟩
 | l::a,c,x::xs,y::ys,r,h=>by
  simp only[dP,Wr]at h;split at h
  ·rename_i p q h1 h2;obtain⟨r1,r2,e1,e2,e3⟩:=Xky a c xs ys q h2;cases h;exact⟨p && r1,r2,by simp[Wr,h1,e1],by simpa using e2,by rw[e3,Bool.and_assoc]⟩
  ·cases h
 | _::_,_,[],_,_,h=>by simp[Wr]at h
 | _::_,_,_::_,[],_,h=>by simp[Wr]at h
def EqL(P:Program)(d:Nat)(t:TypeId)(ls:List Nat):Prop :=
 ∀ (xs ys:List Value) (b:Bool) (w:World),Wr ls xs ys=some b->(Op.equalIn d t (mkV (X2p P t) xs) (mkV (X2p P t) ys)).run P w=.ok b w
def Q1y{e:TypeId}{dd:TypeDesc}(hu:P.underlying e=some dd)(xs:List Value)(off:Nat)(w:World)(hl:off+P.cellsOf e<=xs.length)(h1:X2p P e=false->0 < P.cellsOf e) :
  (part e xs.toArray off).run P w=.ok (mkV (X2p P e) ((xs.drop off).take (P.cellsOf e))) w:=by
 obtain⟨i,hi⟩:=info_of_underlying hu;have hag:(isAgg e).run P w=.ok (X2p P e) w:=by
  simp only[isAgg,aq,run_underlying hu,ac,X2p,hu];cases dd <;> rfl
 simp only[part,aq,hag,ac];cases ha:X2p P e with
 | true =>
  simp only[if_true,aq,run_sizeOf w hi,ac,aJ,mkV];congr 2;apply bu;simp[List.extract]
 | false =>
  have h0:=h1 ha;have hx:xs.toArray[off]? = some (xs[off]'(by omega)):=by simp
  simp only[av,if_false,hx,mkV,aJ];congr 1;rw[bb (by omega),show P.cellsOf e=(P.cellsOf e-1)+1 by omega,List.take_succ_cons];rfl
def Xdq{d:Nat}{t:TypeId}{ls:List Nat}(h:Q0a P d t=some ls):∃ dd,P.underlying t=some dd/\(Qea dd=false->ls.length=1):=by
 cases d with
 | zero=>simp[Q0a]at h
 | succ d =>
  simp only[Q0a]at h;split at h <;> first
   | (rename_i hu;cases h;exact⟨_,hu,fun _=>rfl⟩)
   | (rename_i hu;exact⟨_,hu,fun hx=>by simp[Qea]at hx⟩)
   | cases h
def Y6l{d k:Nat}(xs ys:List Value):∀ (fs:List Field) (acc:Nat) (ls:List Nat) (r:Bool) (w:World),(∀ t l,Q0a P k t=some l->EqL P d t l)->Q28 P (Q0a P k) fs acc=some ls ->
  Wr ls (xs.drop acc) (ys.drop acc)=some r->(Op.eqFields d xs.toArray ys.toArray fs).run P w=.ok r w
 | [],acc,ls,r,w,_,h,he=>by
  simp only[Q28,ar]at h;subst h;have:=Qv0 _ _ _ _ he;have h1:xs.drop acc=[]:=aY this.1;have h2:ys.drop acc=[]:=aY this.2;rw[h1,h2]at he;simp only[Wr,ar]at he;subst he;simp[Op.eqFields]
 | f::fs,acc,ls,r,w,IH,h,he=>by
  simp only[Q28]at h;split at h
  ·cases h
  ·rename_i hc;simp only[bM,beq_iff_eq,bne_iff_ne,ne_eq,not_or,Decidable.not_not]at hc;cases hl:Q0a P k f.type with
   | none=>simp[hl]at h
   | some l =>
    simp only[hl]at h;split at h
    ·rename_i hlen;simp only[beq_iff_eq]at hlen;cases hr:Q28 P (Q0a P k) fs (acc+l.length)with
     | none=>simp[hr]at h
     | some rs =>
      simp only[hr,ar]at h;subst h;obtain⟨r1,r2,e1,e2,e3⟩:=Xky l rs _ _ _ he;rw[bR,bR]at e2;have ih:=Y6l xs ys fs (acc+l.length) rs r2 w IH hr e2;obtain⟨dd,hu,h1⟩:=Xdq hl;have hln:=Qv0 _ _ _ _ he;simp only[bm,ae]at hln;have hz:X2p P f.type=false->0 < P.cellsOf f.type:=fun ha=>by
       have:=h1 (by simpa[X2p,hu]using ha);omega
      have hzl:l ≠ []->acc+P.cellsOf f.type<=xs.length/\acc+P.cellsOf f.type<=ys.length:=fun hne=>by
       have : 0 < l.length:=d5.2 hne;omega
      by_cases hne:l=[]
      ·subst hne;have hag:X2p P f.type=true:=by
        cases ha:X2p P f.type with
        | true=>rfl
        | false=>have:=h1 (by simpa[X2p,hu]using ha);simp at this
       simp only[cd]at hlen e1;obtain⟨i,hi⟩:=info_of_underlying hu;have hpart:∀ zs:List Value,(part f.type zs.toArray f.offset).run P w=.ok (mkV (X2p P f.type) []) w:=by
        intro zs;have hagr:(isAgg f.type).run P w=.ok (X2p P f.type) w:=by
         simp only[isAgg,aq,run_underlying hu,ac,X2p,hu];cases dd <;> rfl
        simp only[part,aq,hagr,ac,hag,if_true,run_sizeOf w hi,aJ,mkV,<- hlen];congr 2;apply bu;simp[List.extract]
       have hE:=IH f.type [] hl [] [] true w (by simp[Wr]);simp only[List.take_zero,Wr,ar]at e1;subst e1;simp only[Op.eqFields,hc.1,ne_eq,not_false_eq_true,if_true,aq,hpart,ac,hE,bV,av,if_false,ih,e3,cT]
      ·have hb:=hzl hne;have p1:=Q1y hu xs f.offset w (by rw[hc.2];exact hb.1) hz;have p2:=Q1y hu ys f.offset w (by rw[hc.2];exact hb.2) hz;rw[hc.2,<- hlen]at p1 p2;have hE:=IH f.type l hl _ _ r1 w e1;simp only[Op.eqFields,hc.1,ne_eq,not_false_eq_true,if_true,aq,hc.2,p1,p2,ac,hE];cases r1 with
       | false=>simp[e3]
       | true=>simp[e3,ih]
    ·cases h
def Zi0{d k:Nat}{e:TypeId}{l:List Nat}(xs ys:List Value)(IH:EqL P d e l)(hl:Q0a P k e=some l)(hlen:l.length=P.cellsOf e)(hne:l ≠ []):∀ (m s:Nat) (r:Bool) (w:World),
  Wr (rep l m) (xs.drop (s*P.cellsOf e)) (ys.drop (s*P.cellsOf e))=some r->(Op.eqItems d e (P.cellsOf e) xs.toArray ys.toArray (List.range' s m)).run P w=.ok r w
 | 0,s,r,w,he=>by
  have:=Qv0 _ _ _ _ he;simp only[rep,cd]at this;have h1:xs.drop (s*P.cellsOf e)=[]:=aY this.1;have h2:ys.drop (s*P.cellsOf e)=[]:=aY this.2;rw[h1,h2]at he;simp only[rep,Wr,ar]at he;subst he;simp[Op.eqItems]
 | m+1,s,r,w,he=>by
  have hln:=Qv0 _ _ _ _ he;obtain⟨r1,r2,e1,e2,e3⟩:=Xky l (rep l m) _ _ _ he;rw[bR,bR,hlen,show s*P.cellsOf e+P.cellsOf e=(s+1)*P.cellsOf e by rw[dj]]at e2;have ih:=Zi0 xs ys IH hl hlen hne m (s+1) r2 w e2;obtain⟨dd,hu,h1⟩:=Xdq hl;simp only[bm,rep,ae]at hln;have h0:0 < l.length:=d5.2 hne;have p1:=Q1y hu xs (s*P.cellsOf e) w (by omega) (fun _=>by omega);have p2:=Q1y hu ys (s*P.cellsOf e) w (by omega) (fun _=>by omega);rw[<- hlen]at p1 p2;rw[<- hlen]at e1;have hE:=IH _ _ r1 w e1;rw[<- hlen]at ih ⊢;simp only[df,Op.eqItems,aq,p1,p2,ac,hE];cases r1 with
  | false=>simp[e3]
  | true=>simp[e3,ih]
def Zty(c:Nat):∀ (k:Nat) (t:TypeId) (ls:List Nat),Q0a P k t=some ls->EqL P (c+k) t ls
 | 0,t,ls,h=>by simp[Q0a]at h
 | k+1,t,ls,h=>by
  have IH:∀ t l,Q0a P k t=some l->EqL P (c+k) t l:=fun t l h=>Zty c k t l h;intro xs ys b w he;simp only[Q0a]at h;have single:∀ n,ls=[n]->X2p P t=false->(∀ x y,Yrl n x y=some b->(Op.equalIn (c+(k+1)) t x y).run P w=.ok b w)->(Op.equalIn (c+(k+1)) t (mkV (X2p P t) xs) (mkV (X2p P t) ys)).run P w=.ok b w:=by
   intro n hn ha hx;subst hn;have hl:=Qv0 _ _ _ _ he
   match xs,ys,hl with
   | [x],[y],_ =>
    simp only[Wr]at he;split at he
    ·rename_i p q h1 h2;cases h2;cases he;simp only[ha,mkV,av,if_false,List.headD_cons];exact hx x y (by rw[h1];simp)
    ·cases he
  split at h
  ·rename_i hu;cases h;refine single 2 rfl (by simp[X2p,hu,Qea]) fun x y hxy => ?_;unfold Yrl at hxy;split at hxy <;> simp at *;subst hxy;rw[<- bY];exact run_equalIn_bool' w _ t _ _ hu
  ·rename_i q hu;cases h;refine single 1 rfl (by simp[X2p,hu,Qea]) fun x y hxy => ?_;unfold Yrl at hxy;split at hxy <;> simp at *;obtain⟨rfl,hxy⟩:=hxy;subst hxy;rw[<- bY];exact run_equalIn_int w _ t _ q _ _ hu
  ·rename_i hu;cases h;refine single 3 rfl (by simp[X2p,hu,Qea]) fun x y hxy => ?_;unfold Yrl at hxy;split at hxy <;> simp at *;subst hxy;rw[<- bY];rename_i s1 s2;rw[run_equalIn_string w _ t _ _ hu,beq_toListBytes]
  ·rename_i n e hu;split at h
   ·rename_i l hl;split at h
    ·rename_i hc;simp only[ao,beq_iff_eq,bS,List.isEmpty_eq_false_iff]at hc;cases h;obtain⟨dd,hue,_⟩:=Xdq hl;obtain⟨i,hi⟩:=info_of_underlying hue;have hag:X2p P t=true:=(by simp[X2p,hu,Qea]);simp only[hag,mkV,if_true];rw[<- bY,run_equalIn_array w _ _ _ hu hi,cU];exact Zi0 xs ys (IH e l hl) hl hc.1 hc.2 n 0 b w (by simpa using he)
    ·cases h
   ·cases h
  ·rename_i fs hu;split at h
   ·cases h
   ·rename_i hst;have hag:X2p P t=true:=(by simp[X2p,hu,Qea]);simp only[hag,mkV,if_true];have hf:P.fieldsOf t=fs:=(by simp[Program.fieldsOf,hu]);rw[<- bY,run_equalIn_struct w _ t _ _ (by rw[hf];exact hu) (by simpa using hst),hf];exact Y6l xs ys _ 0 ls b w IH h (by simpa using he)
  ·cases h
def Jut(P:Program)(d:Nat)(t:TypeId)(ls:List Nat):Prop :=
 ∀ (em:Bool) (xs:List Value) (w:World),xs.length=ls.length->(Instr.checkKey em d t (mkV (X2p P t) xs)).run P w=.ok () w
def Z7t(l:List Nat)(n:Nat):(rep l n).length=n*l.length:=by
 induction n with
 | zero=>simp[rep]
 | succ n ih=>simp[rep,ih,dj];omega
def Zgt(c:Nat):∀ (k:Nat) (t:TypeId) (ls:List Nat),Q0a P k t=some ls->Jut P (c+k) t ls
 | 0,t,ls,h=>by simp[Q0a]at h
 | k+1,t,ls,h=>by
  have IH:∀ t l,Q0a P k t=some l->Jut P (c+k) t l:=fun t l h=>Zgt c k t l h;intro em xs w hlen;simp only[Q0a]at h;rw[<- bY,Instr.checkKey];split at h
  ·rename_i hu;simp only[aq,run_underlying hu,ac,aJ]
  ·rename_i q hu;simp only[aq,run_underlying hu,ac,aJ]
  ·rename_i hu;simp only[aq,run_underlying hu,ac,aJ]
  ·rename_i n e hu;split at h
   ·rename_i l hl;split at h
    ·rename_i hc;simp only[ao,beq_iff_eq,bS,List.isEmpty_eq_false_iff]at hc;cases h;obtain⟨dd,hue,h1⟩:=Xdq hl;obtain⟨i,hi⟩:=info_of_underlying hue;have hag:X2p P t=true:=(by simp[X2p,hu,Qea]);simp only[hag,mkV,if_true];simp only[aq,run_underlying hu,ac];simp only[Std.Legacy.Range.forIn_eq_forIn_range',Std.Legacy.Range.size,d7,Nat.add_one_sub_one,Nat.div_one];have hz:0 < l.length:=d5.2 hc.2;rw[Z7t]at hlen;have each:∀ j ∈ List.range' 0 n,j < n:=fun j hj=>by simpa using hj
     generalize List.range' 0 n=is at each;induction is with
     | nil=>simp
     | cons j is ih =>
      have hj:=each j (by simp);have hle:j*P.cellsOf e+P.cellsOf e<=xs.length:=by
       rw[hlen,<- hc.1,<- dj];exact bC _ hj
      have p1:=Q1y hue xs (j*P.cellsOf e) w hle (fun _=>by omega);have p2:=IH e l hl em ((xs.drop (j*P.cellsOf e)).take (P.cellsOf e)) w (by
       rw[br,bm,hc.1];omega)
      simp only[List.forIn_cons,aq,run_sizeOf w hi,ac,p1,p2,aJ];exact ih (fun y hy=>each y (by simp[hy]))
    ·cases h
   ·cases h
  ·rename_i fs hu;split at h
   ·cases h
   ·rename_i hst;have hag:X2p P t=true:=(by simp[X2p,hu,Qea]);simp only[hag,mkV,if_true];simp only[aq,run_underlying hu,ac];rw[<- Array.forIn_toList];have key:∀ (L:List Field) (acc:Nat) (ls:List Nat),Q28 P (Q0a P k) L acc=some ls->acc+ls.length<=xs.length ->
      (forIn L PUnit.unit fun f (_:PUnit)=>(if f.name ≠ "_" then do
        let x <- part f.type xs.toArray f.offset
        Instr.checkKey em (c+k) f.type x
        pure (ForInStep.yield PUnit.unit)
       else pure (ForInStep.yield PUnit.unit):Sem (ForInStep PUnit))).run P w=.ok PUnit.unit w:=by
     intro L;induction L with
     | nil=>intro acc ls _ _;simp
     | cons f L ih =>
      intro acc ls hL hb;simp only[Q28]at hL;split at hL
      ·cases hL
      ·rename_i hcn;simp only[bM,beq_iff_eq,bne_iff_ne,ne_eq,not_or,Decidable.not_not]at hcn;split at hL
       ·rename_i l hl;split at hL
        ·rename_i hlen';simp only[beq_iff_eq]at hlen';split at hL
         ·rename_i r hr;cases hL;obtain⟨dd,hue,h1⟩:=Xdq hl;rw[ae]at hb;have hz:X2p P f.type=false->0 < P.cellsOf f.type:=fun ha=>by
           have:=h1 (by simpa[X2p,hue]using ha);omega
          have p1:=Q1y hue xs f.offset w (by rw[hcn.2,<- hlen'];omega) hz;have p2:=IH f.type l hl em ((xs.drop f.offset).take (P.cellsOf f.type)) w (by
           rw[br,bm,hcn.2,<- hlen'];omega)
          simp only[List.forIn_cons,aq,hcn.1,ne_eq,not_false_eq_true,if_true,ac,p1,p2,aJ];exact ih _ _ hr (by omega)
         ·cases hL
        ·cases hL
       ·cases hL
    have h9:=key fs.toList 0 ls h (by omega);rw[h9];simp
  ·cases h
def Jeb(P:Program)(t:TypeId):List Nat :=
 if P.eqGuardType P.depth t then []else if X2p P t then(Q0a P 40 t).getD []else []
def Jfm(P:Program)(t:TypeId):Jt1 P t (Jeb P t):=by
 intro hne;unfold Jeb at hne ⊢;split at hne
 ·exact absurd rfl hne
 ·rename_i hg;simp only[hg,av,if_false]at hne ⊢;split at hne
  ·rename_i ha;simp only[ha,if_true];cases hl:Q0a P 40 t with
   | none=>simp[hl]at hne
   | some ls =>
    refine⟨trivial,fun xs ys b w he => ?_,fun em xs w hx => ?_⟩
    ·have:=Zty (P:=P) 9960 40 t ls hl xs ys b w he;simpa[ha,mkV,Op.equal,Op.maxDepth]using this
    ·have:=Zgt (P:=P) 9960 40 t ls hl em xs w hx;simpa[ha,mkV]using this
  ·exact absurd rfl hne
def Jhr(P:Program)(t:TypeId):Option TyRec :=
 match P.underlying t,P.info? t with
 | some d,some i =>
  match i.zero with
  | some z=>if flat z && Qid z && z.cells.size == i.size then some {desc:=d,size:=i.size,bytes:=i.bytes,zero:=z,leaf:=Jeb P t} else none
  | none=>none
 | _,_=>none
def Ji3{P:Program}{t:TypeId}{r:TyRec}(h:Jhr P t=some r):Z77 P t r:=by
 unfold Jhr at h;split at h
 ·rename_i d i hu hi;split at h
  ·rename_i z hz;split at h
   ·rename_i hc;simp only[ao,beq_iff_eq]at hc;cases h;exact⟨hu,i,hi,rfl,rfl,hz,hc.1.1,hc.1.2,hc.2,Jfm P t⟩
   ·cases h
  ·cases h
 ·cases h
def Zs4(P:Program):Nat->Tr TyRec
 | 0 => .leaf
 | n+1=>(Zs4 P n).put n (Jhr P n)
def Zvt(P:Program):∀ (n:Nat) (t:TypeId) (r:TyRec),(Zs4 P n).get t=some r->Jhr P t=some r
 | 0,t,r,h=>by simp[Zs4]at h
 | n+1,t,r,h=>by
  simp only[Zs4,Tr.get_put]at h;split at h
  ·rename_i e;subst e;exact h
  ·exact Zvt P n t r h
end
section
variable{P:Program}{Y:Ren}{h:Heap}{w:World}
def Q1u(Y:Ren)(a:Addr)(ha:dom Y a.block)(hs:a.spot=none)(n:Nat):Wc Y (a.add n)=(Wc Y a).add n:=by
 obtain⟨p,hp⟩:=az.1 ha;obtain⟨b,o,s⟩:=a;simp only at hs hp;subst hs;by_cases hn:n=0
 ·subst hn;rfl
 ·rw[Qq7];simp[Wc,hp,Addr.add,hn,bY]
def Q7x(a:Addr)(n:Nat):(a.add n).block=a.block:=by unfold Addr.add;split <;> rfl
def Xu6(a:Addr)(n:Nat)(hs:a.spot=none):(a.add n).spot=none:=by unfold Addr.add;split <;> simp[hs]
def Vv(E:Env P)(s:TypeId)(x:Value)(f:Nat):Option Value :=
 match x,E.ty.get s with
 | .pointer (some a),some r =>
  match r.desc with
  | .struct fs=>match nth fs.toList f with
   | some fd=>match E.ty.get fd.type with
    | some rf=>if rf.size == 0 then none else some (.pointer (some (a.add fd.offset)))
    | none=>none
   | none=>none
  | _=>none
 | _,_=>none
def Zkt(E:Env P)(H:HRel E.G Y h w){s:TypeId}{x v:Value}{f:Nat}(hx:okV (dom Y) x)(hv:Vv E s x f=some v) :
  Gives P E.G Y h w (Instr.fieldAt s (ren Y x) f) v h:=by
 unfold Vv at hv;split at hv
 ·rename_i a r hr;simp only[okV]at hx;split at hv
  ·rename_i fs hd;split at hv
   ·rename_i fd hfd;split at hv
    ·rename_i rf hrf;split at hv
     ·cases hv
     ·rename_i hsz;cases hv;rw[Xv5]at hfd;have hfd':fs[f]? = some fd:=(by simpa using hfd);refine Gives.plain H (by simp only[okV,Q7x];exact⟨hx.1,Xu6 _ _ hx.2⟩) ?_;have hne:¬ rf.size=0:=(by simpa using hsz);simp only[Instr.fieldAt,aq,run_underlying (E.tyok s r hr).1,hd,ac,hfd',ren,ax,Instr.sureAddr,aJ,fieldPlace,
       Qap (E.tyok _ rf hrf),hne,if_false]
      rw[Q1u Y a hx.1 hx.2]
    ·cases hv
   ·cases hv
  ·cases hv
 ·cases hv
def V5(E:Env P)(t:TypeId)(x ix:Value):Option Value :=
 match E.ty.get t,ix with
 | some r,.int _ i =>
  match r.desc,x with
  | .array n e,.pointer (some a)=>match E.ty.get e with
   | some re=>if 0<=i/\i < n then some (.pointer (some (a.add (i.toNat*re.size))))else none
   | none=>none
  | .slice e,.slice (some a) n _=>match E.ty.get e with
   | some re=>if 0<=i/\i < n then some (.pointer (some (a.add (i.toNat*re.size))))else none
   | none=>none
  | _,_=>none
 | _,_=>none
def Zp4(E:Env P)(H:HRel E.G Y h w){t:TypeId}{x ix v:Value}(hx:okV (dom Y) x)(hv:V5 E t x ix=some v) :
  Gives P E.G Y h w (Instr.indexAt t (ren Y x) (ren Y ix)) v h:=by
 unfold V5 at hv;split at hv
 ·rename_i r k i hr;split at hv
  ·rename_i n e a hd;split at hv
   ·rename_i re hre;split at hv
    ·rename_i hc;cases hv;simp only[okV]at hx;refine Gives.plain H (by simp only[okV,Q7x];exact⟨hx.1,Xu6 _ _ hx.2⟩) ?_;simp only[Instr.indexAt,ren,asIntOf,aq,aJ,ac,run_underlying (E.tyok t r hr).1,hd,ax,Instr.sureAddr,
      dw,hc,and_self,if_true,Qap (E.tyok _ re hre)]
     rw[Q1u Y a hx.1 hx.2]
    ·cases hv
   ·cases hv
  ·rename_i e a n c hd;split at hv
   ·rename_i re hre;split at hv
    ·rename_i hc;cases hv;simp only[okV]at hx;refine Gives.plain H (by simp only[okV,Q7x];exact⟨hx.1,Xu6 _ _ hx.2⟩) ?_;simp only[Instr.indexAt,ren,asIntOf,aq,aJ,ac,run_underlying (E.tyok t r hr).1,hd,ax,
      dw,hc,and_self,if_true,Qap (E.tyok _ re hre)]
     rw[Q1u Y a hx.1 hx.2]
    ·cases hv
   ·cases hv
  ·cases hv
 ·cases hv
def Jgn(r:TyRec)(cs:List Value)(off:Nat):Option Value :=
 if Qea r.desc then(Q72 r.size (cs.drop off)).map fun l => .agg l.toArray else nth cs off
def Yqq{n off:Nat}{cs l:List Value}(h:Q72 n (cs.drop off)=some l):l=(cs.drop off).take n:=by
 obtain⟨h1,h2⟩:=Q5e _ _ _ h;apply List.ext_getElem?;intro i;by_cases hi:i < n
 ·have hi':i < l.length:=by omega
  have:=h2 i l[i] (List.getElem?_eq_getElem hi');rw[List.getElem?_take_of_lt hi,this,List.getElem?_eq_getElem hi']
 ·rw[List.getElem?_eq_none (by omega),List.getElem?_eq_none (by simp;omega)]
def Y5c{t:TypeId}{r:TyRec}(hr:Z77 P t r){cs:Array Value}{off:Nat}{v:Value}(hv:Jgn r cs.toList off=some v)(hc:okV (dom Y) (.agg cs))(w:World) :
  okV (dom Y) v/\(part t (cs.map (ren Y)) off).run P w=.ok (ren Y v) w:=by
 have hcs:=(Z0v (dom Y) cs).1 hc;unfold Jgn at hv;simp only[part,aq,Yqu hr,ac];split at hv
 ·rename_i hagg;rw[ak]at hv;obtain⟨l,hl,rfl⟩:=hv;have he:=Yqq hl;obtain⟨h1,h2⟩:=Q5e _ _ _ hl;refine⟨Xiy _ _ fun v hv => ?_,?_⟩
  ·obtain⟨i,hi⟩:=List.getElem?_of_mem hv;have:=h2 i v hi;rw[List.getElem?_drop]at this;exact hcs v (by simpa using List.mem_of_getElem? this)
  ·simp only[hagg,if_true,aq,Qap hr,ac,aJ,ren_agg];congr 2;apply bu;rw[he];simp[List.extract,ee,List.map_drop]
 ·rename_i hagg;rw[Xv5]at hv;refine⟨(hcs v (by simpa using List.mem_of_getElem? hv)).1,?_⟩;have : (cs.map (ren Y))[off]? = some (ren Y v):=by
   rw[Array.getElem?_map];have hv':cs[off]? = some v:=by simpa using hv
   rw[hv'];rfl
  simp only[hagg,if_false,av,this,aJ]
def Z5m(E:Env P)(t:TypeId)(x:Value)(f:Nat):Option Value :=
 match x,E.ty.get t with
 | .agg cs,some r =>
  match r.desc with
  | .struct fs=>match nth fs.toList f with
   | some fd=>match E.ty.get fd.type with
    | some rf=>Jgn rf cs.toList fd.offset
    | none=>none
   | none=>none
  | _=>none
 | _,_=>none
def Jeq(E:Env P)(H:HRel E.G Y h w){t:TypeId}{x v:Value}{f:Nat}(hx:okV (dom Y) x)(hv:Z5m E t x f=some v) :
  Gives P E.G Y h w (Instr.field t (ren Y x) f) v h:=by
 unfold Z5m at hv;split at hv
 ·rename_i cs r hr;split at hv
  ·rename_i fs hd;split at hv
   ·rename_i fd hfd;split at hv
    ·rename_i rf hrf;rw[Xv5]at hfd;have hfd':fs[f]? = some fd:=(by simpa using hfd);obtain⟨h1,h2⟩:=Y5c (E.tyok _ rf hrf) hv hx w;refine Gives.plain H h1 ?_;simp only[Instr.field,aq,run_underlying (E.tyok t r hr).1,hd,ac,hfd',ren_agg,asAgg,aJ,h2]
    ·cases hv
   ·cases hv
  ·cases hv
 ·cases hv
def Zyp(E:Env P)(t:TypeId)(x ix:Value):Option Value :=
 match E.ty.get t,ix with
 | some r,.int _ i =>
  match r.desc,x with
  | .array n e,.agg cs=>match E.ty.get e with
   | some re=>if 0<=i/\i < n then Jgn re cs.toList (i.toNat*re.size)else none
   | none=>none
  | .string,.string s=>if 0<=i then(match nth s.data.toList i.toNat with | some b=>some (.int .u8 b.toNat) | none=>none)else none
  | _,_=>none
 | _,_=>none
def Jba(E:Env P)(H:HRel E.G Y h w){t:TypeId}{x ix v:Value}(hx:okV (dom Y) x)(hv:Zyp E t x ix=some v) :
  Gives P E.G Y h w (Instr.index t (ren Y x) (ren Y ix)) v h:=by
 unfold Zyp at hv;split at hv
 ·rename_i r k i hr;split at hv
  ·rename_i n e cs hd;split at hv
   ·rename_i re hre;split at hv
    ·rename_i hc;obtain⟨h1,h2⟩:=Y5c (E.tyok _ re hre) hv hx w;refine Gives.plain H h1 ?_;simp only[Instr.index,ren_int,asIntOf,aq,aJ,ac,run_underlying (E.tyok t r hr).1,hd,ren_agg,dw,hc,and_self,if_true,
      Qap (E.tyok _ re hre),h2]
    ·cases hv
   ·cases hv
  ·rename_i s hd;split at hv
   ·rename_i hc;split at hv
    ·rename_i b hb;cases hv;rw[Xv5]at hb;have hs:s[i.toNat]? = some b:=by
      have hb':s.data[i.toNat]? = some b:=(by simpa using hb);have hlt:i.toNat < s.size:=by
       rcases aU i.toNat s.data.size with h | h
       ·exact h
       ·simp[Array.getElem?_eq_none h]at hb'
      have h2:s[i.toNat]? = some (s[i.toNat]'hlt):=by rw[getElem?_pos]
      rw[h2];have h3:s.data[i.toNat]? = some (s.data[i.toNat]'hlt):=by rw[getElem?_pos]
      rw[h3]at hb';exact hb'
     refine Gives.flat H rfl ?_;simp only[Instr.index,ren_int,asIntOf,aq,aJ,ac,run_underlying (E.tyok t r hr).1,hd,ren_string,hc,if_true,hs]
    ·cases hv
   ·cases hv
  ·cases hv
 ·cases hv
def Q9(x:Value)(i:Nat):Option Value :=
 match x with
 | .tuple vs=>nth vs.toList i
 | _=>none
def Z2i{G:Bs}(H:HRel G Y h w){x v:Value}{i:Nat}(hx:okV (dom Y) x)(hv:Q9 x i=some v) :
  Gives P G Y h w (Instr.extract (ren Y x) i) v h:=by
 unfold Q9 at hv;split at hv
 ·rename_i vs;rw[Xv5]at hv;have hv':vs[i]? = some v:=by simpa using hv
  refine Gives.plain H ((Q36 _ _).1 hx v (Array.mem_of_getElem? hv')) ?_;have : (vs.map (ren Y))[i]? = some (ren Y v):=by rw[Array.getElem?_map,hv'];rfl
  simp only[Instr.extract,ren_tuple,this,aJ]
 ·cases hv
def Qhl(x:Option Value)(dflt lim:Nat):Option Nat :=
 match x with
 | none=>some dflt
 | some (.int _ i)=>if 0<=i/\i<=lim then some i.toNat else none
 | _=>none
def Qku{k:IntKind}{i:Int}{n:Nat}(hc:0<=i/\i<=n)(c:BoundsCode)(w:World):(Instr.sliceBound (.int k i) n c).run P w=.ok i.toNat w:=by
 simp[Instr.sliceBound,asIntOf,hc]
def Xeb(b:Bool)(len cap:Nat)(lo hi mx:Option Value){l h m:Nat}(hm:Qhl mx cap cap=some m)(hh:Qhl hi len m=some h)(hmx:hi=none->mx=none)(hl:Qhl lo 0 h=some l)(w:World) :
  (Instr.sliceBounds b len cap (lo.map (ren Y)) (hi.map (ren Y)) (mx.map (ren Y))).run P w=.ok (l,h,m) w:=by
 have ha:∀ (x:Option Value) (d n k:Nat),Qhl x d n=some k->(x=none/\d=k) ∨ ∃ q i,x=some (.int q i)/\0<=i/\i<=n/\i.toNat=k:=by
  intro x d n k hx;unfold Qhl at hx;split at hx
  ·left;simpa using hx
  ·rename_i q i;split at hx
   ·rename_i hc;right;exact⟨q,i,rfl,hc.1,hc.2,by simpa using hx⟩
   ·cases hx
  ·cases hx
 rcases ha _ _ _ _ hm with⟨rfl,rfl⟩ | ⟨qm,im,rfl,m1,m2,rfl⟩
 ·rcases ha _ _ _ _ hh with⟨rfl,rfl⟩ | ⟨qh,ih,rfl,h1,h2,rfl⟩
  ·rcases ha _ _ _ _ hl with⟨rfl,rfl⟩ | ⟨ql,il,rfl,l1,l2,rfl⟩
   ·simp[Instr.sliceBounds]
   ·simp[Instr.sliceBounds,Qku ⟨l1,l2⟩]
  ·rcases ha _ _ _ _ hl with⟨rfl,rfl⟩ | ⟨ql,il,rfl,l1,l2,rfl⟩
   ·simp[Instr.sliceBounds,Qku ⟨h1,h2⟩]
   ·simp[Instr.sliceBounds,Qku ⟨h1,h2⟩,Qku ⟨l1,l2⟩]
 ·rcases ha _ _ _ _ hh with⟨rfl,rfl⟩ | ⟨qh,ih,rfl,h1,h2,rfl⟩
  ·exact absurd (hmx rfl) (by simp)
  ·rcases ha _ _ _ _ hl with⟨rfl,rfl⟩ | ⟨ql,il,rfl,l1,l2,rfl⟩
   ·simp[Instr.sliceBounds,Qku ⟨m1,m2⟩,Qku ⟨h1,h2⟩]
   ·simp[Instr.sliceBounds,Qku ⟨m1,m2⟩,Qku ⟨h1,h2⟩,Qku ⟨l1,l2⟩]
end
section
variable{P:Program}{Y:Ren}{h:Heap}{w:World}
def Qfa(Y:Ren)(a:Option Addr)(n c:Nat)(hc:c≠Ql9):ren Y (.slice a n c)=.slice (a.map (Wc Y)) n c:=by simp[ren,Xfs,hc]
def Qv4(Y:Ren)(a:Addr)(n:Nat){p:Place}(hp:Y a.block=some p):ren Y (.slice (some a) n Ql9)=.slice (some (Wc Y a)) n (p.room-a.off / p.sz):=by
 simp[ren,Xfs,hp]
def Jkm(a:Option Addr)(sz l h m:Nat):Option Value :=
 if m-l == Ql9 then none else some (.slice (if m=l then a else a.map (·.add (l*sz))) (h-l) (m-l))
def Qes(E:Env P)(t:TypeId)(x:Value)(lo hi mx:Option Value)(h:Heap):Option (Value × Heap) :=
 if hi.isNone && mx.isSome then none else
 match E.ty.get t,x with
 | some r,.pointer (some a)=>match r.desc with
  | .array n e=>match E.ty.get e,Qhl mx n n with
   | some re,some m=>match Qhl hi n m with
    | some hh=>match Qhl lo 0 hh with
     | some l=>(Jkm (some a) re.size l hh m).map fun v=>(v,h)
     | none=>none
    | none=>none
   | _,_=>none
  | _=>none
 | some r,.slice a n c=>match r.desc with
  | .slice e=>match E.ty.get e with
   | none=>none
   | some re =>
    if c != Ql9 then
     match Qhl mx c c with
     | some m=>match Qhl hi n m with
      | some hh=>match Qhl lo 0 hh with
       | some l=>(Jkm a re.size l hh m).map fun v=>(v,h)
       | none=>none
      | none=>none
     | none=>none
    else match a with
     | none=>none
     | some ad=>match h.get ad.block with
      | some (.cells true sz cs) =>
       if sz == re.size && ad.off % sz == 0 && Nat.ble 1 sz then
        let room:=(cs.length-ad.off) / sz
        match hi,mx with
        | none,none=>match Qhl lo 0 n with
         | some l=>aCut ad sz cs.length l n h
         | none=>none
        | some _,none=>match Qhl hi n room with
         | some hh=>match Qhl lo 0 hh with
          | some l=>aCut ad sz cs.length l hh h
          | none=>none
         | none=>none
        | some _,some _=>match Qhl mx room room with
         | some m=>match Qhl hi n m with
          | some hh=>match Qhl lo 0 hh with
           | some l=>(Jkm a re.size l hh m).map fun v=>(v,h)
           | none=>none
          | none=>none
         | none=>none
        | none,some _=>none
       else none
      | some (.cells false sz []) =>
       if sz == re.size && ad.off % sz == 0 && Nat.ble 1 sz then
        match mx with
        | none=>match Qhl hi n 0 with
         | some hh=>match Qhl lo 0 hh with
          | some l=>if l == 0 then some (.slice (some ad) hh Ql9,h)else none
          | none=>none
         | none=>none
        | some _=>none
       else none
      | _=>none
  | _=>none
 | some r,.string s=>match r.desc,mx with
  | .string,none=>match Qhl hi s.size s.size with
   | some hh=>match Qhl lo 0 hh with
    | some l=>some (.string (s.extract l hh),h)
    | none=>none
   | none=>none
  | _,_=>none
 | _,_=>none
 where
 aCut (ad:Addr) (sz used l n:Nat) (h:Heap):Option (Value × Heap) :=
  if l == 0 then some (.slice (some ad) n Ql9,h)
  else if Nat.blt (ad.off+l*sz) used then some (.slice (some (ad.add (l*sz))) (n-l) Ql9,h)
  else if Nat.ble n l then some (.slice (some ⟨h.next,0,none⟩) 0 Ql9,h.push (.cells false sz []))
  else none
def Jfx{x:Option Value}{d n k:Nat}(hx:Qhl x d n=some k)(hd:d<=n):k<=n:=by
 unfold Qhl at hx;split at hx
 ·cases hx;exact hd
 ·split at hx
  ·rename_i hc;cases hx;omega
  ·cases hx
 ·cases hx
def Yef{x:Option Value}{d d' n n' k:Nat}(hx:Qhl x d n=some k)(hn:n<=n')(hd:x=none->d=d'):Qhl x d' n'=some k:=by
 unfold Qhl at hx ⊢;split at hx
 ·rw[<- hd rfl];exact hx
 ·split at hx
  ·rename_i hc;cases hx;rw[if_pos ⟨hc.1,by omega⟩]
  ·cases hx
 ·cases hx
def Z3q{a:Option Addr}{sz l h m:Nat}{v:Value}(hv:Jkm a sz l h m=some v)(ha:∀ x,a=some x->dom Y x.block/\x.spot=none) :
  okV (dom Y) v/\ren Y v=.slice (if m=l then a.map (Wc Y)else(a.map (Wc Y)).map (·.add (l*sz))) (h-l) (m-l):=by
 unfold Jkm at hv;split at hv
 ·cases hv
 ·rename_i hc;have hc':m-l≠Ql9:=by simpa using hc
  cases hv;cases a with
  | none =>
   have e:(if m=l then(none:Option Addr)else Option.map (fun x:Addr=>x.add (l*sz)) none)=none:=by split <;> rfl
   have e2:(if m=l then Option.map (Wc Y) (none:Option Addr)else Option.map (fun x:Addr=>x.add (l*sz)) (Option.map (Wc Y) none))=none:=by split <;> rfl
   rw[e,e2];exact⟨by simpa only[okV]using hc',by rw[Qfa _ _ _ _ hc'];rfl⟩
  | some x =>
   obtain⟨h1,h2⟩:=ha x rfl;by_cases hm:m=l
   ·subst hm;simp only[if_true];refine⟨by simp only[okV];exact⟨h1,h2⟩,?_⟩;rw[Qfa _ _ _ _ hc']
   ·simp only[hm,if_false,ax];refine⟨by simp only[okV,Q7x];exact⟨h1,Xu6 _ _ h2⟩,?_⟩;rw[Qfa _ _ _ _ hc',ax,Q1u Y x h1 h2]
def Jdt(E:Env P)(H:HRel E.G Y h w){t:TypeId}{x:Value}{lo hi mx:Option Value}{v:Value}{h':Heap}(hx:okV (dom Y) x)
  (hv:Qes E t x lo hi mx h=some (v,h')) :
  Gives P E.G Y h w (Instr.sliceAt t (ren Y x) (lo.map (ren Y)) (hi.map (ren Y)) (mx.map (ren Y))) v h':=by
 unfold Qes at hv;split at hv
 ·cases hv
 ·rename_i hnone;have hmx:hi=none->mx=none:=by
   intro h0;subst h0;cases mx with
   | none=>rfl
   | some _=>simp at hnone
  split at hv
  ·
   rename_i r a hr;simp only[okV]at hx;split at hv
   ·rename_i n e hd;split at hv
    ·rename_i re m hre hm;split at hv
     ·rename_i hh hhi;split at hv
      ·rename_i l hl;rw[ak]at hv;obtain⟨v',hv',hq⟩:=hv;cases hq;obtain⟨o1,o2⟩:=Z3q (Y:=Y) hv' (fun y hy=>by cases hy;exact hx);refine Gives.plain H o1 ?_;rw[o2];simp only[Instr.sliceAt,aq,run_underlying (E.tyok t r hr).1,hd,ac,ren,ax,Instr.sureAddr,aJ,
        Xeb (Y:=Y) false n n lo hi mx hm hhi hmx hl,Qap (E.tyok _ re hre)]
       split <;> rfl
      ·cases hv
     ·cases hv
    ·cases hv
   ·cases hv
  ·
   rename_i r a n c hr;split at hv
   ·rename_i e hd;split at hv
    ·cases hv
    ·rename_i re hre;have hrun:∀ (c' l hh m:Nat),Qhl mx c' c'=some m->Qhl hi n m=some hh->Qhl lo 0 hh=some l ->
       (Instr.sliceAt t (.slice (a.map (Wc Y)) n c') (lo.map (ren Y)) (hi.map (ren Y)) (mx.map (ren Y))).run P w =
        .ok (.slice (if m=l then a.map (Wc Y)else(a.map (Wc Y)).map (·.add (l*re.size))) (hh-l) (m-l)) w:=by
      intro c' l hh m e1 e2 e3;simp only[Instr.sliceAt,Instr.slice,aq,run_underlying (E.tyok t r hr).1,hd,ac,aJ,
       Xeb (Y:=Y) true n c' lo hi mx e1 e2 hmx e3,Qap (E.tyok _ re hre)]
     split at hv
     ·rename_i hc;have hc':c≠Ql9:=(by simpa using hc);split at hv
      ·rename_i m hm;split at hv
       ·rename_i hh hhi;split at hv
        ·rename_i l hl;rw[ak]at hv;obtain⟨v',hv',hq⟩:=hv;cases hq;obtain⟨o1,o2⟩:=Z3q (Y:=Y) hv' (fun y hy=>by subst hy;simpa only[okV]using hx);refine Gives.plain H o1 ?_;rw[o2,Qfa _ _ _ _ hc'];exact hrun c l hh m hm hhi hl
        ·cases hv
       ·cases hv
      ·cases hv
     ·rename_i hc;have hc':c=Ql9:=(by simpa using hc);subst hc';split at hv
      ·cases hv
      ·rename_i ad;simp only[okV]at hx;obtain⟨p,hp⟩:=az.1 hx.1;split at hv
       ·rename_i sz cs hg;split at hv
        ·rename_i hcond;simp only[ao,beq_iff_eq,bU]at hcond;obtain⟨⟨rfl,hoff⟩,hsz⟩:=hcond;have hfit:=H.fits _ p _ hp hg;obtain⟨hpz,hfit⟩:=hfit;rcases hfit with⟨h0,_⟩ | ⟨C,te,lo',hi',f1,f2,f3⟩
         ·cases h0
         obtain⟨f31,f32,f33⟩:=f3 rfl;have hcl:cs.length<=p.room*re.size:=by
          rw[<- hpz,<- f33];rcases aU C.size cs.length with hlt | hge
          ·have:=(f2 C.size _ (List.getElem?_eq_getElem hlt)).1;simp[f31]at this
          ·exact hge
         have hdiv:(cs.length-ad.off) / re.size<=p.room-ad.off / re.size:=by
          have h1:(cs.length-ad.off) / re.size<=(p.room*re.size-ad.off) / re.size:=Nat.div_le_div_right (by omega);refine ai h1 ?_;obtain⟨q,hq⟩:=dn hoff;rw[hq,d8 p.room,<- Nat.mul_sub,cz _ hsz,cz _ hsz];exact ab _
         rw[Qv4 Y ad n hp,hpz];have hcut:∀ l hh,Qhl hi n (p.room-ad.off / re.size)=some hh->Qhl lo 0 hh=some l->mx=none->Qes.aCut ad re.size cs.length l hh h=some (v,h') ->
           Gives P E.G Y h w (Instr.sliceAt t (.slice (some (Wc Y ad)) n (p.room-ad.off / re.size)) (lo.map (ren Y)) (hi.map (ren Y)) (mx.map (ren Y))) v h':=by
          intro l hh e1 e2 e0 hcv;have hr1:=hrun (p.room-ad.off / re.size) l hh _ (by rw[e0];rfl) e1 e2;simp only[ax]at hr1;have hlh:l<=hh:=Jfx e2 (by omega);unfold Qes.aCut at hcv;split at hcv
          ·rename_i hl0;have hl0':l=0:=(by simpa using hl0);subst hl0';cases hcv;refine Gives.plain H (by simp only[okV];exact hx) ?_;rw[hr1,Qv4 Y ad _ hp,hpz];congr 1;by_cases hm:p.room-ad.off / re.size=0
           ·simp[hm]
           ·simp[hm,Addr.add]
          ·rename_i hl0;have hl0':l≠0:=(by simpa using hl0);split at hcv
           ·rename_i hlt;have hlt':ad.off+l*re.size < cs.length:=(by simpa[cu]using hlt);cases hcv;have hm:ad.off / re.size+l < p.room:=by
             obtain⟨q,hq⟩:=dn hoff;rw[hq,cz _ hsz];have : re.size*(q+l) < re.size*p.room:=by rw[Nat.mul_add,d8 re.size l,d8 re.size p.room];omega
             exact Nat.lt_of_mul_lt_mul_left this
            refine Gives.plain H (by simp only[okV,Q7x];exact⟨hx.1,Xu6 _ _ hx.2⟩) ?_;rw[hr1,Qv4 Y (ad.add (l*re.size)) _ (by rw[Q7x];exact hp),hpz,if_neg (by omega),Q1u Y ad hx.1 hx.2];congr 2;have hao:(ad.add (l*re.size)).off=ad.off+l*re.size:=by
             obtain⟨b0,o0,s0⟩:=ad;simp only at hx;rw[hx.2,Qq7]
            rw[hao,Nat.add_mul_div_right _ _ hsz];omega
           ·rename_i hlt;split at hcv
            ·rename_i hnl;have hnl':hh<=l:=(by simpa using hnl);have hle:l=hh:=(by omega);subst hle;cases hcv;have hal:=H.alias (p:={blk:=p.blk,base:=p.base+(if p.room-ad.off / re.size=l then ad.off else ad.off+l*re.size),room:=p.room-ad.off / re.size-l,sz:=re.size,spot:=none}) (H.dom _ _ hp).2;refine⟨_,w,?_,?_,eH _ _ _,hal.1,hal.2⟩
             ·rw[hr1];simp only[ren,ax,Wc,eF,Xfs,if_true,bX,Nat.zero_div,d7,dG];congr 2;obtain⟨b0,o0,s0⟩:=ad;have hsp:=H.spot hp hg rfl;simp only at hx hp;simp only[hp,hx.2,hsp,ite_self,Qq7];by_cases hm:p.room-o0 / re.size=l
              ·simp[hm]
              ·simp[hm,bY]
             ·simp only[okV];exact⟨by simp[dom,eF],trivial⟩
            ·cases hcv
         cases hi with
         | none =>
          have hmx0:=hmx rfl;subst hmx0;simp only at hv;split at hv
          ·rename_i l hl;exact hcut l n rfl hl rfl hv
          ·cases hv
         | some hv0 =>
          cases mx with
          | none =>
           simp only at hv;split at hv
           ·rename_i hh hhi;split at hv
            ·rename_i l hl;exact hcut l hh (Yef hhi hdiv (by simp)) hl rfl hv
            ·cases hv
           ·cases hv
          | some mv =>
           simp only at hv;split at hv
           ·rename_i m hm;split at hv
            ·rename_i hh hhi;split at hv
             ·rename_i l hl;rw[ak]at hv;obtain⟨v',hv',hq⟩:=hv;cases hq;obtain⟨o1,o2⟩:=Z3q (Y:=Y) hv' (fun y hy=>by cases hy;exact hx);refine Gives.plain H o1 ?_;rw[o2];exact hrun _ l hh m (Yef hm hdiv (by simp)) hhi hl
             ·cases hv
            ·cases hv
           ·cases hv
        ·cases hv
       ·rename_i sz hg;split at hv
        ·rename_i hcond;simp only[ao,beq_iff_eq,bU]at hcond;obtain⟨⟨rfl,hoff⟩,hsz⟩:=hcond;obtain⟨hpz, -⟩:=H.fits _ p _ hp hg;split at hv
         ·split at hv
          ·rename_i hh hhi;split at hv
           ·rename_i l hl;split at hv
            ·rename_i hl0;have hl0':l=0:=(by simpa using hl0);subst hl0';cases hv;have hr1:=hrun (p.room-ad.off / re.size) 0 hh _ rfl (Yef hhi (bn _) (fun _=>rfl)) hl;simp only[ax,ca]at hr1;rw[Qv4 Y ad n hp,hpz];refine Gives.plain H (by simp only[okV];exact hx) ?_;simp only[ca];rw[hr1,Qv4 Y ad _ hp,hpz];congr 1;by_cases hm:p.room-ad.off / re.size=0
             ·simp[hm]
             ·simp[hm,Addr.add]
            ·cases hv
           ·cases hv
          ·cases hv
         ·cases hv
        ·cases hv
       ·cases hv
   ·cases hv
  ·
   rename_i r s hr;split at hv
   ·rename_i hd;split at hv
    ·rename_i hh hhi;split at hv
     ·rename_i l hl;cases hv;refine Gives.flat H rfl ?_;have:=Xeb (Y:=Y) false s.size s.size lo hi none (by rfl) hhi (fun _=>rfl) hl w (P:=P);simp only[ca]at this;simp only[Instr.sliceAt,Instr.slice,aq,run_underlying (E.tyok t r hr).1,hd,ac,ren_string,ca,Option.isSome_none,av,if_false,aJ,this]
     ·cases hv
    ·cases hv
   ·cases hv
  ·cases hv
end
section
variable{P:Program}{Y:Ren}{h:Heap}{w:World}
def aEq(E:Env P)(t:TypeId)(x y:Value):Option Bool :=
 match E.ty.get t with
 | none=>none
 | some r =>
  match r.desc,x,y with
  | .bool,.bool a,.bool b=>some (a == b)
  | .pointer _,.pointer none,.pointer b=>some b.isNone
  | .pointer _,.pointer (some _),.pointer none=>some false
  | .slice _,.slice none _ _,.slice b _ _=>some b.isNone
  | .slice _,.slice (some _) _ _,.slice none _ _=>some false
  | .map _ _,.map none,.map b=>some b.isNone
  | .map _ _,.map (some _),.map none=>some false
  | .func _ _ _,.nilFunc,.nilFunc=>some true
  | .func _ _ _,.nilFunc,.func _ _ _=>some false
  | .func _ _ _,.func _ _ _,.nilFunc=>some false
  | .interface _,.nilIface,.nilIface=>some true
  | .interface _,.nilIface,.iface _ _=>some false
  | .interface _,.iface _ _,.nilIface=>some false
  | .struct _,.agg xs,.agg ys=>if r.leaf.isEmpty then none else Wr r.leaf xs.toList ys.toList
  | .array _ _,.agg xs,.agg ys=>if r.leaf.isEmpty then none else Wr r.leaf xs.toList ys.toList
  | _,_,_=>none
def Ya0(Y:Ren):∀ (ls:List Nat) (xs ys:List Value) (b:Bool),Wr ls xs ys=some b->xs.map (ren Y)=xs/\ys.map (ren Y)=ys
 | [],[],[],_,_=>by simp
 | l::ls,x::xs,y::ys,b,h=>by
  simp only[Wr]at h;split at h
  ·rename_i a c h1 h2;have ih:=Ya0 Y ls xs ys c h2;unfold Yrl at h1;split at h1 <;> simp_all
  ·cases h
 | [],_::_,_,_,h=>by simp[Wr]at h
 | [],[],_::_,_,h=>by simp[Wr]at h
 | _::_,[],_,_,h=>by simp[Wr]at h
 | _::_,_::_,[],_,h=>by simp[Wr]at h
def Jk8(E:Env P){t:TypeId}{x y:Value}{b:Bool}(hv:aEq E t x y=some b)(w:World):(Op.equal t (ren Y x) (ren Y y)).run P w=.ok b w:=by
 unfold aEq at hv;cases hr:E.ty.get t with
 | none=>simp[hr]at hv
 | some r =>
  simp only[hr]at hv;have ho:=E.tyok t r hr;have hu:=ho.1;have hagg:∀ xs ys:Array Value,(if r.leaf.isEmpty=true then none else Wr r.leaf xs.toList ys.toList)=some b->(Op.equal t (ren Y (.agg xs)) (ren Y (.agg ys))).run P w=.ok b w:=by
   intro xs ys he;split at he
   ·cases he
   ·rename_i hne;obtain⟨_,_,_,_,_,_,_,_,_,hq⟩:=ho;have h1:=Ya0 Y _ _ _ _ he;have h2:=(hq (by simpa using hne)).2.1 _ _ _ w he;have e1:xs.map (ren Y)=xs:=by apply bu;rw[bh];exact h1.1
    have e2:ys.map (ren Y)=ys:=by apply bu;rw[bh];exact h1.2
    rw[ren_agg,ren_agg,e1,e2];exact h2
  have hone:(∀ d,(Op.equalIn (d+1) t (ren Y x) (ren Y y)).run P w=.ok b w)->(Op.equal t (ren Y x) (ren Y y)).run P w=.ok b w:=fun hd=>hd 9999;split at hv <;> first
   | (rename_i hd;cases hv;refine hone fun d => ?_;simp[Op.equalIn,run_underlying hu,hd,ren];done)
   | exact hagg _ _ hv
   | cases hv
def Q8:Operand->Bool
 | .const _=>true
 | _=>false
def Zhe(E:Env P)(op:BinOp)(t:TypeId)(x y:Value):Option Value :=
 match op with
 | .eql=>(aEq E t x y).map .bool
 | .neq=>(aEq E t x y).map fun b => .bool (!b)
 | _=>none
def Qfz(s:Sem Value):Option Value :=
 match Jlo s with
 | some v=>if flat v then some v else none
 | none=>none
def Y3o{s:Sem Value}{v:Value}(hs:Qfz s=some v):flat v=true/\∀ w,s.run P w=.ok v w:=by
 unfold Qfz at hs;split at hs
 ·rename_i u hu;split at hs
  ·rename_i hf;cases hs;exact⟨hf,Jbu hu⟩
  ·cases hs
 ·cases hs
def Y9(E:Env P)(op:BinOp)(t:TypeId)(k:Bool)(x y:Value):Option Value :=
 match x,y with
 | .int _ _,.int _ _=>Qfz (binOp op t x y)
 | .string _,.string _=>Qfz (binOp op t x y)
 | .nilIface,.nilIface=>if k then Zhe E op t x y else none
 | _,_=>Zhe E op t x y
def Z2d(E:Env P){G:Bs}(H:HRel G Y h w){op:BinOp}{t:TypeId}{ox oy:Operand}{x y v:Value}
  (hg:(eqGuard op t ox oy (ren Y x) (ren Y y)).run P w=.ok () w)
  (h1:binOp .eql t (ren Y x) (ren Y y)=(do pure (.bool (<- Op.equal t (ren Y x) (ren Y y)))))
  (h2:binOp .neq t (ren Y x) (ren Y y)=(do pure (.bool (!(<- Op.equal t (ren Y x) (ren Y y))))))
  (hv:Zhe E op t x y=some v):Gives P G Y h w (do eqGuard op t ox oy (ren Y x) (ren Y y);binOp op t (ren Y x) (ren Y y)) v h:=by
 cases op <;> simp only[Zhe]at hv <;> first
  | cases hv;done
  | skip
 ·rw[ak]at hv;obtain⟨b,hb,rfl⟩:=hv;refine Gives.flat H rfl ?_;simp only[aq,hg,ac,h1,Jk8 E hb,aJ]
 ·rw[ak]at hv;obtain⟨b,hb,rfl⟩:=hv;refine Gives.flat H rfl ?_;simp only[aq,hg,ac,h2,Jk8 E hb,aJ]
def Zvs{E:Env P}{op:BinOp}{t:TypeId}{x y v:Value}(hv:Zhe E op t x y=some v):∃ b,aEq E t x y=some b:=by
 cases op <;> simp only[Zhe]at hv <;> first
  | cases hv;done
  | (rw[ak]at hv;obtain⟨b,hb,_⟩:=hv;exact⟨b,hb⟩)
def Jl4 (E : Env P) {G : Bs} (H : HRel G Y h w) {op : BinOp} {t : TypeId} {ox oy : Operand} {x y v : Value} (hv : Y9 E op t (Q8 ox || Q8 oy) x y = some v) :
    Gives P G Y h w (do eqGuard op t ox oy (ren Y x) (ren Y y); binOp op t (ren Y x) (ren Y y)) v h := by
  have hscal : (eqGuard op t ox oy (ren Y x) (ren Y y)).run P w = .ok () w -> ren Y x = x -> ren Y y = y -> Qfz (binOp op t x y) = some v ->
      Gives P G Y h w (do eqGuard op t ox oy (ren Y x) (ren Y y); binOp op t (ren Y x) (ren Y y)) v h := by
    intro hg e1 e2 hp;obtain ⟨hf, hr⟩ := Y3o (P := P) hp;refine Gives.flat H hf ?_;simp only [aq,hg,ac];rw [e1, e2];exact hr w
  cases x <;> cases y <;> simp only [Y9] at hv <;> first
    | (refine hscal ?_ (by simp) (by simp) hv; cases op <;> simp [eqGuard]; done)
    | (obtain ⟨b, hb⟩ := Zvs hv
       unfold aEq at hb;cases hr : E.ty.get t with
       | none => simp [hr] at hb
       | some r =>
         simp only [hr] at hb;cases hd : r.desc <;> simp [hd] at hb; done)
    | (refine Z2d E H ?_ ?_ ?_ hv
       · simp only [ren,eqGuard]; cases op <;> simp; done
       · simp only [ren]; rfl
       · simp only [ren]; rfl)
    | skip
  ·
    split at hv
    · rename_i hk
      refine Z2d E H ?_ rfl rfl hv;simp only [Q8,bM] at hk;simp only [ren,eqGuard];rcases hk with hk | hk
      · cases ox <;> simp at hk; cases op <;> simp
      · cases oy <;> simp at hk; cases op <;> simp
    · cases hv
  ·
    rename_i xs ys;obtain ⟨b, hb⟩ := Zvs hv;have hne : ∃ r, E.ty.get t = some r /\ r.leaf ≠ [] := by
      unfold aEq at hb;cases hr : E.ty.get t with
      | none => simp [hr] at hb
      | some r =>
        simp only [hr] at hb;refine ⟨r, rfl, fun h0 => ?_⟩;cases hd : r.desc <;> simp [hd,h0] at hb
    obtain ⟨r, hr, hl⟩ := hne;obtain ⟨_, _, _, _, _, _, _, _, _, hq⟩ := E.tyok t r hr;refine Z2d E H ?_ ?_ ?_ hv
    · rw [ren_agg, ren_agg]; exact run_eqGuard_agg w op t ox oy _ _ (hq hl).1
    · rw [ren_agg, ren_agg]; rfl
    · rw [ren_agg, ren_agg]; rfl
end
end Go.Ab
