import Derived.WalkKit
import Derived.OrdersIn
import Derived.DefersIn
import Derived.Laws.StructEq
import Derived.ChangeKeysEq
set_option linter.all false
open List renaming length→L
open Option renaming some→U,none→O
open Bool renaming true→Y,false→J
open Go renaming Value→V
open Go.Value renaming int→I,slice→M
open Go.IntKind renaming i64→X
noncomputable section
namespace Go
theorem jA{p:Prop}(h:p:=by omega):p:=h
theorem kA{p:Prop}(h:p:=by simp):p:=h
theorem qA{p:Prop}(h:p:=by decide):p:=h
theorem kR{A:Sort _}{a b:A}(h:a=b:=by kernel_rfl):a=b:=h
abbrev zU:V:=.int .u8 0
end Go
namespace Go.Ab
abbrev pO(b o:Nat):V:=.pointer (U ⟨b,o,O⟩)
abbrev ab:=@List.mem_append
abbrev ac:=@Nat.le_refl
abbrev ae:=@Result.andThen_ok
abbrev ah:=@List.length_append
abbrev ai:=@List.take_of_length_le
abbrev aj:=@Option.map_eq_some_iff
abbrev ak:=@Nat.le_trans
abbrev am:=@List.mem_map
abbrev ao:=@List.mem_cons
abbrev aq:=@Sem.run_bind
abbrev au:=@Bool.and_eq_true
abbrev av:=@Option.some.injEq
abbrev aw:=@Nat.lt_of_lt_of_le
abbrev az:=@Bool.false_eq_true
abbrev aJ:=@Option.isSome_iff_exists
abbrev aK:=@List.map_cons
abbrev aL:=@Option.map_some
abbrev aM:=@List.length_map
abbrev aN:=@Sem.run_pure
abbrev aP:=@List.take_append_of_le_length
abbrev aQ:=@List.append_assoc
abbrev aS:=@List.drop_eq_getElem_cons
abbrev aT:=@Nat.eq_of_beq_eq_true
abbrev aU:=@List.mem_singleton
abbrev aY:=@List.mem_cons_of_mem
abbrev ba:=@List.length_drop
abbrev bb:=@Int.toNat_natCast
abbrev bf:=@List.take_append_drop
abbrev bg:=@List.map_append
abbrev bh:=@List.length_take
abbrev bm:=@List.length_cons
abbrev bn:=@Nat.le_succ
abbrev bw:=@List.drop_zero
abbrev bH:=@List.take_succ
abbrev bI:=@List.eq_nil_of_length_eq_zero
abbrev bJ:=@Nat.lt_or_ge
abbrev bK:=@Nat.zero_add
abbrev bL:=@Array.toList_map
abbrev bM:=@Option.some.inj
abbrev bO:=@List.take_length
abbrev bQ:=@Nat.zero_le
abbrev bR:=@Array.ext'
abbrev bS:=@List.length_eq_zero_iff
abbrev bU:=@List.nil_append
abbrev bV:=@List.map_congr_left
abbrev bW:=@List.drop_eq_nil_of_le
abbrev bX:=@Nat.lt_succ_self
abbrev bY:=@List.mem_cons_self
abbrev bZ:=@Prod.mk.injEq
abbrev ca:=@Nat.mul_le_mul_right
abbrev cd:=@List.drop_left
abbrev ce:=@List.mem_filterMap
abbrev cf:=@List.set_append_right
abbrev cg:=@Nat.lt_succ_of_lt
abbrev cm:=@Bool.eq_false_iff
abbrev cr:=@Nat.add_mul
abbrev ct:=@List.append_nil
abbrev cx:=@Bool.or_eq_true
abbrev cy:=@List.not_mem_nil
abbrev cz:=@Nat.add_zero
abbrev cD:=@List.drop_drop
abbrev cE:=@List.map_map
abbrev cF:=@List.drop_of_length_le
abbrev cG:=@List.nodup_append
abbrev cH:=@List.cons.injEq
abbrev cI:=@List.mem_of_mem_take
abbrev cJ:=@List.mem_flatMap
abbrev cK:=@List.drop_length
abbrev cL:=@Bool.not_true
abbrev cO:=@Nat.sub_self
abbrev cQ:=@Bool.not_eq_true'
abbrev cR:=@List.nodup_cons
abbrev cS:=@List.mem_filter
abbrev cU:=@Classical.byContradiction
abbrev cY:=@Nat.ble_eq
abbrev cZ:=@List.replicate_succ
abbrev d5:=@Nat.add_assoc
abbrev d6:=@List.suffix_refl
abbrev d7:=@List.perm_ext_iff_of_nodup
abbrev d8:=@List.length_singleton
abbrev d9:=@Option.map_none
abbrev da:=@List.length_nil
abbrev dc:=@Nat.sub_zero
abbrev de:=@Nat.mul_one
abbrev df:=@Nat.add_sub_cancel_left
abbrev dh:=@Nat.ne_of_beq_eq_false
abbrev di:=@Nat.lt_trichotomy
abbrev dj:=@List.mem_of_mem_drop
abbrev dq:=@Int.fdiv_eq_ediv_of_nonneg
abbrev du:=@List.all_eq_true
abbrev dw:=@Int.toNat_of_nonneg
abbrev dx:=@Bool.true_and
abbrev dy:=@Nat.mul_div_cancel_left
abbrev dz:=@List.mem_singleton_self
abbrev dC:=@Bool.not_false
abbrev dD:=@Nat.le_of_ble_eq_true
abbrev dE:=@Nat.mod_eq_of_lt
abbrev dF:=@List.getElem_mem
abbrev dG:=@List.cons_append
abbrev dH:=@List.range_eq_range'
abbrev dI:=@Array.mem_toList_iff
abbrev dJ:=@Array.map_congr_left
abbrev dK:=@List.length_pos_iff
abbrev dL:=@List.getElem_of_mem
abbrev dM:=@List.filterMap_cons
abbrev dN:=@Nat.zero_mul
abbrev dO:=@Nat.mul_comm
abbrev dP:=@List.map_nil
abbrev dQ:=@Nat.blt_eq
abbrev dR:=@List.take_left
abbrev dS:=@Nat.le_succ_of_le
abbrev dT:=@List.flatMap_cons
abbrev dU:=@List.any_eq_false
abbrev dV:=@Function.comp_def
abbrev dW:=@Bool.not_eq_false
abbrev dX:=@List.map_take
abbrev dY:=@List.eq_of_mem_replicate
abbrev dZ:=@Option.bind_some
abbrev ef:=@List.range'_succ
abbrev ej:=@List.drop_append
abbrev ew:=@Nat.succ_mul
abbrev eJ:=@Nat.mod_lt
abbrev eK:=@Nat.dvd_of_mod_eq_zero
abbrev eN:=@Int.le_trans
abbrev eO:=@Nat.mul_eq_zero
abbrev eQ:=@Nat.min_eq_left
abbrev eS:=@List.foldl_cons
abbrev eT:=@Sem.run_ite
abbrev eU:=@List.take_zero
abbrev eX:=@Array.isEmpty_toList
abbrev eY:=@Array.length_toList
abbrev f7:=@Oper.semAt_eq
abbrev f8:=@Oper.uponIn_round
abbrev f9:=@Oper.uponIn_enter
abbrev fc:=@List.size_toArray
abbrev fe:=@List.pairwise_map
abbrev ff:=@DataW.trod_struct
abbrev fg:=@Array.size_append
abbrev fh:=@Option.getD_some
abbrev fj:=@Nat.min_eq_right
abbrev fk:=@List.mem_nil_iff
abbrev fp:=@List.getElem_map
abbrev fq:=@List.filter_cons
abbrev ft:=@List.Nodup.length_le_of_subset
abbrev fu:=@Int.le_refl
abbrev fw:=@UInt8.toNat_inj
abbrev fA:=@Nat.min_le_left
abbrev fC:=@List.filter_map
abbrev fD:=@Option.map_map
abbrev fE:=@List.tail_drop
abbrev fF:=@List.mapM_cons
abbrev fH:=@Int.tmod_eq_emod_of_nonneg
abbrev fI:=@Int.tdiv_eq_ediv_of_nonneg
abbrev fJ:=@Bool.false_and
abbrev fK:=@Array.toList_setIfInBounds
abbrev fL:=@List.pairwise_iff_getElem
abbrev fM:=@List.isEmpty_eq_false_iff
abbrev fN:=@Array.mapM_eq_mapM_toList
abbrev fO:=@Array.mem_def
abbrev fP:=@List.filter_cons_of_pos
abbrev fQ:=@List.filter_cons_of_neg
abbrev fR:=@Nat.le_total
abbrev fS:=@Nat.le_of_lt
abbrev fT:=@Bool.true_or
abbrev fU:=@UInt8.lt_iff_toNat_lt
abbrev fV:=@Nat.le_div_iff_mul_le
abbrev fW:=@List.filterMap_append
abbrev fX:=@Nat.sub_mul
abbrev fY:=@List.set_append_left
abbrev fZ:=@Bool.or_eq_false_iff
abbrev ge:=@MapKept.run_findKey
abbrev gg:=@List.map_eq_nil_iff
abbrev gh:=@List.map_eq_flatMap
abbrev gj:=@List.drop_replicate
abbrev gk:=@ByteArray.toList_eq
abbrev gn:=@Array.toList_append
structure Place where
 blk:Nat
 base:Nat
 room:Nat
 sz:Nat
 spot:Option Nat
 deriving Inhabited
abbrev Ren:=Nat->Option Place
def iJ:Nat:=9223372036854775808
def i4(Z:Ren)(b:Nat):Nat:=match Z b with | some p=>p.blk | none=>b
def jv(Z:Ren)(a:Addr):Addr:=match Z a.block with | some p=>{block:=p.blk,off:=p.base+a.off,spot:=if a.off=0 then p.spot else O} | none=>a
def uj(Z:Ren)(a:Option Addr)(c:Nat):Nat :=
 if c=iJ then(match a with | some a=>(match Z a.block with | some p=>p.room-a.off / p.sz | none=>c) | none=>c)else c
def tW(Z:Ren):Fn->Fn
 | .yield l => .yield (i4 Z l)
 | f=>f
mutual
def ren(Z:Ren):V->V
 | .pointer a => .pointer (a.map (jv Z))
 | .slice a n c => .slice (a.map (jv Z)) n (uj Z a c)
 | .map r => .map (r.map (i4 Z))
 | .chan r => .chan (r.map (i4 Z))
 | .func fn f c => .func (tW Z fn) (jk Z f) (jk Z c)
 | .iface t v => .iface t (ren Z v)
 | .agg cs => .agg (jk Z cs)
 | .tuple cs => .tuple (jk Z cs)
 | .bool b => .bool b
 | .int k n => .int k n
 | .float k b => .float k b
 | .complex k a b => .complex k a b
 | .string s => .string s
 | .nilFunc => .nilFunc
 | .nilIface => .nilIface
def jk(Z:Ren):Array V->Array V
 | ⟨l⟩=>⟨jT Z l⟩
def jT(Z:Ren):List V->List V
 | []=>[]
 | v::l=>ren Z v::jT Z l
end
def Vbf(Z:Ren)(l:List V):jT Z l=l.map (ren Z):=by
 induction l with
 | nil=>simp[jT]
 | cons v l ih=>simp[jT,ih]
def rM(Z:Ren)(l:Array V):jk Z l=l.map (ren Z):=by
 cases l;simp[jk,Vbf]
mutual
def c_(D:Nat->Prop):V->Prop
 | .pointer (U a)=>D a.block/\a.spot=O
 | M (U a) _ _=>D a.block/\a.spot=O
 | M O _ c=>c≠iJ
 | .map (U r)=>D r
 | .chan (U _)=>False
 | .func (.yield l) f c=>D l/\lF D f/\lF D c
 | .func _ f c=>lF D f/\lF D c
 | .iface _ v=>c_ D v
 | .agg cs=>lF D cs/\cs.toList.all (·.oneCell')=Y
 | .tuple cs=>lF D cs
 | _=>True
def lF(D:Nat->Prop):Array V->Prop
 | ⟨l⟩=>mO D l
def mO(D:Nat->Prop):List V->Prop
 | []=>True
 | v::l=>c_ D v/\mO D l
end
def Vd4(D:Nat->Prop)(l:List V):mO D l ↔ ∀ v ∈ l,c_ D v:=by
 induction l with
 | nil=>simp[mO]
 | cons v l ih=>simp[mO,ih]
def vO(D:Nat->Prop)(l:Array V):lF D l ↔ ∀ v ∈ l,c_ D v:=by
 cases l;simp[lF,Vd4]
mutual
def h_{D E:Nat->Prop}(h:∀ b,D b->E b):(v:V)->c_ D v->c_ E v
 | .pointer (U a),hv=>by simp only[c_]at hv ⊢;exact⟨h _ hv.1,hv.2⟩
 | .pointer O,_=>by simp[c_]
 | M (U a) _ _,hv=>by simp only[c_]at hv ⊢;exact⟨h _ hv.1,hv.2⟩
 | M O _ _,hv=>by simpa only[c_]using hv
 | .map (U r),hv=>by simp only[c_]at hv ⊢;exact h _ hv
 | .map O,_=>by simp[c_]
 | .chan (U _),hv=>by simp[c_]at hv
 | .chan O,_=>by simp[c_]
 | .func fn f c,hv=>by
  cases fn <;> simp only[c_]at hv ⊢ <;>
   first
    | exact⟨jl h f hv.1,jl h c hv.2⟩
    | exact⟨h _ hv.1,jl h f hv.2.1,jl h c hv.2.2⟩
 | .iface _ v,hv=>by simp only[c_]at hv ⊢;exact h_ h v hv
 | .agg cs,hv=>by simp only[c_]at hv ⊢;exact⟨jl h cs hv.1,hv.2⟩
 | .tuple cs,hv=>by simp only[c_]at hv ⊢;exact jl h cs hv
 | .bool _,_=>by simp[c_]
 | .int _ _,_=>by simp[c_]
 | .float _ _,_=>by simp[c_]
 | .complex _ _ _,_=>by simp[c_]
 | .string _,_=>by simp[c_]
 | .nilFunc,_=>by simp[c_]
 | .nilIface,_=>by simp[c_]
def jl{D E:Nat->Prop}(h:∀ b,D b->E b):(v:Array V)->lF D v->lF E v
 | ⟨l⟩,hv=>by simp only[lF]at hv ⊢;exact rQ h l hv
def rQ{D E:Nat->Prop}(h:∀ b,D b->E b):(v:List V)->mO D v->mO E v
 | [],_=>by simp[mO]
 | v::l,hv=>by simp only[mO]at hv ⊢;exact⟨h_ h v hv.1,rQ h l hv.2⟩
end
def rq{Z β:Ren}{b:Nat}(h:β b=Z b):i4 β b=i4 Z b:=by simp[i4,h]
def Y2z{Z β:Ren}{a:Addr}(h:β a.block=Z a.block):jv β a=jv Z a:=by simp[jv,h]
mutual
def ij{Z β:Ren}{D:Nat->Prop}(h:∀ b,D b->β b=Z b):(v:V)->c_ D v->ren β v=ren Z v
 | .pointer (U a),hv=>by simp only[c_]at hv;simp[ren,Y2z (h _ hv.1)]
 | .pointer O,_=>by simp[ren]
 | M (U a) _ _,hv=>by simp only[c_]at hv;simp[ren,Y2z (h _ hv.1),uj,h _ hv.1]
 | M O _ _,_=>by simp[ren,uj]
 | .map (U r),hv=>by simp only[c_]at hv;simp[ren,rq (h _ hv)]
 | .map O,_=>by simp[ren]
 | .chan (U _),hv=>by simp[c_]at hv
 | .chan O,_=>by simp[ren]
 | .func fn f c,hv=>by
  cases fn <;> simp only[c_]at hv <;>
   first
    | simp only[ren,tW,iX h f hv.1,iX h c hv.2]
    | simp only[ren,tW,rq (h _ hv.1),iX h f hv.2.1,iX h c hv.2.2]
 | .iface _ v,hv=>by simp only[c_]at hv;simp[ren,ij h v hv]
 | .agg cs,hv=>by simp only[c_]at hv;simp[ren,iX h cs hv.1]
 | .tuple cs,hv=>by simp only[c_]at hv;simp[ren,iX h cs hv]
 | .bool _,_=>by simp[ren]
 | .int _ _,_=>by simp[ren]
 | .float _ _,_=>by simp[ren]
 | .complex _ _ _,_=>by simp[ren]
 | .string _,_=>by simp[ren]
 | .nilFunc,_=>by simp[ren]
 | .nilIface,_=>by simp[ren]
def iX{Z β:Ren}{D:Nat->Prop}(h:∀ b,D b->β b=Z b):(v:Array V)->lF D v->jk β v=jk Z v
 | ⟨l⟩,hv=>by simp only[lF]at hv;simp[jk,pj h l hv]
def pj{Z β:Ren}{D:Nat->Prop}(h:∀ b,D b->β b=Z b):(v:List V)->mO D v->jT β v=jT Z v
 | [],_=>by simp[jT]
 | v::l,hv=>by simp only[mO]at hv;simp[jT,ij h v hv.1,pj h l hv.2]
end
mutual
def flat:V->Bool
 | .pointer (U _)=>J
 | M (U _) _ _=>J
 | M O _ c => !(c == iJ)
 | .map (U _)=>J
 | .chan (U _)=>J
 | .func (.yield _) _ _=>J
 | .func _ f c=>i5 f && i5 c
 | .iface _ v=>flat v
 | .agg cs=>i5 cs && cs.toList.all (·.oneCell')
 | .tuple cs=>i5 cs
 | _=>Y
def i5:Array V->Bool
 | ⟨l⟩=>j9 l
def j9:List V->Bool
 | []=>Y
 | v::l=>flat v && j9 l
end
mutual
def iK(D:Nat->Prop):(v:V)->flat v=Y->c_ D v
 | .pointer (U a),hv=>by simp[flat]at hv
 | .pointer O,_=>by simp[c_]
 | M (U a) _ _,hv=>by simp[flat]at hv
 | M O _ _,hv=>by simpa[flat,c_]using hv
 | .map (U r),hv=>by simp[flat]at hv
 | .map O,_=>by simp[c_]
 | .chan (U _),hv=>by simp[flat]at hv
 | .chan O,_=>by simp[c_]
 | .func fn f c,hv=>by
  cases fn <;> simp only[flat,au]at hv <;>
   first
    | (simp only[c_];exact⟨nq D f hv.1,nq D c hv.2⟩)
    | exact absurd hv kA
 | .iface _ v,hv=>by simp only[flat]at hv;simp only[c_];exact iK D v hv
 | .agg cs,hv=>by simp only[flat,au]at hv;simp only[c_];exact⟨nq D cs hv.1,hv.2⟩
 | .tuple cs,hv=>by simp only[flat]at hv;simp only[c_];exact nq D cs hv
 | .bool _,_=>by simp[c_]
 | .int _ _,_=>by simp[c_]
 | .float _ _,_=>by simp[c_]
 | .complex _ _ _,_=>by simp[c_]
 | .string _,_=>by simp[c_]
 | .nilFunc,_=>by simp[c_]
 | .nilIface,_=>by simp[c_]
def nq(D:Nat->Prop):(v:Array V)->i5 v=Y->lF D v
 | ⟨l⟩,hv=>by simp only[i5]at hv;simp only[lF];exact rS D l hv
def rS(D:Nat->Prop):(v:List V)->j9 v=Y->mO D v
 | [],_=>by simp[mO]
 | v::l,hv=>by simp only[j9,au]at hv;simp only[mO];exact⟨iK D v hv.1,rS D l hv.2⟩
end
mutual
def pi:(v:V)->ren (fun _=>O) v=v
 | .pointer (U a)=>by simp[ren,jv]
 | .pointer O=>by simp[ren]
 | M (U a) _ _=>by simp[ren,jv,uj]
 | M O _ _=>by simp[ren,uj]
 | .map (U r)=>by simp[ren,i4]
 | .map O=>by simp[ren]
 | .chan (U r)=>by simp[ren,i4]
 | .chan O=>by simp[ren]
 | .func fn f c=>by cases fn <;> simp[ren,tW,i4,mr f,mr c]
 | .iface _ v=>by simp[ren,pi v]
 | .agg cs=>by simp[ren,mr cs]
 | .tuple cs=>by simp[ren,mr cs]
 | .bool _=>by simp[ren]
 | .int _ _=>by simp[ren]
 | .float _ _=>by simp[ren]
 | .complex _ _ _=>by simp[ren]
 | .string _=>by simp[ren]
 | .nilFunc=>by simp[ren]
 | .nilIface=>by simp[ren]
def mr:(v:Array V)->jk (fun _=>O) v=v
 | ⟨l⟩=>by simp[jk,qt l]
def qt:(v:List V)->jT (fun _=>O) v=v
 | []=>by simp[jT]
 | v::l=>by simp[jT,pi v,qt l]
end
def oz(Z:Ren){v:V}(h:flat v=Y):ren Z v=v:=by
 have h1:=ij (Z:=fun _=>O) (β:=Z) (D:=fun _=>False) (fun _ C=>C.elim) v (iK _ v h);rw[h1,pi]
@[simp] def jM (Z:Ren) (k:IntKind) (n:Int):ren Z (.int k n)=.int k n:=by simp[ren]
@[simp] def np (Z:Ren) (b:Bool):ren Z (.bool b)=.bool b:=by simp[ren]
@[simp] def jJ (Z:Ren) (b:ByteArray):ren Z (.string b)=.string b:=by simp[ren]
@[simp] def qM (Z:Ren):ren Z .nilIface=.nilIface:=by simp[ren]
@[simp] def jo (Z:Ren) (c:Array V):ren Z (.agg c)=.agg (c.map (ren Z)):=by simp[ren,rM]
@[simp] def uK (Z:Ren) (c:Array V):ren Z (.tuple c)=.tuple (c.map (ren Z)):=by simp[ren,rM]
@[simp] def mq (Z:Ren) (t:TypeId) (v:V):ren Z (.iface t v)=.iface t (ren Z v):=by simp[ren]
def Px(Z:Ren)(v:V):(ren Z v).cells=v.cells.map (ren Z):=by
 cases v <;> simp[ren,Value.cells,rM]
def Zn0(Z:Ren)(v:V):(ren Z v).oneCell'=v.oneCell':=by
 cases v <;> simp[ren,Value.oneCell']
def ZU(D:Nat->Prop)(c:Array V):c_ D (.agg c) ↔ ∀ v ∈ c,c_ D v/\v.oneCell'=Y:=by
 simp only[c_,vO,du,dI];exact⟨fun h v hv=>⟨h.1 v hv,h.2 v hv⟩,fun h=>⟨fun v hv=>(h v hv).1,fun v hv=>(h v hv).2⟩⟩
def zt(D:Nat->Prop)(c:Array V):c_ D (.tuple c) ↔ ∀ v ∈ c,c_ D v:=by simp only[c_,vO]
def lN:V->Bool
 | .tuple _=>J
 | _=>Y
def L8(D:Nat->Prop)(v:V)(h:c_ D v)(T:lN v=Y):∀ c ∈ v.cells,c_ D c/\c.oneCell'=Y:=by
 cases v <;> simp only[Value.cells] <;>
  first
   | exact(ZU D _).1 h
   | (intro c C;simp only[List.mem_toArray,aU]at C;subst C;exact⟨h,rfl⟩)
   | simp[lN]at T
def Me(D:Nat->Prop)(l:List V)(h:∀ c ∈ l,c_ D c/\c.oneCell'=Y):c_ D (.agg l.toArray):=(ZU D _).2 (by simpa using h)
inductive Tr (A:Type) where
 | leaf
 | node (v:Option A) (l r:Tr A)
namespace Tr
def A{A:Type}(t:Tr A):Nat->Option A :=
 Tr.rec (motive:=fun _=>Nat->Option A) (fun _=>O)
  (fun v _ _ gl C n=>Nat.rec (motive:=fun _=>Option A) v (fun m _=>Bool.rec (motive:=fun _=>Option A) (C (Nat.div m 2)) (gl (Nat.div m 2)) (Nat.beq (Nat.mod m 2) 0)) n) t
def one{A:Type}(x:Option A)(f:Nat):Nat->Tr A :=
 Nat.rec (motive:=fun _=>Nat->Tr A) (fun _=>leaf)
  (fun _ g n=>Nat.rec (motive:=fun _=>Tr A) (node x leaf leaf) (fun m _=>Bool.rec (motive:=fun _=>Tr A) (node O leaf (g (Nat.div m 2))) (node O (g (Nat.div m 2)) leaf) (Nat.beq (Nat.mod m 2) 0)) n) f
def put{A:Type}(t:Tr A)(n:Nat)(x:Option A):Tr A :=
 Tr.rec (motive:=fun _=>Nat->Tr A) (fun n=>one x (Nat.succ n) n)
  (fun v l r C pr n=>Nat.rec (motive:=fun _=>Tr A) (node x l r) (fun m _=>Bool.rec (motive:=fun _=>Tr A) (node v l (pr (Nat.div m 2))) (node v (C (Nat.div m 2)) r) (Nat.beq (Nat.mod m 2) 0)) n) t n
@[simp] def get_leaf {A:Type} (n:Nat):(leaf:Tr A).A n=O:=rfl
def Lg{A:Type}(v:Option A)(l r:Tr A):(node v l r).A 0=v:=rfl
def Cg{A:Type}(v:Option A)(l r:Tr A)(n:Nat):(node v l r).A (n+1)=if n % 2=0 then l.A (n / 2)else r.A (n / 2):=by
 have h:(node v l r).A (n+1)=Bool.rec (motive:=fun _=>Option A) (r.A (n / 2)) (l.A (n / 2)) (Nat.beq (n % 2) 0):=rfl;rw[h];cases C:Nat.beq (n % 2) 0 with
 | true=>rw[if_pos (aT C)]
 | false=>rw[if_neg (dh C)]
def Jb0{A:Type}(x:Option A)(f:Nat):one x (f+1) 0=node x leaf leaf:=rfl
def Je3{A:Type}(x:Option A)(f n:Nat):one x (f+1) (n+1)=if n % 2=0 then node O (one x f (n / 2)) leaf else node O leaf (one x f (n / 2)):=by
 have h:one x (f+1) (n+1)=Bool.rec (motive:=fun _=>Tr A) (node O leaf (one x f (n / 2))) (node O (one x f (n / 2)) leaf) (Nat.beq (n % 2) 0):=rfl;rw[h];cases C:Nat.beq (n % 2) 0 with
 | true=>rw[if_pos (aT C)]
 | false=>rw[if_neg (dh C)]
def ZA{A:Type}(x:Option A):∀ (f n m:Nat),n < f->(one x f n).A m=if n=m then x else O
 | 0,n,m,h=>by omega
 | f+1,0,m,_=>by
  rw[Jb0];cases m with
  | zero=>simp[Lg]
  | succ m=>rw[Cg];simp
 | f+1,n+1,m,h=>by
  rw[Je3];have C:n / 2 < f:=jA
  cases m with
  | zero=>split <;> simp[Lg]
  | succ m =>
   split
   ·rename_i h0;rw[Cg];split
    ·rename_i h1;rw[ZA x f _ _ C];by_cases e:n=m
     ·subst e;simp
     ·rw[if_neg jA,if_neg jA]
    ·rw[if_neg jA];rfl
   ·rename_i h0;rw[Cg];split
    ·rw[if_neg jA];rfl
    ·rename_i h1;rw[ZA x f _ _ C];by_cases e:n=m
     ·subst e;simp
     ·rw[if_neg jA,if_neg jA]
def QC{A:Type}(n:Nat)(x:Option A):(leaf:Tr A).put n x=one x (n+1) n:=rfl
def HG{A:Type}(v:Option A)(l r:Tr A)(x:Option A):(node v l r).put 0 x=node x l r:=rfl
def AU{A:Type}(v:Option A)(l r:Tr A)(n:Nat)(x:Option A):(node v l r).put (n+1) x=if n % 2=0 then node v (l.put (n / 2) x) r else node v l (r.put (n / 2) x):=by
 have h:(node v l r).put (n+1) x=Bool.rec (motive:=fun _=>Tr A) (node v l (r.put (n / 2) x)) (node v (l.put (n / 2) x) r) (Nat.beq (n % 2) 0):=rfl;rw[h];cases C:Nat.beq (n % 2) 0 with
 | true=>rw[if_pos (aT C)]
 | false=>rw[if_neg (dh C)]
def H{A:Type}:∀ (t:Tr A) (n m:Nat) (x:Option A),(t.put n x).A m=if n=m then x else t.A m
 | leaf,n,m,x=>by rw[QC,ZA _ _ _ _ (bX n)];rfl
 | node v l r,0,m,x=>by
  rw[HG];cases m with
  | zero=>simp[Lg]
  | succ m=>simp[Cg]
 | node v l r,n+1,0,x=>by
  rw[AU];split <;> simp[Lg]
 | node v l r,n+1,m+1,x=>by
  rw[AU,Cg v l r m];split
  ·rename_i h0;rw[Cg];split
   ·rw[H l];by_cases e:n=m
    ·subst e;simp
    ·rw[if_neg jA,if_neg jA]
   ·rw[if_neg jA]
  ·rename_i h0;rw[Cg];split
   ·rw[if_neg jA]
   ·rw[H r];by_cases e:n=m
    ·subst e;simp
    ·rw[if_neg jA,if_neg jA]
def ZQ{A:Type}(x y:Option A):∀ (f n:Nat),n < f->(one x f n).put n y=one y f n
 | 0,n,h=>by omega
 | f+1,0,_=>by rw[Jb0,Jb0,HG]
 | f+1,n+1,h=>by
  have C:n / 2 < f:=jA
  rw[Je3,Je3];by_cases h0:n % 2=0
  ·rw[if_pos h0,if_pos h0,AU,if_pos h0,ZQ x y f _ C]
  ·rw[if_neg h0,if_neg h0,AU,if_neg h0,ZQ x y f _ C]
def put_put{A:Type}:∀ (t:Tr A) (n:Nat) (x y:Option A),(t.put n x).put n y=t.put n y
 | leaf,n,x,y=>by rw[QC,QC,ZQ _ _ _ _ (bX n)]
 | node v l r,0,x,y=>by rw[HG,HG,HG]
 | node v l r,n+1,x,y=>by
  rw[AU,AU];by_cases h0:n % 2=0
  ·rw[if_pos h0,if_pos h0,AU,if_pos h0,put_put l]
  ·rw[if_neg h0,if_neg h0,AU,if_neg h0,put_put r]
end Tr
structure Tm where
 size:Nat
 t:Tr V
def Tm.put(t:Tm)(i:Nat)(v:V):Tm:=match t with | ⟨n,t⟩=>⟨n,t.put i (U v)⟩
inductive oU where
 | loop (st:LoopState) (pend:Option Code) (t:Tm) (params:Array Tmp) (assign body:Code) (defers:Nat)
 | defs
 | strIter (s:ByteArray) (pos:Nat)
 | mapIter (m:Option Nat) (since:Nat) (seen:Array Nat) (last:Nat)
 | any
inductive Blk where
 | cells (own:Bool) (sz:Nat) (c:List V)
 | map (es:Array MapEntry) (clk:Nat)
 | obj (o:oU)
open Blk renaming cells→S
instance : Inhabited Blk:=⟨S Y 0 []⟩
structure N where
 Q:Nat
 low:Nat
 t:Tr Blk
def Blk.own:Blk->Bool
 | .cells o _ _=>o
 | _=>Y
def Blk.solid:Blk->Bool
 | S J _ []=>J
 | _=>Y
def gu{x:Blk}(h:x.own=Y):x.solid=Y:=by
 cases x with
 | cells o s c=>cases o <;> simp[Blk.own]at h;rfl
 | map _ _=>rfl
 | obj _=>rfl
namespace N
def A(h:N)(b:Nat):Option Blk:=if b < h.Q then h.t.A b else O
def set(h:N)(b:Nat)(x:Option Blk):N:={Q:=h.Q,low:=min h.low b,t:=h.t.put b x}
def push(h:N)(x:Blk):N:={Q:=h.Q+1,low:=h.low,t:=h.t.put h.Q (U x)}
def get_set(h:N)(b c:Nat)(x:Option Blk)(C:b < h.Q):(h.set b x).A c=if b=c then x else h.A c:=by
 simp only[A,set];rw[Tr.H];by_cases e:b=c
 ·subst e;simp[C]
 ·simp[e]
def F(h:N)(c:Nat)(x:Blk):(h.push x).A c=if h.Q=c then U x else h.A c:=by
 simp only[A,push];rw[Tr.H];by_cases e:h.Q=c
 ·subst e;simp
 ·simp only[e,if_false];by_cases C:c < h.Q
  ·simp[C,cg C]
  ·have : ¬ c < h.Q+1:=jA
   simp[C,this]
def get_none{h:N}{b:Nat}(C:h.Q<=b):h.A b=O:=by
 unfold A;rw[if_neg jA]
def D{h:N}{b:Nat}{x:Blk}(C:h.A b=U x):b < h.Q:=by
 unfold A at C;split at C
 ·assumption
 ·cases C
def own(h:N)(b:Nat):Bool:=match h.A b with | some x=>x.own | none=>J
def live(h:N)(b:Nat):Bool:=match h.A b with | some x=>x.solid | none=>J
end N
abbrev gY{h:N}{b c:Nat}{x:Option Blk}:=N.get_set h b c x
def i6(Z:Ren)(e:MapEntry):MapEntry:={key:=ren Z e.key,val:=ren Z e.val,born:=e.born}
def pK(Z:Ren):Deferred->Deferred
 | {target:=.fn f c,args}=>{target:=.fn (tW Z f) (jk Z c),args:=jk Z args}
 | {target:=.collected r,args}=>{target:=.collected (i4 Z r),args:=jk Z args}
 | {target,args}=>{target,args:=jk Z args}
def uh(D:Nat->Prop):Deferred->Prop
 | {target:=.fn f c,args}=>c_ D (.func f #[] c)/\lF D args
 | {target:=.collected r,args}=>D r/\lF D args
 | {target:=.nil,args}=>lF D args
 | {target:=.builtin ..,args}=>lF D args
 | {target:=.coroexit _,.. }=>False
abbrev dom(Z:Ren):Nat->Prop:=fun b=>(Z b).isSome=Y
structure iW (Z:Ren) (t:Tm) (tmps:Array V):Prop where
 size:tmps.size=t.size
 vals:∀ i v,t.t.A i=U v->c_ (Go.Ab.dom Z) v/\tmps[i]? = U (ren Z v)
def OF(D:Nat->Prop):oU->Prop
 | .loop _ _ t _ _ _ d=>(∀ i v,t.t.A i=U v->c_ D v)/\D d
 | .mapIter m _ _ _ => ∀ b,m=U b->D b
 | _=>True
def kz(Z:Ren)(o:Obj):oU->Prop
 | .loop st T t ps as bd d=>dom Z d/\∃ fn tmps,o=.loop {state:=st,pending:=T,fn,tmps,params:=ps,assign:=as,body:=bd,defers:=i4 Z d}/\iW Z t tmps
 | .defs=>o=.deferred (U [])
 | .strIter s k=>o=.stringIter s k
 | .mapIter m C seen last=>(∀ b,m=U b->dom Z b)/\o=.mapIter (m.map (i4 Z)) C seen last
 | .any=>True
def pw(z n lo hi:Nat):Prop:=lo=hi∨(n<=lo/\z=1)
def pw.not{z n lo hi:Nat}(h:pw z n lo hi):∀ i,i < n->¬ (lo<=i/\i < hi):=by
 intro i hi C;rcases h with h | h <;> omega
def kM(Z:Ren)(p:Place)(w:World):Blk->Prop
 | .cells own sz c=>p.sz=sz/\((own=J/\c=[]) ∨ ∃ C e lo hi,w.heap[p.blk]? = U (.cells C e (lo,hi))/\(∀ i v,c[i]? = U v->C[p.base+i]? = U (ren Z v)/\c_ (dom Z) v/\v.oneCell'=Y) /\
   (own=Y->p.base=0/\pw sz C.size lo hi/\C.size=p.room*p.sz))
 | .map es T=>p.base=0/\w.heap[p.blk]? = U (.map (es.map (i6 Z)) T)/\∀ x ∈ es,flat x.key=Y/\c_ (dom Z) x.val
 | .obj a=>p.base=0/\∃ o,w.heap[p.blk]? = U o/\kz Z o a
def okB(D:Nat->Prop):Blk->Prop
 | .cells _ _ c => ∀ v ∈ c,c_ D v/\v.oneCell'=Y
 | .map C _ => ∀ x ∈ C,flat x.key=Y/\c_ D x.val
 | .obj o=>OF D o
structure Bs where
 n:Nat
 b:Nat
structure bN (G:Bs) (Z:Ren) (h:N) (w:World):Prop where
 dom:∀ b p,Z b=U p->b < h.Q/\True
 fits:∀ b p x,Z b=U p->h.A b=U x->kM Z p w x
 apart:∀ b c p q,Z b=U p->Z c=U q->b≠c->h.own b=Y->h.live c=Y->p.blk≠q.blk
 glob:∀ g,g < G.n->Z g=U ⟨g,0,0,0,O⟩/\h.own g=J
 globs:G.n<=h.Q
 wf:∀ b x,h.A b=U x->okB (fun c=>c < h.Q) x
 base:∀ b p x,Z b=U p->h.A b=U x->(x.own=Y->G.b<=p.blk/\p.spot=O)/\(x.own=J->x.solid=Y->p.blk < G.b/\p.spot=O)
 bsz:G.b<=w.heap.size
def iC(n:Nat)(Z C:Ren):Prop:=∀ b,b < n->C b=Z b
structure f_ (Z:Ren) (h:N) (w:World) (Z':Ren) (h':N) (w':World):Prop where
 size:w.heap.size<=w'.heap.size
 same:∀ k,k < w.heap.size->(∀ b p,Z b=U p->h.own b=Y->p.blk≠k)->w'.heap[k]? = w.heap[k]?
 owns:∀ b p,Z' b=U p->h'.own b=Y->w.heap.size<=p.blk ∨ ∃ c q,Z c=U q/\h.own c=Y/\q.blk=p.blk
 tape:w'.tape=w.tape
 os:w'.os=w.os
 output:w'.output=w.output
 drawn:w.drawn<=w'.drawn
 Q:h.Q<=h'.Q
def iC.refl(n:Nat)(Z:Ren):iC n Z Z:=fun _ _=>rfl
def iC.trans{n m:Nat}{Z β γ:Ren}(h:iC n Z β)(k:iC m β γ)(T:n<=m):iC n Z γ:=fun b C=>(k b jA).trans (h b C)
def iC.mono{n m:Nat}{Z β:Ren}(h:iC m Z β)(C:n<=m):iC n Z β:=fun b T=>h b jA
def f_.refl(Z:Ren)(h:N)(w:World):f_ Z h w Z h w :=
 ⟨ac _,fun _ _ _=>rfl,fun b p C ho => .inr ⟨b,p,C,ho,rfl⟩,rfl,rfl,rfl,ac _,ac _⟩
def f_.trans{Z Z1 Z2:Ren}{h h1 h2:N}{w w1 w2:World}(a:f_ Z h w Z1 h1 w1)(b:f_ Z1 h1 w1 Z2 h2 w2):f_ Z h w Z2 h2 w2:=by
 refine⟨ak a.size b.size,fun k hk hb => ?_,fun c p hc ho => ?_,b.tape.trans a.tape,b.os.trans a.os,b.output.trans a.output,ak a.drawn b.drawn,ak a.Q b.Q⟩
 ·rw[b.same k (aw hk a.size) ?_,a.same k hk hb];intro c p hc ho e;rcases a.owns c p hc ho with h1 | ⟨c0,q,hq,T,C⟩
  ·omega
  ·exact hb c0 q hq T (C.trans e)
 ·rcases b.owns c p hc ho with h1 | ⟨c0,q,hq,T,C⟩
  ·exact .inl (ak a.size h1)
  ·rcases a.owns c0 q hq T with h2 | ⟨c1,q1,h3,hr,hx⟩
   ·exact .inl (C ▸ h2)
   ·exact .inr ⟨c1,q1,h3,hr,hx.trans C⟩
def lJ{G:Bs}{Z:Ren}{h:N}{w:World}(H:bN G Z h w){b:Nat}(T:dom Z b):b < h.Q:=by
 cases C:Z b with
 | none=>simp[dom,C]at T
 | some p=>exact(H.dom b p C).1
def K7{h:N}{b:Nat}(ho:h.own b=Y):h.live b=Y:=by
 unfold N.own at ho;unfold N.live;cases C:h.A b with
 | none=>simp[C]at ho
 | some x=>simp only[C]at ho ⊢;exact gu ho
def vS{h:N}{b:Nat}(ho:h.own b=Y):∃ x,h.A b=U x/\x.own=Y:=by
 unfold N.own at ho;cases C:h.A b with
 | none=>simp[C]at ho
 | some x=>simp only[C]at ho;exact⟨x,rfl,ho⟩
def rH{h:N}{b:Nat}{x:Blk}(C:h.A b=U x):h.own b=x.own:=by simp[N.own,C]
def DK{h:N}{b:Nat}{x:Blk}(C:h.A b=U x):h.live b=x.solid:=by simp[N.live,C]
def bN.blk_lt{G:Bs}{Z:Ren}{h:N}{w:World}(H:bN G Z h w){b:Nat}{p:Place}{x:Blk}(hb:Z b=U p)(hg:h.A b=U x)(hs:x.solid=Y):p.blk < w.heap.size:=by
 have T:=H.fits b p x hb hg;have key:∀ o,w.heap[p.blk]? = U o->p.blk < w.heap.size:=fun o ho=>(Array.getElem?_eq_some_iff.1 ho).1;cases x with
 | cells o z c =>
  rcases T.2 with⟨rfl,rfl⟩ | ⟨C,e,lo,hi,h1,_⟩
  ·cases hs
  ·exact key _ h1
 | map es k=>exact key _ T.2.1
 | obj o=>obtain⟨_,o',h1,_⟩:=T;exact key _ h1
def bN.blk_own{G:Bs}{Z:Ren}{h:N}{w:World}(H:bN G Z h w){b:Nat}{p:Place}(T:Z b=U p)(ho:h.own b=Y):p.blk < w.heap.size:=by
 obtain⟨x,hx,C⟩:=vS ho;exact H.blk_lt T hx (gu C)
def bN.blk_live{G:Bs}{Z:Ren}{h:N}{w:World}(H:bN G Z h w){b:Nat}{p:Place}(C:Z b=U p)(hl:h.live b=Y):p.blk < w.heap.size:=by
 unfold N.live at hl;split at hl
 next x T=>exact H.blk_lt C T hl
 ·cases hl
def bN.spot{G:Bs}{Z:Ren}{h:N}{w:World}(H:bN G Z h w){b:Nat}{p:Place}{x:Blk}(C:Z b=U p)(T:h.A b=U x)(hs:x.solid=Y):p.spot=O:=by
 have h1:=H.base b p x C T;cases ho:x.own with
 | true=>exact(h1.1 ho).2
 | false=>exact(h1.2 ho hs).2
def PT{Z β:Ren}{D:Nat->Prop}(h:∀ b,D b->β b=Z b){x:MapEntry}(C:flat x.key=Y)(hv:c_ D x.val):i6 β x=i6 Z x:=by
 simp[i6,oz,C,ij h x.val hv]
def iW.keep{Z β:Ren}{t:Tm}{tmps:Array V}(h:∀ b,dom Z b->β b=Z b)(T:iW Z t tmps):iW β t tmps :=
 ⟨T.size,fun i v hv=>by
  have h1:=T.vals i v hv;exact⟨h_ (fun b C=>by simpa[dom,h b C]using C) v h1.1,by rw[h1.2,ij h v h1.1]⟩⟩
def kz.keep{Z β:Ren}{o:Obj}{a:oU}(h:∀ b,dom Z b->β b=Z b)(T:kz Z o a):kz β o a:=by
 cases a with
 | loop st hc t ps as bd d =>
  obtain⟨h1,fn,C,h2,h3⟩:=T;exact⟨by simpa[dom,h d h1]using h1,fn,C,by rw[h2,rq (h d h1)],h3.keep h⟩
 | defs=>exact T
 | strIter s k=>exact T
 | mapIter m hx seen last =>
  obtain⟨h1,h2⟩:=T;refine⟨fun b hb=>by have:=h1 b hb;simpa[dom,h b this]using this,?_⟩;rw[h2];cases m with
  | none=>rfl
  | some b=>simp only[aL,rq (h b (h1 b rfl))]
 | any=>trivial
def Jy2{D E:Nat->Prop}(h:∀ b,D b->E b){o:oU}(ho:OF D o):OF E o:=by
 cases o with
 | loop st T t ps as bd d=>exact⟨fun i v hv=>h_ h v (ho.1 i v hv),h _ ho.2⟩
 | defs=>trivial
 | strIter s k=>trivial
 | mapIter m C seen last=>exact fun b hb=>h b (ho b hb)
 | any=>trivial
def kz.ok{Z:Ren}{o:Obj}{a:oU}(T:kz Z o a):OF (dom Z) a:=by
 cases a with
 | loop st hx t ps as bd d =>
  obtain⟨h1,fn,hc,h2,h3⟩:=T;exact⟨fun i v hv=>(h3.vals i v hv).1,h1⟩
 | defs=>trivial
 | strIter s k=>trivial
 | mapIter m C seen last=>exact T.1
 | any=>trivial
def kM.keep{Z β:Ren}{p:Place}{w w':World}{x:Blk}(hf:kM Z p w x)(h:∀ b,dom Z b->β b=Z b)(hw:w'.heap[p.blk]? = w.heap[p.blk]?):kM β p w' x:=by
 have hd:∀ b,dom Z b->dom β b:=fun b hb=>by simpa[dom,h b hb]using hb
 cases x with
 | cells own sz c =>
  obtain⟨hc,hf⟩:=hf;rcases hf with hf | ⟨C,e,lo,hi,h1,T,h3⟩
  ·exact⟨hc,.inl hf⟩
  refine⟨hc,.inr ⟨C,e,lo,hi,by rw[hw,h1],fun i v hv => ?_,h3⟩⟩;obtain⟨a1,a2,a3⟩:=T i v hv;exact⟨by rw[a1,ij h v a2],h_ hd v a2,a3⟩
 | map es hk =>
  obtain⟨h0,h1,T⟩:=hf;refine⟨h0,?_,fun x hx=>⟨(T x hx).1,h_ hd _ (T x hx).2⟩⟩;rw[hw,h1];congr 2;apply dJ;intro x hx;exact(PT h (T x hx).1 (T x hx).2).symm
 | obj o =>
  obtain⟨h0,o',h1,T⟩:=hf;exact⟨h0,o',by rw[hw,h1],T.keep h⟩
def kM.keepS{Z β:Ren}{p:Place}{w w':World}{x:Blk}(C:kM Z p w x)(h:∀ b,dom Z b->β b=Z b)(T:x.solid=Y->w'.heap[p.blk]? = w.heap[p.blk]?):kM β p w' x:=by
 cases hs:x.solid with
 | true=>exact C.keep h (T hs)
 | false =>
  cases x with
  | cells o z l=>cases o <;> cases l <;> simp[Blk.solid]at hs;exact⟨C.1,.inl ⟨rfl,rfl⟩⟩
  | map _ _=>simp[Blk.solid]at hs
  | obj _=>simp[Blk.solid]at hs
def own_set{h:N}{b c:Nat}{x:Option Blk}(C:b < h.Q):(h.set b x).own c=if b=c then(match x with | some y=>y.own | none=>J)else h.own c:=by
 unfold N.own;rw[gY C];by_cases e:b=c
 ·simp only[e,if_true] <;> (cases x <;> rfl)
 ·simp only[e,if_false]
def K6{h:N}{b c:Nat}{x:Option Blk}(C:b < h.Q):(h.set b x).live c=if b=c then(match x with | some y=>y.solid | none=>J)else h.live c:=by
 unfold N.live;rw[gY C];by_cases e:b=c
 ·simp only[e,if_true] <;> (cases x <;> rfl)
 ·simp only[e,if_false]
def AZ{h:N}{c:Nat}{x:Blk}:(h.push x).own c=if h.Q=c then x.own else h.own c:=by
 unfold N.own;rw[N.F];by_cases e:h.Q=c
 ·simp only[e,if_true]
 ·simp only[e,if_false]
def Pb{h:N}{c:Nat}{x:Blk}:(h.push x).live c=if h.Q=c then x.solid else h.live c:=by
 unfold N.live;rw[N.F];by_cases e:h.Q=c
 ·simp only[e,if_true]
 ·simp only[e,if_false]
def Cf{D E:Nat->Prop}(h:∀ b,D b->E b){x:Blk}(C:okB D x):okB E x:=by
 cases x with
 | cells o z c=>exact fun v hv=>⟨h_ h v (C v hv).1,(C v hv).2⟩
 | map es k=>exact fun e T=>⟨(C e T).1,h_ h _ (C e T).2⟩
 | obj o=>exact Jy2 h C
def kM.okB{Z:Ren}{p:Place}{w:World}{x:Blk}(hf:kM Z p w x):Go.Ab.okB (dom Z) x:=by
 cases x with
 | cells o z c =>
  intro v hv;obtain⟨i,hi⟩:=List.getElem?_of_mem hv;rcases hf.2 with⟨_,rfl⟩ | ⟨C,e,lo,hx,h1,T,h3⟩
  ·simp at hv
  ·exact(T i v hi).2
 | map es k=>exact hf.2.2
 | obj o=>obtain⟨h0,o',h1,T⟩:=hf;exact T.ok
def World.turned(w:World)(k:Nat)(o:Obj):World:={w with heap:=w.heap.setIfInBounds k o}
def Am{w:World}{k:Nat}{o:Obj}(h:k < w.heap.size):(World.turned w k o).heap[k]? = U o:=by
 simp[World.turned,h]
def Jmk{w:World}{k j:Nat}{o:Obj}(h:k≠j):(World.turned w k o).heap[j]? = w.heap[j]? := by
 simp[World.turned,h]
section
variable{G:Bs}{Z:Ren}{h:N}{w:World}
def bN.upd(H:bN G Z h w){b:Nat}{p:Place}(hb:Z b=U p)(ho:h.own b=Y){x:Blk}(hx:x.own=Y){o:Obj}
  (hf:kM Z p (World.turned w p.blk o) x):bN G Z (h.set b (U x)) (World.turned w p.blk o)/\f_ Z h w Z (h.set b (U x)) (World.turned w p.blk o):=by
 have h2:=(H.dom b p hb).1;have hp:=H.blk_own hb ho;have Z':=vS ho;constructor
 ·refine⟨fun c q C=>⟨(H.dom c q C).1,trivial⟩,fun c q y C T => ?_,fun c d q r C hd hA hr h3 => ?_,fun g hg => ?_,H.globs,fun c y T => ?_,fun c q y C T => ?_,by simpa[World.turned]using H.bsz⟩
  ·rw[gY h2]at T;split at T
   next e=>subst e;rw[hb]at C;cases C;cases T;exact hf
   ·rename_i e;cases hs:y.solid with
    | true =>
     have hA:=H.apart b c p q hb C e ho (by rw[DK T,hs]);exact(H.fits c q y C T).keep (fun _ _=>rfl) (Jmk hA)
    | false =>
     cases y with
     | cells o z l=>cases o <;> cases l <;> simp[Blk.solid]at hs;exact⟨(H.fits c q _ C T).1,.inl ⟨rfl,rfl⟩⟩
     | map _ _=>simp[Blk.solid]at hs
     | obj _=>simp[Blk.solid]at hs
  ·rw[own_set h2]at hr;rw[K6 h2]at h3;have e2:h.own c=Y:=by
    split at hr
    next e=>exact e ▸ ho
    ·exact hr
   have ls:h.live d=Y:=by
    split at h3
    next e=>exact e ▸ K7 ho
    ·exact h3
   exact H.apart c d q r C hd hA e2 ls
  ·refine⟨(H.glob g hg).1,?_⟩;rw[own_set h2];split
   next e=>subst e;rw[(H.glob b hg).2]at ho;cases ho
   ·exact(H.glob g hg).2
  ·rw[gY h2]at T;split at T
   ·cases T;exact Cf (fun c C=>lJ H C) hf.okB
   ·exact H.wf c y T
  ·rw[gY h2]at T;split at T
   next e=>subst e;rw[hb]at C;cases C;cases T;obtain⟨x0,e1,s1⟩:=Z';exact⟨fun _=>(H.base b p x0 hb e1).1 s1,fun h0=>by rw[hx]at h0;cases h0⟩
   ·exact H.base c q y C T
 ·refine⟨by simp[World.turned],fun k hk hq=>Jmk (hq b p hb ho),fun c q C hr => .inr ⟨c,q,C,?_,rfl⟩,rfl,rfl,rfl,ac _,ac _⟩;rw[own_set h2]at hr;split at hr
  next e=>exact e ▸ ho
  ·exact hr
def bN.kill(H:bN G Z h w){b:Nat}(T:b < h.Q):bN G Z (h.set b O) w/\f_ Z h w Z (h.set b O) w:=by
 constructor
 ·refine⟨H.dom,fun c q y hc hy => ?_,fun c d q r hc hd h2 C hx => ?_,fun g hg => ?_,H.globs,fun c y hy => ?_,fun c q y hc hy => ?_,H.bsz⟩
  ·rw[gY T]at hy;split at hy
   ·cases hy
   ·exact H.fits c q y hc hy
  ·rw[own_set T]at C;rw[K6 T]at hx;split at C
   ·cases C
   ·split at hx
    ·cases hx
    ·exact H.apart c d q r hc hd h2 C hx
  ·refine⟨(H.glob g hg).1,?_⟩;rw[own_set T];split
   ·rfl
   ·exact(H.glob g hg).2
  ·rw[gY T]at hy;split at hy
   ·cases hy
   ·exact H.wf c y hy
  ·rw[gY T]at hy;split at hy
   ·cases hy
   ·exact H.base c q y hc hy
 ·refine⟨ac _,fun _ _ _=>rfl,fun c q hc C => .inr ⟨c,q,hc,?_,rfl⟩,rfl,rfl,rfl,ac _,ac _⟩;rw[own_set T]at C;split at C
  ·cases C
  ·exact C
def Ren.add(Z:Ren)(n:Nat)(p:Place):Ren:=fun b=>if b=n then U p else Z b
def gt(Z:Ren)(n:Nat)(p:Place):iC n Z (Ren.add Z n p):=fun b C=>by simp[Ren.add,Nat.ne_of_lt C]
def gq(Z:Ren)(n:Nat)(p:Place):Ren.add Z n p n=U p:=by simp[Ren.add]
def bN.add_dom(H:bN G Z h w)(p:Place):∀ b,Go.Ab.dom Z b->Ren.add Z h.Q p b=Z b:=fun b C=>gt Z h.Q p b (lJ H C)
def bN.push(H:bN G Z h w){x:Blk}(hx:x.own=Y){p:Place}(hp:p.blk=w.heap.size){o:Obj}{w':World}(e2:w' = {w with heap:=w.heap.push o})
  (hf:kM (Ren.add Z h.Q p) p w' x) (ls:p.spot=O:=by rfl) :
  bN G (Ren.add Z h.Q p) (h.push x) w'/\f_ Z h w (Ren.add Z h.Q p) (h.push x) w':=by
 subst e2;have hA:∀ k,k < w.heap.size->(w.heap.push o)[k]? = w.heap[k]? := fun k hk=>by rw[Array.getElem?_push,if_neg jA]
 have C:∀ c q,Ren.add Z h.Q p c=U q->(c=h.Q/\q=p)∨(c < h.Q/\Z c=U q):=by
  intro c q T;unfold Ren.add at T;split at T
  ·cases T;exact .inl ⟨by assumption,rfl⟩
  ·exact .inr ⟨(H.dom c q T).1,T⟩
 constructor
 ·refine⟨fun c q T => ?_,fun c q y T hy => ?_,fun c d q r T hd Z' hr hb => ?_,fun g hg => ?_,dS H.globs,fun c y hy => ?_,fun c q y T hy => ?_,by have:=H.bsz;simp;omega⟩
  ·rcases C c q T with⟨rfl,rfl⟩ | ⟨h1,h2⟩
   ·exact⟨bX _,by simp[hp]⟩
   ·exact⟨cg h1,trivial⟩
  ·rw[N.F]at hy;rcases C c q T with⟨rfl,rfl⟩ | ⟨h1,h2⟩
   ·simp only[if_true]at hy;cases hy;exact hf
   ·rw[if_neg jA]at hy;exact(H.fits c q y h2 hy).keepS (H.add_dom p) fun hs=>hA _ (H.blk_lt h2 hy hs)
  ·rw[AZ]at hr;rw[Pb]at hb;rcases C c q T with⟨rfl,rfl⟩ | ⟨h1,h2⟩
   ·rcases C d r hd with⟨rfl,rfl⟩ | ⟨h3,h4⟩
    ·exact absurd rfl Z'
    ·rw[if_neg jA]at hb;have:=H.blk_live h4 hb;omega
   ·rcases C d r hd with⟨rfl,rfl⟩ | ⟨h3,h4⟩
    ·rw[if_neg jA]at hr;have:=H.blk_own h2 hr;omega
    ·rw[if_neg jA]at hr;rw[if_neg jA]at hb;exact H.apart c d q r h2 h4 Z' hr hb
  ·have:=H.globs;refine⟨by rw[gt Z h.Q p g jA];exact(H.glob g hg).1,?_⟩;rw[AZ,if_neg jA];exact(H.glob g hg).2
  ·rw[N.F]at hy;split at hy
   ·cases hy;refine Cf (fun c T => ?_) hf.okB;obtain⟨q,hq⟩:=aJ.1 T;rcases C c q hq with⟨rfl,_⟩ | ⟨h1,_⟩
    ·exact bX _
    ·exact cg h1
   ·exact Cf (fun c T=>cg T) (H.wf c y hy)
  ·rw[N.F]at hy;rcases C c q T with⟨rfl,rfl⟩ | ⟨h1,h2⟩
   ·simp only[if_true]at hy;cases hy;exact⟨fun _=>⟨by rw[hp];exact H.bsz,ls⟩,fun h0=>by rw[hx]at h0;cases h0⟩
   ·rw[if_neg jA]at hy;exact H.base c q y h2 hy
 ·refine⟨kA,fun k hk _=>hA k hk,fun c q T hr => ?_,rfl,rfl,rfl,ac _,bn _⟩;rcases C c q T with⟨rfl,rfl⟩ | ⟨h1,h2⟩
  ·exact .inl jA
  ·rw[AZ,if_neg jA]at hr;exact .inr ⟨c,q,h2,hr,rfl⟩
def bN.alias(H:bN G Z h w){p:Place}(hp:True) :
  bN G (Ren.add Z h.Q p) (h.push (S J p.sz [])) w/\f_ Z h w (Ren.add Z h.Q p) (h.push (S J p.sz [])) w:=by
 have C:∀ c q,Ren.add Z h.Q p c=U q->(c=h.Q/\q=p)∨(c < h.Q/\Z c=U q):=by
  intro c q hc;unfold Ren.add at hc;split at hc
  ·cases hc;exact .inl ⟨by assumption,rfl⟩
  ·exact .inr ⟨(H.dom c q hc).1,hc⟩
 constructor
 ·refine⟨fun c q hc => ?_,fun c q y hc hy => ?_,fun c d q r hc hd hk T hx => ?_,fun g hg => ?_,dS H.globs,fun c y hy => ?_,fun c q y hc hy => ?_,H.bsz⟩
  ·rcases C c q hc with⟨rfl,rfl⟩ | ⟨h1,h2⟩
   ·exact⟨bX _,hp⟩
   ·exact⟨cg h1,(H.dom c q h2).2⟩
  ·rw[N.F]at hy;rcases C c q hc with⟨rfl,rfl⟩ | ⟨h1,h2⟩
   ·simp only[if_true]at hy;cases hy;exact⟨rfl,.inl ⟨rfl,rfl⟩⟩
   ·rw[if_neg jA]at hy;exact(H.fits c q y h2 hy).keep (H.add_dom p) rfl
  ·rw[AZ]at T;rw[Pb]at hx;rcases C c q hc with⟨rfl,rfl⟩ | ⟨h1,h2⟩
   ·simp[Blk.own]at T
   ·rcases C d r hd with⟨rfl,rfl⟩ | ⟨h3,h4⟩
    ·simp[Blk.solid]at hx
    ·rw[if_neg jA]at T;rw[if_neg jA]at hx;exact H.apart c d q r h2 h4 hk T hx
  ·have:=H.globs;refine⟨by rw[gt Z h.Q p g jA];exact(H.glob g hg).1,?_⟩;rw[AZ,if_neg jA];exact(H.glob g hg).2
  ·rw[N.F]at hy;split at hy
   ·cases hy;intro v hv;simp at hv
   ·exact Cf (fun c hc=>cg hc) (H.wf c y hy)
  ·rw[N.F]at hy;rcases C c q hc with⟨rfl,rfl⟩ | ⟨h1,h2⟩
   ·simp only[if_true]at hy;cases hy;exact⟨fun h0=>(by cases h0),fun _ h0=>(by cases h0)⟩
   ·rw[if_neg jA]at hy;exact H.base c q y h2 hy
 ·refine⟨ac _,fun k _ _=>rfl,fun c q hc T => ?_,rfl,rfl,rfl,ac _,bn _⟩;rw[AZ]at T;rcases C c q hc with⟨rfl,rfl⟩ | ⟨h1,h2⟩
  ·simp[Blk.own]at T
  ·rw[if_neg jA]at T;exact .inr ⟨c,q,h2,T,rfl⟩
def bN.same(H:bN G Z h w){w':World}(hh:w'.heap=w.heap):bN G Z h w' :=
 ⟨H.dom,fun b p x C T=>(H.fits b p x C T).keep (fun _ _=>rfl) (by rw[hh]),H.apart,H.glob,H.globs,H.wf,H.base,by rw[hh];exact H.bsz⟩
def f_.drew(Z:Ren)(h:N)(w:World){n:Nat}(T:w.drawn<=n):f_ Z h w Z h {w with drawn:=n} :=
 ⟨ac _,fun _ _ _=>rfl,fun b p C ho => .inr ⟨b,p,C,ho,rfl⟩,rfl,rfl,rfl,T,ac _⟩
end
def uv{h h':N}{b:Nat}(C:h'.A b=h.A b):h'.own b=h.own b:=by simp[N.own,C]
def PQ{h h':N}{b:Nat}(C:h'.A b=h.A b):h'.live b=h.live b:=by simp[N.live,C]
section
variable{G:Bs}{Z:Ren}{h:N}{w:World}
def uB{Z:Ren}{b:Nat}{p:Place}(h:Z b=U p):dom Z b:=by simp[dom,h]
def bN.congr(H:bN G Z h w){h':N}(hn:G.n<=h'.Q)(hd:∀ b,Go.Ab.dom Z b->b < h'.Q)(hg:∀ b,Go.Ab.dom Z b->h'.A b=h.A b)(hk:∀ b x,h'.A b=U x->okB (fun c=>c < h'.Q) x):bN G Z h' w :=
  ⟨fun b p C=>⟨hd b (uB C),(H.dom b p C).2⟩,fun b p x C hx=>H.fits b p x C (by rw[<- hg b (uB C)];exact hx),
   fun b c p q C hc h2 ho hl=>H.apart b c p q C hc h2 (by rw[<- uv (hg b (uB C))];exact ho) (by rw[<- PQ (hg c (uB hc))];exact hl),
   fun g T=>⟨(H.glob g T).1,by rw[uv (hg g (uB (H.glob g T).1))];exact(H.glob g T).2⟩,hn,hk,
   fun b p x C hx=>H.base b p x C (by rw[<- hg b (uB C)];exact hx),H.bsz⟩
def f_.heap{Z T:Ren}{h h' C:N}{w w':World}(t:f_ Z h w T h' w')(hg:∀ b,dom T b->C.A b=h'.A b)(hn:h'.Q<=C.Q):f_ Z h w T C w' :=
 ⟨t.size,t.same,fun b p hb ho=>t.owns b p hb (by rw[<- uv (hg b (uB hb))];exact ho),t.tape,t.os,t.output,t.drawn,ak t.Q hn⟩
end
structure ib where
 desc:TypeDesc
 size:Nat
 bytes:Nat
 zero:V
 leaf:List Nat
def Ax:Nat->V->V->Option Bool
 | 1,.int k a,.int j b=>if k=j then U (a == b)else O
 | 2,.bool a,.bool b=>U (a == b)
 | 3,.string a,.string b=>U (a == b)
 | _,_,_=>O
def jz:List Nat->List V->List V->Option Bool
 | [],[],[]=>U Y
 | l::C,x::T,y::ys =>
  match Ax l x y,jz C T ys with
  | some a,U b=>U (a && b)
  | _,_=>O
 | _,_,_=>O
def TG(P:Program)(t:TypeId)(leaf:List Nat):Prop :=
 leaf ≠ []->P.eqGuardType P.depth t=J/\(∀ (C T:List V) (b:Bool) (w:World),jz leaf C T=U b->(Op.equal t (.agg C.toArray) (.agg T.toArray)).run P w=.ok b w) /\
  ∀ (em:Bool) (C:List V) (w:World),L C=L leaf->(Instr.checkKey em 10000 t (.agg C.toArray)).run P w=.ok () w
def vx(P:Program)(t:TypeId)(r:ib):Prop :=
 P.underlying t=U r.desc/\∃ i,P.info? t=U i/\i.size=r.size/\i.bytes=r.bytes/\i.zero=U r.zero/\flat r.zero=Y/\lN r.zero=Y/\r.zero.cells.size=r.size/\TG P t r.leaf
def jO:TypeDesc->Bool
 | .struct _ | .array _ _=>Y
 | _=>J
def iW.put{Z:Ren}{t:Tm}{tmps:Array V}(h:iW Z t tmps){i:Nat}{v:V}(hi:i < t.size)(hv:c_ (dom Z) v):iW Z (t.put i v) (tmps.setIfInBounds i (ren Z v)):=by
 refine⟨by simp[Tm.put,h.size],fun j u C => ?_⟩;simp only[Tm.put,Tr.H]at C;split at C
 next e=>subst e;cases C;exact⟨hv,by rw[Array.getElem?_setIfInBounds];simp[h.size,hi]⟩
 next e=>have:=h.vals j u C;exact⟨this.1,by rw[Array.getElem?_setIfInBounds,if_neg e];exact this.2⟩
def iW.ext{G:Bs}{Z β:Ren}{h:N}{w:World}{t:Tm}{tmps:Array V}(H:bN G Z h w)(he:iC h.Q Z β)(T:iW Z t tmps):iW β t tmps:=by
 refine⟨T.size,fun i v hv => ?_⟩;have:=T.vals i v hv;have hd:∀ b,dom Z b->β b=Z b:=fun b C=>he b (lJ H C);exact⟨h_ (fun b C=>by simpa[dom,hd b C]using C) v this.1,by rw[this.2,ij hd v this.1]⟩
def g_(G:Bs)(t:Tm):Operand->Option V
 | .tmp i=>t.t.A i
 | .const v=>if flat v then U v else O
 | .global g=>if g < G.n then U (.pointer (U ⟨g,0,O⟩))else O
 | .func f=>U (.func (.func f) #[] #[])
def uX{G:Bs}{Z:Ren}{h:N}{w:World}(H:bN G Z h w){t:Tm}{a:Act}(ht:iW Z t a.tmps){x:Operand}{v:V}(C:g_ G t x=U v) :
  c_ (dom Z) v/\a.eval x=ren Z v:=by
 cases x with
 | tmp i =>
  have:=ht.vals i v C;exact⟨this.1,by simp[Act.eval,Array.getD_eq_getD_getElem?,this.2]⟩
 | const c =>
  simp only[g_]at C;split at C
  next T=>cases C;exact⟨iK _ _ T,by rw[oz Z T];rfl⟩
  ·cases C
 | global g =>
  simp only[g_]at C;split at C
  next hg=>cases C;have:=(H.glob g hg).1;exact⟨by simp[c_,dom,this],by simp[Act.eval,ren,jv,this]⟩
  ·cases C
 | func f =>
  simp only[g_,av]at C;subst C;exact⟨by simp[c_,lF,mO],by simp[Act.eval,ren,tW,jk,jT]⟩
def nF:Nat->List V->Option (List V)
 | 0,_=>U []
 | n+1,v::l=>(nF n l).map (v :: ·)
 | _+1,[]=>O
def Cb:∀ (n:Nat) (l r:List V),nF n l=U r->L r=n/\∀ (i:Nat) (v:V),r[i]? = U v->l[i]? = U v
 | 0,l,r,h=>by simp[nF]at h;subst h;simp
 | n+1,[],r,h=>by simp[nF]at h
 | n+1,v::l,r,h=>by
  simp only[nF,aj]at h;obtain⟨r',hr,rfl⟩:=h;obtain⟨h1,T⟩:=Cb n l r' hr;refine⟨by simp[h1],fun i u C => ?_⟩;cases i with
  | zero=>simpa using C
  | succ i=>simp only[List.getElem?_cons_succ]at C ⊢;exact T i u C
def over:List V->List V->Option (List V)
 | c,[]=>U c
 | _::c,v::l=>(over c l).map (v :: ·)
 | [],_::_=>O
def mM:List V->Nat->List V->Option (List V)
 | c,0,l=>over c l
 | x::c,n+1,l=>(mM c n l).map (x :: ·)
 | [],_+1,[]=>U []
 | [],_+1,_::_=>O
def Jgt:∀ (c l r:List V),over c l=U r->L r=L c/\L l<=L c/\∀ i,r[i]? = if i < L l then l[i]? else c[i]?
 | c,[],r,h=>by cases c <;> (simp only[over,av]at h;subst h;simp)
 | x::c,v::l,r,h=>by
  simp only[over,aj]at h;obtain⟨r',hr,rfl⟩:=h;obtain⟨h1,C,T⟩:=Jgt c l r' hr;refine⟨by simp[h1],by simpa using C,fun i => ?_⟩;cases i with
  | zero=>simp
  | succ i=>simp only[List.getElem?_cons_succ,bm,Nat.succ_lt_succ_iff];exact T i
 | [],_::_,r,h=>by simp[over]at h
def QN:∀ (c:List V) (n:Nat) (l r:List V),mM c n l=U r->L r=L c/\(l=[]∨n+L l<=L c)/\∀ i,r[i]? = if n<=i/\i < n+L l then l[i-n]? else c[i]?
 | c,0,l,r,h=>by
  have h':over c l=U r:=by cases c <;> simpa[mM]using h
  obtain⟨h1,C,T⟩:=Jgt c l r h';exact⟨h1,.inr jA,fun i=>by simp[T i]⟩
 | x::c,n+1,l,r,h=>by
  simp only[mM,aj]at h;obtain⟨r',hr,rfl⟩:=h;obtain⟨h1,C,T⟩:=QN c n l r' hr;refine⟨by simp[h1],C.imp id (fun C=>by simp;omega),fun i => ?_⟩;cases i with
  | zero=>simp
  | succ i =>
   simp only[List.getElem?_cons_succ,T i,Nat.add_le_add_iff_right,Nat.add_sub_add_right];by_cases hc:n<=i/\i < n+L l
   ·rw[if_pos hc,if_pos ⟨hc.1,jA⟩]
   ·rw[if_neg hc,if_neg jA]
 | [],n+1,[],r,h=>by simp[mM]at h;subst h;simp
 | [],_+1,_::_,r,h=>by simp[mM]at h
def cellsAt(h:N)(a:Addr)(n:Nat):Option (List V) :=
 match h.A a.block with
 | some (.cells _ _ c)=>nF n (c.drop a.off)
 | _=>O
def r9(g o n:Nat):(⟨g,o,O⟩:Addr).add n=⟨g,o+n,O⟩:=by unfold Addr.add;split <;> simp_all
section
variable{P:Program}{G:Bs}{Z:Ren}{h:N}{w:World}
def Ev(H:bN G Z h w){a:Addr}(ha:dom Z a.block)(hs:a.spot=O){n:Nat}{l:List V}(hl:cellsAt h a n=U l) :
  L l=n/\(∀ v ∈ l,c_ (dom Z) v/\v.oneCell'=Y)/\∀ j v,(l.map (ren Z))[j]? = U v->w.cell? ((jv Z a).add j)=U v:=by
 obtain⟨p,hp⟩:=aJ.1 ha;unfold cellsAt at hl;cases hg:h.A a.block with
 | none=>simp[hg]at hl
 | some x =>
  cases x with
  | map _ _=>simp[hg]at hl
  | obj _=>simp[hg]at hl
  | cells own sz c =>
   simp only[hg]at hl;obtain⟨h1,h2⟩:=Cb _ _ _ hl;rcases(H.fits a.block p _ hp hg).2 with⟨_,rfl⟩ | ⟨C,e,lo,hi,f1,f2,f3⟩
   ·have hc:l=[]:=by
     cases l with
     | nil=>rfl
     | cons v r=>have:=h2 0 v kA;simp at this
    subst hc;exact⟨h1,kA,kA⟩
   ·have T:∀ i v,l[i]? = U v->C[p.base+(a.off+i)]? = U (ren Z v)/\c_ (dom Z) v/\v.oneCell'=Y:=by
     intro i v hx;have:=h2 i v hx;rw[List.getElem?_drop]at this;exact f2 _ _ this
    refine⟨h1,fun v hv => ?_,fun j v hv => ?_⟩
    ·obtain⟨i,hx⟩:=List.getElem?_of_mem hv;exact(T i v hx).2
    ·rw[List.getElem?_map,aj]at hv;obtain⟨u,hu,rfl⟩:=hv;have:=(T j u hu).1;have hk:p.spot=O:=by
      refine H.spot hp hg ?_;have h3:=h2 j u hu;cases c with
      | nil=>simp at h3
      | cons _ _=>cases own <;> rfl
     simp only[jv,hp,hk,ite_self];rw[r9];simp only[World.cell?,f1];simpa[d5]using this
def Km(H:bN G Z h w){a:Addr}(T:dom Z a.block)(hs:a.spot=O){n:Nat}{l:List V}(hl:cellsAt h a n=U l) :
  (loadCells (jv Z a) n).run P w=.ok (l.map (ren Z)).toArray w:=by
 obtain⟨h1,_,C⟩:=Ev H T hs hl;have:=run_loadCells_list (P:=P) w (jv Z a) (l.map (ren Z)) C;rwa [aM,h1]at this
def Bw(r:ib)(h:N)(a:Addr):Option V :=
 if jO r.desc then(cellsAt h a r.size).map fun l => .agg l.toArray
 else match cellsAt h a 1 with
  | some [v]=>U v
  | _=>O
def Zee{t:TypeId}{r:ib}(C:vx P t r)(w:World):(isAgg t).run P w=.ok (jO r.desc) w:=by
 simp only[isAgg,aq,run_underlying C.1,ae];cases r.desc <;> rfl
def qG{t:TypeId}{r:ib}(C:vx P t r)(w:World):(sizeOf t).run P w=.ok r.size w:=by
 obtain⟨_,i,hi,h1,_⟩:=C;simp[sizeOf,typeInfo,hi,h1]
def uw{t:TypeId}{r:ib}(T:vx P t r)(w:World):(zeroValue t).run P w=.ok r.zero w:=by
 obtain⟨_,i,hi,h1,h2,C,_⟩:=T;simp[zeroValue,typeInfo,hi,C]
def Yvs(H:bN G Z h w){t:TypeId}{r:ib}(hr:vx P t r){a:Addr}(T:dom Z a.block)(hs:a.spot=O){v:V}(hv:Bw r h a=U v) :
  c_ (dom Z) v/\(loadVar t (jv Z a)).run P w=.ok (ren Z v) w:=by
 unfold Bw at hv;simp only[loadVar,aq,Zee hr,ae];split at hv
 next C=>rw[aj]at hv;obtain⟨l,hl,rfl⟩:=hv;refine⟨Me _ _ (Ev H T hs hl).2.1,?_⟩;simp[C,qG hr,Km H T hs hl]
 ·rename_i C;split at hv
  next u hl=>cases hv;obtain⟨_,h2,h3⟩:=Ev H T hs hl;refine⟨(h2 v kA).1,?_⟩;have hc:=h3 0 (ren Z v) kA;have hb:(jv Z a).add 0=jv Z a:=rfl;rw[hb]at hc;simp[C,run_load,hc]
  ·cases hv
def storeAt(h:N)(a:Addr)(l:List V):Option N :=
 match h.A a.block with
 | some (S Y sz c)=>(mM c a.off l).map fun C=>h.set a.block (U (S Y sz C))
 | _=>O
def Zpk{w:World}{g:Nat}{o:Obj}(T:w.heap[g]? = U o):World.turned w g o=w:=by
 have hh:w.heap.setIfInBounds g o=w.heap:=by
  apply Array.ext_getElem?;intro i;rw[Array.getElem?_setIfInBounds];split
  ·rename_i e';subst e';have C:g < w.heap.size:=by
    rcases bJ g w.heap.size with h | h
    ·exact h
    ·simp[Array.getElem?_eq_none h]at T
   rw[if_pos C,T]
  ·rfl
 simp[World.turned,hh]
def Z1y{w:World}{g o e lo hi:Nat}{C:Array V}(v:V)(hg:w.heap[g]? = U (.cells C e (lo,hi))):w.setCell ⟨g,o,O⟩ v=World.turned w g (.cells (C.setIfInBounds o v) e (lo,hi)):=by
 simp only[World.setCell,World.turned];congr 1;apply Array.ext_getElem?;intro i;rw[Array.getElem?_modify,Array.getElem?_setIfInBounds];by_cases T:g=i
 ·subst T;have hx:g < w.heap.size:=by
   rcases bJ g w.heap.size with h | h
   ·exact h
   ·simp[Array.getElem?_eq_none h]at hg
  rw[if_pos rfl,if_pos rfl,if_pos hx,hg];rfl
 ·rw[if_neg T,if_neg T]
def SH(g e:Nat)(lo hi:Nat):∀ (l:List V) (o:Nat) (C:Array V) (w:World),w.heap[g]? = U (.cells C e (lo,hi)) ->
  (∀ i,i < C.size->¬ (lo<=i/\i < hi))->o+L l<=C.size->(∀ v ∈ l,v.oneCell'=Y)->∀ k off,off+k=o ->
  ∃ C',(storeCells ⟨g,off,O⟩ l k).run P w=.ok () (World.turned w g (.cells C' e (lo,hi)))/\C'.size=C.size/\∀ i,C'[i]? = if o<=i/\i < o+L l then l[i-o]? else C[i]?
 | [],o,C,w,hg,_,_,_,k,off,_=>by
  refine⟨C,?_,rfl,fun i=>by rw[if_neg kA]⟩;rw[Zpk hg];rfl
 | v::l,o,C,w,hg,hz,hl,h1,k,off,hk=>by
  simp only[bm]at hl;have hb:g < w.heap.size:=by
   rcases bJ g w.heap.size with h | h
   ·exact h
   ·simp[Array.getElem?_eq_none h]at hg
  have T:w.cell? ⟨g,o,O⟩=U C[o]:=by simp[World.cell?,hg]
  have h2:w.frozen? ⟨g,o,O⟩=J:=by
   have:=hz o jA;simp[World.frozen?,hg];omega
  have hx:=Z1y (o:=o) v hg;have h3:(store ((⟨g,off,O⟩:Addr).add k) v).run P w=.ok () (World.turned w g (.cells (C.setIfInBounds o v) e (lo,hi))):=by
   rw[r9,hk,run_store P w _ v _ (h1 v kA),T,h2,hx];simp
  obtain⟨C',r1,r2,r3⟩:=SH g e lo hi l (o+1) (C.setIfInBounds o v) (World.turned w g (.cells (C.setIfInBounds o v) e (lo,hi))) (Am hb)
   (by simpa using hz) (by simp;omega) (fun u hu=>h1 u (by simp[hu])) (k+1) off jA
  refine⟨C',?_,by simpa using r2,fun i => ?_⟩
  ·simp only[storeCells,aq,h3,ae,r1];simp[World.turned]
  ·rw[r3 i];by_cases hr:i=o
   ·subst hr;rw[if_neg jA,if_pos kA];simp[show i < C.size by omega]
   ·by_cases hc:o+1<=i/\i < o+1+L l
    ·rw[if_pos hc,if_pos (by simp;omega),show i-o=(i-(o+1))+1 by omega,List.getElem?_cons_succ]
    ·rw[if_neg hc,if_neg (by simp;omega),Array.getElem?_setIfInBounds,if_neg jA]
def HP(H:bN G Z h w){a:Addr}(ha:dom Z a.block)(hs:a.spot=O){l:List V}(hl:∀ v ∈ l,c_ (dom Z) v/\v.oneCell'=Y){h':N}(hh:storeAt h a l=U h') :
  ∃ w',(storeCells (jv Z a) (l.map (ren Z))).run P w=.ok () w'/\bN G Z h' w'/\f_ Z h w Z h' w':=by
 obtain⟨p,hp⟩:=aJ.1 ha;unfold storeAt at hh;split at hh
 ·rename_i sz c hg;rw[aj]at hh;obtain⟨c',hr,rfl⟩:=hh;obtain⟨s1,s2,s3⟩:=QN _ _ _ _ hr;have hx:=H.fits a.block p _ hp hg;rcases hx.2 with⟨h0,_⟩ | ⟨C,e,lo,hi,f1,f2,f3⟩
  ·cases h0
  obtain⟨T,f32,hk⟩:=f3 rfl;have Z':L c<=C.size:=by
   rcases bJ C.size (L c) with hA | h3
   ·have:=(f2 C.size _ (List.getElem?_eq_getElem hA)).1;simp[T]at this
   ·exact h3
  rcases s2 with h2 | s2
  ·subst h2;have hb:c'=c:=by
    apply List.ext_getElem?;intro i;rw[s3 i,if_neg (by simp only[da];omega)]
   subst hb;have hw:=Zpk f1;have:=H.upd hp (rH hg) (x:=S Y sz c') rfl (o:=.cells C e (lo,hi)) (by rw[hw];exact hx);rw[hw]at this;exact⟨w,by simp[storeCells],this.1,this.2⟩
  ·obtain⟨C',r1,r2,r3⟩:=SH (P:=P) p.blk e lo hi (l.map (ren Z)) a.off C w f1 f32.not (by simp;omega)
    (fun v hv=>by obtain⟨u,hu,rfl⟩:=am.1 hv;rw[Zn0];exact(hl u hu).2) 0 a.off jA
   refine⟨World.turned w p.blk (.cells C' e (lo,hi)),?_,?_⟩
   ·simp only[jv,hp,T,H.spot hp hg rfl,ite_self,bK];exact r1
   ·refine H.upd hp (rH hg) rfl ⟨hx.1,.inr ⟨C',e,lo,hi,Am (H.blk_lt hp hg rfl),fun i v hv => ?_,fun _=>⟨T,by rw[r2];exact f32,by rw[r2];exact hk⟩⟩⟩;rw[s3 i]at hv;rw[T,bK,r3 i];simp only[aM];split
    next hc=>rw[if_pos hc]at hv;refine⟨by rw[List.getElem?_map,hv];rfl,?_⟩;exact hl v (List.mem_of_getElem? hv)
    next hc=>rw[if_neg hc]at hv;have:=f2 i v hv;rwa [T,bK]at this
 ·cases hh
def BR(r:ib)(h:N)(a:Addr)(v:V):Option N :=
 if lN v && v.cells.size == r.size then storeAt h a v.cells.toList else O
def Zty(H:bN G Z h w){t:TypeId}{r:ib}(hr:vx P t r){a:Addr}(T:dom Z a.block)(hs:a.spot=O){v:V}(hv:c_ (dom Z) v){h':N}(hh:BR r h a v=U h') :
  ∃ w',(storeVar t (jv Z a) (ren Z v)).run P w=.ok () w'/\bN G Z h' w'/\f_ Z h w Z h' w':=by
 unfold BR at hh;split at hh
 next C=>simp only[au,beq_iff_eq]at C;obtain⟨w',r1,r2,r3⟩:=HP (P:=P) H T hs (fun u hu=>L8 _ v hv C.1 u (by simpa using hu)) hh;refine⟨w',?_,r2,r3⟩;simp[storeVar,qG hr,Px,C.2,bL,r1]
 ·cases hh
def Y8x(H:bN G Z h w)(e:TypeId){l:List V}(hl:∀ v ∈ l,c_ (dom Z) v/\v.oneCell'=Y) :
  ∃ C w',(newRow e (l.map (ren Z)).toArray).run P w=.ok ⟨w.heap.size,0,O⟩ w'/\jv C ⟨h.Q,0,O⟩=⟨w.heap.size,0,O⟩/\dom C h.Q/\iC h.Q Z C /\
   bN G C (h.push (S Y 1 l)) w'/\f_ Z h w C (h.push (S Y 1 l)) w':=by
 refine⟨Ren.add Z h.Q ⟨w.heap.size,0,L l,1,O⟩,_,rfl,?_,?_,gt _ _ _,?_⟩
 ·simp[jv,gq]
 ·simp[dom,gq]
 ·refine H.push rfl rfl rfl ⟨rfl,.inr ⟨(l.map (ren Z)).toArray,e,0,0,kA,fun i v hv => ?_,fun _=>⟨rfl,.inl rfl,kA⟩⟩⟩;have T:=hl v (List.mem_of_getElem? hv);have hd:∀ b,dom Z b->Ren.add Z h.Q ⟨w.heap.size,0,L l,1,O⟩ b=Z b:=H.add_dom _;refine⟨?_,h_ (fun b hb=>by simpa[dom,hd b hb]using hb) v T.1,T.2⟩;rw[ij hd v T.1];simp[hv]
end
structure iS (P:Program) where
 ty:Tr ib
 K:∀ t r,ty.A t=U r->vx P t r
 G:Bs
def e_(P:Program)(G:Bs)(Z:Ren)(h:N)(w:World)(s:Sem V)(v:V)(h':N):Prop :=
 ∃ C T,s.run P w=.ok (ren C v) T/\c_ (dom C) v/\iC h.Q Z C/\bN G C h' T/\f_ Z h w C h' T
section
variable{P:Program}{G:Bs}{Z:Ren}{h:N}{w:World}
def e_.plain(H:bN G Z h w){s:Sem V}{v:V}(hv:c_ (dom Z) v)(C:s.run P w=.ok (ren Z v) w):e_ P G Z h w s v h :=
 ⟨Z,w,C,hv,iC.refl _ _,H,f_.refl _ _ _⟩
def e_.flat(H:bN G Z h w){s:Sem V}{v:V}(hv:Go.Ab.flat v=Y)(C:s.run P w=.ok v w):e_ P G Z h w s v h :=
 e_.plain H (iK _ _ hv) (by rw[oz Z hv];exact C)
def UB:Sem V->Option V
 | .pure v=>U v
 | _=>O
def J0t{s:Sem V}{v:V}(hs:UB s=U v)(w:World):s.run P w=.ok v w:=by
 cases s <;> simp[UB]at hs;subst hs;rfl
def jy(E:iS P)(t:TypeId)(x:V)(h:N):Option V :=
 match x,E.ty.A t with
 | .pointer (U a),U r=>Bw r h a
 | _,_=>O
def J8x(E:iS P)(H:bN E.G Z h w){t:TypeId}{x v:V}(C:c_ (dom Z) x)(hv:jy E t x h=U v) :
  e_ P E.G Z h w (Instr.loadAt t (ren Z x)) v h:=by
 unfold jy at hv;split at hv
 next a r T=>simp only[c_]at C;have:=Yvs (P:=P) H (E.K t r T) C.1 C.2 hv;exact e_.plain H this.1 (by simp[Instr.loadAt,Instr.sureAddr,ren,this.2])
 ·cases hv
def j0(E:iS P)(t:TypeId)(x v:V)(h:N):Option N :=
 match x,E.ty.A t with
 | .pointer (U a),U r=>BR r h a v
 | _,_=>O
def J04(E:iS P)(H:bN E.G Z h w){t:TypeId}{x v:V}{h':N}(C:c_ (dom Z) x)(hv:c_ (dom Z) v)(hh:j0 E t x v h=U h') :
  ∃ w',(Instr.storeAt t (ren Z x) (ren Z v)).run P w=.ok () w'/\bN E.G Z h' w'/\f_ Z h w Z h' w':=by
 unfold j0 at hh;split at hh
 next a r T=>simp only[c_]at C;obtain⟨w',r1,r2,r3⟩:=Zty (P:=P) H (E.K t r T) C.1 C.2 hv hh;exact⟨w',by simp[Instr.storeAt,Instr.sureAddr,ren,r1],r2,r3⟩
 ·cases hh
def J02(H:bN G Z h w)(e:TypeId){l:List V}(hl:∀ v ∈ l,c_ (dom Z) v/\v.oneCell'=Y) :
  e_ P G Z h w (do pure (.pointer (U (<- newRow e (l.map (ren Z)).toArray)))) (.pointer (U ⟨h.Q,0,O⟩)) (h.push (S Y 1 l)):=by
 obtain⟨C,w',T,r2,r3,r4,r5,r6⟩:=Y8x (P:=P) H e hl;exact⟨C,w',by simp[T,ren,r2],by simp only[c_];exact⟨r3,trivial⟩,r4,r5,r6⟩
def Zvh(H:bN G Z h w)(e:TypeId){l:List V}(hl:∀ v ∈ l,c_ (dom Z) v/\v.oneCell'=Y)(n c:Nat)(T:c≠iJ) :
  e_ P G Z h w (do pure (M (U (<- newRow e (l.map (ren Z)).toArray)) n c)) (M (U ⟨h.Q,0,O⟩) n c) (h.push (S Y 1 l)):=by
 obtain⟨C,w',r1,r2,r3,r4,r5,r6⟩:=Y8x (P:=P) H e hl;exact⟨C,w',by simp[r1,ren,r2,uj,T],by simp only[c_];exact⟨r3,trivial⟩,r4,r5,r6⟩
def jh(E:iS P)(t:TypeId)(h:N):Option (V × N) :=
 match E.ty.A t with
 | some r=>U (.pointer (U ⟨h.Q,0,O⟩),h.push (S Y 1 r.zero.cells.toList))
 | none=>O
def wP(Z:Ren)(l:List V)(h:∀ v ∈ l,flat v=Y):l.map (ren Z)=l:=by
 induction l with
 | nil=>rfl
 | cons v l ih=>simp[oz Z (h v kA),ih fun u C=>h u (by simp[C])]
def En{z:V}(T:flat z=Y)(C:lN z=Y)(D:Nat->Prop):∀ v ∈ z.cells.toList,c_ D v/\v.oneCell'=Y :=
 fun v hv=>L8 D z (iK D z T) C v (by simpa using hv)
def J60{c:Array V}(C:flat (.agg c)=Y):∀ v ∈ c.toList,flat v=Y:=by
 simp only[flat,au]at C;have : ∀ l:List V,j9 l=Y->∀ v ∈ l,flat v=Y:=by
  intro l;induction l with
  | nil=>simp
  | cons u l ih=>intro hl v hv;simp only[j9,au]at hl;rcases ao.1 hv with rfl | h;exact hl.1;exact ih hl.2 v h
 cases c;exact this _ (by simpa[i5]using C.1)
def E6{z:V}(C:flat z=Y)(T:lN z=Y):∀ v ∈ z.cells.toList,flat v=Y:=by
 cases z <;> simp only[Value.cells] <;>
  first
   | exact J60 C
   | (intro v hv;simp only[aU]at hv;subst hv;exact C)
   | simp[lN]at T
def J1r(E:iS P)(H:bN E.G Z h w){t:TypeId}{v old:V}{h':N}(hh:jh E t h=U (v,h')) :
  e_ P E.G Z h w (Instr.alloc t Y old) v h':=by
 unfold jh at hh;split at hh
 next r hr=>cases hh;have ho:=E.K t r hr;obtain⟨_,i,_,_,_,_,C,T,_⟩:=ho;have:=J02 (P:=P) H t (En C T _);rw[wP Z _ (E6 C T)]at this;obtain⟨Z',w',r1,r2⟩:=this;refine⟨Z',w',?_,r2⟩;simp only[Instr.alloc,aq,uw (E.K t r hr),ae]at r1 ⊢;simpa[newVar]using r1
 ·cases hh
def uF(n:Nat):Nat:=match Nat.beq n 100 with
 | true=>100
 | false=>1
@[simp] def Hb:uF 1=1:=rfl
def Jzp{n:Nat}(h:n≠100):uF n=1:=by
 unfold uF;cases e:Nat.beq n 100 with
 | false=>rfl
 | true=>exact absurd (aT e) h
def Zwp{P:Program}{G:Bs}{Z:Ren}{h:N}{w:World}(H:bN G Z h w)(e:TypeId){l:List V}(hl:∀ v ∈ l,c_ (dom Z) v/\v.oneCell'=Y) :
  ∃ C w',(newRow e (l.map (ren Z)).toArray).run P w=.ok ⟨w.heap.size,0,O⟩ w'/\jv C ⟨h.Q,0,O⟩=⟨w.heap.size,0,O⟩/\dom C h.Q/\iC h.Q Z C /\
   bN G C (h.push (S Y (uF (L l)) l)) w'/\f_ Z h w C (h.push (S Y (uF (L l)) l)) w':=by
 obtain⟨r,hr⟩:∃ r,L l=r*uF (L l):=by
  by_cases h1:L l=100
  ·exact⟨1,by rw[h1];rfl⟩
  ·exact⟨L l,by rw[Jzp h1];omega⟩
 refine⟨Ren.add Z h.Q ⟨w.heap.size,0,r,uF (L l),O⟩,_,rfl,?_,?_,gt _ _ _,?_⟩
 ·simp[jv,gq]
 ·simp[dom,gq]
 ·refine H.push rfl rfl rfl ⟨rfl,.inr ⟨(l.map (ren Z)).toArray,e,0,0,kA,fun i v hv => ?_,fun _=>⟨rfl,.inl rfl,by simpa using hr⟩⟩⟩;have T:=hl v (List.mem_of_getElem? hv);have hd:∀ b,dom Z b->Ren.add Z h.Q ⟨w.heap.size,0,r,uF (L l),O⟩ b=Z b:=H.add_dom _;refine⟨?_,h_ (fun b hb=>by simpa[dom,hd b hb]using hb) v T.1,T.2⟩;rw[ij hd v T.1];simp[hv]
def J5d{P:Program}{G:Bs}{Z:Ren}{h:N}{w:World}(H:bN G Z h w)(e:TypeId){l:List V}(hl:∀ v ∈ l,c_ (dom Z) v/\v.oneCell'=Y) :
  e_ P G Z h w (do pure (.pointer (U (<- newRow e (l.map (ren Z)).toArray)))) (.pointer (U ⟨h.Q,0,O⟩)) (h.push (S Y (uF (L l)) l)):=by
 obtain⟨C,w',T,r2,r3,r4,r5,r6⟩:=Zwp (P:=P) H e hl;exact⟨C,w',by simp[T,ren,r2],by simp only[c_];exact⟨r3,trivial⟩,r4,r5,r6⟩
def jP(x:V)(h:N):Option (V × N) :=
 if lN x then U (.pointer (U ⟨h.Q,0,O⟩),h.push (S Y (uF (L x.cells.toList)) x.cells.toList))else O
def Vd5(H:bN G Z h w){t:TypeId}{x v:V}{h':N}(hx:c_ (dom Z) x)(hh:jP x h=U (v,h')) :
  e_ P G Z h w (Instr.box t (ren Z x)) v h':=by
 unfold jP at hh;split at hh
 ·rename_i hn;cases hh;have:=J5d (P:=P) H t (l:=x.cells.toList) (fun u hu=>L8 _ x hx hn u (by simpa using hu));obtain⟨T,w',C,r2⟩:=this;refine⟨T,w',?_,r2⟩;have e:(List.map (ren Z) x.cells.toList).toArray=x.cells.map (ren Z):=by rw[<- bL]
  rw[e]at C;simp only[Instr.box,newVar,Px];exact C
 ·cases hh
def nr(place:Nat->Option (Nat × Nat)):List V->List (Nat × V)->Option (List V)
 | c,[]=>U c
 | c,(i,v)::r =>
  match place i with
  | none=>O
  | some (off,size) =>
   if lN v && v.cells.size == size && Nat.ble (off+size) (L c) then
    match mM c off v.cells.toList with
    | some C=>nr place C r
    | none=>O
   else O
def Jng(off:Nat):∀ (l:List V) (k:Nat) (c:Array V),off+k+L l<=c.size ->
  ((l.zipIdx k).foldl (fun cs (x:V × Nat)=>cs.setIfInBounds (off+x.2) x.1) c).size=c.size /\
  ∀ i,((l.zipIdx k).foldl (fun cs (x:V × Nat)=>cs.setIfInBounds (off+x.2) x.1) c)[i]? = if off+k<=i/\i < off+k+L l then l[i-(off+k)]? else c[i]?
 | [],k,c,_=>⟨rfl,fun i=>by rw[if_neg kA];rfl⟩
 | v::l,k,c,h=>by
  simp only[bm]at h;obtain⟨h1,T⟩:=Jng off l (k+1) (c.setIfInBounds (off+k) v) (by simp;omega);refine⟨by simpa using h1,fun i => ?_⟩;simp only[List.zipIdx_cons,eS];rw[T i];by_cases hi:i=off+k
  ·subst hi;rw[if_neg jA,if_pos kA];simp[show off+k < c.size by omega]
  ·by_cases C:off+(k+1)<=i/\i < off+(k+1)+L l
   ·rw[if_pos C,if_pos (by simp;omega),show i-(off+k)=(i-(off+(k+1)))+1 by omega,List.getElem?_cons_succ]
   ·rw[if_neg C,if_neg (by simp;omega),Array.getElem?_setIfInBounds,if_neg jA]
def Lj(place:Nat->Option (Nat × Nat)):∀ (parts:List (Nat × V)) (c T:List V),nr place c parts=U T->(∀ p ∈ parts,c_ (dom Z) p.2) ->
  (∀ v ∈ c,c_ (dom Z) v/\v.oneCell'=Y) ->
  Instr.fill place (c.map (ren Z)).toArray (parts.map fun p=>(p.1,ren Z p.2))=U (T.map (ren Z)).toArray/\L T=L c/\∀ v ∈ T,c_ (dom Z) v/\v.oneCell'=Y
 | [],c,T,h,_,hc=>by simp only[nr,av]at h;subst h;exact⟨rfl,rfl,hc⟩
 | (i,v)::r,c,T,h,hp,hc=>by
  simp only[nr]at h;cases hx:place i with
  | none=>simp[hx]at h
  | some os =>
   obtain⟨off,size⟩:=os;simp only[hx]at h;split at h
   ·rename_i C;simp only[au,beq_iff_eq,cY]at C;obtain⟨⟨hn,h2⟩,h3⟩:=C;cases hs:mM c off v.cells.toList with
    | none=>simp[hs]at h
    | some c1 =>
     simp only[hs]at h;obtain⟨s1,s2,s3⟩:=QN _ _ _ _ hs;have hb:=L8 (dom Z) v (hp (i,v) bY) hn;have hk:∀ u ∈ c1,c_ (dom Z) u/\u.oneCell'=Y:=by
      intro u hu;obtain⟨j,hj⟩:=List.getElem?_of_mem hu;rw[s3 j]at hj;split at hj
      ·exact hb u (by simpa using List.mem_of_getElem? hj)
      ·exact hc u (List.mem_of_getElem? hj)
     obtain⟨f1,f2,f3⟩:=Lj place r c1 T h (fun p hr=>hp p (aY _ hr)) hk;refine⟨?_,by rw[f2,s1],f3⟩;simp only[aK,Instr.fill,hx,Px,Array.size_map,h2,fc,aM];rw[if_neg (by simp;omega)];rw[<- f1];congr 1;have hz:=Jng off (v.cells.toList.map (ren Z)) 0 (c.map (ren Z)).toArray (by simp[h2];omega);have he:((v.cells.map (ren Z)).zipIdx.foldl (fun cs (x:V × Nat)=>cs.setIfInBounds (off+x.2) x.1) (c.map (ren Z)).toArray) =
       (((v.cells.toList.map (ren Z)).zipIdx 0).foldl (fun cs (x:V × Nat)=>cs.setIfInBounds (off+x.2) x.1) (c.map (ren Z)).toArray):=by
      rw[<- Array.foldl_toList,Array.toList_zipIdx,bL]
     refine he.trans ?_;apply Array.ext_getElem?;intro j;rw[hz.2 j];simp only[cz,aM,List.getElem?_toArray,List.getElem?_map];rw[s3 j];split <;> simp
   ·cases h
def AO(E:iS P):List Field->Option (List (Nat × Nat))
 | []=>U []
 | f::r=>match E.ty.A f.type,AO E r with
  | some t,U l=>U ((f.offset,t.size)::l)
  | _,_=>O
def gS{A:Type}:List A->Nat->Option A
 | [],_=>O
 | x::_,0=>U x
 | _::l,n+1=>gS l n
def u0{A:Type}:∀ (l:List A) (n:Nat),gS l n=l[n]?
 | [],n=>by simp[gS]
 | x::l,0=>by simp[gS]
 | x::l,n+1=>by simp[gS,u0 l n]
def Zmj(E:iS P)(w:World):∀ (fs:List Field) (l:List (Nat × Nat)),AO E fs=U l ->
  (fs.mapM fun f=>(do pure (f.offset,<- sizeOf f.type):Sem (Nat × Nat))).run P w=.ok l w
 | [],l,h=>by simp[AO]at h;subst h;rfl
 | f::r,l,h=>by
  simp only[AO]at h;split at h
  next t l' T C=>cases h;have:=Zmj E w r l' C;simp only[fF,aq,qG (E.K _ _ T),ae,aN,this]
  ·cases h
def lK(E:iS P)(t:TypeId)(parts:List (Nat × V)):Option V :=
 match E.ty.A t with
 | none=>O
 | some r =>
  match r.desc with
  | .struct T=>match AO E T.toList with
   | some pl=>(nr (gS pl) r.zero.cells.toList parts).map fun c => .agg c.toArray
   | none=>O
  | .array _ e=>match E.ty.A e with
   | some C=>(nr (fun i=>U (i*C.size,C.size)) r.zero.cells.toList parts).map fun c => .agg c.toArray
   | none=>O
  | _=>O
def PV(E:iS P){t:TypeId}{parts:List (Nat × V)}{v:V}(hp:∀ p ∈ parts,c_ (dom Z) p.2)(hv:lK E t parts=U v) :
  c_ (dom Z) v/\∀ w,(Instr.build t (parts.map fun p=>(p.1,ren Z p.2)).toArray).run P w=.ok (ren Z v) w:=by
 unfold lK at hv;cases hr:E.ty.A t with
 | none=>simp[hr]at hv
 | some r =>
  simp only[hr]at hv;have ho:=E.K t r hr;obtain⟨hu,i,_,_,_,_,hf,hn,_⟩:=ho;have hz:=En hf hn (dom Z);have h2:=wP Z _ (E6 hf hn);split at hv
  ·rename_i fs hd;cases C:AO E fs.toList with
   | none=>simp[C]at hv
   | some pl =>
    simp only[C,aj]at hv;obtain⟨c,hc,rfl⟩:=hv;obtain⟨T,f2,f3⟩:=Lj (Z:=Z) _ _ _ _ hc hp hz;rw[h2]at T;refine⟨Me _ _ f3,fun w => ?_⟩;have hm:(fs.mapM fun f=>(do pure (f.offset,<- sizeOf f.type):Sem (Nat × Nat))).run P w=.ok pl.toArray w:=by
     rw[fN,Sem.run_map,Zmj E w _ _ C];rfl
    have hx:(fun x=>pl.toArray[x]?)=gS pl:=by funext x;simp[u0]
    simp only[Instr.build,aq,uw (E.K t r hr),ae,run_underlying hu,hd,hm,hx];rw[show r.zero.cells=r.zero.cells.toList.toArray by simp,T];simp
  ·rename_i n e hd;cases he:E.ty.A e with
   | none=>simp[he]at hv
   | some re =>
    simp only[he,aj]at hv;obtain⟨c,hc,rfl⟩:=hv;obtain⟨T,f2,f3⟩:=Lj (Z:=Z) _ _ _ _ hc hp hz;rw[h2]at T;refine⟨Me _ _ f3,fun w => ?_⟩;simp only[Instr.build,aq,uw (E.K t r hr),ae,run_underlying hu,hd,qG (E.K e re he)];rw[show r.zero.cells=r.zero.cells.toList.toArray by simp,T];simp
  ·cases hv
def Jzo(E:iS P)(H:bN E.G Z h w){t:TypeId}{parts:List (Nat × V)}{v:V}(C:∀ p ∈ parts,c_ (dom Z) p.2)(hv:lK E t parts=U v) :
  e_ P E.G Z h w (Instr.build t (parts.map fun p=>(p.1,ren Z p.2)).toArray) v h:=e_.plain H (PV E C hv).1 ((PV E C hv).2 w)
def kx(z:List V):Nat->List V
 | 0=>[]
 | n+1=>z++kx z n
def Z1c(z:List V)(n:Nat):L (kx z n)=n*L z:=by
 induction n with
 | zero=>simp[kx]
 | succ n ih=>simp[kx,ih,ew];omega
def Zu9(z:List V)(T:0 < L z):∀ (n i:Nat),i < n*L z->(kx z n)[i]? = z[i % L z]?
 | 0,i,h=>by simp at h
 | n+1,i,h=>by
  simp only[kx];by_cases hi:i < L z
  ·rw[List.getElem?_append_left hi,dE hi]
  ·have C:L z<=i:=Nat.le_of_not_lt hi;rw[List.getElem?_append_right C,Zu9 z T n (i-L z) (by rw[ew]at h;omega)];congr 1
   conv=>rhs;rw[show i=(i-L z)+L z by omega,Nat.add_mod_right]
def HX(z:Array V)(n:Nat)(C:0 < z.size):((Array.range (n*z.size)).map (fun x=>z[x % z.size]!))=(kx z.toList n).toArray:=by
 apply Array.ext_getElem?;intro i;by_cases hi:i < n*z.size
 ·have hm:i % z.size < z.size:=eJ _ C;have h1:=Zu9 z.toList (by simpa using C) n i (by simpa using hi);simp only[List.getElem?_toArray,h1];simp[hi,hm]
 ·have T:L (kx z.toList n)<=i:=by rw[Z1c];simpa using hi
  simp[hi,List.getElem?_eq_none T]
def Al{z:List V}{v:V}:∀ {n:Nat},v ∈ kx z n->v ∈ z
 | 0,h=>by simp[kx]at h
 | n+1,h=>by simp only[kx,ab]at h;exact h.elim id Al
def Wc(E:iS P)(t:TypeId)(len:Nat)(parts:List (Nat × V))(h:N):Option (V × N) :=
 match E.ty.A t with
 | none=>O
 | some r =>
  match r.desc with
  | .slice e=>match E.ty.A e with
   | some C =>
    if Nat.ble (len*C.size) 16777216 && Nat.ble 1 C.size then
     (nr (fun i=>U (i*C.size,C.size)) (kx C.zero.cells.toList len) parts).map fun c=>(M (U ⟨h.Q,0,O⟩) len len,h.push (S Y 1 c))
    else O
   | none=>O
  | _=>O
def Z2o(E:iS P)(H:bN E.G Z h w){t:TypeId}{len:Nat}{parts:List (Nat × V)}{v:V}{h':N}(hp:∀ p ∈ parts,c_ (dom Z) p.2)(hv:Wc E t len parts h=U (v,h')) :
  e_ P E.G Z h w (Instr.buildSlice t len (parts.map fun p=>(p.1,ren Z p.2)).toArray) v h':=by
 unfold Wc at hv;cases hr:E.ty.A t with
 | none=>simp[hr]at hv
 | some r =>
  simp only[hr]at hv;split at hv
  ·rename_i e hd;cases he:E.ty.A e with
   | none=>simp[he]at hv
   | some T =>
    simp only[he]at hv;split at hv
    ·rename_i C;simp only[au,cY]at C;obtain⟨hx,h1⟩:=C;simp only[aj]at hv;obtain⟨c,hc,hv⟩:=hv;cases hv;have ho:=E.K e T he;obtain⟨_,i,_,_,_,_,hf,hn,h2,_⟩:=ho;have hz:∀ v ∈ kx T.zero.cells.toList len,c_ (dom Z) v/\v.oneCell'=Y:=fun v hv=>En hf hn (dom Z) v (Al hv);have hy:=wP Z (kx T.zero.cells.toList len) (fun v hv=>E6 hf hn v (Al hv));obtain⟨f1,f2,f3⟩:=Lj (Z:=Z) _ _ _ _ hc hp hz;rw[hy]at f1;have h3:len<=16777216:=ak (Nat.le_mul_of_pos_right _ h1) hx;have hg:=Zvh (P:=P) H e f3 len len (by unfold iJ;omega);obtain⟨Z',w',r1,r2⟩:=hg;refine⟨Z',w',?_,r2⟩;rw[<- r1];have hA:¬ len*T.size > 2 ^ 24:=(by simpa using hx);simp only[Instr.buildSlice,aq,run_underlying (E.K t r hr).1,hd,ae,qG (E.K e T he),eT];rw[if_neg hA];by_cases h0:len*T.size=0
     ·have hb:len=0:=by rcases eO.1 h0 with h | h <;> omega
      subst hb;have hk:Instr.fill (fun i=>U (i*T.size,T.size)) #[] (List.map (fun p=>(p.fst,ren Z p.snd)) parts)=U (List.map (ren Z) c).toArray:=f1;have ls:∀ f:Nat->V,(Array.range 0).map f = #[]:=fun f=>by simp
      simp only[h0,if_true,aN,ae,ls,hk,aq]
     ·simp only[aN,ae];rw[if_neg h0];simp only[uw (E.K e T he),ae];rw[<- h2,HX _ _ jA,h2,f1];simp
    ·cases hv
  ·cases hv
end
section
variable(P:Program)
def rR(agg:Bool)(l:List V):V:=if agg then .agg l.toArray else l.headD undef
def xU(l:List Nat):Nat->List Nat
 | 0=>[]
 | n+1=>l++xU l n
def mJ(t:TypeId):Bool:=match P.underlying t with | some d=>jO d | none=>J
def A7(g:TypeId->Option (List Nat)):List Field->Nat->Option (List Nat)
 | [],_=>U []
 | f::T,C =>
  if f.name == "_" || f.offset != C then O else
  match g f.type with
  | some l=>if L l == P.cellsOf f.type then(match A7 g T (C+L l)with | some r=>U (l++r) | none=>O)else O
  | none=>O
def qp:Nat->TypeId->Option (List Nat)
 | 0,_=>O
 | d+1,t =>
  match P.underlying t with
  | some .bool=>U [2]
  | some (.int _)=>U [1]
  | some .string=>U [3]
  | some (.array n e)=>match qp d e with
   | some l=>if L l == P.cellsOf e && !l.isEmpty then U (xU l n)else O
   | none=>O
  | some (.struct C)=>if P.stoodInHeld t then O else A7 P (qp d) C.toList 0
  | _=>O
end
section
variable{P:Program}
def GY:∀ (C:List Nat) (xs ys:List V) (b:Bool),jz C xs ys=U b->L xs=L C/\L ys=L C
 | [],[],[],_,_=>by simp
 | l::C,x::xs,y::ys,b,h=>by
  simp only[jz]at h;split at h
  next a c h1 T=>have:=GY C xs ys c T;simp[this]
  ·cases h
 | [],_::_,_,_,h=>by simp[jz]at h
 | [],[],_::_,_,h=>by simp[jz]at h
 | _::_,[],_,_,h=>by simp[jz]at h
 | _::_,_::_,[],_,h=>by simp[jz]at h
def Tq:∀ (a c:List Nat) (xs ys:List V) (r:Bool),jz (a++c) xs ys=U r ->
  ∃ C T,jz a (xs.take (L a)) (ys.take (L a))=U C/\jz c (xs.drop (L a)) (ys.drop (L a))=U T/\r=(C && T)
 | [],c,xs,ys,r,h=>⟨Y,r,by simp[jz],by simpa using h,kA⟩
 | l::a,c,x::xs,y::ys,r,h=>by
  simp only[dG,jz]at h;split at h
  next p q h1 h2=>obtain⟨C,T,e1,e2,e3⟩:=Tq a c xs ys q h2;cases h;exact⟨p && C,T,by simp[jz,h1,e1],by simpa using e2,by rw[e3,Bool.and_assoc]⟩
  ·cases h
 | _::_,_,[],_,_,h=>by simp[jz]at h
 | _::_,_,_::_,[],_,h=>by simp[jz]at h
def OU(P:Program)(d:Nat)(t:TypeId)(ls:List Nat):Prop :=
 ∀ (C T:List V) (b:Bool) (w:World),jz ls C T=U b->(Op.equalIn d t (rR (mJ P t) C) (rR (mJ P t) T)).run P w=.ok b w
def Ew{e:TypeId}{dd:TypeDesc}(T:P.underlying e=U dd)(xs:List V)(off:Nat)(w:World)(hl:off+P.cellsOf e<=L xs)(h1:mJ P e=J->0 < P.cellsOf e) :
  (part e xs.toArray off).run P w=.ok (rR (mJ P e) ((xs.drop off).take (P.cellsOf e))) w:=by
 obtain⟨i,hi⟩:=info_of_underlying T;have C:(isAgg e).run P w=.ok (mJ P e) w:=by
  simp only[isAgg,aq,run_underlying T,ae,mJ,T];cases dd <;> rfl
 simp only[part,aq,C,ae];cases ha:mJ P e with
 | true =>
  simp only[if_true,aq,run_sizeOf w hi,ae,aN,rR];congr 2;apply bR;simp[List.extract]
 | false =>
  have h0:=h1 ha;have hx:xs.toArray[off]? = U (xs[off]' jA):=kA
  simp only[az,if_false,hx,rR,aN];congr 1;rw[aS jA,show P.cellsOf e=(P.cellsOf e-1)+1 by omega,List.take_succ_cons];rfl
def HT{d:Nat}{t:TypeId}{ls:List Nat}(h:qp P d t=U ls):∃ T,P.underlying t=U T/\(jO T=J->L ls=1):=by
 cases d with
 | zero=>simp[qp]at h
 | succ d =>
  simp only[qp]at h;split at h <;> first
   | (rename_i C;cases h;exact⟨_,C,fun _=>rfl⟩)
   | (rename_i C;exact⟨_,C,fun hx=>by simp[jO]at hx⟩)
   | cases h
def Zv9{d k:Nat}(xs ys:List V):∀ (fs:List Field) (C:Nat) (ls:List Nat) (r:Bool) (w:World),(∀ t l,qp P k t=U l->OU P d t l)->A7 P (qp P k) fs C=U ls ->
  jz ls (xs.drop C) (ys.drop C)=U r->(Op.eqFields d xs.toArray ys.toArray fs).run P w=.ok r w
 | [],C,ls,r,w,_,h,he=>by
  simp only[A7,av]at h;subst h;have:=GY _ _ _ _ he;have h1:xs.drop C=[]:=bI this.1;have h2:ys.drop C=[]:=bI this.2;rw[h1,h2]at he;simp only[jz,av]at he;subst he;simp[Op.eqFields]
 | f::fs,C,ls,r,w,IH,h,he=>by
  simp only[A7]at h;split at h
  ·cases h
  ·rename_i hc;simp only[cx,beq_iff_eq,bne_iff_ne,ne_eq,not_or,Decidable.not_not]at hc;cases hl:qp P k f.type with
   | none=>simp[hl]at h
   | some l =>
    simp only[hl]at h;split at h
    ·rename_i T;simp only[beq_iff_eq]at T;cases hr:A7 P (qp P k) fs (C+L l)with
     | none=>simp[hr]at h
     | some rs =>
      simp only[hr,av]at h;subst h;obtain⟨r1,r2,e1,e2,e3⟩:=Tq l rs _ _ _ he;rw[cD,cD]at e2;have ih:=Zv9 xs ys fs (C+L l) rs r2 w IH hr e2;obtain⟨dd,hu,h1⟩:=HT hl;have hA:=GY _ _ _ _ he;simp only[ba,ah]at hA;have hz:mJ P f.type=J->0 < P.cellsOf f.type:=fun ha=>by
       have:=h1 (by simpa[mJ,hu]using ha);omega
      have Z':l ≠ []->C+P.cellsOf f.type<=L xs/\C+P.cellsOf f.type<=L ys:=fun hk=>by
       have : 0 < L l:=dK.2 hk;omega
      by_cases hk:l=[]
      ·subst hk;have hp:mJ P f.type=Y:=by
        cases ha:mJ P f.type with
        | true=>rfl
        | false=>have:=h1 (by simpa[mJ,hu]using ha);simp at this
       simp only[da]at T e1;obtain⟨i,hi⟩:=info_of_underlying hu;have hx:∀ zs:List V,(part f.type zs.toArray f.offset).run P w=.ok (rR (mJ P f.type) []) w:=by
        intro zs;have h3:(isAgg f.type).run P w=.ok (mJ P f.type) w:=by
         simp only[isAgg,aq,run_underlying hu,ae,mJ,hu];cases dd <;> rfl
        simp only[part,aq,h3,ae,hp,if_true,run_sizeOf w hi,aN,rR,<- T];congr 2;apply bR;simp[List.extract]
       have hE:=IH f.type [] hl [] [] Y w (by simp[jz]);simp only[eU,jz,av]at e1;subst e1;simp only[Op.eqFields,hc.1,ne_eq,not_false_eq_true,if_true,aq,hx,ae,hE,cL,az,if_false,ih,e3,dx]
      ·have hb:=Z' hk;have p1:=Ew hu xs f.offset w (by rw[hc.2];exact hb.1) hz;have p2:=Ew hu ys f.offset w (by rw[hc.2];exact hb.2) hz;rw[hc.2,<- T]at p1 p2;have hE:=IH f.type l hl _ _ r1 w e1;simp only[Op.eqFields,hc.1,ne_eq,not_false_eq_true,if_true,aq,hc.2,p1,p2,ae,hE];cases r1 with
       | false=>simp[e3]
       | true=>simp[e3,ih]
    ·cases h
def Z5i{d k:Nat}{e:TypeId}{l:List Nat}(xs ys:List V)(IH:OU P d e l)(hl:qp P k e=U l)(C:L l=P.cellsOf e)(hx:l ≠ []):∀ (m s:Nat) (r:Bool) (w:World),
  jz (xU l m) (xs.drop (s*P.cellsOf e)) (ys.drop (s*P.cellsOf e))=U r->(Op.eqItems d e (P.cellsOf e) xs.toArray ys.toArray (List.range' s m)).run P w=.ok r w
 | 0,s,r,w,T=>by
  have:=GY _ _ _ _ T;simp only[xU,da]at this;have h1:xs.drop (s*P.cellsOf e)=[]:=bI this.1;have h2:ys.drop (s*P.cellsOf e)=[]:=bI this.2;rw[h1,h2]at T;simp only[xU,jz,av]at T;subst T;simp[Op.eqItems]
 | m+1,s,r,w,T=>by
  have hc:=GY _ _ _ _ T;obtain⟨r1,r2,e1,e2,e3⟩:=Tq l (xU l m) _ _ _ T;rw[cD,cD,C,show s*P.cellsOf e+P.cellsOf e=(s+1)*P.cellsOf e by rw[ew]]at e2;have ih:=Z5i xs ys IH hl C hx m (s+1) r2 w e2;obtain⟨dd,hu,h1⟩:=HT hl;simp only[ba,xU,ah]at hc;have h0:0 < L l:=dK.2 hx;have p1:=Ew hu xs (s*P.cellsOf e) w jA (fun _=>by omega);have p2:=Ew hu ys (s*P.cellsOf e) w jA (fun _=>by omega);rw[<- C]at p1 p2;rw[<- C]at e1;have hE:=IH _ _ r1 w e1;rw[<- C]at ih ⊢;simp only[ef,Op.eqItems,aq,p1,p2,ae,hE];cases r1 with
  | false=>simp[e3]
  | true=>simp[e3,ih]
def Ji9(c:Nat):∀ (k:Nat) (t:TypeId) (ls:List Nat),qp P k t=U ls->OU P (c+k) t ls
 | 0,t,ls,h=>by simp[qp]at h
 | k+1,t,ls,h=>by
  have IH:∀ t l,qp P k t=U l->OU P (c+k) t l:=fun t l h=>Ji9 c k t l h;intro xs ys b w he;simp only[qp]at h;have single:∀ n,ls=[n]->mJ P t=J->(∀ x y,Ax n x y=U b->(Op.equalIn (c+(k+1)) t x y).run P w=.ok b w)->(Op.equalIn (c+(k+1)) t (rR (mJ P t) xs) (rR (mJ P t) ys)).run P w=.ok b w:=by
   intro n hn ha hx;subst hn;have hl:=GY _ _ _ _ he
   match xs,ys,hl with
   | [x],[y],_ =>
    simp only[jz]at he;split at he
    next p q h1 h2=>cases h2;cases he;simp only[ha,rR,az,if_false,List.headD_cons];exact hx x y (by rw[h1];simp)
    ·cases he
  split at h
  next T=>cases h;refine single 2 rfl (by simp[mJ,T,jO]) fun x y C => ?_;unfold Ax at C;split at C <;> simp at *;subst C;rw[<- d5];exact run_equalIn_bool' w _ t _ _ T
  next q T=>cases h;refine single 1 rfl (by simp[mJ,T,jO]) fun x y C => ?_;unfold Ax at C;split at C <;> simp at *;obtain⟨rfl,C⟩:=C;subst C;rw[<- d5];exact run_equalIn_int w _ t _ q _ _ T
  next T=>cases h;refine single 3 rfl (by simp[mJ,T,jO]) fun x y C => ?_;unfold Ax at C;split at C <;> simp at *;subst C;rw[<- d5];rename_i s1 s2;rw[run_equalIn_string w _ t _ _ T,beq_toListBytes]
  ·rename_i n e T;split at h
   ·rename_i l hl;split at h
    next hc=>simp only[au,beq_iff_eq,cQ,fM]at hc;cases h;obtain⟨dd,hb,_⟩:=HT hl;obtain⟨i,hi⟩:=info_of_underlying hb;have hk:mJ P t=Y:=(by simp[mJ,T,jO]);simp only[hk,rR,if_true];rw[<- d5,run_equalIn_array w _ _ _ T hi,dH];exact Z5i xs ys (IH e l hl) hl hc.1 hc.2 n 0 b w (by simpa using he)
    ·cases h
   ·cases h
  ·rename_i fs T;split at h
   ·cases h
   next hr=>have hk:mJ P t=Y:=(by simp[mJ,T,jO]);simp only[hk,rR,if_true];have hf:P.fieldsOf t=fs:=(by simp[Program.fieldsOf,T]);rw[<- d5,run_equalIn_struct w _ t _ _ (by rw[hf];exact T) (by simpa using hr),hf];exact Zv9 xs ys _ 0 ls b w IH h (by simpa using he)
  ·cases h
def Vl8(P:Program)(d:Nat)(t:TypeId)(ls:List Nat):Prop :=
 ∀ (T:Bool) (C:List V) (w:World),L C=L ls->(Instr.checkKey T d t (rR (mJ P t) C)).run P w=.ok () w
def Jx6(l:List Nat)(n:Nat):L (xU l n)=n*L l:=by
 induction n with
 | zero=>simp[xU]
 | succ n ih=>simp[xU,ih,ew];omega
def Z42(c:Nat):∀ (k:Nat) (t:TypeId) (ls:List Nat),qp P k t=U ls->Vl8 P (c+k) t ls
 | 0,t,ls,h=>by simp[qp]at h
 | k+1,t,ls,h=>by
  have IH:∀ t l,qp P k t=U l->Vl8 P (c+k) t l:=fun t l h=>Z42 c k t l h;intro em xs w hx;simp only[qp]at h;rw[<- d5,Instr.checkKey];split at h
  next T=>simp only[aq,run_underlying T,ae,aN]
  next q T=>simp only[aq,run_underlying T,ae,aN]
  next T=>simp only[aq,run_underlying T,ae,aN]
  ·rename_i n e T;split at h
   ·rename_i l hl;split at h
    ·rename_i hc;simp only[au,beq_iff_eq,cQ,fM]at hc;cases h;obtain⟨dd,h2,h1⟩:=HT hl;obtain⟨i,hi⟩:=info_of_underlying h2;have hp:mJ P t=Y:=(by simp[mJ,T,jO]);simp only[hp,rR,if_true];simp only[aq,run_underlying T,ae];simp only[Std.Legacy.Range.forIn_eq_forIn_range',Std.Legacy.Range.size,dc,Nat.add_one_sub_one,Nat.div_one];have hz:0 < L l:=dK.2 hc.2;rw[Jx6]at hx;have each:∀ j ∈ List.range' 0 n,j < n:=fun j hj=>by simpa using hj
     generalize List.range' 0 n=is at each;induction is with
     | nil=>simp
     | cons j is ih =>
      have hj:=each j kA;have hA:j*P.cellsOf e+P.cellsOf e<=L xs:=by
       rw[hx,<- hc.1,<- ew];exact ca _ hj
      have p1:=Ew h2 xs (j*P.cellsOf e) w hA (fun _=>by omega);have p2:=IH e l hl em ((xs.drop (j*P.cellsOf e)).take (P.cellsOf e)) w (by
       rw[bh,ba,hc.1];omega)
      simp only[List.forIn_cons,aq,run_sizeOf w hi,ae,p1,p2,aN];exact ih (fun y hy=>each y (by simp[hy]))
    ·cases h
   ·cases h
  ·rename_i fs T;split at h
   ·cases h
   ·rename_i Z';have hp:mJ P t=Y:=(by simp[mJ,T,jO]);simp only[hp,rR,if_true];simp only[aq,run_underlying T,ae];rw[<- Array.forIn_toList];have key:∀ (L_:List Field) (hk:Nat) (ls:List Nat),A7 P (qp P k) L_ hk=U ls->hk+L ls<=L xs ->
      (forIn L_ PUnit.unit fun f (_:PUnit)=>(if f.name ≠ "_" then do
        let x <- part f.type xs.toArray f.offset
        Instr.checkKey em (c+k) f.type x
        pure (ForInStep.yield PUnit.unit)
       else pure (ForInStep.yield PUnit.unit):Sem (ForInStep PUnit))).run P w=.ok PUnit.unit w:=by
     intro L_;induction L_ with
     | nil=>intro hk ls _ _;simp
     | cons f L_ ih =>
      intro hk ls hL hb;simp only[A7]at hL;split at hL
      ·cases hL
      ·rename_i h3;simp only[cx,beq_iff_eq,bne_iff_ne,ne_eq,not_or,Decidable.not_not]at h3;split at hL
       ·rename_i l hl;split at hL
        ·rename_i C;simp only[beq_iff_eq]at C;split at hL
         ·rename_i r hr;cases hL;obtain⟨dd,h2,h1⟩:=HT hl;rw[ah]at hb;have hz:mJ P f.type=J->0 < P.cellsOf f.type:=fun ha=>by
           have:=h1 (by simpa[mJ,h2]using ha);omega
          have p1:=Ew h2 xs f.offset w (by rw[h3.2,<- C];omega) hz;have p2:=IH f.type l hl em ((xs.drop f.offset).take (P.cellsOf f.type)) w (by
           rw[bh,ba,h3.2,<- C];omega)
          simp only[List.forIn_cons,aq,h3.1,ne_eq,not_false_eq_true,if_true,ae,p1,p2,aN];exact ih _ _ hr jA
         ·cases hL
        ·cases hL
       ·cases hL
    have h9:=key fs.toList 0 ls h jA;rw[h9];simp
  ·cases h
def J3e(P:Program)(t:TypeId):List Nat :=
 if P.eqGuardType P.depth t then []else if mJ P t then(qp P 40 t).getD []else []
def J4u(P:Program)(t:TypeId):TG P t (J3e P t):=by
 intro C;unfold J3e at C ⊢;split at C
 ·exact absurd rfl C
 ·rename_i hg;simp only[hg,az,if_false]at C ⊢;split at C
  ·rename_i T;simp only[T,if_true];cases hl:qp P 40 t with
   | none=>simp[hl]at C
   | some ls =>
    refine⟨trivial,fun xs ys b w he => ?_,fun em xs w hx => ?_⟩
    ·have:=Ji9 (P:=P) 9960 40 t ls hl xs ys b w he;simpa[T,rR,Op.equal,Op.maxDepth]using this
    ·have:=Z42 (P:=P) 9960 40 t ls hl em xs w hx;simpa[T,rR]using this
  ·exact absurd rfl C
def OM(P:Program)(t:TypeId):Option ib :=
 match P.underlying t,P.info? t with
 | some d,U i =>
  match i.zero with
  | some z=>if flat z && lN z && z.cells.size == i.size then U {desc:=d,size:=i.size,bytes:=i.bytes,zero:=z,leaf:=J3e P t} else O
  | none=>O
 | _,_=>O
def J7c{P:Program}{t:TypeId}{r:ib}(h:OM P t=U r):vx P t r:=by
 unfold OM at h;split at h
 ·rename_i d i T hi;split at h
  ·rename_i z hz;split at h
   next C=>simp only[au,beq_iff_eq]at C;cases h;exact⟨T,i,hi,rfl,rfl,hz,C.1.1,C.1.2,C.2,J4u P t⟩
   ·cases h
  ·cases h
 ·cases h
def KG(P:Program):Nat->Tr ib
 | 0 => .leaf
 | n+1=>(KG P n).put n (OM P n)
def Jk1(P:Program):∀ (n:Nat) (t:TypeId) (r:ib),(KG P n).A t=U r->OM P t=U r
 | 0,t,r,h=>by simp[KG]at h
 | n+1,t,r,h=>by
  simp only[KG,Tr.H]at h;split at h
  next e=>subst e;exact h
  ·exact Jk1 P n t r h
end
section
variable{P:Program}{Z:Ren}{h:N}{w:World}
def Cc(Z:Ren)(a:Addr)(ha:dom Z a.block)(hs:a.spot=O)(n:Nat):jv Z (a.add n)=(jv Z a).add n:=by
 obtain⟨p,T⟩:=aJ.1 ha;obtain⟨b,o,s⟩:=a;simp only at hs T;subst hs;by_cases C:n=0
 ·subst C;rfl
 ·rw[r9];simp[jv,T,Addr.add,C,d5]
def A2(a:Addr)(n:Nat):(a.add n).block=a.block:=by unfold Addr.add;split <;> rfl
def BY(a:Addr)(n:Nat)(hs:a.spot=O):(a.add n).spot=O:=by unfold Addr.add;split <;> simp[hs]
def Wx(E:iS P)(s:TypeId)(x:V)(f:Nat):Option V :=
 match x,E.ty.A s with
 | .pointer (U a),U r =>
  match r.desc with
  | .struct T=>match gS T.toList f with
   | some C=>match E.ty.A C.type with
    | some rf=>if rf.size == 0 then O else U (.pointer (U (a.add C.offset)))
    | none=>O
   | none=>O
  | _=>O
 | _,_=>O
def Z8r(E:iS P)(H:bN E.G Z h w){s:TypeId}{x v:V}{f:Nat}(hx:c_ (dom Z) x)(hv:Wx E s x f=U v) :
  e_ P E.G Z h w (Instr.fieldAt s (ren Z x) f) v h:=by
 unfold Wx at hv;split at hv
 ·rename_i a r hr;simp only[c_]at hx;split at hv
  ·rename_i fs hd;split at hv
   ·rename_i fd C;split at hv
    ·rename_i rf h2;split at hv
     ·cases hv
     ·rename_i hk;cases hv;rw[u0]at C;have T:fs[f]? = U fd:=(by simpa using C);refine e_.plain H (by simp only[c_,A2];exact⟨hx.1,BY _ _ hx.2⟩) ?_;have hc:¬ rf.size=0:=(by simpa using hk);simp only[Instr.fieldAt,aq,run_underlying (E.K s r hr).1,hd,ae,T,ren,aL,Instr.sureAddr,aN,fieldPlace,
       qG (E.K _ rf h2),hc,if_false]
      rw[Cc Z a hx.1 hx.2]
    ·cases hv
   ·cases hv
  ·cases hv
 ·cases hv
def Ug(E:iS P)(t:TypeId)(x T:V):Option V :=
 match E.ty.A t,T with
 | some r,.int _ i =>
  match r.desc,x with
  | .array n e,.pointer (U a)=>match E.ty.A e with
   | some C=>if 0<=i/\i < n then U (.pointer (U (a.add (i.toNat*C.size))))else O
   | none=>O
  | .slice e,M (U a) n _=>match E.ty.A e with
   | some C=>if 0<=i/\i < n then U (.pointer (U (a.add (i.toNat*C.size))))else O
   | none=>O
  | _,_=>O
 | _,_=>O
def Jdn(E:iS P)(H:bN E.G Z h w){t:TypeId}{x ix v:V}(C:c_ (dom Z) x)(hv:Ug E t x ix=U v) :
  e_ P E.G Z h w (Instr.indexAt t (ren Z x) (ren Z ix)) v h:=by
 unfold Ug at hv;split at hv
 ·rename_i r k i hr;split at hv
  ·rename_i n e a hd;split at hv
   ·rename_i re T;split at hv
    ·rename_i hc;cases hv;simp only[c_]at C;refine e_.plain H (by simp only[c_,A2];exact⟨C.1,BY _ _ C.2⟩) ?_;simp only[Instr.indexAt,ren,asIntOf,aq,aN,ae,run_underlying (E.K t r hr).1,hd,aL,Instr.sureAddr,
      eT,hc,and_self,if_true,qG (E.K _ re T)]
     rw[Cc Z a C.1 C.2]
    ·cases hv
   ·cases hv
  ·rename_i e a n c hd;split at hv
   ·rename_i re T;split at hv
    ·rename_i hc;cases hv;simp only[c_]at C;refine e_.plain H (by simp only[c_,A2];exact⟨C.1,BY _ _ C.2⟩) ?_;simp only[Instr.indexAt,ren,asIntOf,aq,aN,ae,run_underlying (E.K t r hr).1,hd,aL,
      eT,hc,and_self,if_true,qG (E.K _ re T)]
     rw[Cc Z a C.1 C.2]
    ·cases hv
   ·cases hv
  ·cases hv
 ·cases hv
def OR(r:ib)(cs:List V)(off:Nat):Option V :=
 if jO r.desc then(nF r.size (cs.drop off)).map fun l => .agg l.toArray else gS cs off
def Ze9{n off:Nat}{cs l:List V}(h:nF n (cs.drop off)=U l):l=(cs.drop off).take n:=by
 obtain⟨h1,T⟩:=Cb _ _ _ h;apply List.ext_getElem?;intro i;by_cases hi:i < n
 ·have C:i < L l:=jA
  have:=T i l[i] (List.getElem?_eq_getElem C);rw[List.getElem?_take_of_lt hi,this,List.getElem?_eq_getElem C]
 ·rw[List.getElem?_eq_none jA,List.getElem?_eq_none (by simp;omega)]
def Ztu{t:TypeId}{r:ib}(hr:vx P t r){cs:Array V}{off:Nat}{v:V}(hv:OR r cs.toList off=U v)(hc:c_ (dom Z) (.agg cs))(w:World) :
  c_ (dom Z) v/\(part t (cs.map (ren Z)) off).run P w=.ok (ren Z v) w:=by
 have T:=(ZU (dom Z) cs).1 hc;unfold OR at hv;simp only[part,aq,Zee hr,ae];split at hv
 ·rename_i C;rw[aj]at hv;obtain⟨l,hl,rfl⟩:=hv;have he:=Ze9 hl;obtain⟨h1,h2⟩:=Cb _ _ _ hl;refine⟨Me _ _ fun v hv => ?_,?_⟩
  ·obtain⟨i,hi⟩:=List.getElem?_of_mem hv;have:=h2 i v hi;rw[List.getElem?_drop]at this;exact T v (by simpa using List.mem_of_getElem? this)
  ·simp only[C,if_true,aq,qG hr,ae,aN,jo];congr 2;apply bR;rw[he];simp[List.extract,dX,List.map_drop]
 ·rename_i C;rw[u0]at hv;refine⟨(T v (by simpa using List.mem_of_getElem? hv)).1,?_⟩;have : (cs.map (ren Z))[off]? = U (ren Z v):=by
   rw[Array.getElem?_map];have hx:cs[off]? = U v:=by simpa using hv
   rw[hx];rfl
  simp only[C,if_false,az,this,aN]
def Of(E:iS P)(t:TypeId)(x:V)(f:Nat):Option V :=
 match x,E.ty.A t with
 | .agg cs,U r =>
  match r.desc with
  | .struct T=>match gS T.toList f with
   | some C=>match E.ty.A C.type with
    | some rf=>OR rf cs.toList C.offset
    | none=>O
   | none=>O
  | _=>O
 | _,_=>O
def J3t(E:iS P)(H:bN E.G Z h w){t:TypeId}{x v:V}{f:Nat}(hx:c_ (dom Z) x)(hv:Of E t x f=U v) :
  e_ P E.G Z h w (Instr.field t (ren Z x) f) v h:=by
 unfold Of at hv;split at hv
 ·rename_i cs r hr;split at hv
  ·rename_i fs hd;split at hv
   ·rename_i fd C;split at hv
    next rf hc=>rw[u0]at C;have T:fs[f]? = U fd:=(by simpa using C);obtain⟨h1,h2⟩:=Ztu (E.K _ rf hc) hv hx w;refine e_.plain H h1 ?_;simp only[Instr.field,aq,run_underlying (E.K t r hr).1,hd,ae,T,jo,asAgg,aN,h2]
    ·cases hv
   ·cases hv
  ·cases hv
 ·cases hv
def Kw(E:iS P)(t:TypeId)(x T:V):Option V :=
 match E.ty.A t,T with
 | some r,.int _ i =>
  match r.desc,x with
  | .array n e,.agg cs=>match E.ty.A e with
   | some C=>if 0<=i/\i < n then OR C cs.toList (i.toNat*C.size)else O
   | none=>O
  | .string,.string s=>if 0<=i then(match gS s.data.toList i.toNat with | some b=>U (.int .u8 b.toNat) | none=>O)else O
  | _,_=>O
 | _,_=>O
def J0c(E:iS P)(H:bN E.G Z h w){t:TypeId}{x ix v:V}(hx:c_ (dom Z) x)(hv:Kw E t x ix=U v) :
  e_ P E.G Z h w (Instr.index t (ren Z x) (ren Z ix)) v h:=by
 unfold Kw at hv;split at hv
 ·rename_i r k i hr;split at hv
  ·rename_i n e cs hd;split at hv
   ·rename_i re hk;split at hv
    ·rename_i hc;obtain⟨h1,h2⟩:=Ztu (E.K _ re hk) hv hx w;refine e_.plain H h1 ?_;simp only[Instr.index,jM,asIntOf,aq,aN,ae,run_underlying (E.K t r hr).1,hd,jo,eT,hc,and_self,if_true,
      qG (E.K _ re hk),h2]
    ·cases hv
   ·cases hv
  ·rename_i s hd;split at hv
   ·rename_i hc;split at hv
    ·rename_i b hb;cases hv;rw[u0]at hb;have hs:s[i.toNat]? = U b:=by
      have C:s.data[i.toNat]? = U b:=(by simpa using hb);have T:i.toNat < s.size:=by
       rcases bJ i.toNat s.data.size with h | h
       ·exact h
       ·simp[Array.getElem?_eq_none h]at C
      have h2:s[i.toNat]? = U (s[i.toNat]'T):=by rw[getElem?_pos]
      rw[h2];have h3:s.data[i.toNat]? = U (s.data[i.toNat]'T):=by rw[getElem?_pos]
      rw[h3]at C;exact C
     refine e_.flat H rfl ?_;simp only[Instr.index,jM,asIntOf,aq,aN,ae,run_underlying (E.K t r hr).1,hd,jJ,hc,if_true,hs]
    ·cases hv
   ·cases hv
  ·cases hv
 ·cases hv
def Qa(x:V)(i:Nat):Option V :=
 match x with
 | .tuple C=>gS C.toList i
 | _=>O
def Jrp{G:Bs}(H:bN G Z h w){x v:V}{i:Nat}(hx:c_ (dom Z) x)(hv:Qa x i=U v) :
  e_ P G Z h w (Instr.extract (ren Z x) i) v h:=by
 unfold Qa at hv;split at hv
 ·rename_i T;rw[u0]at hv;have C:T[i]? = U v:=by simpa using hv
  refine e_.plain H ((zt _ _).1 hx v (Array.mem_of_getElem? C)) ?_;have : (T.map (ren Z))[i]? = U (ren Z v):=by rw[Array.getElem?_map,C];rfl
  simp only[Instr.extract,uK,this,aN]
 ·cases hv
def j_(x:Option V)(C T:Nat):Option Nat :=
 match x with
 | none=>U C
 | some (.int _ i)=>if 0<=i/\i<=T then U i.toNat else O
 | _=>O
def zO{k:IntKind}{i:Int}{n:Nat}(C:0<=i/\i<=n)(c:BoundsCode)(w:World):(Instr.sliceBound (.int k i) n c).run P w=.ok i.toNat w:=by
 simp[Instr.sliceBound,asIntOf,C]
def RP(b:Bool)(len cap:Nat)(lo hi mx:Option V){l h m:Nat}(hm:j_ mx cap cap=U m)(hh:j_ hi len m=U h)(hk:hi=O->mx=O)(hl:j_ lo 0 h=U l)(w:World) :
  (Instr.sliceBounds b len cap (lo.map (ren Z)) (hi.map (ren Z)) (mx.map (ren Z))).run P w=.ok (l,h,m) w:=by
 have T:∀ (x:Option V) (d n k:Nat),j_ x d n=U k->(x=O/\d=k) ∨ ∃ q i,x=U (.int q i)/\0<=i/\i<=n/\i.toNat=k:=by
  intro x d n k C;unfold j_ at C;split at C
  ·left;simpa using C
  ·rename_i q i;split at C
   next hc=>right;exact⟨q,i,rfl,hc.1,hc.2,by simpa using C⟩
   ·cases C
  ·cases C
 rcases T _ _ _ _ hm with⟨rfl,rfl⟩ | ⟨qm,im,rfl,m1,m2,rfl⟩
 ·rcases T _ _ _ _ hh with⟨rfl,rfl⟩ | ⟨qh,ih,rfl,h1,h2,rfl⟩
  ·rcases T _ _ _ _ hl with⟨rfl,rfl⟩ | ⟨ql,il,rfl,l1,l2,rfl⟩
   ·simp[Instr.sliceBounds]
   ·simp[Instr.sliceBounds,zO ⟨l1,l2⟩]
  ·rcases T _ _ _ _ hl with⟨rfl,rfl⟩ | ⟨ql,il,rfl,l1,l2,rfl⟩
   ·simp[Instr.sliceBounds,zO ⟨h1,h2⟩]
   ·simp[Instr.sliceBounds,zO ⟨h1,h2⟩,zO ⟨l1,l2⟩]
 ·rcases T _ _ _ _ hh with⟨rfl,rfl⟩ | ⟨qh,ih,rfl,h1,h2,rfl⟩
  ·exact absurd (hk rfl) kA
  ·rcases T _ _ _ _ hl with⟨rfl,rfl⟩ | ⟨ql,il,rfl,l1,l2,rfl⟩
   ·simp[Instr.sliceBounds,zO ⟨m1,m2⟩,zO ⟨h1,h2⟩]
   ·simp[Instr.sliceBounds,zO ⟨m1,m2⟩,zO ⟨h1,h2⟩,zO ⟨l1,l2⟩]
end
section
variable{P:Program}{Z:Ren}{h:N}{w:World}
def wZ(Z:Ren)(a:Option Addr)(n c:Nat)(C:c≠iJ):ren Z (.slice a n c)=.slice (a.map (jv Z)) n c:=by simp[ren,uj,C]
def GW(Z:Ren)(a:Addr)(n:Nat){p:Place}(C:Z a.block=U p):ren Z (M (U a) n iJ)=M (U (jv Z a)) n (p.room-a.off / p.sz):=by
 simp[ren,uj,C]
def xL(a:Option Addr)(sz l h m:Nat):Option V :=
 if m-l == iJ then O else U (.slice (if m=l then a else a.map (·.add (l*sz))) (h-l) (m-l))
def ka(E:iS P)(t:TypeId)(x:V)(lo hi mx:Option V)(h:N):Option (V × N) :=
 if hi.isNone && mx.isSome then O else
 match E.ty.A t,x with
 | some r,.pointer (U a)=>match r.desc with
  | .array n e=>match E.ty.A e,j_ mx n n with
   | some re,U m=>match j_ hi n m with
    | some C=>match j_ lo 0 C with
     | some l=>(xL (U a) re.size l C m).map fun v=>(v,h)
     | none=>O
    | none=>O
   | _,_=>O
  | _=>O
 | some r,.slice a n c=>match r.desc with
  | .slice e=>match E.ty.A e with
   | none=>O
   | some re =>
    if c != iJ then
     match j_ mx c c with
     | some m=>match j_ hi n m with
      | some C=>match j_ lo 0 C with
       | some l=>(xL a re.size l C m).map fun v=>(v,h)
       | none=>O
      | none=>O
     | none=>O
    else match a with
     | none=>O
     | some T=>match h.A T.block with
      | some (S Y sz cs) =>
       if sz == re.size && T.off % sz == 0 && Nat.ble 1 sz then
        let room:=(L cs-T.off) / sz
        match hi,mx with
        | none,O=>match j_ lo 0 n with
         | some l=>aCut T sz (L cs) l n h
         | none=>O
        | some _,O=>match j_ hi n room with
         | some C=>match j_ lo 0 C with
          | some l=>aCut T sz (L cs) l C h
          | none=>O
         | none=>O
        | some _,U _=>match j_ mx room room with
         | some m=>match j_ hi n m with
          | some C=>match j_ lo 0 C with
           | some l=>(xL a re.size l C m).map fun v=>(v,h)
           | none=>O
          | none=>O
         | none=>O
        | none,U _=>O
       else O
      | some (S J sz []) =>
       if sz == re.size && T.off % sz == 0 && Nat.ble 1 sz then
        match mx with
        | none=>match j_ hi n 0 with
         | some C=>match j_ lo 0 C with
          | some l=>if l == 0 then U (M (U T) C iJ,h)else O
          | none=>O
         | none=>O
        | some _=>O
       else O
      | _=>O
  | _=>O
 | some r,.string s=>match r.desc,mx with
  | .string,O=>match j_ hi s.size s.size with
   | some C=>match j_ lo 0 C with
    | some l=>U (.string (s.extract l C),h)
    | none=>O
   | none=>O
  | _,_=>O
 | _,_=>O
 where
 aCut (T:Addr) (sz used l n:Nat) (h:N):Option (V × N) :=
  if l == 0 then U (M (U T) n iJ,h)
  else if Nat.blt (T.off+l*sz) used then U (M (U (T.add (l*sz))) (n-l) iJ,h)
  else if Nat.ble n l then U (M (U ⟨h.Q,0,O⟩) 0 iJ,h.push (S J sz []))
  else O
def J58{x:Option V}{d n k:Nat}(C:j_ x d n=U k)(hd:d<=n):k<=n:=by
 unfold j_ at C;split at C
 ·cases C;exact hd
 ·split at C
  next T=>cases C;omega
  ·cases C
 ·cases C
def Ra{x:Option V}{d T n n' k:Nat}(C:j_ x d n=U k)(hn:n<=n')(hd:x=O->d=T):j_ x T n'=U k:=by
 unfold j_ at C ⊢;split at C
 ·rw[<- hd rfl];exact C
 ·split at C
  next hc=>cases C;rw[if_pos ⟨hc.1,jA⟩]
  ·cases C
 ·cases C
def ZE{a:Option Addr}{sz l h m:Nat}{v:V}(hv:xL a sz l h m=U v)(ha:∀ x,a=U x->dom Z x.block/\x.spot=O) :
  c_ (dom Z) v/\ren Z v=.slice (if m=l then a.map (jv Z)else(a.map (jv Z)).map (·.add (l*sz))) (h-l) (m-l):=by
 unfold xL at hv;split at hv
 ·cases hv
 ·rename_i hc;have C:m-l≠iJ:=by simpa using hc
  cases hv;cases a with
  | none =>
   have e:(if m=l then(O:Option Addr)else Option.map (fun x:Addr=>x.add (l*sz)) O)=O:=by split <;> rfl
   have e2:(if m=l then Option.map (jv Z) (O:Option Addr)else Option.map (fun x:Addr=>x.add (l*sz)) (Option.map (jv Z) O))=O:=by split <;> rfl
   rw[e,e2];exact⟨by simpa only[c_]using C,by rw[wZ _ _ _ _ C];rfl⟩
  | some x =>
   obtain⟨h1,T⟩:=ha x rfl;by_cases hm:m=l
   ·subst hm;simp only[if_true];refine⟨by simp only[c_];exact⟨h1,T⟩,?_⟩;rw[wZ _ _ _ _ C]
   ·simp only[hm,if_false,aL];refine⟨by simp only[c_,A2];exact⟨h1,BY _ _ T⟩,?_⟩;rw[wZ _ _ _ _ C,aL,Cc Z x h1 T]
def J2t(E:iS P)(H:bN E.G Z h w){t:TypeId}{x:V}{lo hi mx:Option V}{v:V}{h':N}(hx:c_ (dom Z) x)
  (hv:ka E t x lo hi mx h=U (v,h')) :
  e_ P E.G Z h w (Instr.sliceAt t (ren Z x) (lo.map (ren Z)) (hi.map (ren Z)) (mx.map (ren Z))) v h':=by
 unfold ka at hv;split at hv
 ·cases hv
 ·rename_i h4;have hC:hi=O->mx=O:=by
   intro h0;subst h0;cases mx with
   | none=>rfl
   | some _=>simp at h4
  split at hv
  ·
   rename_i r a hr;simp only[c_]at hx;split at hv
   ·rename_i n e hd;split at hv
    ·rename_i T m a1 hm;split at hv
     ·rename_i hh hk;split at hv
      ·rename_i l hl;rw[aj]at hv;obtain⟨v',hf,hq⟩:=hv;cases hq;obtain⟨o1,o2⟩:=ZE (Z:=Z) hf (fun y hy=>by cases hy;exact hx);refine e_.plain H o1 ?_;rw[o2];simp only[Instr.sliceAt,aq,run_underlying (E.K t r hr).1,hd,ae,ren,aL,Instr.sureAddr,aN,
        RP (Z:=Z) J n n lo hi mx hm hk hC hl,qG (E.K _ T a1)]
       split <;> rfl
      ·cases hv
     ·cases hv
    ·cases hv
   ·cases hv
  ·
   rename_i r a n c hr;split at hv
   ·rename_i e hd;split at hv
    ·cases hv
    ·rename_i T a1;have h3:∀ (c' l hh m:Nat),j_ mx c' c'=U m->j_ hi n m=U hh->j_ lo 0 hh=U l ->
       (Instr.sliceAt t (.slice (a.map (jv Z)) n c') (lo.map (ren Z)) (hi.map (ren Z)) (mx.map (ren Z))).run P w =
        .ok (.slice (if m=l then a.map (jv Z)else(a.map (jv Z)).map (·.add (l*T.size))) (hh-l) (m-l)) w:=by
      intro c' l hh m e1 e2 e3;simp only[Instr.sliceAt,Instr.slice,aq,run_underlying (E.K t r hr).1,hd,ae,aN,
       RP (Z:=Z) Y n c' lo hi mx e1 e2 hC e3,qG (E.K _ T a1)]
     split at hv
     ·rename_i hc;have he:c≠iJ:=(by simpa using hc);split at hv
      ·rename_i m hm;split at hv
       ·rename_i hh hk;split at hv
        next l hl=>rw[aj]at hv;obtain⟨v',hf,hq⟩:=hv;cases hq;obtain⟨o1,o2⟩:=ZE (Z:=Z) hf (fun y hy=>by subst hy;simpa only[c_]using hx);refine e_.plain H o1 ?_;rw[o2,wZ _ _ _ _ he];exact h3 c l hh m hm hk hl
        ·cases hv
       ·cases hv
      ·cases hv
     ·rename_i hc;have he:c=iJ:=(by simpa using hc);subst he;split at hv
      ·cases hv
      ·rename_i ad;simp only[c_]at hx;obtain⟨p,hp⟩:=aJ.1 hx.1;split at hv
       ·rename_i sz cs hg;split at hv
        ·rename_i h2;simp only[au,beq_iff_eq,cY]at h2;obtain⟨⟨rfl,ls⟩,q1⟩:=h2;have Z':=H.fits _ p _ hp hg;obtain⟨s1,Z'⟩:=Z';rcases Z' with⟨h0,_⟩ | ⟨C,te,eA,ht,f1,f2,f3⟩
         ·cases h0
         obtain⟨g2,f32,a2⟩:=f3 rfl;have hj:L cs<=p.room*T.size:=by
          rw[<- s1,<- a2];rcases bJ C.size (L cs) with hz | m0
          ·have:=(f2 C.size _ (List.getElem?_eq_getElem hz)).1;simp[g2]at this
          ·exact m0
         have es:(L cs-ad.off) / T.size<=p.room-ad.off / T.size:=by
          have h1:(L cs-ad.off) / T.size<=(p.room*T.size-ad.off) / T.size:=Nat.div_le_div_right jA;refine ak h1 ?_;obtain⟨q,hq⟩:=eK ls;rw[hq,dO p.room,<- Nat.mul_sub,dy _ q1,dy _ q1];exact ac _
         rw[GW Z ad n hp,s1];have hB:∀ l hh,j_ hi n (p.room-ad.off / T.size)=U hh->j_ lo 0 hh=U l->mx=O->ka.aCut ad T.size (L cs) l hh h=U (v,h') ->
           e_ P E.G Z h w (Instr.sliceAt t (M (U (jv Z ad)) n (p.room-ad.off / T.size)) (lo.map (ren Z)) (hi.map (ren Z)) (mx.map (ren Z))) v h':=by
          intro l hh e1 e2 e0 hA;have hn:=h3 (p.room-ad.off / T.size) l hh _ (by rw[e0];rfl) e1 e2;simp only[aL]at hn;have p2:l<=hh:=J58 e2 jA;unfold ka.aCut at hA;split at hA
          ·rename_i q2;have hb:l=0:=(by simpa using q2);subst hb;cases hA;refine e_.plain H (by simp only[c_];exact hx) ?_;rw[hn,GW Z ad _ hp,s1];congr 1;by_cases hm:p.room-ad.off / T.size=0
           ·simp[hm]
           ·simp[hm,Addr.add]
          ·rename_i q2;have hb:l≠0:=(by simpa using q2);split at hA
           ·rename_i hz;have p1:ad.off+l*T.size < L cs:=(by simpa[dQ]using hz);cases hA;have hm:ad.off / T.size+l < p.room:=by
             obtain⟨q,hq⟩:=eK ls;rw[hq,dy _ q1];have : T.size*(q+l) < T.size*p.room:=by rw[Nat.mul_add,dO T.size l,dO T.size p.room];omega
             exact Nat.lt_of_mul_lt_mul_left this
            refine e_.plain H (by simp only[c_,A2];exact⟨hx.1,BY _ _ hx.2⟩) ?_;rw[hn,GW Z (ad.add (l*T.size)) _ (by rw[A2];exact hp),s1,if_neg jA,Cc Z ad hx.1 hx.2];congr 2;have hu:(ad.add (l*T.size)).off=ad.off+l*T.size:=by
             obtain⟨b0,o0,s0⟩:=ad;simp only at hx;rw[hx.2,r9]
            rw[hu,Nat.add_mul_div_right _ _ q1];omega
           ·rename_i hz;split at hA
            ·rename_i q3;have hw:hh<=l:=(by simpa using q3);have lb:l=hh:=jA;subst lb;cases hA;have g1:=H.alias (p:={blk:=p.blk,base:=p.base+(if p.room-ad.off / T.size=l then ad.off else ad.off+l*T.size),room:=p.room-ad.off / T.size-l,sz:=T.size,spot:=O}) (H.dom _ _ hp).2;refine⟨_,w,?_,?_,gt _ _ _,g1.1,g1.2⟩
             ·rw[hn];simp only[ren,aL,jv,gq,uj,if_true,cz,Nat.zero_div,dc,cO];congr 2;obtain⟨b0,o0,s0⟩:=ad;have ud:=H.spot hp hg rfl;simp only at hx hp;simp only[hp,hx.2,ud,ite_self,r9];by_cases hm:p.room-o0 / T.size=l
              ·simp[hm]
              ·simp[hm,d5]
             ·simp only[c_];exact⟨by simp[dom,gq],trivial⟩
            ·cases hA
         cases hi with
         | none =>
          have s':=hC rfl;subst s';simp only at hv;split at hv
          next l hl=>exact hB l n rfl hl rfl hv
          ·cases hv
         | some h5 =>
          cases mx with
          | none =>
           simp only at hv;split at hv
           ·rename_i hh hk;split at hv
            next l hl=>exact hB l hh (Ra hk es kA) hl rfl hv
            ·cases hv
           ·cases hv
          | some mv =>
           simp only at hv;split at hv
           ·rename_i m hm;split at hv
            ·rename_i hh hk;split at hv
             next l hl=>rw[aj]at hv;obtain⟨v',hf,hq⟩:=hv;cases hq;obtain⟨o1,o2⟩:=ZE (Z:=Z) hf (fun y hy=>by cases hy;exact hx);refine e_.plain H o1 ?_;rw[o2];exact h3 _ l hh m (Ra hm es kA) hk hl
             ·cases hv
            ·cases hv
           ·cases hv
        ·cases hv
       ·rename_i sz hg;split at hv
        ·rename_i h2;simp only[au,beq_iff_eq,cY]at h2;obtain⟨⟨rfl,ls⟩,q1⟩:=h2;obtain⟨s1, -⟩:=H.fits _ p _ hp hg;split at hv
         ·split at hv
          ·rename_i hh hk;split at hv
           ·rename_i l hl;split at hv
            ·rename_i q2;have hb:l=0:=(by simpa using q2);subst hb;cases hv;have hn:=h3 (p.room-ad.off / T.size) 0 hh _ rfl (Ra hk (bQ _) (fun _=>rfl)) hl;simp only[aL,d9]at hn;rw[GW Z ad n hp,s1];refine e_.plain H (by simp only[c_];exact hx) ?_;simp only[d9];rw[hn,GW Z ad _ hp,s1];congr 1;by_cases hm:p.room-ad.off / T.size=0
             ·simp[hm]
             ·simp[hm,Addr.add]
            ·cases hv
           ·cases hv
          ·cases hv
         ·cases hv
        ·cases hv
       ·cases hv
   ·cases hv
  ·
   rename_i r s hr;split at hv
   ·rename_i hd;split at hv
    ·rename_i hh hk;split at hv
     next l hl=>cases hv;refine e_.flat H rfl ?_;have:=RP (Z:=Z) J s.size s.size lo hi O (by rfl) hk (fun _=>rfl) hl w (P:=P);simp only[d9]at this;simp only[Instr.sliceAt,Instr.slice,aq,run_underlying (E.K t r hr).1,hd,ae,jJ,d9,Option.isSome_none,az,if_false,aN,this]
     ·cases hv
    ·cases hv
   ·cases hv
  ·cases hv
end
section
variable{P:Program}{Z:Ren}{h:N}{w:World}
def pp(E:iS P)(t:TypeId)(x y:V):Option Bool :=
 match E.ty.A t with
 | none=>O
 | some r =>
  match r.desc,x,y with
  | .bool,.bool a,.bool b=>U (a == b)
  | .pointer _,.pointer O,.pointer b=>U b.isNone
  | .pointer _,.pointer (U _),.pointer O=>U J
  | .slice _,M O _ _,.slice b _ _=>U b.isNone
  | .slice _,M (U _) _ _,M O _ _=>U J
  | .map _ _,.map O,.map b=>U b.isNone
  | .map _ _,.map (U _),.map O=>U J
  | .func _ _ _,.nilFunc,.nilFunc=>U Y
  | .func _ _ _,.nilFunc,.func _ _ _=>U J
  | .func _ _ _,.func _ _ _,.nilFunc=>U J
  | .interface _,.nilIface,.nilIface=>U Y
  | .interface _,.nilIface,.iface _ _=>U J
  | .interface _,.iface _ _,.nilIface=>U J
  | .struct _,.agg C,.agg T=>if r.leaf.isEmpty then O else jz r.leaf C.toList T.toList
  | .array _ _,.agg C,.agg T=>if r.leaf.isEmpty then O else jz r.leaf C.toList T.toList
  | _,_,_=>O
def QM(Z:Ren):∀ (C:List Nat) (xs ys:List V) (b:Bool),jz C xs ys=U b->xs.map (ren Z)=xs/\ys.map (ren Z)=ys
 | [],[],[],_,_=>by simp
 | l::C,x::xs,y::ys,b,h=>by
  simp only[jz]at h;split at h
  next a c h1 T=>have ih:=QM Z C xs ys c T;unfold Ax at h1;split at h1 <;> simp_all
  ·cases h
 | [],_::_,_,_,h=>by simp[jz]at h
 | [],[],_::_,_,h=>by simp[jz]at h
 | _::_,[],_,_,h=>by simp[jz]at h
 | _::_,_::_,[],_,h=>by simp[jz]at h
def J9z(E:iS P){t:TypeId}{x y:V}{b:Bool}(hv:pp E t x y=U b)(w:World):(Op.equal t (ren Z x) (ren Z y)).run P w=.ok b w:=by
 unfold pp at hv;cases hr:E.ty.A t with
 | none=>simp[hr]at hv
 | some r =>
  simp only[hr]at hv;have ho:=E.K t r hr;have hu:=ho.1;have C:∀ xs ys:Array V,(if r.leaf.isEmpty=Y then O else jz r.leaf xs.toList ys.toList)=U b->(Op.equal t (ren Z (.agg xs)) (ren Z (.agg ys))).run P w=.ok b w:=by
   intro xs ys he;split at he
   ·cases he
   ·rename_i hx;obtain⟨_,_,_,_,_,_,_,_,_,hq⟩:=ho;have h1:=QM Z _ _ _ _ he;have h2:=(hq (by simpa using hx)).2.1 _ _ _ w he;have e1:xs.map (ren Z)=xs:=by apply bR;rw[bL];exact h1.1
    have e2:ys.map (ren Z)=ys:=by apply bR;rw[bL];exact h1.2
    rw[jo,jo,e1,e2];exact h2
  have T:(∀ d,(Op.equalIn (d+1) t (ren Z x) (ren Z y)).run P w=.ok b w)->(Op.equal t (ren Z x) (ren Z y)).run P w=.ok b w:=fun hd=>hd 9999;split at hv <;> first
   | (rename_i hd;cases hv;refine T fun d => ?_;simp[Op.equalIn,run_underlying hu,hd,ren];done)
   | exact C _ _ hv
   | cases hv
def Q8:Operand->Bool
 | .const _=>Y
 | _=>J
def kh(E:iS P)(op:BinOp)(t:TypeId)(x y:V):Option V :=
 match op with
 | .eql=>(pp E t x y).map .bool
 | .neq=>(pp E t x y).map fun b => .bool (!b)
 | _=>O
def jD(s:Sem V):Option V :=
 match UB s with
 | some v=>if flat v then U v else O
 | none=>O
def LW{s:Sem V}{v:V}(hs:jD s=U v):flat v=Y/\∀ w,s.run P w=.ok v w:=by
 unfold jD at hs;split at hs
 ·rename_i u T;split at hs
  next C=>cases hs;exact⟨C,J0t T⟩
  ·cases hs
 ·cases hs
def Yx(E:iS P)(op:BinOp)(t:TypeId)(k:Bool)(x y:V):Option V :=
 match x,y with
 | .int _ _,.int _ _=>jD (binOp op t x y)
 | .string _,.string _=>jD (binOp op t x y)
 | .nilIface,.nilIface=>if k then kh E op t x y else O
 | _,_=>kh E op t x y
def ZJ(E:iS P){G:Bs}(H:bN G Z h w){op:BinOp}{t:TypeId}{ox oy:Operand}{x y v:V}
  (T:(eqGuard op t ox oy (ren Z x) (ren Z y)).run P w=.ok () w)
  (h1:binOp .eql t (ren Z x) (ren Z y)=(do pure (.bool (<- Op.equal t (ren Z x) (ren Z y)))))
  (h2:binOp .neq t (ren Z x) (ren Z y)=(do pure (.bool (!(<- Op.equal t (ren Z x) (ren Z y))))))
  (hv:kh E op t x y=U v):e_ P G Z h w (do eqGuard op t ox oy (ren Z x) (ren Z y);binOp op t (ren Z x) (ren Z y)) v h:=by
 cases op <;> simp only[kh]at hv <;> first
  | cases hv;done
  | skip
 ·rw[aj]at hv;obtain⟨b,C,rfl⟩:=hv;refine e_.flat H rfl ?_;simp only[aq,T,ae,h1,J9z E C,aN]
 ·rw[aj]at hv;obtain⟨b,C,rfl⟩:=hv;refine e_.flat H rfl ?_;simp only[aq,T,ae,h2,J9z E C,aN]
def Jk0{E:iS P}{op:BinOp}{t:TypeId}{x y v:V}(hv:kh E op t x y=U v):∃ b,pp E t x y=U b:=by
 cases op <;> simp only[kh]at hv <;> first
  | cases hv;done
  | (rw[aj]at hv;obtain⟨b,C,_⟩:=hv;exact⟨b,C⟩)
def Vax (E : iS P) {G : Bs} (H : bN G Z h w) {op : BinOp} {t : TypeId} {ox oy : Operand} {x y v : V} (hv : Yx E op t (Q8 ox || Q8 oy) x y = U v) :
    e_ P G Z h w (do eqGuard op t ox oy (ren Z x) (ren Z y); binOp op t (ren Z x) (ren Z y)) v h := by
  have hx : (eqGuard op t ox oy (ren Z x) (ren Z y)).run P w = .ok () w -> ren Z x = x -> ren Z y = y -> jD (binOp op t x y) = U v ->
      e_ P G Z h w (do eqGuard op t ox oy (ren Z x) (ren Z y); binOp op t (ren Z x) (ren Z y)) v h := by
    intro hg e1 e2 hp;obtain ⟨hf, T⟩ := LW (P := P) hp;refine e_.flat H hf ?_;simp only [aq,hg,ae];rw [e1, e2];exact T w
  cases x <;> cases y <;> simp only [Yx] at hv <;> first
    | (refine hx ?_ kA kA hv; cases op <;> simp [eqGuard]; done)
    | (obtain ⟨b, C⟩ := Jk0 hv
       unfold pp at C;cases T : E.ty.A t with
       | none => simp [T] at C
       | some r =>
         simp only [T] at C;cases hd : r.desc <;> simp [hd] at C; done)
    | (refine ZJ E H ?_ ?_ ?_ hv
       · simp only [ren,eqGuard]; cases op <;> simp; done
       · simp only [ren]; rfl
       · simp only [ren]; rfl)
    | skip
  ·
    split at hv
    · rename_i hk
      refine ZJ E H ?_ rfl rfl hv;simp only [Q8,cx] at hk;simp only [ren,eqGuard];rcases hk with hk | hk
      · cases ox <;> simp at hk; cases op <;> simp
      · cases oy <;> simp at hk; cases op <;> simp
    · cases hv
  ·
    rename_i xs ys;obtain ⟨b, C⟩ := Jk0 hv;have hc : ∃ r, E.ty.A t = U r /\ r.leaf ≠ [] := by
      unfold pp at C;cases T : E.ty.A t with
      | none => simp [T] at C
      | some r =>
        simp only [T] at C;refine ⟨r, rfl, fun h0 => ?_⟩;cases hd : r.desc <;> simp [hd,h0] at C
    obtain ⟨r, T, hl⟩ := hc;obtain ⟨_, _, _, _, _, _, _, _, _, hq⟩ := E.K t r T;refine ZJ E H ?_ ?_ ?_ hv
    · rw [jo, jo]; exact run_eqGuard_agg w op t ox oy _ _ (hq hl).1
    · rw [jo, jo]; rfl
    · rw [jo, jo]; rfl
end
end Go.Ab
