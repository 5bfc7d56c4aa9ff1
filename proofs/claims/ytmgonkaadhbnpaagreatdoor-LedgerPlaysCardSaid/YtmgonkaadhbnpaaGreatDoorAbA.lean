import Derived.WalkKit
import Derived.OrdersIn
import Derived.DefersIn
import Derived.Laws.StructEq
import Derived.ChangeKeysEq
set_option linter.all false
open List renaming length→L
open Option renaming some→U,none→O
open Bool renaming true→Y,false→J
open Go renaming Value→V
open Go.Value renaming int→I,slice→M
open Go.IntKind renaming i64→X
noncomputable section
namespace Go
theorem iA{p:Prop}(h:p:=by omega):p:=h
theorem jA{p:Prop}(h:p:=by simp):p:=h
theorem kA{p:Prop}(h:p:=by decide):p:=h
theorem kR{A:Sort _}{a b:A}(h:a=b:=by kernel_rfl):a=b:=h
abbrev zU:V:=.int .u8 0
end Go
namespace Go.Ab
abbrev pO(b o:Nat):V:=.pointer (U ⟨b,o,O⟩)
abbrev ac:=@List.getElem?_eq_getElem
abbrev ae:=@List.mem_of_getElem?
abbrev ah:=@List.mem_append
abbrev ai:=@Nat.le_refl
abbrev aj:=@List.take_of_length_le
abbrev ak:=@Result.andThen_ok
abbrev am:=@List.mem_map
abbrev ao:=@Nat.le_trans
abbrev aq:=@Nat.lt_of_lt_of_le
abbrev ar:=@List.mem_cons
abbrev au:=@Option.map_eq_some_iff
abbrev av:=@List.getElem?_eq_some_iff
abbrev aw:=@Sem.run_bind
abbrev ax:=@Bool.and_eq_true
abbrev az:=@Bool.false_eq_true
abbrev aH:=@List.map_cons
abbrev aJ:=@List.length_append
abbrev aL:=@List.getElem?_append_right
abbrev aN:=@List.getElem?_append_left
abbrev aQ:=@Option.map_some
abbrev aR:=@List.mem_cons_of_mem
abbrev aT:=@List.take_succ
abbrev aU:=@Option.some.injEq
abbrev b7:=@List.getElem?_map
abbrev b9:=@List.append_assoc
abbrev ba:=@List.drop_zero
abbrev bb:=@List.mem_singleton
abbrev bf:=@Option.isSome_iff_exists
abbrev bg:=@Sem.run_pure
abbrev bh:=@List.drop_eq_getElem_cons
abbrev bm:=@List.take_append_of_le_length
abbrev bo:=@List.length_map
abbrev bw:=@Nat.zero_le
abbrev bz:=@List.take_append_drop
abbrev bA:=@Int.toNat_natCast
abbrev bB:=@List.eq_nil_of_length_eq_zero
abbrev bD:=@List.set_append_right
abbrev bE:=@List.mem_flatMap
abbrev bF:=@List.map_append
abbrev bG:=@List.drop_eq_nil_of_le
abbrev bH:=@List.take_length
abbrev bI:=@List.length_cons
abbrev bJ:=@Nat.le_succ
abbrev bK:=@List.map_congr_left
abbrev bL:=@List.map_map
abbrev bM:=@Bool.eq_false_iff
abbrev bO:=@List.mem_filterMap
abbrev bQ:=@List.mem_cons_self
abbrev bR:=@Nat.add_zero
abbrev bS:=@List.append_nil
abbrev bU:=@List.drop_drop
abbrev bV:=@Nat.mul_le_mul_right
abbrev bW:=@Nat.zero_add
abbrev bX:=@List.nil_append
abbrev bY:=@Nat.lt_succ_self
abbrev bZ:=@Bool.not_true
abbrev ce:=@Nat.lt_succ_of_lt
abbrev cf:=@Nat.lt_or_ge
abbrev cg:=@Nat.mul_one
abbrev cj:=@Bool.or_eq_true
abbrev ck:=@List.drop_of_length_le
abbrev cm:=@List.getElem?_eq_none
abbrev ct:=@List.not_mem_nil
abbrev cx:=@Bool.not_eq_true'
abbrev cy:=@List.replicate_succ
abbrev cz:=@Nat.add_mul
abbrev cE:=@Classical.byContradiction
abbrev cF:=@Nat.eq_of_beq_eq_true
abbrev cG:=@List.mem_of_mem_head?
abbrev cJ:=@List.length_singleton
abbrev cK:=@List.length_drop
abbrev cL:=@List.drop_length
abbrev cM:=@Array.toList_map
abbrev cN:=@Prod.mk.injEq
abbrev cO:=@List.mem_of_mem_take
abbrev cP:=@Option.some.inj
abbrev cQ:=@Option.map_none
abbrev cR:=@Nat.ble_eq
abbrev cS:=@Array.getD_eq_getD_getElem?
abbrev cU:=@Nat.mod_eq_of_lt
abbrev cY:=@Nat.lt_of_le_of_lt
abbrev cZ:=@List.take_zero
abbrev d4:=@Array.getElem?_eq_some_iff
abbrev d5:=@List.length_nil
abbrev d6:=@List.mem_of_mem_drop
abbrev d7:=@List.getElem?_of_mem
abbrev d8:=@Bool.or_true
abbrev d9:=@Nat.xor_mod_two_pow
abbrev dc:=@List.getElem?_range
abbrev df:=@List.length_take
abbrev dh:=@List.length_eq_zero_iff
abbrev di:=@List.drop_left
abbrev dj:=@Array.ext'
abbrev dn:=@Nat.add_assoc
abbrev dq:=@List.ext_getElem?
abbrev du:=@List.perm_ext_iff_of_nodup
abbrev dw:=@Bool.not_false
abbrev dx:=@List.all_eq_true
abbrev dy:=@List.drop_succ_cons
abbrev dz:=@List.nodup_cons
abbrev dA:=@List.mem_filter
abbrev dC:=@List.foldl_cons
abbrev dD:=@Array.ext_getElem?
abbrev dE:=@Nat.mul_div_cancel_left
abbrev dF:=@List.mem_singleton_self
abbrev dG:=@Nat.sub_zero
abbrev dH:=@Function.comp_def
abbrev dI:=@List.length_filter_le
abbrev dJ:=@List.map_take
abbrev dK:=@Bool.true_and
abbrev dL:=@Sem.run_ite
abbrev dM:=@Array.map_congr_left
abbrev dN:=@Nat.min_eq_left
abbrev dO:=@Array.getElem?_setIfInBounds
abbrev dP:=@List.length_pos_iff
abbrev dQ:=@Nat.sub_self
abbrev dR:=@Nat.mul_comm
abbrev dS:=@List.map_nil
abbrev dT:=@Option.map_map
abbrev dU:=@Nat.blt_eq
abbrev dV:=@List.pairwise_cons
abbrev dW:=@List.getD_eq_getElem?_getD
abbrev dX:=@Array.getElem?_eq_getElem
abbrev dY:=@Nat.le_succ_of_le
abbrev dZ:=@List.nodup_append
abbrev ee:=@Bool.not_eq_false
abbrev eh:=@List.sum_cons
abbrev ek:=@List.filter_cons
abbrev eJ:=@List.cons_append
abbrev eK:=@Nat.ne_of_beq_eq_false
abbrev eN:=@Nat.mod_lt
abbrev eO:=@Nat.dvd_of_mod_eq_zero
abbrev eP:=@Nat.div_div_eq_div_mul
abbrev eR:=@Bool.true_or
abbrev f7:=@Nat.mul_eq_zero
abbrev f8:=@List.eq_nil_or_concat
abbrev f9:=@List.concat_eq_append
abbrev fc:=@Array.mem_of_getElem?
abbrev fe:=@Array.getElem?_modify
abbrev ff:=@List.set_append_left
abbrev fg:=@List.range_eq_range'
abbrev fh:=@List.pairwise_append
abbrev fj:=@Array.mem_toList_iff
abbrev fk:=@Array.isEmpty_toList
abbrev fp:=@List.getElem_of_mem
abbrev fq:=@List.getElem?_drop
abbrev ft:=@Array.getElem?_map
abbrev fu:=@Nat.zero_mul
abbrev fw:=@List.size_toArray
abbrev fx:=@List.pairwise_map
abbrev fy:=@List.getElem?_set
abbrev fC:=@DataW.trod_struct
abbrev fD:=@List.range'_succ
abbrev fE:=@List.drop_append
abbrev fF:=@List.Nodup.length_le_of_subset
abbrev fH:=@Nat.mod_mod
abbrev fI:=@List.drop_append_of_le_length
abbrev fJ:=@Value.agg.injEq
abbrev fK:=@List.take_left'
abbrev fL:=@List.filter_map
abbrev fM:=@BitVec.toNat_or
abbrev fN:=@List.take_take
abbrev fO:=@Int.ofNat_tmod
abbrev fP:=@Int.ofNat_tdiv
abbrev fQ:=@Int.fdiv_eq_ediv_of_nonneg
abbrev fR:=@Array.mk.injEq
abbrev fS:=@Array.getElem?_append_left
abbrev fT:=@List.isEmpty_eq_false_iff
abbrev fU:=@Array.mapM_eq_mapM_toList
abbrev fV:=@Oper.semAt_eq
abbrev fW:=@List.map_drop
abbrev fX:=@List.getElem?_take_of_lt
abbrev fY:=@List.eq_of_mem_replicate
abbrev fZ:=@Bool.or_false
abbrev gc:=@Bool.false_or
abbrev ge:=@Nat.add_sub_cancel_left
abbrev gg:=@List.pairwise_singleton
abbrev gh:=@List.getElem?_cons_zero
abbrev gj:=@List.getElem?_cons_succ
abbrev gk:=@Nat.succ_mul
abbrev gt:=@Nat.pow_succ
abbrev gu:=@Nat.lt_trans
abbrev gw:=@Nat.le_of_lt
abbrev gy:=@List.map_set
abbrev gz:=@Nat.le_of_ble_eq_true
abbrev gF:=@Array.getElem?_toList
abbrev gJ:=@BitVec.ofInt_natCast
abbrev gL:=@MapKept.run_findKey
abbrev gN:=@List.map_eq_flatMap
abbrev gQ:=@List.drop_replicate
abbrev gU:=@ByteArray.toList_eq
abbrev hN:=@Array.toList_append
abbrev hP:=@Array.length_toList
structure Place where
 blk:Nat
 base:Nat
 room:Nat
 sz:Nat
 spot:Option Nat
 deriving Inhabited
abbrev Ren:=Nat->Option Place
def iJ:Nat:=9223372036854775808
def jD(M_:Ren)(b:Nat):Nat:=match M_ b with | some p=>p.blk | none=>b
def jS(M_:Ren)(a:Addr):Addr:=match M_ a.block with | some p=>{block:=p.blk,off:=p.base+a.off,spot:=if a.off=0 then p.spot else O} | none=>a
def uA(M_:Ren)(a:Option Addr)(c:Nat):Nat :=
 if c=iJ then(match a with | some a=>(match M_ a.block with | some p=>p.room-a.off / p.sz | none=>c) | none=>c)else c
def vC(M_:Ren):Fn->Fn
 | .yield l => .yield (jD M_ l)
 | f=>f
mutual
def b_(M_:Ren):V->V
 | .pointer a => .pointer (a.map (jS M_))
 | .slice a n c => .slice (a.map (jS M_)) n (uA M_ a c)
 | .map r => .map (r.map (jD M_))
 | .chan r => .chan (r.map (jD M_))
 | .func fn f c => .func (vC M_ fn) (kn M_ f) (kn M_ c)
 | .iface t v => .iface t (b_ M_ v)
 | .agg cs => .agg (kn M_ cs)
 | .tuple cs => .tuple (kn M_ cs)
 | .bool b => .bool b
 | .int k n => .int k n
 | .float k b => .float k b
 | .complex k a b => .complex k a b
 | .string s => .string s
 | .nilFunc => .nilFunc
 | .nilIface => .nilIface
def kn(M_:Ren):Array V->Array V
 | ⟨l⟩=>⟨mA M_ l⟩
def mA(M_:Ren):List V->List V
 | []=>[]
 | v::l=>b_ M_ v::mA M_ l
end
def U3y(M_:Ren)(l:List V):mA M_ l=l.map (b_ M_):=by
 induction l with
 | nil=>simp[mA]
 | cons v l ih=>simp[mA,ih]
def uo(M_:Ren)(l:Array V):kn M_ l=l.map (b_ M_):=by
 cases l;simp[kn,U3y]
mutual
def d_(D:Nat->Prop):V->Prop
 | .pointer (U a)=>D a.block/\a.spot=O
 | M (U a) _ _=>D a.block/\a.spot=O
 | M O _ c=>c≠iJ
 | .map (U r)=>D r
 | .chan (U _)=>False
 | .func (.yield l) f c=>D l/\mH D f/\mH D c
 | .func _ f c=>mH D f/\mH D c
 | .iface _ v=>d_ D v
 | .agg cs=>mH D cs/\cs.toList.all (·.oneCell')=Y
 | .tuple cs=>mH D cs
 | _=>True
def mH(D:Nat->Prop):Array V->Prop
 | ⟨l⟩=>nr D l
def nr(D:Nat->Prop):List V->Prop
 | []=>True
 | v::l=>d_ D v/\nr D l
end
def U5r(D:Nat->Prop)(l:List V):nr D l ↔ ∀ v ∈ l,d_ D v:=by
 induction l with
 | nil=>simp[nr]
 | cons v l ih=>simp[nr,ih]
def wQ(D:Nat->Prop)(l:Array V):mH D l ↔ ∀ v ∈ l,d_ D v:=by
 cases l;simp[mH,U5r]
mutual
def iq{D E:Nat->Prop}(h:∀ b,D b->E b):(v:V)->d_ D v->d_ E v
 | .pointer (U a),hv=>by simp only[d_]at hv ⊢;grind
 | .pointer O,_=>by simp[d_]
 | M (U a) _ _,hv=>by simp only[d_]at hv ⊢;grind
 | M O _ _,hv=>by simpa only[d_]using hv
 | .map (U r),hv=>by simp only[d_]at hv ⊢;grind
 | .map O,_=>by simp[d_]
 | .chan (U _),hv=>by simp[d_]at hv
 | .chan O,_=>by simp[d_]
 | .func fn f c,hv=>by
  cases fn <;> simp only[d_]at hv ⊢ <;>
   first
    | exact⟨jJ h f hv.1,jJ h c hv.2⟩
    | exact⟨h _ hv.1,jJ h f hv.2.1,jJ h c hv.2.2⟩
 | .iface _ v,hv=>by simp only[d_]at hv ⊢;exact iq h v hv
 | .agg cs,hv=>by simp only[d_]at hv ⊢;exact⟨jJ h cs hv.1,hv.2⟩
 | .tuple cs,hv=>by simp only[d_]at hv ⊢;exact jJ h cs hv
 | .bool _,_=>by simp[d_]
 | .int _ _,_=>by simp[d_]
 | .float _ _,_=>by simp[d_]
 | .complex _ _ _,_=>by simp[d_]
 | .string _,_=>by simp[d_]
 | .nilFunc,_=>by simp[d_]
 | .nilIface,_=>by simp[d_]
def jJ{D E:Nat->Prop}(h:∀ b,D b->E b):(v:Array V)->mH D v->mH E v
 | ⟨l⟩,hv=>by simp only[mH]at hv ⊢;exact rP h l hv
def rP{D E:Nat->Prop}(h:∀ b,D b->E b):(v:List V)->nr D v->nr E v
 | [],_=>by simp[nr]
 | v::l,hv=>by simp only[nr]at hv ⊢;exact⟨iq h v hv.1,rP h l hv.2⟩
end
def tU{M_ β:Ren}{b:Nat}(h:β b=M_ b):jD β b=jD M_ b:=by simp[jD,h]
def UC{M_ β:Ren}{a:Addr}(h:β a.block=M_ a.block):jS β a=jS M_ a:=by simp[jS,h]
mutual
def iB{M_ β:Ren}{D:Nat->Prop}(h:∀ b,D b->β b=M_ b):(v:V)->d_ D v->b_ β v=b_ M_ v
 | .pointer (U a),hv=>by simp only[d_]at hv;simp[b_,UC (h _ hv.1)]
 | .pointer O,_=>by simp[b_]
 | M (U a) _ _,hv=>by simp only[d_]at hv;simp[b_,UC (h _ hv.1),uA,h _ hv.1]
 | M O _ _,_=>by simp[b_,uA]
 | .map (U r),hv=>by simp only[d_]at hv;simp[b_,tU (h _ hv)]
 | .map O,_=>by simp[b_]
 | .chan (U _),hv=>by simp[d_]at hv
 | .chan O,_=>by simp[b_]
 | .func fn f c,hv=>by
  cases fn <;> simp only[d_]at hv <;>
   first
    | simp only[b_,vC,jl h f hv.1,jl h c hv.2]
    | simp only[b_,vC,tU (h _ hv.1),jl h f hv.2.1,jl h c hv.2.2]
 | .iface _ v,hv=>by simp only[d_]at hv;simp[b_,iB h v hv]
 | .agg cs,hv=>by simp only[d_]at hv;simp[b_,jl h cs hv.1]
 | .tuple cs,hv=>by simp only[d_]at hv;simp[b_,jl h cs hv]
 | .bool _,_=>by simp[b_]
 | .int _ _,_=>by simp[b_]
 | .float _ _,_=>by simp[b_]
 | .complex _ _ _,_=>by simp[b_]
 | .string _,_=>by simp[b_]
 | .nilFunc,_=>by simp[b_]
 | .nilIface,_=>by simp[b_]
def jl{M_ β:Ren}{D:Nat->Prop}(h:∀ b,D b->β b=M_ b):(v:Array V)->mH D v->kn β v=kn M_ v
 | ⟨l⟩,hv=>by simp only[mH]at hv;simp[kn,pu h l hv]
def pu{M_ β:Ren}{D:Nat->Prop}(h:∀ b,D b->β b=M_ b):(v:List V)->nr D v->mA β v=mA M_ v
 | [],_=>by simp[mA]
 | v::l,hv=>by simp only[nr]at hv;simp[mA,iB h v hv.1,pu h l hv.2]
end
mutual
def flat:V->Bool
 | .pointer (U _)=>J
 | M (U _) _ _=>J
 | M O _ c => !(c == iJ)
 | .map (U _)=>J
 | .chan (U _)=>J
 | .func (.yield _) _ _=>J
 | .func _ f c=>iS f && iS c
 | .iface _ v=>flat v
 | .agg cs=>iS cs && cs.toList.all (·.oneCell')
 | .tuple cs=>iS cs
 | _=>Y
def iS:Array V->Bool
 | ⟨l⟩=>lq l
def lq:List V->Bool
 | []=>Y
 | v::l=>flat v && lq l
end
mutual
def jB(D:Nat->Prop):(v:V)->flat v=Y->d_ D v
 | .pointer (U a),hv=>by simp[flat]at hv
 | .pointer O,_=>by simp[d_]
 | M (U a) _ _,hv=>by simp[flat]at hv
 | M O _ _,hv=>by simpa[flat,d_]using hv
 | .map (U r),hv=>by simp[flat]at hv
 | .map O,_=>by simp[d_]
 | .chan (U _),hv=>by simp[flat]at hv
 | .chan O,_=>by simp[d_]
 | .func fn f c,hv=>by
  cases fn <;> simp only[flat,ax]at hv <;>
   first
    | (simp only[d_];exact⟨nN D f hv.1,nN D c hv.2⟩)
    | exact absurd hv jA
 | .iface _ v,hv=>by simp only[flat]at hv;simp only[d_];exact jB D v hv
 | .agg cs,hv=>by simp only[flat,ax]at hv;simp only[d_];exact⟨nN D cs hv.1,hv.2⟩
 | .tuple cs,hv=>by simp only[flat]at hv;simp only[d_];exact nN D cs hv
 | .bool _,_=>by simp[d_]
 | .int _ _,_=>by simp[d_]
 | .float _ _,_=>by simp[d_]
 | .complex _ _ _,_=>by simp[d_]
 | .string _,_=>by simp[d_]
 | .nilFunc,_=>by simp[d_]
 | .nilIface,_=>by simp[d_]
def nN(D:Nat->Prop):(v:Array V)->iS v=Y->mH D v
 | ⟨l⟩,hv=>by simp only[iS]at hv;simp only[mH];exact rS D l hv
def rS(D:Nat->Prop):(v:List V)->lq v=Y->nr D v
 | [],_=>by simp[nr]
 | v::l,hv=>by simp only[lq,ax]at hv;simp only[nr];exact⟨jB D v hv.1,rS D l hv.2⟩
end
mutual
def pp:(v:V)->b_ (fun _=>O) v=v
 | .pointer (U a)=>by simp[b_,jS]
 | .pointer O=>by simp[b_]
 | M (U a) _ _=>by simp[b_,jS,uA]
 | M O _ _=>by simp[b_,uA]
 | .map (U r)=>by simp[b_,jD]
 | .map O=>by simp[b_]
 | .chan (U r)=>by simp[b_,jD]
 | .chan O=>by simp[b_]
 | .func fn f c=>by cases fn <;> simp[b_,vC,jD,mE f,mE c]
 | .iface _ v=>by simp[b_,pp v]
 | .agg cs=>by simp[b_,mE cs]
 | .tuple cs=>by simp[b_,mE cs]
 | .bool _=>by simp[b_]
 | .int _ _=>by simp[b_]
 | .float _ _=>by simp[b_]
 | .complex _ _ _=>by simp[b_]
 | .string _=>by simp[b_]
 | .nilFunc=>by simp[b_]
 | .nilIface=>by simp[b_]
def mE:(v:Array V)->kn (fun _=>O) v=v
 | ⟨l⟩=>by simp[kn,qS l]
def qS:(v:List V)->mA (fun _=>O) v=v
 | []=>by simp[mA]
 | v::l=>by simp[mA,pp v,qS l]
end
def tf(M_:Ren){v:V}(h:flat v=Y):b_ M_ v=v:=by
 have h1:=iB (M_:=fun _=>O) (β:=M_) (D:=fun _=>False) (fun _ j=>j.elim) v (jB _ v h);rw[h1,pp]
@[simp] def kO (M_:Ren) (k:IntKind) (n:Int):b_ M_ (.int k n)=.int k n:=by simp[b_]
@[simp] def nL (M_:Ren) (b:Bool):b_ M_ (.bool b)=.bool b:=by simp[b_]
@[simp] def jV (M_:Ren) (b:ByteArray):b_ M_ (.string b)=.string b:=by simp[b_]
@[simp] def rj (M_:Ren):b_ M_ .nilIface=.nilIface:=by simp[b_]
@[simp] def jZ (M_:Ren) (c:Array V):b_ M_ (.agg c)=.agg (c.map (b_ M_)):=by simp[b_,uo]
@[simp] def uO (M_:Ren) (c:Array V):b_ M_ (.tuple c)=.tuple (c.map (b_ M_)):=by simp[b_,uo]
@[simp] def mD (M_:Ren) (t:TypeId) (v:V):b_ M_ (.iface t v)=.iface t (b_ M_ v):=by simp[b_]
def RG(M_:Ren)(v:V):(b_ M_ v).cells=v.cells.map (b_ M_):=by
 cases v <;> simp[b_,Value.cells,uo]
def Jsn(M_:Ren)(v:V):(b_ M_ v).oneCell'=v.oneCell':=by
 cases v <;> simp[b_,Value.oneCell']
def OM(D:Nat->Prop)(c:Array V):d_ D (.agg c) ↔ ∀ v ∈ c,d_ D v/\v.oneCell'=Y:=by
 simp only[d_,wQ,dx,fj]
 grind
def zY(D:Nat->Prop)(c:Array V):d_ D (.tuple c) ↔ ∀ v ∈ c,d_ D v:=by simp only[d_,wQ]
def mg:V->Bool
 | .tuple _=>J
 | _=>Y
def G5(D:Nat->Prop)(v:V)(h:d_ D v)(C:mg v=Y):∀ c ∈ v.cells,d_ D c/\c.oneCell'=Y:=by
 cases v <;> simp only[Value.cells] <;>
  first
   | exact(OM D _).1 h
   | (intro c j;simp only[List.mem_toArray,bb]at j;subst j;exact⟨h,rfl⟩)
   | simp[mg]at C
def HU(D:Nat->Prop)(l:List V)(h:∀ c ∈ l,d_ D c/\c.oneCell'=Y):d_ D (.agg l.toArray):=(OM D _).2 (by grind)
inductive Tr (A:Type) where
 | leaf
 | node (v:Option A) (l r:Tr A)
namespace Tr
def A{A:Type}(t:Tr A):Nat->Option A :=
 Tr.rec (motive:=fun _=>Nat->Option A) (fun _=>O)
  (fun v _ _ gl j n=>Nat.rec (motive:=fun _=>Option A) v (fun m _=>Bool.rec (motive:=fun _=>Option A) (j (Nat.div m 2)) (gl (Nat.div m 2)) (Nat.beq (Nat.mod m 2) 0)) n) t
def one{A:Type}(x:Option A)(f:Nat):Nat->Tr A :=
 Nat.rec (motive:=fun _=>Nat->Tr A) (fun _=>leaf)
  (fun _ g n=>Nat.rec (motive:=fun _=>Tr A) (node x leaf leaf) (fun m _=>Bool.rec (motive:=fun _=>Tr A) (node O leaf (g (Nat.div m 2))) (node O (g (Nat.div m 2)) leaf) (Nat.beq (Nat.mod m 2) 0)) n) f
def put{A:Type}(t:Tr A)(n:Nat)(x:Option A):Tr A :=
 Tr.rec (motive:=fun _=>Nat->Tr A) (fun n=>one x (Nat.succ n) n)
  (fun v l r j pr n=>Nat.rec (motive:=fun _=>Tr A) (node x l r) (fun m _=>Bool.rec (motive:=fun _=>Tr A) (node v l (pr (Nat.div m 2))) (node v (j (Nat.div m 2)) r) (Nat.beq (Nat.mod m 2) 0)) n) t n
@[simp] def get_leaf {A:Type} (n:Nat):(leaf:Tr A).A n=O:=rfl
def K5{A:Type}(v:Option A)(l r:Tr A):(node v l r).A 0=v:=rfl
def A0{A:Type}(v:Option A)(l r:Tr A)(n:Nat):(node v l r).A (n+1)=if n % 2=0 then l.A (n / 2)else r.A (n / 2):=by
 have h:(node v l r).A (n+1)=Bool.rec (motive:=fun _=>Option A) (r.A (n / 2)) (l.A (n / 2)) (Nat.beq (n % 2) 0):=rfl;rw[h];cases j:Nat.beq (n % 2) 0 with
 | true=>simp_all
 | false=>rw[if_neg (eK j)]
def Nl{A:Type}(x:Option A)(f:Nat):one x (f+1) 0=node x leaf leaf:=rfl
def NG{A:Type}(x:Option A)(f n:Nat):one x (f+1) (n+1)=if n % 2=0 then node O (one x f (n / 2)) leaf else node O leaf (one x f (n / 2)):=by
 have h:one x (f+1) (n+1)=Bool.rec (motive:=fun _=>Tr A) (node O leaf (one x f (n / 2))) (node O (one x f (n / 2)) leaf) (Nat.beq (n % 2) 0):=rfl;rw[h];cases j:Nat.beq (n % 2) 0 with
 | true=>simp_all
 | false=>rw[if_neg (eK j)]
def On{A:Type}(x:Option A):∀ (f n m:Nat),n < f->(one x f n).A m=if n=m then x else O
 | 0,n,m,h=>by omega
 | f+1,0,m,_=>by
  rw[Nl];cases m with
  | zero=>simp[K5]
  | succ m=>rw[A0];simp
 | f+1,n+1,m,h=>by
  rw[NG];have j:n / 2 < f:=iA
  cases m with
  | zero=>split <;> simp[K5]
  | succ m =>
   split
   ·rename_i h0;rw[A0];split
    ·rename_i h1;rw[On x f _ _ j]
     grind
    ·rw[if_neg iA];rfl
   ·rename_i h0;rw[A0];split
    ·rw[if_neg iA];rfl
    ·rename_i h1;rw[On x f _ _ j]
     grind
def NA{A:Type}(n:Nat)(x:Option A):(leaf:Tr A).put n x=one x (n+1) n:=rfl
def Eh{A:Type}(v:Option A)(l r:Tr A)(x:Option A):(node v l r).put 0 x=node x l r:=rfl
def Ac{A:Type}(v:Option A)(l r:Tr A)(n:Nat)(x:Option A):(node v l r).put (n+1) x=if n % 2=0 then node v (l.put (n / 2) x) r else node v l (r.put (n / 2) x):=by
 have h:(node v l r).put (n+1) x=Bool.rec (motive:=fun _=>Tr A) (node v l (r.put (n / 2) x)) (node v (l.put (n / 2) x) r) (Nat.beq (n % 2) 0):=rfl;rw[h];cases j:Nat.beq (n % 2) 0 with
 | true=>simp_all
 | false=>rw[if_neg (eK j)]
def H{A:Type}:∀ (t:Tr A) (n m:Nat) (x:Option A),(t.put n x).A m=if n=m then x else t.A m
 | leaf,n,m,x=>by rw[NA,On _ _ _ _ (bY n)];rfl
 | node v l r,0,m,x=>by
  rw[Eh];cases m with
  | zero=>simp[K5]
  | succ m=>simp[A0]
 | node v l r,n+1,0,x=>by
  rw[Ac];split <;> simp[K5]
 | node v l r,n+1,m+1,x=>by
  rw[Ac,A0 v l r m];split
  ·rename_i h0;rw[A0];split
   ·rw[H l]
    grind
   grind
  ·rename_i h0;rw[A0];split
   ·grind
   ·rw[H r]
    grind
def OJ{A:Type}(x y:Option A):∀ (f n:Nat),n < f->(one x f n).put n y=one y f n
 | 0,n,h=>by omega
 | f+1,0,_=>by rw[Nl,Nl,Eh]
 | f+1,n+1,h=>by
  have j:n / 2 < f:=iA
  rw[NG,NG];by_cases h0:n % 2=0
  ·rw[if_pos h0,if_pos h0,Ac,if_pos h0,OJ x y f _ j]
  ·rw[if_neg h0,if_neg h0,Ac,if_neg h0,OJ x y f _ j]
def put_put{A:Type}:∀ (t:Tr A) (n:Nat) (x y:Option A),(t.put n x).put n y=t.put n y
 | leaf,n,x,y=>by rw[NA,NA,OJ _ _ _ _ (bY n)]
 | node v l r,0,x,y=>by rw[Eh,Eh,Eh]
 | node v l r,n+1,x,y=>by
  rw[Ac,Ac];by_cases h0:n % 2=0
  ·rw[if_pos h0,if_pos h0,Ac,if_pos h0,put_put l]
  ·rw[if_neg h0,if_neg h0,Ac,if_neg h0,put_put r]
end Tr
structure Tm where
 size:Nat
 t:Tr V
def Tm.put(t:Tm)(i:Nat)(v:V):Tm:=match t with | ⟨n,t⟩=>⟨n,t.put i (U v)⟩
inductive pV where
 | loop (st:LoopState) (pend:Option Code) (t:Tm) (params:Array Tmp) (assign body:Code) (defers:Nat)
 | defs
 | strIter (s:ByteArray) (pos:Nat)
 | mapIter (m:Option Nat) (since:Nat) (seen:Array Nat) (last:Nat)
 | any
inductive Blk where
 | cells (own:Bool) (sz:Nat) (c:List V)
 | map (es:Array MapEntry) (clk:Nat)
 | obj (o:pV)
open Blk renaming cells→S
instance : Inhabited Blk:=⟨S Y 0 []⟩
structure N where
 Q:Nat
 low:Nat
 t:Tr Blk
def Blk.own:Blk->Bool
 | .cells o _ _=>o
 | _=>Y
def Blk.solid:Blk->Bool
 | S J _ []=>J
 | _=>Y
def i6{x:Blk}(h:x.own=Y):x.solid=Y:=by
 cases x with
 | cells o s c=>cases o <;> simp[Blk.own]at h;rfl
 | map _ _=>rfl
 | obj _=>rfl
namespace N
def A(h:N)(b:Nat):Option Blk:=if b < h.Q then h.t.A b else O
def set(h:N)(b:Nat)(x:Option Blk):N:={Q:=h.Q,low:=min h.low b,t:=h.t.put b x}
def push(h:N)(x:Blk):N:={Q:=h.Q+1,low:=h.low,t:=h.t.put h.Q (U x)}
def get_set(h:N)(b c:Nat)(x:Option Blk)(j:b < h.Q):(h.set b x).A c=if b=c then x else h.A c:=by
 simp only[A,set];rw[Tr.H]
 grind
def F(h:N)(c:Nat)(x:Blk):(h.push x).A c=if h.Q=c then U x else h.A c:=by
 simp only[A,push];rw[Tr.H]
 grind
def D{h:N}{b:Nat}{x:Blk}(j:h.A b=U x):b < h.Q:=by
 unfold A at j
 grind
def own(h:N)(b:Nat):Bool:=match h.A b with | some x=>x.own | none=>J
def live(h:N)(b:Nat):Bool:=match h.A b with | some x=>x.solid | none=>J
end N
abbrev gY{h:N}{b c:Nat}{x:Option Blk}:=N.get_set h b c x
def jH(M_:Ren)(e:MapEntry):MapEntry:={key:=b_ M_ e.key,val:=b_ M_ e.val,born:=e.born}
def rn(M_:Ren):Deferred->Deferred
 | {target:=.fn f c,args}=>{target:=.fn (vC M_ f) (kn M_ c),args:=kn M_ args}
 | {target:=.collected r,args}=>{target:=.collected (jD M_ r),args:=kn M_ args}
 | {target,args}=>{target,args:=kn M_ args}
def uR(D:Nat->Prop):Deferred->Prop
 | {target:=.fn f c,args}=>d_ D (.func f #[] c)/\mH D args
 | {target:=.collected r,args}=>D r/\mH D args
 | {target:=.nil,args}=>mH D args
 | {target:=.builtin ..,args}=>mH D args
 | {target:=.coroexit _,.. }=>False
abbrev dom(M_:Ren):Nat->Prop:=fun b=>(M_ b).isSome=Y
structure je (M_:Ren) (t:Tm) (tmps:Array V):Prop where
 size:tmps.size=t.size
 vals:∀ i v,t.t.A i=U v->d_ (Go.Ab.dom M_) v/\tmps[i]? = U (b_ M_ v)
def I7(D:Nat->Prop):pV->Prop
 | .loop _ _ t _ _ _ d=>(∀ i v,t.t.A i=U v->d_ D v)/\D d
 | .mapIter m _ _ _ => ∀ b,m=U b->D b
 | _=>True
def kV(M_:Ren)(o:Obj):pV->Prop
 | .loop st C t ps as bd d=>dom M_ d/\∃ fn tmps,o=.loop {state:=st,pending:=C,fn,tmps,params:=ps,assign:=as,body:=bd,defers:=jD M_ d}/\je M_ t tmps
 | .defs=>o=.deferred (U [])
 | .strIter s k=>o=.stringIter s k
 | .mapIter m j seen last=>(∀ b,m=U b->dom M_ b)/\o=.mapIter (m.map (jD M_)) j seen last
 | .any=>True
def pD(n lo hi:Nat):Prop:=lo=hi∨n<=lo
def pD.not{n lo hi:Nat}(h:pD n lo hi):∀ i,i < n->¬ (lo<=i/\i < hi):=by
 intro i hi j;rcases h with h | h <;> omega
def mC(M_:Ren)(p:Place)(w:World):Blk->Prop
 | .cells own sz c=>p.sz=sz/\((own=J/\c=[]) ∨ ∃ C e lo T,w.heap[p.blk]? = U (.cells C e (lo,T))/\(∀ i v,c[i]? = U v->C[p.base+i]? = U (b_ M_ v)/\d_ (dom M_) v/\v.oneCell'=Y) /\
   (own=Y->p.base=0/\pD C.size lo T/\C.size=p.room*p.sz))
 | .map j clk=>p.base=0/\w.heap[p.blk]? = U (.map (j.map (jH M_)) clk)/\∀ x ∈ j,flat x.key=Y/\d_ (dom M_) x.val
 | .obj a=>p.base=0/\∃ o,w.heap[p.blk]? = U o/\kV M_ o a
def okB(D:Nat->Prop):Blk->Prop
 | .cells _ _ c => ∀ v ∈ c,d_ D v/\v.oneCell'=Y
 | .map j _ => ∀ x ∈ j,flat x.key=Y/\d_ D x.val
 | .obj o=>I7 D o
structure Bs where
 n:Nat
 b:Nat
structure c_ (G:Bs) (M_:Ren) (h:N) (w:World):Prop where
 dom:∀ b p,M_ b=U p->b < h.Q/\True
 fits:∀ b p x,M_ b=U p->h.A b=U x->mC M_ p w x
 apart:∀ b c p q,M_ b=U p->M_ c=U q->b≠c->h.own b=Y->h.live c=Y->p.blk≠q.blk
 glob:∀ g,g < G.n->M_ g=U ⟨g,0,0,0,O⟩/\h.own g=J
 globs:G.n<=h.Q
 wf:∀ b x,h.A b=U x->okB (fun c=>c < h.Q) x
 base:∀ b p x,M_ b=U p->h.A b=U x->(x.own=Y->G.b<=p.blk/\p.spot=O)/\(x.own=J->x.solid=Y->p.blk < G.b/\p.spot=O)
 bsz:G.b<=w.heap.size
def iZ(n:Nat)(M_ j:Ren):Prop:=∀ b,b < n->j b=M_ b
structure ig (M_:Ren) (h:N) (w:World) (M':Ren) (h':N) (w':World):Prop where
 size:w.heap.size<=w'.heap.size
 same:∀ k,k < w.heap.size->(∀ b p,M_ b=U p->h.own b=Y->p.blk≠k)->w'.heap[k]? = w.heap[k]?
 owns:∀ b p,M' b=U p->h'.own b=Y->w.heap.size<=p.blk ∨ ∃ c q,M_ c=U q/\h.own c=Y/\q.blk=p.blk
 tape:w'.tape=w.tape
 os:w'.os=w.os
 output:w'.output=w.output
 drawn:w.drawn<=w'.drawn
 Q:h.Q<=h'.Q
def iZ.refl(n:Nat)(M_:Ren):iZ n M_ M_:=fun _ _=>rfl
def iZ.trans{n m:Nat}{M_ β γ:Ren}(h:iZ n M_ β)(k:iZ m β γ)(C:n<=m):iZ n M_ γ:=fun b j=>(k b iA).trans (h b j)
def iZ.mono{n m:Nat}{M_ β:Ren}(h:iZ m M_ β)(j:n<=m):iZ n M_ β:=fun b C=>h b iA
def ig.refl(M_:Ren)(h:N)(w:World):ig M_ h w M_ h w :=
 ⟨ai _,fun _ _ _=>rfl,fun b p j C => .inr ⟨b,p,j,C,rfl⟩,rfl,rfl,rfl,ai _,ai _⟩
def ig.trans{M_ M1 M2:Ren}{h h1 C:N}{w w1 w2:World}(a:ig M_ h w M1 h1 w1)(b:ig M1 h1 w1 M2 C w2):ig M_ h w M2 C w2:=by
 refine⟨ao a.size b.size,fun k hk hx => ?_,fun c p T ho => ?_,b.tape.trans a.tape,b.os.trans a.os,b.output.trans a.output,ao a.drawn b.drawn,ao a.Q b.Q⟩
 ·rw[b.same k (aq hk a.size) ?_,a.same k hk hx];intro c p T ho e;rcases a.owns c p T ho with h1 | ⟨c0,q,hq,j,hl⟩
  ·omega
  grind
 ·rcases b.owns c p T ho with h1 | ⟨c0,q,hq,j,hl⟩
  ·exact .inl (ao a.size h1)
  ·rcases a.owns c0 q hq j with C | ⟨c1,q1,h3,hr,hb⟩
   ·omega
   grind
def np{G:Bs}{M_:Ren}{h:N}{w:World}(H:c_ G M_ h w){b:Nat}(C:dom M_ b):b < h.Q:=by
 cases j:M_ b with
 | none=>grind
 | some p=>exact(H.dom b p j).1
def NK{h:N}{b:Nat}(j:h.own b=Y):h.live b=Y:=by
 unfold N.own at j;unfold N.live;cases C:h.A b with
 | none=>grind
 | some x=>simp only[C]at j ⊢;exact i6 j
def Iy{h:N}{b:Nat}(j:h.own b=Y):∃ x,h.A b=U x/\x.own=Y:=by
 unfold N.own at j
 grind
def wJ{h:N}{b:Nat}{x:Blk}(j:h.A b=U x):h.own b=x.own:=by simp[N.own,j]
def IC{h:N}{b:Nat}{x:Blk}(j:h.A b=U x):h.live b=x.solid:=by simp[N.live,j]
def c_.blk_lt{G:Bs}{M_:Ren}{h:N}{w:World}(H:c_ G M_ h w){b:Nat}{p:Place}{x:Blk}(T:M_ b=U p)(hg:h.A b=U x)(hs:x.solid=Y):p.blk < w.heap.size:=by
 have j:=H.fits b p x T hg;have key:∀ o,w.heap[p.blk]? = U o->p.blk < w.heap.size:=fun o ho=>(d4.1 ho).1;cases x with
 | cells o z c =>
  rcases j.2 with⟨rfl,rfl⟩ | ⟨C,e,lo,hi,h1,_⟩
  ·cases hs
  grind
 | map es k=>exact key _ j.2.1
 | obj o=>obtain⟨_,o',h1,_⟩:=j;grind
def c_.blk_own{G:Bs}{M_:Ren}{h:N}{w:World}(H:c_ G M_ h w){b:Nat}{p:Place}(C:M_ b=U p)(T:h.own b=Y):p.blk < w.heap.size:=by
 obtain⟨x,hx,j⟩:=Iy T;exact H.blk_lt C hx (i6 j)
def c_.blk_live{G:Bs}{M_:Ren}{h:N}{w:World}(H:c_ G M_ h w){b:Nat}{p:Place}(C:M_ b=U p)(j:h.live b=Y):p.blk < w.heap.size:=by
 unfold N.live at j;split at j
 next x T=>exact H.blk_lt C T j
 ·cases j
def c_.spot{G:Bs}{M_:Ren}{h:N}{w:World}(H:c_ G M_ h w){b:Nat}{p:Place}{x:Blk}(j:M_ b=U p)(C:h.A b=U x)(hs:x.solid=Y):p.spot=O:=by
 have h1:=H.base b p x j C
 grind
def R_{M_ β:Ren}{D:Nat->Prop}(h:∀ b,D b->β b=M_ b){x:MapEntry}(j:flat x.key=Y)(hv:d_ D x.val):jH β x=jH M_ x:=by
 simp[jH,tf,j,iB h x.val hv]
def je.keep{M_ β:Ren}{t:Tm}{tmps:Array V}(h:∀ b,dom M_ b->β b=M_ b)(j:je M_ t tmps):je β t tmps :=
 ⟨j.size,fun i v hv=>by
  have h1:=j.vals i v hv;exact⟨iq (fun b C=>by grind) v h1.1,by rw[h1.2,iB h v h1.1]⟩⟩
def kV.keep{M_ β:Ren}{o:Obj}{a:pV}(h:∀ b,dom M_ b->β b=M_ b)(C:kV M_ o a):kV β o a:=by
 cases a with
 | loop st hx t ps as bd d =>
  obtain⟨h1,fn,j,T,h3⟩:=C;exact⟨by grind,fn,j,by rw[T,tU (h d h1)],h3.keep h⟩
 | defs=>exact C
 | strIter s k=>exact C
 | mapIter m hc seen last =>
  obtain⟨h1,T⟩:=C;refine⟨fun b hb=>by grind,?_⟩;rw[T];cases m with
  | none=>rfl
  | some b=>simp only[aQ,tU (h b (h1 b rfl))]
 | any=>trivial
def Upw{D E:Nat->Prop}(h:∀ b,D b->E b){o:pV}(j:I7 D o):I7 E o:=by
 cases o with
 | loop st T t ps as bd d=>exact⟨fun i v hv=>iq h v (j.1 i v hv),h _ j.2⟩
 | defs=>trivial
 | strIter s k=>trivial
 | mapIter m C seen last=>exact fun b hb=>h b (j b hb)
 | any=>trivial
def kV.ok{M_:Ren}{o:Obj}{a:pV}(C:kV M_ o a):I7 (dom M_) a:=by
 cases a with
 | loop st T t ps as bd d =>
  obtain⟨h1,fn,hc,h2,h3⟩:=C;exact⟨fun i v hv=>(h3.vals i v hv).1,h1⟩
 | defs=>trivial
 | strIter s k=>trivial
 | mapIter m j seen last=>exact C.1
 | any=>trivial
def mC.keep{M_ β:Ren}{p:Place}{w w':World}{x:Blk}(T:mC M_ p w x)(h:∀ b,dom M_ b->β b=M_ b)(hw:w'.heap[p.blk]? = w.heap[p.blk]?):mC β p w' x:=by
 have hd:∀ b,dom M_ b->dom β b:=fun b hb=>by grind
 cases x with
 | cells own sz c =>
  obtain⟨hc,T⟩:=T;rcases T with T | ⟨C,e,lo,hi,h1,j,h3⟩
  ·exact⟨hc,.inl T⟩
  refine⟨hc,.inr ⟨C,e,lo,hi,by rw[hw,h1],fun i v hv => ?_,h3⟩⟩;obtain⟨a1,a2,a3⟩:=j i v hv;exact⟨by rw[a1,iB h v a2],iq hd v a2,a3⟩
 | map es clk =>
  obtain⟨h0,h1,j⟩:=T;refine⟨h0,?_,fun x hx=>⟨(j x hx).1,iq hd _ (j x hx).2⟩⟩;rw[hw,h1];congr 2;apply dM;intro x hx;exact(R_ h (j x hx).1 (j x hx).2).symm
 | obj o =>
  obtain⟨h0,o',h1,j⟩:=T;exact⟨h0,o',by rw[hw,h1],j.keep h⟩
def mC.keepS{M_ β:Ren}{p:Place}{w w':World}{x:Blk}(j:mC M_ p w x)(h:∀ b,dom M_ b->β b=M_ b)(C:x.solid=Y->w'.heap[p.blk]? = w.heap[p.blk]?):mC β p w' x:=by
 cases hs:x.solid with
 | true=>exact j.keep h (C hs)
 | false =>
  cases x with
  | cells o z l=>cases o <;> cases l <;> simp[Blk.solid]at hs;exact⟨j.1,.inl ⟨rfl,rfl⟩⟩
  | map _ _=>simp[Blk.solid]at hs
  | obj _=>simp[Blk.solid]at hs
def vP{h:N}{b c:Nat}{x:Option Blk}(j:b < h.Q):(h.set b x).own c=if b=c then(match x with | some y=>y.own | none=>J)else h.own c:=by
 unfold N.own;rw[gY j]
 grind
def NH{h:N}{b c:Nat}{x:Option Blk}(j:b < h.Q):(h.set b x).live c=if b=c then(match x with | some y=>y.solid | none=>J)else h.live c:=by
 unfold N.live;rw[gY j]
 grind
def Af{h:N}{c:Nat}{x:Blk}:(h.push x).own c=if h.Q=c then x.own else h.own c:=by
 unfold N.own;rw[N.F]
 grind
def Sx{h:N}{c:Nat}{x:Blk}:(h.push x).live c=if h.Q=c then x.solid else h.live c:=by
 unfold N.live;rw[N.F]
 grind
def AY{D E:Nat->Prop}(h:∀ b,D b->E b){x:Blk}(j:okB D x):okB E x:=by
 cases x with
 | cells o z c=>exact fun v hv=>⟨iq h v (j v hv).1,(j v hv).2⟩
 | map T k=>exact fun e C=>⟨(j e C).1,iq h _ (j e C).2⟩
 | obj o=>exact Upw h j
def mC.okB{M_:Ren}{p:Place}{w:World}{x:Blk}(j:mC M_ p w x):Go.Ab.okB (dom M_) x:=by
 cases x with
 | cells o z c =>
  intro v hv;obtain⟨i,hi⟩:=d7 hv;rcases j.2 with⟨_,rfl⟩ | ⟨C,e,lo,hc,h1,T,h3⟩
  ·simp at hv
  grind
 | map es k=>exact j.2.2
 | obj o=>obtain⟨h0,o',h1,T⟩:=j;exact T.ok
def World.turned(w:World)(k:Nat)(o:Obj):World:={w with heap:=w.heap.setIfInBounds k o}
def zH{w:World}{k:Nat}{o:Obj}(h:k < w.heap.size):(World.turned w k o).heap[k]? = U o:=by
 simp[World.turned,h]
def Ude{w:World}{k j:Nat}{o:Obj}(h:k≠j):(World.turned w k o).heap[j]? = w.heap[j]? := by
 simp[World.turned,h]
section
variable{G:Bs}{M_:Ren}{h:N}{w:World}
def c_.upd(H:c_ G M_ h w){b:Nat}{p:Place}(hb:M_ b=U p)(ho:h.own b=Y){x:Blk}(hx:x.own=Y){o:Obj}
  (hf:mC M_ p (World.turned w p.blk o) x):c_ G M_ (h.set b (U x)) (World.turned w p.blk o)/\ig M_ h w M_ (h.set b (U x)) (World.turned w p.blk o):=by
 have C:=(H.dom b p hb).1;have hp:=H.blk_own hb ho;have hr:=Iy ho;constructor
 ·refine⟨fun c q j=>⟨(H.dom c q j).1,trivial⟩,fun c q y j T => ?_,fun c d q r j hd h2 hl h3 => ?_,fun g hg => ?_,H.globs,fun c y T => ?_,fun c q y j T => ?_,by simpa[World.turned]using H.bsz⟩
  ·rw[gY C]at T;split at T
   ·grind
   ·rename_i e;cases hs:y.solid with
    | true =>
     have h2:=H.apart b c p q hb j e ho (by rw[IC T,hs]);exact(H.fits c q y j T).keep (fun _ _=>rfl) (Ude h2)
    | false =>
     cases y with
     | cells o z l=>cases o <;> cases l <;> simp[Blk.solid]at hs;exact⟨(H.fits c q _ j T).1,.inl ⟨rfl,rfl⟩⟩
     | map _ _=>simp[Blk.solid]at hs
     | obj _=>simp[Blk.solid]at hs
  ·rw[vP C]at hl;rw[NH C]at h3;have e1:h.own c=Y:=by
    grind
   have hA:h.live d=Y:=by
    split at h3
    next e=>exact e ▸ NK ho
    omega
   exact H.apart c d q r j hd h2 e1 hA
  ·refine⟨(H.glob g hg).1,?_⟩;rw[vP C];split
   next e=>subst e;rw[(H.glob b hg).2]at ho;cases ho
   ·exact(H.glob g hg).2
  ·rw[gY C]at T;split at T
   ·cases T;exact AY (fun c j=>np H j) hf.okB
   ·exact H.wf c y T
  ·rw[gY C]at T;split at T
   next e=>subst e;rw[hb]at j;cases j;cases T;obtain⟨x0,hn,a2⟩:=hr;exact⟨fun _=>(H.base b p x0 hb hn).1 a2,fun h0=>by grind⟩
   ·exact H.base c q y j T
 ·refine⟨by simp[World.turned],fun k hk hB=>Ude (hB b p hb ho),fun c q j hl => .inr ⟨c,q,j,?_,rfl⟩,rfl,rfl,rfl,ai _,ai _⟩;rw[vP C]at hl
  grind
def c_.kill(H:c_ G M_ h w){b:Nat}(j:b < h.Q):c_ G M_ (h.set b O) w/\ig M_ h w M_ (h.set b O) w:=by
 constructor
 ·refine⟨H.dom,fun c q y hc C => ?_,fun c d q r hc hd h2 T hx => ?_,fun g hg => ?_,H.globs,fun c y C => ?_,fun c q y hc C => ?_,H.bsz⟩
  ·rw[gY j]at C;split at C
   ·cases C
   ·exact H.fits c q y hc C
  ·rw[vP j]at T;rw[NH j]at hx;split at T
   ·cases T
   ·split at hx
    ·cases hx
    ·exact H.apart c d q r hc hd h2 T hx
  ·refine⟨(H.glob g hg).1,?_⟩;rw[vP j];split
   ·rfl
   ·exact(H.glob g hg).2
  ·rw[gY j]at C;split at C
   ·cases C
   ·exact H.wf c y C
  ·rw[gY j]at C;split at C
   ·cases C
   ·exact H.base c q y hc C
 ·refine⟨ai _,fun _ _ _=>rfl,fun c q hc T => .inr ⟨c,q,hc,?_,rfl⟩,rfl,rfl,rfl,ai _,ai _⟩;rw[vP j]at T
  grind
def Ren.add(M_:Ren)(n:Nat)(p:Place):Ren:=fun b=>if b=n then U p else M_ b
def i5(M_:Ren)(n:Nat)(p:Place):iZ n M_ (Ren.add M_ n p):=fun b j=>by simp[Ren.add,Nat.ne_of_lt j]
def hU(M_:Ren)(n:Nat)(p:Place):Ren.add M_ n p n=U p:=by simp[Ren.add]
def c_.add_dom(H:c_ G M_ h w)(p:Place):∀ b,Go.Ab.dom M_ b->Ren.add M_ h.Q p b=M_ b:=fun b j=>i5 M_ h.Q p b (np H j)
def c_.push(H:c_ G M_ h w){x:Blk}(hx:x.own=Y){p:Place}(hp:p.blk=w.heap.size){o:Obj}{w':World}(ho:w' = {w with heap:=w.heap.push o})
  (hf:mC (Ren.add M_ h.Q p) p w' x) (hA:p.spot=O:=by rfl) :
  c_ G (Ren.add M_ h.Q p) (h.push x) w'/\ig M_ h w (Ren.add M_ h.Q p) (h.push x) w':=by
 subst ho;have hb:∀ k,k < w.heap.size->(w.heap.push o)[k]? = w.heap[k]? := fun k hk=>by grind
 have j:∀ c q,Ren.add M_ h.Q p c=U q->(c=h.Q/\q=p)∨(c < h.Q/\M_ c=U q):=by
  intro c q C;unfold Ren.add at C;split at C
  ·grind
  ·exact .inr ⟨(H.dom c q C).1,C⟩
 constructor
 ·refine⟨fun c q C => ?_,fun c q y C hy => ?_,fun c d q r C hd hr T hl => ?_,fun g hg => ?_,dY H.globs,fun c y hy => ?_,fun c q y C hy => ?_,by have:=H.bsz;simp;omega⟩
  ·rcases j c q C with⟨rfl,rfl⟩ | ⟨h1,h2⟩
   ·exact⟨bY _,by simp[hp]⟩
   ·exact⟨ce h1,trivial⟩
  ·rw[N.F]at hy;rcases j c q C with⟨rfl,rfl⟩ | ⟨h1,h2⟩
   ·grind
   ·rw[if_neg iA]at hy;exact(H.fits c q y h2 hy).keepS (H.add_dom p) fun hs=>hb _ (H.blk_lt h2 hy hs)
  ·rw[Af]at T;rw[Sx]at hl;rcases j c q C with⟨rfl,rfl⟩ | ⟨h1,h2⟩
   ·rcases j d r hd with⟨rfl,rfl⟩ | ⟨h3,h4⟩
    ·omega
    ·rw[if_neg iA]at hl;have:=H.blk_live h4 hl;omega
   ·rcases j d r hd with⟨rfl,rfl⟩ | ⟨h3,h4⟩
    ·rw[if_neg iA]at T;have:=H.blk_own h2 T;omega
    ·rw[if_neg iA]at T;rw[if_neg iA]at hl;exact H.apart c d q r h2 h4 hr T hl
  ·have:=H.globs;refine⟨by rw[i5 M_ h.Q p g iA];exact(H.glob g hg).1,?_⟩;rw[Af,if_neg iA];exact(H.glob g hg).2
  ·rw[N.F]at hy;split at hy
   ·cases hy;refine AY (fun c C => ?_) hf.okB;obtain⟨q,hq⟩:=bf.1 C;rcases j c q hq with⟨rfl,_⟩ | ⟨h1,_⟩
    ·exact bY _
    ·exact ce h1
   ·exact AY (fun c C=>ce C) (H.wf c y hy)
  ·rw[N.F]at hy;rcases j c q C with⟨rfl,rfl⟩ | ⟨h1,h2⟩
   ·simp only[if_true]at hy;cases hy;exact⟨fun _=>⟨by rw[hp];exact H.bsz,hA⟩,fun h0=>by grind⟩
   ·rw[if_neg iA]at hy;exact H.base c q y h2 hy
 ·refine⟨jA,fun k hk _=>hb k hk,fun c q C T => ?_,rfl,rfl,rfl,ai _,bJ _⟩;rcases j c q C with⟨rfl,rfl⟩ | ⟨h1,h2⟩
  ·omega
  ·rw[Af,if_neg iA]at T
   grind
def c_.alias(H:c_ G M_ h w){p:Place}(hp:True) :
  c_ G (Ren.add M_ h.Q p) (h.push (S J p.sz [])) w/\ig M_ h w (Ren.add M_ h.Q p) (h.push (S J p.sz [])) w:=by
 have j:∀ c q,Ren.add M_ h.Q p c=U q->(c=h.Q/\q=p)∨(c < h.Q/\M_ c=U q):=by
  intro c q C;unfold Ren.add at C;split at C
  ·grind
  ·exact .inr ⟨(H.dom c q C).1,C⟩
 constructor
 ·refine⟨fun c q C => ?_,fun c q y C T => ?_,fun c d q r C hd hl hx hk => ?_,fun g hg => ?_,dY H.globs,fun c y T => ?_,fun c q y C T => ?_,H.bsz⟩
  ·rcases j c q C with⟨rfl,rfl⟩ | ⟨h1,h2⟩
   ·exact⟨bY _,hp⟩
   ·exact⟨ce h1,(H.dom c q h2).2⟩
  ·rw[N.F]at T;rcases j c q C with⟨rfl,rfl⟩ | ⟨h1,h2⟩
   ·simp only[if_true]at T;cases T;exact⟨rfl,.inl ⟨rfl,rfl⟩⟩
   ·rw[if_neg iA]at T;exact(H.fits c q y h2 T).keep (H.add_dom p) rfl
  ·rw[Af]at hx;rw[Sx]at hk;rcases j c q C with⟨rfl,rfl⟩ | ⟨h1,h2⟩
   ·simp[Blk.own]at hx
   ·rcases j d r hd with⟨rfl,rfl⟩ | ⟨h3,h4⟩
    ·simp[Blk.solid]at hk
    ·rw[if_neg iA]at hx;rw[if_neg iA]at hk;exact H.apart c d q r h2 h4 hl hx hk
  ·have:=H.globs;refine⟨by rw[i5 M_ h.Q p g iA];exact(H.glob g hg).1,?_⟩;rw[Af,if_neg iA];exact(H.glob g hg).2
  ·rw[N.F]at T;split at T
   ·cases T;intro v hv;simp at hv
   ·exact AY (fun c C=>ce C) (H.wf c y T)
  ·rw[N.F]at T;rcases j c q C with⟨rfl,rfl⟩ | ⟨h1,h2⟩
   ·simp only[if_true]at T;cases T;exact⟨fun h0=>(by cases h0),fun _ h0=>(by cases h0)⟩
   ·rw[if_neg iA]at T;exact H.base c q y h2 T
 ·refine⟨ai _,fun k _ _=>rfl,fun c q C hx => ?_,rfl,rfl,rfl,ai _,bJ _⟩;rw[Af]at hx;rcases j c q C with⟨rfl,rfl⟩ | ⟨h1,h2⟩
  ·simp[Blk.own]at hx
  grind
def c_.same(H:c_ G M_ h w){w':World}(hh:w'.heap=w.heap):c_ G M_ h w' :=
 ⟨H.dom,fun b p x j C=>(H.fits b p x j C).keep (fun _ _=>rfl) (by rw[hh]),H.apart,H.glob,H.globs,H.wf,H.base,by rw[hh];exact H.bsz⟩
def ig.drew(M_:Ren)(h:N)(w:World){n:Nat}(C:w.drawn<=n):ig M_ h w M_ h {w with drawn:=n} :=
 ⟨ai _,fun _ _ _=>rfl,fun b p j T => .inr ⟨b,p,j,T,rfl⟩,rfl,rfl,rfl,C,ai _⟩
end
def uM{h h':N}{b:Nat}(j:h'.A b=h.A b):h'.own b=h.own b:=by simp[N.own,j]
def RZ{h h':N}{b:Nat}(j:h'.A b=h.A b):h'.live b=h.live b:=by simp[N.live,j]
section
variable{G:Bs}{M_:Ren}{h:N}{w:World}
def yL{M_:Ren}{b:Nat}{p:Place}(h:M_ b=U p):dom M_ b:=by grind
def c_.congr(H:c_ G M_ h w){h':N}(hn:G.n<=h'.Q)(hd:∀ b,Go.Ab.dom M_ b->b < h'.Q)(T:∀ b,Go.Ab.dom M_ b->h'.A b=h.A b)(hk:∀ b x,h'.A b=U x->okB (fun c=>c < h'.Q) x):c_ G M_ h' w :=
  ⟨fun b p j=>⟨hd b (yL j),(H.dom b p j).2⟩,fun b p x j hx=>H.fits b p x j (by grind),
   fun b c p q j hc h2 ho hl=>H.apart b c p q j hc h2 (by rw[<- uM (T b (yL j))];exact ho) (by rw[<- RZ (T c (yL hc))];exact hl),
   fun g C=>⟨(H.glob g C).1,by rw[uM (T g (yL (H.glob g C).1))];exact(H.glob g C).2⟩,hn,hk,
   fun b p x j hx=>H.base b p x j (by grind),H.bsz⟩
def ig.heap{M_ C:Ren}{h h' j:N}{w w':World}(t:ig M_ h w C h' w')(hg:∀ b,dom C b->j.A b=h'.A b)(hn:h'.Q<=j.Q):ig M_ h w C j w' :=
 ⟨t.size,t.same,fun b p T ho=>t.owns b p T (by rw[<- uM (hg b (yL T))];exact ho),t.tape,t.os,t.output,t.drawn,ao t.Q hn⟩
end
structure ir where
 desc:TypeDesc
 size:Nat
 bytes:Nat
 zero:V
 leaf:List Nat
def AG:Nat->V->V->Option Bool
 | 1,.int k a,.int j b=>if k=j then U (a == b)else O
 | 2,.bool a,.bool b=>U (a == b)
 | 3,.string a,.string b=>U (a == b)
 | _,_,_=>O
def kw:List Nat->List V->List V->Option Bool
 | [],[],[]=>U Y
 | l::ls,x::j,y::C =>
  match AG l x y,kw ls j C with
  | some a,U b=>U (a && b)
  | _,_=>O
 | _,_,_=>O
def Nd(P:Program)(t:TypeId)(leaf:List Nat):Prop :=
 leaf ≠ []->P.eqGuardType P.depth t=J/\(∀ (j C:List V) (b:Bool) (w:World),kw leaf j C=U b->(Op.equal t (.agg j.toArray) (.agg C.toArray)).run P w=.ok b w) /\
  ∀ (T:Bool) (j:List V) (w:World),L j=L leaf->(Instr.checkKey T 10000 t (.agg j.toArray)).run P w=.ok () w
def vg(P:Program)(t:TypeId)(r:ir):Prop :=
 P.underlying t=U r.desc/\∃ i,P.info? t=U i/\i.size=r.size/\i.bytes=r.bytes/\i.zero=U r.zero/\flat r.zero=Y/\mg r.zero=Y/\r.zero.cells.size=r.size/\Nd P t r.leaf
def jO:TypeDesc->Bool
 | .struct _ | .array _ _=>Y
 | _=>J
def je.put{M_:Ren}{t:Tm}{tmps:Array V}(h:je M_ t tmps){i:Nat}{v:V}(hi:i < t.size)(hv:d_ (dom M_) v):je M_ (t.put i v) (tmps.setIfInBounds i (b_ M_ v)):=by
 refine⟨by simp[Tm.put,h.size],fun j u C => ?_⟩;simp only[Tm.put,Tr.H]at C;split at C
 next e=>subst e;cases C;exact⟨hv,by rw[dO];simp[h.size,hi]⟩
 ·rename_i e;have:=h.vals j u C
  grind
def je.ext{G:Bs}{M_ β:Ren}{h:N}{w:World}{t:Tm}{tmps:Array V}(H:c_ G M_ h w)(T:iZ h.Q M_ β)(C:je M_ t tmps):je β t tmps:=by
 refine⟨C.size,fun i v hv => ?_⟩;have:=C.vals i v hv;have hd:∀ b,dom M_ b->β b=M_ b:=fun b j=>T b (np H j);exact⟨iq (fun b j=>by grind) v this.1,by rw[this.2,iB hd v this.1]⟩
def iH(G:Bs)(t:Tm):Operand->Option V
 | .tmp i=>t.t.A i
 | .const v=>if flat v then U v else O
 | .global g=>if g < G.n then U (.pointer (U ⟨g,0,O⟩))else O
 | .func f=>U (.func (.func f) #[] #[])
def vG{G:Bs}{M_:Ren}{h:N}{w:World}(H:c_ G M_ h w){t:Tm}{a:Act}(ht:je M_ t a.tmps){x:Operand}{v:V}(j:iH G t x=U v) :
  d_ (dom M_) v/\a.eval x=b_ M_ v:=by
 cases x with
 | tmp i =>
  have:=ht.vals i v j;exact⟨this.1,by simp[Act.eval,cS,this.2]⟩
 | const c =>
  simp only[iH]at j;split at j
  next C=>cases j;exact⟨jB _ _ C,by rw[tf M_ C];rfl⟩
  ·cases j
 | global g =>
  simp only[iH]at j;split at j
  next T=>cases j;have:=(H.glob g T).1;exact⟨by simp[d_,dom,this],by simp[Act.eval,b_,jS,this]⟩
  ·cases j
 | func f =>
  simp only[iH,aU]at j;subst j;exact⟨by simp[d_,mH,nr],by simp[Act.eval,b_,vC,kn,mA]⟩
def nQ:Nat->List V->Option (List V)
 | 0,_=>U []
 | n+1,v::l=>(nQ n l).map (v :: ·)
 | _+1,[]=>O
def z_:∀ (n:Nat) (l r:List V),nQ n l=U r->L r=n/\∀ (i:Nat) (v:V),r[i]? = U v->l[i]? = U v
 | 0,l,r,h=>by simp[nQ]at h;grind
 | n+1,[],r,h=>by simp[nQ]at h
 | n+1,v::l,r,h=>by
  simp only[nQ,au]at h;obtain⟨C,j,rfl⟩:=h;obtain⟨h1,T⟩:=z_ n l C j
  grind
def over:List V->List V->Option (List V)
 | c,[]=>U c
 | _::c,v::l=>(over c l).map (v :: ·)
 | [],_::_=>O
def kZ:List V->Nat->List V->Option (List V)
 | c,0,l=>over c l
 | x::c,n+1,l=>(kZ c n l).map (x :: ·)
 | [],_+1,[]=>U []
 | [],_+1,_::_=>O
def V74:∀ (c l r:List V),over c l=U r->L r=L c/\L l<=L c/\∀ i,r[i]? = if i < L l then l[i]? else c[i]?
 | c,[],r,h=>by cases c <;> (simp only[over,aU]at h;grind)
 | x::c,v::l,r,h=>by
  simp only[over,au]at h;obtain⟨C,j,rfl⟩:=h;obtain⟨h1,T,h3⟩:=V74 c l C j
  grind
 | [],_::_,r,h=>by simp[over]at h
def Lr:∀ (c:List V) (n:Nat) (l r:List V),kZ c n l=U r->L r=L c/\(l=[]∨n+L l<=L c)/\∀ i,r[i]? = if n<=i/\i < n+L l then l[i-n]? else c[i]?
 | c,0,l,r,h=>by
  have j:over c l=U r:=by cases c <;> simpa[kZ]using h
  obtain⟨h1,C,T⟩:=V74 c l r j
  grind
 | x::c,n+1,l,r,h=>by
  simp only[kZ,au]at h;obtain⟨r',hr,rfl⟩:=h;obtain⟨h1,C,T⟩:=Lr c n l r' hr
  grind
 | [],n+1,[],r,h=>by simp[kZ]at h;grind
 | [],_+1,_::_,r,h=>by simp[kZ]at h
def cellsAt(h:N)(a:Addr)(n:Nat):Option (List V) :=
 match h.A a.block with
 | some (.cells _ _ c)=>nQ n (c.drop a.off)
 | _=>O
def t_(g o n:Nat):(⟨g,o,O⟩:Addr).add n=⟨g,o+n,O⟩:=by unfold Addr.add;simp
section
variable{P:Program}{G:Bs}{M_:Ren}{h:N}{w:World}
def Cu(H:c_ G M_ h w){a:Addr}(ha:dom M_ a.block)(hs:a.spot=O){n:Nat}{l:List V}(hl:cellsAt h a n=U l) :
  L l=n/\(∀ v ∈ l,d_ (dom M_) v/\v.oneCell'=Y)/\∀ j v,(l.map (b_ M_))[j]? = U v->w.cell? ((jS M_ a).add j)=U v:=by
 obtain⟨p,hp⟩:=bf.1 ha;unfold cellsAt at hl;cases hg:h.A a.block with
 | none=>grind
 | some x =>
  cases x with
  | map _ _=>grind
  | obj _=>grind
  | cells own sz c =>
   simp only[hg]at hl;obtain⟨h1,h2⟩:=z_ _ _ _ hl;rcases(H.fits a.block p _ hp hg).2 with⟨_,rfl⟩ | ⟨C,e,lo,hi,f1,f2,f3⟩
   ·have hc:l=[]:=by
     cases l with
     | nil=>rfl
     | cons v r=>have:=h2 0 v jA;grind
    grind
   ·have T:∀ i v,l[i]? = U v->C[p.base+(a.off+i)]? = U (b_ M_ v)/\d_ (dom M_) v/\v.oneCell'=Y:=by
     grind
    refine⟨h1,fun v hv => ?_,fun j v hv => ?_⟩
    ·obtain⟨i,hk⟩:=d7 hv
     grind
    ·rw[b7,au]at hv;obtain⟨u,hu,rfl⟩:=hv;have:=(T j u hu).1;have hx:p.spot=O:=by
      refine H.spot hp hg ?_;have h3:=h2 j u hu;cases c with
      | nil=>simp at h3
      | cons _ _=>cases own <;> rfl
     simp only[jS,hp,hx,ite_self];rw[t_];simp only[World.cell?,f1]
     grind
def Gj(H:c_ G M_ h w){a:Addr}(C:dom M_ a.block)(hs:a.spot=O){n:Nat}{l:List V}(T:cellsAt h a n=U l) :
  (loadCells (jS M_ a) n).run P w=.ok (l.map (b_ M_)).toArray w:=by
 obtain⟨h1,_,j⟩:=Cu H C hs T;have:=run_loadCells_list (P:=P) w (jS M_ a) (l.map (b_ M_)) j
 grind
def Ai(r:ir)(h:N)(a:Addr):Option V :=
 if jO r.desc then(cellsAt h a r.size).map fun l => .agg l.toArray
 else match cellsAt h a 1 with
  | some [v]=>U v
  | _=>O
def Jf7{t:TypeId}{r:ir}(j:vg P t r)(w:World):(isAgg t).run P w=.ok (jO r.desc) w:=by
 simp only[isAgg,aw,run_underlying j.1,ak];cases r.desc <;> rfl
def pH{t:TypeId}{r:ir}(C:vg P t r)(w:World):(sizeOf t).run P w=.ok r.size w:=by
 obtain⟨_,i,j,h1,_⟩:=C;simp[sizeOf,typeInfo,j,h1]
def vZ{t:TypeId}{r:ir}(T:vg P t r)(w:World):(zeroValue t).run P w=.ok r.zero w:=by
 obtain⟨_,i,C,h1,h2,j,_⟩:=T;simp[zeroValue,typeInfo,C,j]
def Tg(H:c_ G M_ h w){t:TypeId}{r:ir}(hr:vg P t r){a:Addr}(T:dom M_ a.block)(hs:a.spot=O){v:V}(hv:Ai r h a=U v) :
  d_ (dom M_) v/\(loadVar t (jS M_ a)).run P w=.ok (b_ M_ v) w:=by
 unfold Ai at hv;simp only[loadVar,aw,Jf7 hr,ak];split at hv
 next j=>rw[au]at hv;obtain⟨l,C,rfl⟩:=hv;refine⟨HU _ _ (Cu H T hs C).2.1,?_⟩;simp[j,pH hr,Gj H T hs C]
 ·rename_i j;split at hv
  next u C=>cases hv;obtain⟨_,h2,h3⟩:=Cu H T hs C;refine⟨(h2 v jA).1,?_⟩;have hc:=h3 0 (b_ M_ v) jA;have hb:(jS M_ a).add 0=jS M_ a:=rfl;simp_all
  ·cases hv
def storeAt(h:N)(a:Addr)(l:List V):Option N :=
 match h.A a.block with
 | some (S Y sz c)=>(kZ c a.off l).map fun j=>h.set a.block (U (S Y sz j))
 | _=>O
def Jy8{w:World}{g:Nat}{o:Obj}(C:w.heap[g]? = U o):World.turned w g o=w:=by
 have j:w.heap.setIfInBounds g o=w.heap:=by
  grind
 simp[World.turned,j]
def Vm3{w:World}{g o e lo hi:Nat}{C:Array V}(v:V)(j:w.heap[g]? = U (.cells C e (lo,hi))):w.setCell ⟨g,o,O⟩ v=World.turned w g (.cells (C.setIfInBounds o v) e (lo,hi)):=by
 simp only[World.setCell,World.turned];congr 1
 grind
def Ml(g e:Nat)(lo hi:Nat):∀ (l:List V) (o:Nat) (C:Array V) (w:World),w.heap[g]? = U (.cells C e (lo,hi)) ->
  (∀ i,i < C.size->¬ (lo<=i/\i < hi))->o+L l<=C.size->(∀ v ∈ l,v.oneCell'=Y)->∀ k off,off+k=o ->
  ∃ T,(storeCells ⟨g,off,O⟩ l k).run P w=.ok () (World.turned w g (.cells T e (lo,hi)))/\T.size=C.size/\∀ i,T[i]? = if o<=i/\i < o+L l then l[i-o]? else C[i]?
 | [],o,C,w,hg,_,_,_,k,off,_=>by
  refine⟨C,?_,rfl,fun i=>by grind⟩;rw[Jy8 hg];rfl
 | v::l,o,C,w,hg,hz,hl,h1,k,off,hk=>by
  simp only[bI]at hl;have h2:g < w.heap.size:=by
   grind
  have j:w.cell? ⟨g,o,O⟩=U C[o]:=by simp[World.cell?,hg]
  have hx:w.frozen? ⟨g,o,O⟩=J:=by
   have:=hz o iA;simp[World.frozen?,hg];omega
  have hc:=Vm3 (o:=o) v hg;have hb:(store ((⟨g,off,O⟩:Addr).add k) v).run P w=.ok () (World.turned w g (.cells (C.setIfInBounds o v) e (lo,hi))):=by
   rw[t_,hk,run_store P w _ v _ (h1 v jA),j,hx,hc];simp
  obtain⟨T,r1,r2,r3⟩:=Ml g e lo hi l (o+1) (C.setIfInBounds o v) (World.turned w g (.cells (C.setIfInBounds o v) e (lo,hi))) (zH h2)
   (by grind) (by simp;omega) (fun u hu=>h1 u (by simp[hu])) (k+1) off iA
  refine⟨T,?_,by grind,fun i => ?_⟩
  ·simp only[storeCells,aw,hb,ak,r1];simp[World.turned]
  grind
def Hd(H:c_ G M_ h w){a:Addr}(ha:dom M_ a.block)(hs:a.spot=O){l:List V}(hl:∀ v ∈ l,d_ (dom M_) v/\v.oneCell'=Y){h':N}(hh:storeAt h a l=U h') :
  ∃ w',(storeCells (jS M_ a) (l.map (b_ M_))).run P w=.ok () w'/\c_ G M_ h' w'/\ig M_ h w M_ h' w':=by
 obtain⟨p,T⟩:=bf.1 ha;unfold storeAt at hh;split at hh
 ·rename_i sz c hg;rw[au]at hh;obtain⟨c',h2,rfl⟩:=hh;obtain⟨s1,s2,s3⟩:=Lr _ _ _ _ h2;have j:=H.fits a.block p _ T hg;rcases j.2 with⟨h0,_⟩ | ⟨C,e,lo,hi,f1,f2,f3⟩
  ·cases h0
  obtain⟨hx,f32,hr⟩:=f3 rfl;have h3:L c<=C.size:=by
   rcases cf C.size (L c) with hb | hA
   ·have:=(f2 C.size _ (ac hb)).1
    grind
   omega
  rcases s2 with hc | s2
  ·subst hc;have hk:c'=c:=by
    apply dq
    grind
   subst hk;have hw:=Jy8 f1;have:=H.upd T (wJ hg) (x:=S Y sz c') rfl (o:=.cells C e (lo,hi)) (by grind);rw[hw]at this;exact⟨w,by simp[storeCells],this.1,this.2⟩
  ·obtain⟨C',r1,r2,r3⟩:=Ml (P:=P) p.blk e lo hi (l.map (b_ M_)) a.off C w f1 f32.not (by simp;omega)
    (fun v hv=>by obtain⟨u,hu,rfl⟩:=am.1 hv;rw[Jsn];grind) 0 a.off iA
   refine⟨World.turned w p.blk (.cells C' e (lo,hi)),?_,?_⟩
   ·simp only[jS,T,hx,H.spot T hg rfl,ite_self,bW];exact r1
   ·refine H.upd T (wJ hg) rfl ⟨j.1,.inr ⟨C',e,lo,hi,zH (H.blk_lt T hg rfl),fun i v hv => ?_,fun _=>⟨hx,by grind,iA⟩⟩⟩
    grind
 ·cases hh
def BP(r:ir)(h:N)(a:Addr)(v:V):Option N :=
 if mg v && v.cells.size == r.size then storeAt h a v.cells.toList else O
def J6r(H:c_ G M_ h w){t:TypeId}{r:ir}(T:vg P t r){a:Addr}(C:dom M_ a.block)(hs:a.spot=O){v:V}(hv:d_ (dom M_) v){h':N}(hh:BP r h a v=U h') :
  ∃ w',(storeVar t (jS M_ a) (b_ M_ v)).run P w=.ok () w'/\c_ G M_ h' w'/\ig M_ h w M_ h' w':=by
 unfold BP at hh;split at hh
 next j=>simp only[ax,beq_iff_eq]at j;obtain⟨w',r1,r2,r3⟩:=Hd (P:=P) H C hs (fun u hu=>G5 _ v hv j.1 u (by grind)) hh;refine⟨w',?_,r2,r3⟩;simp[storeVar,pH T,RG,j.2,cM,r1]
 ·cases hh
def TO(H:c_ G M_ h w)(e:TypeId){l:List V}(T:∀ v ∈ l,d_ (dom M_) v/\v.oneCell'=Y) :
  ∃ j w',(newRow e (l.map (b_ M_)).toArray).run P w=.ok ⟨w.heap.size,0,O⟩ w'/\jS j ⟨h.Q,0,O⟩=⟨w.heap.size,0,O⟩/\dom j h.Q/\iZ h.Q M_ j /\
   c_ G j (h.push (S Y 1 l)) w'/\ig M_ h w j (h.push (S Y 1 l)) w':=by
 refine⟨Ren.add M_ h.Q ⟨w.heap.size,0,L l,1,O⟩,_,rfl,?_,?_,i5 _ _ _,?_⟩
 ·simp[jS,hU]
 ·simp[dom,hU]
 ·refine H.push rfl rfl rfl ⟨rfl,.inr ⟨(l.map (b_ M_)).toArray,e,0,0,jA,fun i v hv => ?_,fun _=>⟨rfl,.inl rfl,jA⟩⟩⟩;have C:=T v (ae hv);have hd:∀ b,dom M_ b->Ren.add M_ h.Q ⟨w.heap.size,0,L l,1,O⟩ b=M_ b:=H.add_dom _;refine⟨?_,iq (fun b hb=>by grind) v C.1,C.2⟩;rw[iB hd v C.1];simp[hv]
end
structure jo (P:Program) where
 ty:Tr ir
 K:∀ t r,ty.A t=U r->vg P t r
 G:Bs
def e_(P:Program)(G:Bs)(M_:Ren)(h:N)(w:World)(s:Sem V)(v:V)(h':N):Prop :=
 ∃ j C,s.run P w=.ok (b_ j v) C/\d_ (dom j) v/\iZ h.Q M_ j/\c_ G j h' C/\ig M_ h w j h' C
section
variable{P:Program}{G:Bs}{M_:Ren}{h:N}{w:World}
def e_.plain(H:c_ G M_ h w){s:Sem V}{v:V}(hv:d_ (dom M_) v)(j:s.run P w=.ok (b_ M_ v) w):e_ P G M_ h w s v h :=
 ⟨M_,w,j,hv,iZ.refl _ _,H,ig.refl _ _ _⟩
def e_.flat(H:c_ G M_ h w){s:Sem V}{v:V}(hv:Go.Ab.flat v=Y)(j:s.run P w=.ok v w):e_ P G M_ h w s v h :=
 e_.plain H (jB _ _ hv) (by rw[tf M_ hv];exact j)
def O9:Sem V->Option V
 | .pure v=>U v
 | _=>O
def Usv{s:Sem V}{v:V}(hs:O9 s=U v)(w:World):s.run P w=.ok v w:=by
 cases s <;> simp[O9]at hs;simp_all
def jL(E:jo P)(t:TypeId)(x:V)(h:N):Option V :=
 match x,E.ty.A t with
 | .pointer (U a),U r=>Ai r h a
 | _,_=>O
def U1d(E:jo P)(H:c_ E.G M_ h w){t:TypeId}{x v:V}(j:d_ (dom M_) x)(hv:jL E t x h=U v) :
  e_ P E.G M_ h w (Instr.loadAt t (b_ M_ x)) v h:=by
 unfold jL at hv;split at hv
 next a r C=>simp only[d_]at j;have:=Tg (P:=P) H (E.K t r C) j.1 j.2 hv;exact e_.plain H this.1 (by simp[Instr.loadAt,Instr.sureAddr,b_,this.2])
 ·cases hv
def j9(E:jo P)(t:TypeId)(x v:V)(h:N):Option N :=
 match x,E.ty.A t with
 | .pointer (U a),U r=>BP r h a v
 | _,_=>O
def Us9(E:jo P)(H:c_ E.G M_ h w){t:TypeId}{x v:V}{h':N}(j:d_ (dom M_) x)(hv:d_ (dom M_) v)(hh:j9 E t x v h=U h') :
  ∃ w',(Instr.storeAt t (b_ M_ x) (b_ M_ v)).run P w=.ok () w'/\c_ E.G M_ h' w'/\ig M_ h w M_ h' w':=by
 unfold j9 at hh;split at hh
 next a r C=>simp only[d_]at j;obtain⟨w',T,r2,r3⟩:=J6r (P:=P) H (E.K t r C) j.1 j.2 hv hh;exact⟨w',by simp[Instr.storeAt,Instr.sureAddr,b_,T],r2,r3⟩
 ·cases hh
def V6f(H:c_ G M_ h w)(e:TypeId){l:List V}(C:∀ v ∈ l,d_ (dom M_) v/\v.oneCell'=Y) :
  e_ P G M_ h w (do pure (.pointer (U (<- newRow e (l.map (b_ M_)).toArray)))) (.pointer (U ⟨h.Q,0,O⟩)) (h.push (S Y 1 l)):=by
 obtain⟨j,w',T,r2,r3,r4,r5,r6⟩:=TO (P:=P) H e C;exact⟨j,w',by simp[T,b_,r2],by simp only[d_];grind,r4,r5,r6⟩
def J9d(H:c_ G M_ h w)(e:TypeId){l:List V}(T:∀ v ∈ l,d_ (dom M_) v/\v.oneCell'=Y)(n c:Nat)(C:c≠iJ) :
  e_ P G M_ h w (do pure (M (U (<- newRow e (l.map (b_ M_)).toArray)) n c)) (M (U ⟨h.Q,0,O⟩) n c) (h.push (S Y 1 l)):=by
 obtain⟨j,w',r1,r2,r3,r4,r5,r6⟩:=TO (P:=P) H e T;exact⟨j,w',by simp[r1,b_,r2,uA,C],by simp only[d_];grind,r4,r5,r6⟩
def jd(E:jo P)(t:TypeId)(h:N):Option (V × N) :=
 match E.ty.A t with
 | some r=>U (.pointer (U ⟨h.Q,0,O⟩),h.push (S Y 1 r.zero.cells.toList))
 | none=>O
def yM(M_:Ren)(l:List V)(h:∀ v ∈ l,flat v=Y):l.map (b_ M_)=l:=by
 induction l with
 | nil=>rfl
 | cons v l ih=>simp[tf M_ (h v jA),ih fun u j=>h u (by simp[j])]
def Ew{z:V}(C:flat z=Y)(j:mg z=Y)(D:Nat->Prop):∀ v ∈ z.cells.toList,d_ D v/\v.oneCell'=Y :=
 fun v hv=>G5 D z (jB D z C) j v (by grind)
def Uy8{c:Array V}(j:flat (.agg c)=Y):∀ v ∈ c.toList,flat v=Y:=by
 simp only[flat,ax]at j;have : ∀ l:List V,lq l=Y->∀ v ∈ l,flat v=Y:=by
  intro l;induction l with
  | nil=>simp
  | cons u l ih=>intro C v hv;simp only[lq,ax]at C;grind
 cases c;exact this _ (by simpa[iS]using j.1)
def EG{z:V}(C:flat z=Y)(j:mg z=Y):∀ v ∈ z.cells.toList,flat v=Y:=by
 cases z <;> simp only[Value.cells] <;>
  first
   | exact Uy8 C
   | (grind)
   | simp[mg]at j
def Uu0(E:jo P)(H:c_ E.G M_ h w){t:TypeId}{v old:V}{h':N}(hh:jd E t h=U (v,h')) :
  e_ P E.G M_ h w (Instr.alloc t Y old) v h':=by
 unfold jd at hh;split at hh
 next r T=>cases hh;have ho:=E.K t r T;obtain⟨_,i,_,_,_,_,j,C,_⟩:=ho;have:=V6f (P:=P) H t (Ew j C _);rw[yM M_ _ (EG j C)]at this;obtain⟨M',w',r1,r2⟩:=this;refine⟨M',w',?_,r2⟩;simp only[Instr.alloc,aw,vZ (E.K t r T),ak]at r1 ⊢;simpa[newVar]using r1
 ·cases hh
def nP(x:V)(h:N):Option (V × N) :=
 if mg x then U (.pointer (U ⟨h.Q,0,O⟩),h.push (S Y 1 x.cells.toList))else O
def U5s(H:c_ G M_ h w){t:TypeId}{x v:V}{h':N}(hx:d_ (dom M_) x)(hh:nP x h=U (v,h')) :
  e_ P G M_ h w (Instr.box t (b_ M_ x)) v h':=by
 unfold nP at hh;split at hh
 ·rename_i T;cases hh;have:=V6f (P:=P) H t (l:=x.cells.toList) (fun u hu=>G5 _ x hx T u (by grind));obtain⟨C,w',j,r2⟩:=this;refine⟨C,w',?_,r2⟩;have e:(List.map (b_ M_) x.cells.toList).toArray=x.cells.map (b_ M_):=by grind
  rw[e]at j;simp only[Instr.box,newVar,RG];exact j
 ·cases hh
def oQ(place:Nat->Option (Nat × Nat)):List V->List (Nat × V)->Option (List V)
 | c,[]=>U c
 | c,(i,v)::r =>
  match place i with
  | none=>O
  | some (off,size) =>
   if mg v && v.cells.size == size && Nat.ble (off+size) (L c) then
    match kZ c off v.cells.toList with
    | some j=>oQ place j r
    | none=>O
   else O
def Uej(off:Nat):∀ (l:List V) (k:Nat) (c:Array V),off+k+L l<=c.size ->
  ((l.zipIdx k).foldl (fun cs (x:V × Nat)=>cs.setIfInBounds (off+x.2) x.1) c).size=c.size /\
  ∀ i,((l.zipIdx k).foldl (fun cs (x:V × Nat)=>cs.setIfInBounds (off+x.2) x.1) c)[i]? = if off+k<=i/\i < off+k+L l then l[i-(off+k)]? else c[i]?
 | [],k,c,_=>⟨rfl,fun i=>by rw[if_neg jA];rfl⟩
 | v::l,k,c,h=>by
  simp only[bI]at h;obtain⟨h1,j⟩:=Uej off l (k+1) (c.setIfInBounds (off+k) v) (by simp;omega);refine⟨by simp_all,fun i => ?_⟩;simp only[List.zipIdx_cons,dC]
  grind
def K8(place:Nat->Option (Nat × Nat)):∀ (parts:List (Nat × V)) (c T:List V),oQ place c parts=U T->(∀ p ∈ parts,d_ (dom M_) p.2) ->
  (∀ v ∈ c,d_ (dom M_) v/\v.oneCell'=Y) ->
  Instr.fill place (c.map (b_ M_)).toArray (parts.map fun p=>(p.1,b_ M_ p.2))=U (T.map (b_ M_)).toArray/\L T=L c/\∀ v ∈ T,d_ (dom M_) v/\v.oneCell'=Y
 | [],c,T,h,_,hc=>by simp only[oQ,aU]at h;subst h;exact⟨rfl,rfl,hc⟩
 | (i,v)::r,c,T,h,hp,hc=>by
  simp only[oQ]at h;cases hx:place i with
  | none=>grind
  | some os =>
   obtain⟨off,size⟩:=os;simp only[hx]at h;split at h
   ·rename_i C;simp only[ax,beq_iff_eq,cR]at C;obtain⟨⟨hn,hl⟩,hb⟩:=C;cases hs:kZ c off v.cells.toList with
    | none=>grind
    | some c1 =>
     simp only[hs]at h;obtain⟨s1,s2,s3⟩:=Lr _ _ _ _ hs;have hr:=G5 (dom M_) v (hp (i,v) bQ) hn;have h2:∀ u ∈ c1,d_ (dom M_) u/\u.oneCell'=Y:=by
      intro u hu;obtain⟨j,hj⟩:=d7 hu
      grind
     obtain⟨f1,f2,f3⟩:=K8 place r c1 T h (fun p hk=>hp p (aR _ hk)) h2;refine⟨?_,by rw[f2,s1],f3⟩;simp only[aH,Instr.fill,hx,RG,Array.size_map,hl,fw,bo];rw[if_neg (by simp;omega)];rw[<- f1];congr 1;have hz:=Uej off (v.cells.toList.map (b_ M_)) 0 (c.map (b_ M_)).toArray (by grind);have he:((v.cells.map (b_ M_)).zipIdx.foldl (fun cs (x:V × Nat)=>cs.setIfInBounds (off+x.2) x.1) (c.map (b_ M_)).toArray) =
       (((v.cells.toList.map (b_ M_)).zipIdx 0).foldl (fun cs (x:V × Nat)=>cs.setIfInBounds (off+x.2) x.1) (c.map (b_ M_)).toArray):=by
      rw[<- Array.foldl_toList,Array.toList_zipIdx,cM]
     refine he.trans ?_;apply dD
     grind
   ·cases h
def uq(E:jo P):List Field->Option (List (Nat × Nat))
 | []=>U []
 | f::r=>match E.ty.A f.type,uq E r with
  | some t,U l=>U ((f.offset,t.size)::l)
  | _,_=>O
def iD{A:Type}:List A->Nat->Option A
 | [],_=>O
 | x::_,0=>U x
 | _::l,n+1=>iD l n
def sQ{A:Type}:∀ (l:List A) (n:Nat),iD l n=l[n]?
 | [],n=>by simp[iD]
 | x::l,0=>by simp[iD]
 | x::l,n+1=>by simp[iD,sQ l n]
def Jrr(E:jo P)(w:World):∀ (fs:List Field) (l:List (Nat × Nat)),uq E fs=U l ->
  (fs.mapM fun f=>(do pure (f.offset,<- sizeOf f.type):Sem (Nat × Nat))).run P w=.ok l w
 | [],l,h=>by simp[uq]at h;subst h;rfl
 | f::r,l,h=>by
  simp only[uq]at h;split at h
  next t T C j=>cases h;have:=Jrr E w r T j;simp only[List.mapM_cons,aw,pH (E.K _ _ C),ak,bg,this]
  ·cases h
def jP(E:jo P)(t:TypeId)(parts:List (Nat × V)):Option V :=
 match E.ty.A t with
 | none=>O
 | some r =>
  match r.desc with
  | .struct C=>match uq E C.toList with
   | some T=>(oQ (iD T) r.zero.cells.toList parts).map fun c => .agg c.toArray
   | none=>O
  | .array _ e=>match E.ty.A e with
   | some j=>(oQ (fun i=>U (i*j.size,j.size)) r.zero.cells.toList parts).map fun c => .agg c.toArray
   | none=>O
  | _=>O
def Urt(E:jo P)(H:c_ E.G M_ h w){t:TypeId}{parts:List (Nat × V)}{v:V}(hp:∀ p ∈ parts,d_ (dom M_) p.2)(hv:jP E t parts=U v) :
  e_ P E.G M_ h w (Instr.build t (parts.map fun p=>(p.1,b_ M_ p.2)).toArray) v h:=by
 unfold jP at hv;cases hr:E.ty.A t with
 | none=>grind
 | some r =>
  simp only[hr]at hv;have ho:=E.K t r hr;obtain⟨hu,i,_,_,_,_,hf,hn,_⟩:=ho;have hz:=Ew hf hn (dom M_);have T:=yM M_ _ (EG hf hn);split at hv
  ·rename_i fs hd;cases j:uq E fs.toList with
   | none=>grind
   | some pl =>
    simp only[j,au]at hv;obtain⟨c,hc,rfl⟩:=hv;obtain⟨f1,f2,f3⟩:=K8 (M_:=M_) _ _ _ _ hc hp hz;rw[T]at f1;refine e_.plain H (HU _ _ f3) ?_;have hm:(fs.mapM fun f=>(do pure (f.offset,<- sizeOf f.type):Sem (Nat × Nat))).run P w=.ok pl.toArray w:=by
     rw[fU,Sem.run_map,Jrr E w _ _ j];rfl
    have C:(fun x=>pl.toArray[x]?)=iD pl:=by funext x;simp[sQ]
    simp only[Instr.build,aw,vZ (E.K t r hr),ak,run_underlying hu,hd,hm,C];simp_all
  ·rename_i n e hd;cases he:E.ty.A e with
   | none=>grind
   | some re =>
    simp only[he,au]at hv;obtain⟨c,hc,rfl⟩:=hv;obtain⟨f1,f2,f3⟩:=K8 (M_:=M_) _ _ _ _ hc hp hz;rw[T]at f1;refine e_.plain H (HU _ _ f3) ?_;simp only[Instr.build,aw,vZ (E.K t r hr),ak,run_underlying hu,hd,pH (E.K e re he)];rw[show r.zero.cells=r.zero.cells.toList.toArray by simp,f1];simp
  ·cases hv
def mK(z:List V):Nat->List V
 | 0=>[]
 | n+1=>z++mK z n
def Vl6(z:List V)(n:Nat):L (mK z n)=n*L z:=by
 induction n with
 | zero=>simp[mK]
 | succ n ih=>simp[mK,ih,gk];omega
def J76(z:List V)(T:0 < L z):∀ (n i:Nat),i < n*L z->(mK z n)[i]? = z[i % L z]?
 | 0,i,h=>by simp at h
 | n+1,i,h=>by
  simp only[mK];by_cases C:i < L z
  ·rw[aN C,cU C]
  ·have j:L z<=i:=Nat.le_of_not_lt C;rw[aL j,J76 z T n (i-L z) (by grind)];congr 1
   conv=>rhs;rw[show i=(i-L z)+L z by omega,Nat.add_mod_right]
def HV(z:Array V)(n:Nat)(j:0 < z.size):((Array.range (n*z.size)).map (fun x=>z[x % z.size]!))=(mK z.toList n).toArray:=by
 apply dD;intro i;by_cases T:i < n*z.size
 ·have hm:i % z.size < z.size:=eN _ j;have h1:=J76 z.toList iA n i iA
  grind
 ·have C:L (mK z.toList n)<=i:=by rw[Vl6];grind
  grind
def A'{z:List V}{v:V}:∀ {n:Nat},v ∈ mK z n->v ∈ z
 | 0,h=>by simp[mK]at h
 | n+1,h=>by simp only[mK,ah]at h;exact h.elim id A'
def V6(E:jo P)(t:TypeId)(len:Nat)(parts:List (Nat × V))(h:N):Option (V × N) :=
 match E.ty.A t with
 | none=>O
 | some r =>
  match r.desc with
  | .slice e=>match E.ty.A e with
   | some j =>
    if Nat.ble (len*j.size) 16777216 && Nat.ble 1 j.size then
     (oQ (fun i=>U (i*j.size,j.size)) (mK j.zero.cells.toList len) parts).map fun c=>(M (U ⟨h.Q,0,O⟩) len len,h.push (S Y 1 c))
    else O
   | none=>O
  | _=>O
def Vnb(E:jo P)(H:c_ E.G M_ h w){t:TypeId}{len:Nat}{parts:List (Nat × V)}{v:V}{h':N}(hp:∀ p ∈ parts,d_ (dom M_) p.2)(hv:V6 E t len parts h=U (v,h')) :
  e_ P E.G M_ h w (Instr.buildSlice t len (parts.map fun p=>(p.1,b_ M_ p.2)).toArray) v h':=by
 unfold V6 at hv;cases hr:E.ty.A t with
 | none=>grind
 | some r =>
  simp only[hr]at hv;split at hv
  ·rename_i e hd;cases he:E.ty.A e with
   | none=>grind
   | some C =>
    simp only[he]at hv;split at hv
    ·rename_i j;simp only[ax,cR]at j;obtain⟨hk,h1⟩:=j;simp only[au]at hv;obtain⟨c,hc,hv⟩:=hv;cases hv;have ho:=E.K e C he;obtain⟨_,i,_,_,_,_,hf,hn,T,_⟩:=ho;have hz:∀ v ∈ mK C.zero.cells.toList len,d_ (dom M_) v/\v.oneCell'=Y:=fun v hv=>Ew hf hn (dom M_) v (A' hv);have hA:=yM M_ (mK C.zero.cells.toList len) (fun v hv=>EG hf hn v (A' hv));obtain⟨f1,f2,f3⟩:=K8 (M_:=M_) _ _ _ _ hc hp hz;rw[hA]at f1;have hl:len<=16777216:=ao (Nat.le_mul_of_pos_right _ h1) hk;have hg:=J9d (P:=P) H e f3 len len (by unfold iJ;omega);obtain⟨M',w',r1,r2⟩:=hg;refine⟨M',w',?_,r2⟩;rw[<- r1];have hb:¬ len*C.size > 2 ^ 24:=iA;simp only[Instr.buildSlice,aw,run_underlying (E.K t r hr).1,hd,ak,pH (E.K e C he),dL];rw[if_neg hb];by_cases h0:len*C.size=0
     ·have h2:len=0:=by rcases f7.1 h0 with h | h <;> omega
      subst h2;have hx:Instr.fill (fun i=>U (i*C.size,C.size)) #[] (List.map (fun p=>(p.fst,b_ M_ p.snd)) parts)=U (List.map (b_ M_) c).toArray:=f1;have h3:∀ f:Nat->V,(Array.range 0).map f = #[]:=fun f=>by simp
      simp only[h0,if_true,bg,ak,h3,hx,aw]
     ·simp only[bg,ak];rw[if_neg h0];simp only[vZ (E.K e C he),ak];rw[<- T,HV _ _ iA,T,f1];simp
    ·cases hv
  ·cases hv
end
section
variable(P:Program)
def rQ(agg:Bool)(l:List V):V:=if agg then .agg l.toArray else l.headD undef
def xF(l:List Nat):Nat->List Nat
 | 0=>[]
 | n+1=>l++xF l n
def m_(t:TypeId):Bool:=match P.underlying t with | some d=>jO d | none=>J
def z7(g:TypeId->Option (List Nat)):List Field->Nat->Option (List Nat)
 | [],_=>U []
 | f::C,j =>
  if f.name == "_" || f.offset != j then O else
  match g f.type with
  | some l=>if L l == P.cellsOf f.type then(match z7 g C (j+L l)with | some r=>U (l++r) | none=>O)else O
  | none=>O
def qE:Nat->TypeId->Option (List Nat)
 | 0,_=>O
 | d+1,t =>
  match P.underlying t with
  | some .bool=>U [2]
  | some (.int _)=>U [1]
  | some .string=>U [3]
  | some (.array n e)=>match qE d e with
   | some l=>if L l == P.cellsOf e && !l.isEmpty then U (xF l n)else O
   | none=>O
  | some (.struct j)=>if P.stoodInHeld t then O else z7 P (qE d) j.toList 0
  | _=>O
end
section
variable{P:Program}
def Dt:∀ (ls:List Nat) (xs ys:List V) (b:Bool),kw ls xs ys=U b->L xs=L ls/\L ys=L ls
 | [],[],[],_,_=>by simp
 | l::ls,x::xs,y::ys,b,h=>by
  simp only[kw]at h;split at h
  next a c h1 j=>have:=Dt ls xs ys c j;simp[this]
  ·cases h
 | [],_::_,_,_,h=>by simp[kw]at h
 | [],[],_::_,_,h=>by simp[kw]at h
 | _::_,[],_,_,h=>by simp[kw]at h
 | _::_,_::_,[],_,h=>by simp[kw]at h
def LM:∀ (a c:List Nat) (xs ys:List V) (r:Bool),kw (a++c) xs ys=U r ->
  ∃ j C,kw a (xs.take (L a)) (ys.take (L a))=U j/\kw c (xs.drop (L a)) (ys.drop (L a))=U C/\r=(j && C)
 | [],c,xs,ys,r,h=>⟨Y,r,by simp[kw],by grind,jA⟩
 | l::a,c,x::xs,y::ys,r,h=>by
  simp only[eJ,kw]at h;split at h
  next p q h1 h2=>obtain⟨j,C,T,e2,e3⟩:=LM a c xs ys q h2;cases h;exact⟨p && j,C,by simp[kw,h1,T],by grind,by grind⟩
  ·cases h
 | _::_,_,[],_,_,h=>by simp[kw]at h
 | _::_,_,_::_,[],_,h=>by simp[kw]at h
def La(P:Program)(d:Nat)(t:TypeId)(ls:List Nat):Prop :=
 ∀ (j C:List V) (b:Bool) (w:World),kw ls j C=U b->(Op.equalIn d t (rQ (m_ P t) j) (rQ (m_ P t) C)).run P w=.ok b w
def Cv{e:TypeId}{T:TypeDesc}(C:P.underlying e=U T)(xs:List V)(off:Nat)(w:World)(hl:off+P.cellsOf e<=L xs)(h1:m_ P e=J->0 < P.cellsOf e) :
  (part e xs.toArray off).run P w=.ok (rQ (m_ P e) ((xs.drop off).take (P.cellsOf e))) w:=by
 obtain⟨i,hi⟩:=info_of_underlying C;have j:(isAgg e).run P w=.ok (m_ P e) w:=by
  simp only[isAgg,aw,run_underlying C,ak,m_,C];cases T <;> rfl
 simp only[part,aw,j,ak];cases ha:m_ P e with
 | true =>
  simp only[if_true,aw,run_sizeOf w hi,ak,bg,rQ];simp
 | false =>
  have h0:=h1 ha;have hx:xs.toArray[off]? = U (xs[off]' iA):=jA
  simp only[az,if_false,hx,rQ,bg];congr 1;rw[bh iA,show P.cellsOf e=(P.cellsOf e-1)+1 by omega,List.take_succ_cons];rfl
def Ey{d:Nat}{t:TypeId}{ls:List Nat}(h:qE P d t=U ls):∃ j,P.underlying t=U j/\(jO j=J->L ls=1):=by
 cases d with
 | zero=>simp[qE]at h
 | succ d =>
  simp only[qE]at h;split at h <;> first
   | (rename_i C;cases h;grind)
   | (rename_i C;exact⟨_,C,fun T=>by simp[jO]at T⟩)
   | cases h
def J91{d k:Nat}(xs ys:List V):∀ (fs:List Field) (j:Nat) (ls:List Nat) (r:Bool) (w:World),(∀ t l,qE P k t=U l->La P d t l)->z7 P (qE P k) fs j=U ls ->
  kw ls (xs.drop j) (ys.drop j)=U r->(Op.eqFields d xs.toArray ys.toArray fs).run P w=.ok r w
 | [],j,ls,r,w,_,h,he=>by
  simp only[z7,aU]at h;subst h;have:=Dt _ _ _ _ he;have h1:xs.drop j=[]:=bB this.1;have h2:ys.drop j=[]:=bB this.2;rw[h1,h2]at he;simp only[kw,aU]at he;subst he;simp[Op.eqFields]
 | f::fs,j,ls,r,w,IH,h,he=>by
  simp only[z7]at h;split at h
  ·cases h
  ·rename_i hc;simp only[cj,beq_iff_eq,bne_iff_ne,ne_eq,not_or,Decidable.not_not]at hc;cases hl:qE P k f.type with
   | none=>grind
   | some l =>
    simp only[hl]at h;split at h
    ·rename_i C;simp only[beq_iff_eq]at C;cases hr:z7 P (qE P k) fs (j+L l)with
     | none=>grind
     | some rs =>
      simp only[hr,aU]at h;subst h;obtain⟨r1,r2,e1,e2,e3⟩:=LM l rs _ _ _ he;rw[bU,bU]at e2;have ih:=J91 xs ys fs (j+L l) rs r2 w IH hr e2;obtain⟨dd,hu,h1⟩:=Ey hl;have hp:=Dt _ _ _ _ he;simp only[cK,aJ]at hp;have hz:m_ P f.type=J->0 < P.cellsOf f.type:=fun ha=>by
       have:=h1 (by simpa[m_,hu]using ha);omega
      have hA:l ≠ []->j+P.cellsOf f.type<=L xs/\j+P.cellsOf f.type<=L ys:=fun T=>by
       have : 0 < L l:=dP.2 T;omega
      by_cases T:l=[]
      ·subst T;have h3:m_ P f.type=Y:=by
        grind
       simp only[d5]at C e1;obtain⟨i,hi⟩:=info_of_underlying hu;have hx:∀ zs:List V,(part f.type zs.toArray f.offset).run P w=.ok (rQ (m_ P f.type) []) w:=by
        intro zs;have hk:(isAgg f.type).run P w=.ok (m_ P f.type) w:=by
         simp only[isAgg,aw,run_underlying hu,ak,m_,hu];cases dd <;> rfl
        simp only[part,aw,hk,ak,h3,if_true,run_sizeOf w hi,bg,rQ,<- C];simp
       have hE:=IH f.type [] hl [] [] Y w (by simp[kw]);simp only[cZ,kw,aU]at e1;subst e1;simp only[Op.eqFields,hc.1,ne_eq,not_false_eq_true,if_true,aw,hx,ak,hE,bZ,az,if_false,ih,e3,dK]
      ·have hb:=hA T;have p1:=Cv hu xs f.offset w iA hz;have p2:=Cv hu ys f.offset w iA hz;rw[hc.2,<- C]at p1 p2;have hE:=IH f.type l hl _ _ r1 w e1;simp only[Op.eqFields,hc.1,ne_eq,not_false_eq_true,if_true,aw,hc.2,p1,p2,ak,hE];cases r1 with
       | false=>simp[e3]
       | true=>grind
    ·cases h
def Vqs{d k:Nat}{e:TypeId}{l:List Nat}(xs ys:List V)(IH:La P d e l)(hl:qE P k e=U l)(j:L l=P.cellsOf e)(T:l ≠ []):∀ (m s:Nat) (r:Bool) (w:World),
  kw (xF l m) (xs.drop (s*P.cellsOf e)) (ys.drop (s*P.cellsOf e))=U r->(Op.eqItems d e (P.cellsOf e) xs.toArray ys.toArray (List.range' s m)).run P w=.ok r w
 | 0,s,r,w,C=>by
  have:=Dt _ _ _ _ C;simp only[xF,d5]at this;have h1:xs.drop (s*P.cellsOf e)=[]:=bB this.1;have h2:ys.drop (s*P.cellsOf e)=[]:=bB this.2;rw[h1,h2]at C;simp only[xF,kw,aU]at C;subst C;simp[Op.eqItems]
 | m+1,s,r,w,C=>by
  have hc:=Dt _ _ _ _ C;obtain⟨r1,r2,e1,e2,e3⟩:=LM l (xF l m) _ _ _ C;rw[bU,bU,j,show s*P.cellsOf e+P.cellsOf e=(s+1)*P.cellsOf e by grind]at e2;have ih:=Vqs xs ys IH hl j T m (s+1) r2 w e2;obtain⟨dd,hu,h1⟩:=Ey hl;simp only[cK,xF,aJ]at hc;have h0:0 < L l:=dP.2 T;have p1:=Cv hu xs (s*P.cellsOf e) w iA (fun _=>by omega);have p2:=Cv hu ys (s*P.cellsOf e) w iA (fun _=>by omega);rw[<- j]at p1 p2;rw[<- j]at e1;have hE:=IH _ _ r1 w e1;rw[<- j]at ih ⊢;simp only[fD,Op.eqItems,aw,p1,p2,ak,hE];cases r1 with
  | false=>simp[e3]
  | true=>grind
def V8t(c:Nat):∀ (k:Nat) (t:TypeId) (ls:List Nat),qE P k t=U ls->La P (c+k) t ls
 | 0,t,ls,h=>by simp[qE]at h
 | k+1,t,ls,h=>by
  have IH:∀ t l,qE P k t=U l->La P (c+k) t l:=fun t l h=>V8t c k t l h;intro xs ys b w he;simp only[qE]at h;have single:∀ n,ls=[n]->m_ P t=J->(∀ x y,AG n x y=U b->(Op.equalIn (c+(k+1)) t x y).run P w=.ok b w)->(Op.equalIn (c+(k+1)) t (rQ (m_ P t) xs) (rQ (m_ P t) ys)).run P w=.ok b w:=by
   intro n hn ha hx;subst hn;have hl:=Dt _ _ _ _ he
   match xs,ys,hl with
   | [x],[y],_ =>
    simp only[kw]at he;split at he
    ·rename_i p q h1 h2;cases h2;cases he;simp only[ha,rQ,az,if_false,List.headD_cons]
     grind
    ·cases he
  split at h
  next C=>cases h;refine single 2 rfl (by simp[m_,C,jO]) fun x y j => ?_;unfold AG at j;split at j <;> simp at *;subst j;rw[<- dn];exact run_equalIn_bool' w _ t _ _ C
  next q C=>cases h;refine single 1 rfl (by simp[m_,C,jO]) fun x y j => ?_;unfold AG at j;split at j <;> simp at *;obtain⟨rfl,j⟩:=j;subst j;rw[<- dn];exact run_equalIn_int w _ t _ q _ _ C
  next C=>cases h;refine single 3 rfl (by simp[m_,C,jO]) fun x y j => ?_;unfold AG at j;split at j <;> simp at *;subst j;rw[<- dn];rename_i s1 s2;rw[run_equalIn_string w _ t _ _ C,beq_toListBytes]
  ·rename_i n e C;split at h
   ·rename_i l hl;split at h
    next hc=>simp only[ax,beq_iff_eq,cx,fT]at hc;cases h;obtain⟨dd,hk,_⟩:=Ey hl;obtain⟨i,hi⟩:=info_of_underlying hk;have T:m_ P t=Y:=(by simp[m_,C,jO]);simp only[T,rQ,if_true];rw[<- dn,run_equalIn_array w _ _ _ C hi,fg];exact Vqs xs ys (IH e l hl) hl hc.1 hc.2 n 0 b w (by grind)
    ·cases h
   ·cases h
  ·rename_i fs C;split at h
   ·cases h
   next hb=>have T:m_ P t=Y:=(by simp[m_,C,jO]);simp only[T,rQ,if_true];have hf:P.fieldsOf t=fs:=(by simp[Program.fieldsOf,C]);rw[<- dn,run_equalIn_struct w _ t _ _ (by grind) (by grind),hf];exact J91 xs ys _ 0 ls b w IH h (by grind)
  ·cases h
def ZW(P:Program)(d:Nat)(t:TypeId)(ls:List Nat):Prop :=
 ∀ (C:Bool) (j:List V) (w:World),L j=L ls->(Instr.checkKey C d t (rQ (m_ P t) j)).run P w=.ok () w
def Uoz(l:List Nat)(n:Nat):L (xF l n)=n*L l:=by
 induction n with
 | zero=>simp[xF]
 | succ n ih=>simp[xF,ih,gk];omega
def Vpf(c:Nat):∀ (k:Nat) (t:TypeId) (ls:List Nat),qE P k t=U ls->ZW P (c+k) t ls
 | 0,t,ls,h=>by simp[qE]at h
 | k+1,t,ls,h=>by
  have IH:∀ t l,qE P k t=U l->ZW P (c+k) t l:=fun t l h=>Vpf c k t l h;intro em xs w hx;simp only[qE]at h;rw[<- dn,Instr.checkKey];split at h
  next T=>simp only[aw,run_underlying T,ak,bg]
  next q T=>simp only[aw,run_underlying T,ak,bg]
  next T=>simp only[aw,run_underlying T,ak,bg]
  ·rename_i n e T;split at h
   ·rename_i l hl;split at h
    ·rename_i hc;simp only[ax,beq_iff_eq,cx,fT]at hc;cases h;obtain⟨dd,h2,h1⟩:=Ey hl;obtain⟨i,hi⟩:=info_of_underlying h2;have hp:m_ P t=Y:=(by simp[m_,T,jO]);simp only[hp,rQ,if_true];simp only[aw,run_underlying T,ak];simp only[Std.Legacy.Range.forIn_eq_forIn_range',Std.Legacy.Range.size,dG,Nat.add_one_sub_one,Nat.div_one];have hz:0 < L l:=dP.2 hc.2;rw[Uoz]at hx;have each:∀ j ∈ List.range' 0 n,j < n:=fun j hj=>by grind
     generalize List.range' 0 n=is at each;induction is with
     | nil=>simp
     | cons j is ih =>
      have hj:=each j jA;have hA:j*P.cellsOf e+P.cellsOf e<=L xs:=by
       rw[hx,<- hc.1,<- gk];exact bV _ hj
      have p1:=Cv h2 xs (j*P.cellsOf e) w hA (fun _=>by omega);have p2:=IH e l hl em ((xs.drop (j*P.cellsOf e)).take (P.cellsOf e)) w (by
       grind)
      simp only[List.forIn_cons,aw,run_sizeOf w hi,ak,p1,p2,bg];simp_all
    ·cases h
   ·cases h
  ·rename_i fs T;split at h
   ·cases h
   ·rename_i hy;have hp:m_ P t=Y:=(by simp[m_,T,jO]);simp only[hp,rQ,if_true];simp only[aw,run_underlying T,ak];rw[<- Array.forIn_toList];have key:∀ (L_:List Field) (h3:Nat) (ls:List Nat),z7 P (qE P k) L_ h3=U ls->h3+L ls<=L xs ->
      (forIn L_ PUnit.unit fun f (_:PUnit)=>(if f.name ≠ "_" then do
        let x <- part f.type xs.toArray f.offset
        Instr.checkKey em (c+k) f.type x
        pure (ForInStep.yield PUnit.unit)
       else pure (ForInStep.yield PUnit.unit):Sem (ForInStep PUnit))).run P w=.ok PUnit.unit w:=by
     intro L_;induction L_ with
     | nil=>simp
     | cons f L_ ih =>
      intro h3 ls hL hb;simp only[z7]at hL;split at hL
      ·cases hL
      ·rename_i hk;simp only[cj,beq_iff_eq,bne_iff_ne,ne_eq,not_or,Decidable.not_not]at hk;split at hL
       ·rename_i l hl;split at hL
        ·rename_i C;simp only[beq_iff_eq]at C;split at hL
         ·rename_i r hr;cases hL;obtain⟨dd,h2,h1⟩:=Ey hl;rw[aJ]at hb;have hz:m_ P f.type=J->0 < P.cellsOf f.type:=fun ha=>by
           have:=h1 (by simpa[m_,h2]using ha);omega
          have p1:=Cv h2 xs f.offset w (by rw[hk.2,<- C];omega) hz;have p2:=IH f.type l hl em ((xs.drop f.offset).take (P.cellsOf f.type)) w (by
           rw[df,cK,hk.2,<- C];omega)
          simp only[List.forIn_cons,aw,hk.1,ne_eq,not_false_eq_true,if_true,ak,p1,p2,bg];exact ih _ _ hr iA
         ·cases hL
        ·cases hL
       ·cases hL
    have h9:=key fs.toList 0 ls h iA;rw[h9];simp
  ·cases h
def NY(P:Program)(t:TypeId):List Nat :=
 if P.eqGuardType P.depth t then []else if m_ P t then(qE P 40 t).getD []else []
def Uwp(P:Program)(t:TypeId):Nd P t (NY P t):=by
 intro j;unfold NY at j ⊢;split at j
 ·grind
 ·rename_i hg;simp only[hg,az,if_false]at j ⊢;split at j
  ·rename_i C;simp only[C,if_true];cases hl:qE P 40 t with
   | none=>grind
   | some ls =>
    refine⟨trivial,fun T ys b w he => ?_,fun em T w hx => ?_⟩
    ·have:=V8t (P:=P) 9960 40 t ls hl T ys b w he;simpa[C,rQ,Op.equal,Op.maxDepth]using this
    ·have:=Vpf (P:=P) 9960 40 t ls hl em T w hx;simpa[C,rQ]using this
  grind
def IJ(P:Program)(t:TypeId):Option ir :=
 match P.underlying t,P.info? t with
 | some d,U i =>
  match i.zero with
  | some z=>if flat z && mg z && z.cells.size == i.size then U {desc:=d,size:=i.size,bytes:=i.bytes,zero:=z,leaf:=NY P t} else O
  | none=>O
 | _,_=>O
def Uzl{P:Program}{t:TypeId}{r:ir}(h:IJ P t=U r):vg P t r:=by
 unfold IJ at h;split at h
 ·rename_i d i T C;split at h
  ·rename_i z hz;split at h
   next j=>simp only[ax,beq_iff_eq]at j;cases h;exact⟨T,i,C,rfl,rfl,hz,j.1.1,j.1.2,j.2,Uwp P t⟩
   ·cases h
  ·cases h
 ·cases h
def EO(P:Program):Nat->Tr ir
 | 0 => .leaf
 | n+1=>(EO P n).put n (IJ P n)
def Uaz(P:Program):∀ (n:Nat) (t:TypeId) (r:ir),(EO P n).A t=U r->IJ P t=U r
 | 0,t,r,h=>by simp[EO]at h
 | n+1,t,r,h=>by
  simp only[EO,Tr.H]at h;split at h
  ·grind
  ·exact Uaz P n t r h
end
section
variable{P:Program}{M_:Ren}{h:N}{w:World}
def yu(M_:Ren)(a:Addr)(T:dom M_ a.block)(hs:a.spot=O)(n:Nat):jS M_ (a.add n)=(jS M_ a).add n:=by
 obtain⟨p,C⟩:=bf.1 T;obtain⟨b,o,s⟩:=a;simp only at hs C;subst hs;by_cases j:n=0
 ·subst j;rfl
 ·rw[t_];simp[jS,C,Addr.add,j,dn]
def wP(a:Addr)(n:Nat):(a.add n).block=a.block:=by unfold Addr.add;grind
def xM(a:Addr)(n:Nat)(hs:a.spot=O):(a.add n).spot=O:=by unfold Addr.add;grind
def kd(E:jo P)(s:TypeId)(x:V)(f:Nat):Option V :=
 match x,E.ty.A s with
 | .pointer (U a),U r =>
  match r.desc with
  | .struct C=>match iD C.toList f with
   | some j=>match E.ty.A j.type with
    | some T=>if T.size == 0 then O else U (.pointer (U (a.add j.offset)))
    | none=>O
   | none=>O
  | _=>O
 | _,_=>O
def Vvj(E:jo P)(H:c_ E.G M_ h w){s:TypeId}{x v:V}{f:Nat}(C:d_ (dom M_) x)(hv:kd E s x f=U v) :
  e_ P E.G M_ h w (Instr.fieldAt s (b_ M_ x) f) v h:=by
 unfold kd at hv;split at hv
 ·rename_i a r hr;simp only[d_]at C;split at hv
  ·rename_i fs hd;split at hv
   ·rename_i fd T;split at hv
    ·rename_i rf h2;split at hv
     ·cases hv
     ·rename_i hk;cases hv;rw[sQ]at T;have j:fs[f]? = U fd:=(by grind);refine e_.plain H (by simp only[d_,wP];exact⟨C.1,xM _ _ C.2⟩) ?_;have hc:¬ rf.size=0:=(by grind);simp only[Instr.fieldAt,aw,run_underlying (E.K s r hr).1,hd,ak,j,b_,aQ,Instr.sureAddr,bg,fieldPlace,
       pH (E.K _ rf h2),hc,if_false]
      rw[yu M_ a C.1 C.2]
    ·cases hv
   ·cases hv
  ·cases hv
 ·cases hv
def J1(E:jo P)(t:TypeId)(x C:V):Option V :=
 match E.ty.A t,C with
 | some r,.int _ i =>
  match r.desc,x with
  | .array n e,.pointer (U a)=>match E.ty.A e with
   | some j=>if 0<=i/\i < n then U (.pointer (U (a.add (i.toNat*j.size))))else O
   | none=>O
  | .slice e,M (U a) n _=>match E.ty.A e with
   | some j=>if 0<=i/\i < n then U (.pointer (U (a.add (i.toNat*j.size))))else O
   | none=>O
  | _,_=>O
 | _,_=>O
def V2c(E:jo P)(H:c_ E.G M_ h w){t:TypeId}{x ix v:V}(j:d_ (dom M_) x)(hv:J1 E t x ix=U v) :
  e_ P E.G M_ h w (Instr.indexAt t (b_ M_ x) (b_ M_ ix)) v h:=by
 unfold J1 at hv;split at hv
 ·rename_i r k i hr;split at hv
  ·rename_i n e a hd;split at hv
   ·rename_i re C;split at hv
    ·rename_i T;cases hv;simp only[d_]at j;refine e_.plain H (by simp only[d_,wP];exact⟨j.1,xM _ _ j.2⟩) ?_;simp only[Instr.indexAt,b_,asIntOf,aw,bg,ak,run_underlying (E.K t r hr).1,hd,aQ,Instr.sureAddr,
      dL,T,and_self,if_true,pH (E.K _ re C)]
     rw[yu M_ a j.1 j.2]
    ·cases hv
   ·cases hv
  ·rename_i e a n c hd;split at hv
   ·rename_i re C;split at hv
    ·rename_i T;cases hv;simp only[d_]at j;refine e_.plain H (by simp only[d_,wP];exact⟨j.1,xM _ _ j.2⟩) ?_;simp only[Instr.indexAt,b_,asIntOf,aw,bg,ak,run_underlying (E.K t r hr).1,hd,aQ,
      dL,T,and_self,if_true,pH (E.K _ re C)]
     rw[yu M_ a j.1 j.2]
    ·cases hv
   ·cases hv
  ·cases hv
 ·cases hv
def E3(r:ir)(cs:List V)(off:Nat):Option V :=
 if jO r.desc then(nQ r.size (cs.drop off)).map fun l => .agg l.toArray else iD cs off
def Jf3{n off:Nat}{cs l:List V}(h:nQ n (cs.drop off)=U l):l=(cs.drop off).take n:=by
 obtain⟨h1,j⟩:=z_ _ _ _ h;apply dq
 grind
def J6n{t:TypeId}{r:ir}(hr:vg P t r){cs:Array V}{off:Nat}{v:V}(hv:E3 r cs.toList off=U v)(hc:d_ (dom M_) (.agg cs))(w:World) :
  d_ (dom M_) v/\(part t (cs.map (b_ M_)) off).run P w=.ok (b_ M_ v) w:=by
 have C:=(OM (dom M_) cs).1 hc;unfold E3 at hv;simp only[part,aw,Jf7 hr,ak];split at hv
 ·rename_i j;rw[au]at hv;obtain⟨l,T,rfl⟩:=hv;have he:=Jf3 T;obtain⟨h1,h2⟩:=z_ _ _ _ T;refine⟨HU _ _ fun v hv => ?_,?_⟩
  ·grind
  ·simp only[j,if_true,aw,pH hr,ak,bg,jZ];congr 2
   grind
 next j=>rw[sQ]at hv;refine⟨(C v (by grind)).1,?_⟩;simp_all
def Ob(E:jo P)(t:TypeId)(x:V)(f:Nat):Option V :=
 match x,E.ty.A t with
 | .agg cs,U r =>
  match r.desc with
  | .struct C=>match iD C.toList f with
   | some j=>match E.ty.A j.type with
    | some T=>E3 T cs.toList j.offset
    | none=>O
   | none=>O
  | _=>O
 | _,_=>O
def Uvm(E:jo P)(H:c_ E.G M_ h w){t:TypeId}{x v:V}{f:Nat}(hx:d_ (dom M_) x)(hv:Ob E t x f=U v) :
  e_ P E.G M_ h w (Instr.field t (b_ M_ x) f) v h:=by
 unfold Ob at hv;split at hv
 ·rename_i cs r hr;split at hv
  ·rename_i fs hd;split at hv
   ·rename_i fd C;split at hv
    next rf T=>rw[sQ]at C;have j:fs[f]? = U fd:=(by grind);obtain⟨h1,h2⟩:=J6n (E.K _ rf T) hv hx w;refine e_.plain H h1 ?_;simp only[Instr.field,aw,run_underlying (E.K t r hr).1,hd,ak,j,jZ,asAgg,bg,h2]
    ·cases hv
   ·cases hv
  ·cases hv
 ·cases hv
def vH(E:jo P)(t:TypeId)(x C:V):Option V :=
 match E.ty.A t,C with
 | some r,.int _ i =>
  match r.desc,x with
  | .array n e,.agg cs=>match E.ty.A e with
   | some j=>if 0<=i/\i < n then E3 j cs.toList (i.toNat*j.size)else O
   | none=>O
  | .string,.string s=>if 0<=i then(match iD s.data.toList i.toNat with | some b=>U (.int .u8 b.toNat) | none=>O)else O
  | _,_=>O
 | _,_=>O
def Usg(E:jo P)(H:c_ E.G M_ h w){t:TypeId}{x ix v:V}(hx:d_ (dom M_) x)(hv:vH E t x ix=U v) :
  e_ P E.G M_ h w (Instr.index t (b_ M_ x) (b_ M_ ix)) v h:=by
 unfold vH at hv;split at hv
 ·rename_i r k i hr;split at hv
  ·rename_i n e cs hd;split at hv
   ·rename_i re T;split at hv
    ·rename_i hc;obtain⟨h1,h2⟩:=J6n (E.K _ re T) hv hx w;refine e_.plain H h1 ?_;simp only[Instr.index,kO,asIntOf,aw,bg,ak,run_underlying (E.K t r hr).1,hd,jZ,dL,hc,and_self,if_true,
      pH (E.K _ re T),h2]
    ·cases hv
   ·cases hv
  ·rename_i s hd;split at hv
   ·rename_i hc;split at hv
    ·rename_i b hb;cases hv;rw[sQ]at hb;have hs:s[i.toNat]? = U b:=by
      have j:s.data[i.toNat]? = U b:=(by grind);have C:i.toNat < s.size:=by
       rcases cf i.toNat s.data.size with h | h
       ·exact h
       grind
      have h2:s[i.toNat]? = U (s[i.toNat]'C):=jA
      rw[h2];have h3:s.data[i.toNat]? = U (s.data[i.toNat]'C):=jA
      rw[h3]at j;exact j
     refine e_.flat H rfl ?_;simp only[Instr.index,kO,asIntOf,aw,bg,ak,run_underlying (E.K t r hr).1,hd,jV,hc,if_true,hs]
    ·cases hv
   ·cases hv
  ·cases hv
 ·cases hv
def Qa(x:V)(i:Nat):Option V :=
 match x with
 | .tuple j=>iD j.toList i
 | _=>O
def Uj3{G:Bs}(H:c_ G M_ h w){x v:V}{i:Nat}(T:d_ (dom M_) x)(hv:Qa x i=U v) :
  e_ P G M_ h w (Instr.extract (b_ M_ x) i) v h:=by
 unfold Qa at hv;split at hv
 ·rename_i C;rw[sQ]at hv;have j:C[i]? = U v:=by grind
  refine e_.plain H ((zY _ _).1 T v (fc j)) ?_;have : (C.map (b_ M_))[i]? = U (b_ M_ v):=by grind
  simp only[Instr.extract,uO,this,bg]
 ·cases hv
def lJ(x:Option V)(j C:Nat):Option Nat :=
 match x with
 | none=>U j
 | some (.int _ i)=>if 0<=i/\i<=C then U i.toNat else O
 | _=>O
def zw{k:IntKind}{i:Int}{n:Nat}(j:0<=i/\i<=n)(c:BoundsCode)(w:World):(Instr.sliceBound (.int k i) n c).run P w=.ok i.toNat w:=by
 simp[Instr.sliceBound,asIntOf,j]
def MQ(b:Bool)(len cap:Nat)(lo hi mx:Option V){l h m:Nat}(hm:lJ mx cap cap=U m)(hh:lJ hi len m=U h)(hc:hi=O->mx=O)(T:lJ lo 0 h=U l)(w:World) :
  (Instr.sliceBounds b len cap (lo.map (b_ M_)) (hi.map (b_ M_)) (mx.map (b_ M_))).run P w=.ok (l,h,m) w:=by
 have j:∀ (x:Option V) (d n k:Nat),lJ x d n=U k->(x=O/\d=k) ∨ ∃ q i,x=U (.int q i)/\0<=i/\i<=n/\i.toNat=k:=by
  intro x d n k hx;unfold lJ at hx
  grind
 rcases j _ _ _ _ hm with⟨rfl,rfl⟩ | ⟨qm,im,rfl,m1,m2,rfl⟩
 ·rcases j _ _ _ _ hh with⟨rfl,rfl⟩ | ⟨qh,ih,rfl,h1,C,rfl⟩
  ·rcases j _ _ _ _ T with⟨rfl,rfl⟩ | ⟨ql,il,rfl,l1,l2,rfl⟩
   ·simp[Instr.sliceBounds]
   ·simp[Instr.sliceBounds,zw ⟨l1,l2⟩]
  ·rcases j _ _ _ _ T with⟨rfl,rfl⟩ | ⟨ql,il,rfl,l1,l2,rfl⟩
   ·simp[Instr.sliceBounds,zw ⟨h1,C⟩]
   ·simp[Instr.sliceBounds,zw ⟨h1,C⟩,zw ⟨l1,l2⟩]
 ·rcases j _ _ _ _ hh with⟨rfl,rfl⟩ | ⟨qh,ih,rfl,h1,C,rfl⟩
  ·grind
  ·rcases j _ _ _ _ T with⟨rfl,rfl⟩ | ⟨ql,il,rfl,l1,l2,rfl⟩
   ·simp[Instr.sliceBounds,zw ⟨m1,m2⟩,zw ⟨h1,C⟩]
   ·simp[Instr.sliceBounds,zw ⟨m1,m2⟩,zw ⟨h1,C⟩,zw ⟨l1,l2⟩]
end
section
variable{P:Program}{M_:Ren}{h:N}{w:World}
def xj(M_:Ren)(a:Option Addr)(n c:Nat)(j:c≠iJ):b_ M_ (.slice a n c)=.slice (a.map (jS M_)) n c:=by simp[b_,uA,j]
def Ds(M_:Ren)(a:Addr)(n:Nat){p:Place}(j:M_ a.block=U p):b_ M_ (M (U a) n iJ)=M (U (jS M_ a)) n (p.room-a.off / p.sz):=by
 simp[b_,uA,j]
def zr(a:Option Addr)(sz l h m:Nat):Option V :=
 if m-l == iJ then O else U (.slice (if m=l then a else a.map (·.add (l*sz))) (h-l) (m-l))
def j8(E:jo P)(t:TypeId)(x:V)(lo hi mx:Option V)(h:N):Option (V × N) :=
 if hi.isNone && mx.isSome then O else
 match E.ty.A t,x with
 | some r,.pointer (U a)=>match r.desc with
  | .array n e=>match E.ty.A e,lJ mx n n with
   | some T,U m=>match lJ hi n m with
    | some j=>match lJ lo 0 j with
     | some l=>(zr (U a) T.size l j m).map fun v=>(v,h)
     | none=>O
    | none=>O
   | _,_=>O
  | _=>O
 | some r,.slice a n c=>match r.desc with
  | .slice e=>match E.ty.A e with
   | none=>O
   | some T =>
    if c != iJ then
     match lJ mx c c with
     | some m=>match lJ hi n m with
      | some j=>match lJ lo 0 j with
       | some l=>(zr a T.size l j m).map fun v=>(v,h)
       | none=>O
      | none=>O
     | none=>O
    else match a with
     | none=>O
     | some C=>match h.A C.block with
      | some (S Y sz cs) =>
       if sz == T.size && C.off % sz == 0 && Nat.ble 1 sz then
        let room:=(L cs-C.off) / sz
        match hi,mx with
        | none,O=>match lJ lo 0 n with
         | some l=>aCut C sz (L cs) l n h
         | none=>O
        | some _,O=>match lJ hi n room with
         | some j=>match lJ lo 0 j with
          | some l=>aCut C sz (L cs) l j h
          | none=>O
         | none=>O
        | some _,U _=>match lJ mx room room with
         | some m=>match lJ hi n m with
          | some j=>match lJ lo 0 j with
           | some l=>(zr a T.size l j m).map fun v=>(v,h)
           | none=>O
          | none=>O
         | none=>O
        | none,U _=>O
       else O
      | some (S J sz []) =>
       if sz == T.size && C.off % sz == 0 && Nat.ble 1 sz then
        match mx with
        | none=>match lJ hi n 0 with
         | some j=>match lJ lo 0 j with
          | some l=>if l == 0 then U (M (U C) j iJ,h)else O
          | none=>O
         | none=>O
        | some _=>O
       else O
      | _=>O
  | _=>O
 | some r,.string s=>match r.desc,mx with
  | .string,O=>match lJ hi s.size s.size with
   | some j=>match lJ lo 0 j with
    | some l=>U (.string (s.extract l j),h)
    | none=>O
   | none=>O
  | _,_=>O
 | _,_=>O
 where
 aCut (C:Addr) (sz used l n:Nat) (h:N):Option (V × N) :=
  if l == 0 then U (M (U C) n iJ,h)
  else if Nat.blt (C.off+l*sz) used then U (M (U (C.add (l*sz))) (n-l) iJ,h)
  else if Nat.ble n l then U (M (U ⟨h.Q,0,O⟩) 0 iJ,h.push (S J sz []))
  else O
def Ux2{x:Option V}{d n k:Nat}(j:lJ x d n=U k)(hd:d<=n):k<=n:=by
 unfold lJ at j
 grind
def Lv{x:Option V}{d j n C k:Nat}(T:lJ x d n=U k)(hn:n<=C)(hd:x=O->d=j):lJ x j C=U k:=by
 unfold lJ at T ⊢
 grind
def Ou{a:Option Addr}{sz l h m:Nat}{v:V}(hv:zr a sz l h m=U v)(ha:∀ x,a=U x->dom M_ x.block/\x.spot=O) :
  d_ (dom M_) v/\b_ M_ v=.slice (if m=l then a.map (jS M_)else(a.map (jS M_)).map (·.add (l*sz))) (h-l) (m-l):=by
 unfold zr at hv;split at hv
 ·cases hv
 ·rename_i hc;have j:m-l≠iJ:=by grind
  cases hv;cases a with
  | none =>
   have e:(if m=l then(O:Option Addr)else Option.map (fun x:Addr=>x.add (l*sz)) O)=O:=jA
   have e2:(if m=l then Option.map (jS M_) (O:Option Addr)else Option.map (fun x:Addr=>x.add (l*sz)) (Option.map (jS M_) O))=O:=jA
   rw[e,e2];exact⟨by simpa only[d_]using j,by rw[xj _ _ _ _ j];rfl⟩
  | some x =>
   obtain⟨h1,C⟩:=ha x rfl;by_cases T:m=l
   ·subst T;simp only[if_true];refine⟨by simp only[d_];grind,?_⟩;rw[xj _ _ _ _ j]
   ·simp only[T,if_false,aQ];refine⟨by simp only[d_,wP];exact⟨h1,xM _ _ C⟩,?_⟩;rw[xj _ _ _ _ j,aQ,yu M_ x h1 C]
def Uup(E:jo P)(H:c_ E.G M_ h w){t:TypeId}{x:V}{lo hi mx:Option V}{v:V}{h':N}(hx:d_ (dom M_) x)
  (hv:j8 E t x lo hi mx h=U (v,h')) :
  e_ P E.G M_ h w (Instr.sliceAt t (b_ M_ x) (lo.map (b_ M_)) (hi.map (b_ M_)) (mx.map (b_ M_))) v h':=by
 unfold j8 at hv;split at hv
 ·cases hv
 ·rename_i hw;have g1:hi=O->mx=O:=by
   simp_all
  split at hv
  ·
   rename_i r a hr;simp only[d_]at hx;split at hv
   ·rename_i n e hd;split at hv
    ·rename_i j m s1 hm;split at hv
     ·rename_i hh hk;split at hv
      ·rename_i l hl;rw[au]at hv;obtain⟨v',q2,hq⟩:=hv;cases hq;obtain⟨o1,o2⟩:=Ou (M_:=M_) q2 (fun y hy=>by grind);refine e_.plain H o1 ?_;rw[o2];simp only[Instr.sliceAt,aw,run_underlying (E.K t r hr).1,hd,ak,b_,aQ,Instr.sureAddr,bg,
        MQ (M_:=M_) J n n lo hi mx hm hk g1 hl,pH (E.K _ j s1)]
       grind
      ·cases hv
     ·cases hv
    ·cases hv
   ·cases hv
  ·
   rename_i r a n c hr;split at hv
   ·rename_i e hd;split at hv
    ·cases hv
    ·rename_i j s1;have a2:∀ (c' l hh m:Nat),lJ mx c' c'=U m->lJ hi n m=U hh->lJ lo 0 hh=U l ->
       (Instr.sliceAt t (.slice (a.map (jS M_)) n c') (lo.map (b_ M_)) (hi.map (b_ M_)) (mx.map (b_ M_))).run P w =
        .ok (.slice (if m=l then a.map (jS M_)else(a.map (jS M_)).map (·.add (l*j.size))) (hh-l) (m-l)) w:=by
      intro c' l hh m e1 e2 e3;simp only[Instr.sliceAt,Instr.slice,aw,run_underlying (E.K t r hr).1,hd,ak,bg,
       MQ (M_:=M_) Y n c' lo hi mx e1 e2 g1 e3,pH (E.K _ j s1)]
     split at hv
     ·rename_i hc;have q1:c≠iJ:=(by grind);split at hv
      ·rename_i m hm;split at hv
       ·rename_i hh hk;split at hv
        ·rename_i l hl;rw[au]at hv;obtain⟨v',q2,hq⟩:=hv;cases hq;obtain⟨o1,o2⟩:=Ou (M_:=M_) q2 (fun y hy=>by subst hy;simpa only[d_]using hx);refine e_.plain H o1 ?_;rw[o2,xj _ _ _ _ q1]
         grind
        ·cases hv
       ·cases hv
      ·cases hv
     ·rename_i hc;have q1:c=iJ:=(by simpa using hc);subst q1;split at hv
      ·cases hv
      ·rename_i T;simp only[d_]at hx;obtain⟨p,hp⟩:=bf.1 hx.1;split at hv
       ·rename_i sz cs hg;split at hv
        ·rename_i h2;simp only[ax,beq_iff_eq,cR]at h2;obtain⟨⟨rfl,ho⟩,a1⟩:=h2;have hA:=H.fits _ p _ hp hg;obtain⟨hB,hA⟩:=hA;rcases hA with⟨h0,_⟩ | ⟨C,te,x2,g3,f1,f2,f3⟩
         ·cases h0
         obtain⟨s',f32,hf⟩:=f3 rfl;have h5:L cs<=p.room*j.size:=by
          rw[<- hB,<- hf];rcases cf C.size (L cs) with hz | a3
          ·have:=(f2 C.size _ (ac hz)).1;simp[s']at this
          ·exact a3
         have hu:(L cs-T.off) / j.size<=p.room-T.off / j.size:=by
          have h1:(L cs-T.off) / j.size<=(p.room*j.size-T.off) / j.size:=Nat.div_le_div_right iA;refine ao h1 ?_;obtain⟨q,hq⟩:=eO ho;rw[hq,dR p.room,<- Nat.mul_sub,dE _ a1,dE _ a1];exact ai _
         rw[Ds M_ T n hp,hB];have h4:∀ l hh,lJ hi n (p.room-T.off / j.size)=U hh->lJ lo 0 hh=U l->mx=O->j8.aCut T j.size (L cs) l hh h=U (v,h') ->
           e_ P E.G M_ h w (Instr.sliceAt t (M (U (jS M_ T)) n (p.room-T.off / j.size)) (lo.map (b_ M_)) (hi.map (b_ M_)) (mx.map (b_ M_))) v h':=by
          intro l hh e1 e2 e0 h3;have hn:=a2 (p.room-T.off / j.size) l hh _ (by rw[e0];rfl) e1 e2;simp only[aQ]at hn;have eA:l<=hh:=Ux2 e2 iA;unfold j8.aCut at h3;split at h3
          ·rename_i M';have hb:l=0:=(by simpa using M');subst hb;cases h3;refine e_.plain H (by simp only[d_];exact hx) ?_;rw[hn,Ds M_ T _ hp,hB];congr 1;by_cases hm:p.room-T.off / j.size=0
           ·simp[hm]
           ·simp[hm,Addr.add]
          ·rename_i M';have hb:l≠0:=(by simpa using M');split at h3
           ·rename_i hz;have q3:T.off+l*j.size < L cs:=(by simpa[dU]using hz);cases h3;have hm:T.off / j.size+l < p.room:=by
             obtain⟨q,hq⟩:=eO ho;rw[hq,dE _ a1];have : j.size*(q+l) < j.size*p.room:=by rw[Nat.mul_add,dR j.size l,dR j.size p.room];omega
             exact Nat.lt_of_mul_lt_mul_left this
            refine e_.plain H (by simp only[d_,wP];exact⟨hx.1,xM _ _ hx.2⟩) ?_;rw[hn,Ds M_ (T.add (l*j.size)) _ (by rw[wP];exact hp),hB,if_neg iA,yu M_ T hx.1 hx.2];congr 2;have he:(T.add (l*j.size)).off=T.off+l*j.size:=by
             obtain⟨b0,o0,s0⟩:=T;simp only at hx;rw[hx.2,t_]
            rw[he,Nat.add_mul_div_right _ _ a1];omega
           ·rename_i hz;split at h3
            ·rename_i x1;have t4:hh<=l:=(by simpa using x1);have c1:l=hh:=iA;subst c1;cases h3;have g2:=H.alias (p:={blk:=p.blk,base:=p.base+(if p.room-T.off / j.size=l then T.off else T.off+l*j.size),room:=p.room-T.off / j.size-l,sz:=j.size,spot:=O}) (H.dom _ _ hp).2;refine⟨_,w,?_,?_,i5 _ _ _,g2.1,g2.2⟩
             ·rw[hn];simp only[b_,aQ,jS,hU,uA,if_true,bR,Nat.zero_div,dG,dQ];congr 2;obtain⟨b0,o0,s0⟩:=T;have hC:=H.spot hp hg rfl;simp only at hx hp;simp only[hp,hx.2,hC,ite_self,t_];by_cases hm:p.room-o0 / j.size=l
              ·simp[hm]
              ·simp[hm,dn]
             ·simp only[d_];exact⟨by simp[dom,hU],trivial⟩
            ·cases h3
         cases hi with
         | none =>
          have es:=g1 rfl;subst es;simp only at hv;split at hv
          next l hl=>exact h4 l n rfl hl rfl hv
          ·cases hv
         | some ht =>
          cases mx with
          | none =>
           simp only at hv;split at hv
           ·rename_i hh hk;split at hv
            next l hl=>exact h4 l hh (Lv hk hu jA) hl rfl hv
            ·cases hv
           ·cases hv
          | some mv =>
           simp only at hv;split at hv
           ·rename_i m hm;split at hv
            ·rename_i hh hk;split at hv
             next l hl=>rw[au]at hv;obtain⟨v',q2,hq⟩:=hv;cases hq;obtain⟨o1,o2⟩:=Ou (M_:=M_) q2 (fun y hy=>by cases hy;exact hx);refine e_.plain H o1 ?_;rw[o2];exact a2 _ l hh m (Lv hm hu jA) hk hl
             ·cases hv
            ·cases hv
           ·cases hv
        ·cases hv
       ·rename_i sz hg;split at hv
        ·rename_i h2;simp only[ax,beq_iff_eq,cR]at h2;obtain⟨⟨rfl,ho⟩,a1⟩:=h2;obtain⟨hB, -⟩:=H.fits _ p _ hp hg;split at hv
         ·split at hv
          ·rename_i hh hk;split at hv
           ·rename_i l hl;split at hv
            ·rename_i M';have hb:l=0:=(by simpa using M');subst hb;cases hv;have hn:=a2 (p.room-T.off / j.size) 0 hh _ rfl (Lv hk (bw _) (fun _=>rfl)) hl;simp only[aQ,cQ]at hn;rw[Ds M_ T n hp,hB];refine e_.plain H (by simp only[d_];exact hx) ?_;simp only[cQ];rw[hn,Ds M_ T _ hp,hB];congr 1;by_cases hm:p.room-T.off / j.size=0
             ·simp[hm]
             ·simp[hm,Addr.add]
            ·cases hv
           ·cases hv
          ·cases hv
         ·cases hv
        ·cases hv
       ·cases hv
   ·cases hv
  ·
   rename_i r s hr;split at hv
   ·rename_i hd;split at hv
    ·rename_i hh hk;split at hv
     next l hl=>cases hv;refine e_.flat H rfl ?_;have:=MQ (M_:=M_) J s.size s.size lo hi O (by rfl) hk (fun _=>rfl) hl w (P:=P);simp only[cQ]at this;simp only[Instr.sliceAt,Instr.slice,aw,run_underlying (E.K t r hr).1,hd,ak,jV,cQ,Option.isSome_none,az,if_false,bg,this]
     ·cases hv
    ·cases hv
   ·cases hv
  ·cases hv
end
section
variable{P:Program}{M_:Ren}{h:N}{w:World}
def wG(E:jo P)(t:TypeId)(x y:V):Option Bool :=
 match E.ty.A t with
 | none=>O
 | some r =>
  match r.desc,x,y with
  | .bool,.bool a,.bool b=>U (a == b)
  | .pointer _,.pointer O,.pointer b=>U b.isNone
  | .pointer _,.pointer (U _),.pointer O=>U J
  | .slice _,M O _ _,.slice b _ _=>U b.isNone
  | .slice _,M (U _) _ _,M O _ _=>U J
  | .map _ _,.map O,.map b=>U b.isNone
  | .map _ _,.map (U _),.map O=>U J
  | .func _ _ _,.nilFunc,.nilFunc=>U Y
  | .func _ _ _,.nilFunc,.func _ _ _=>U J
  | .func _ _ _,.func _ _ _,.nilFunc=>U J
  | .interface _,.nilIface,.nilIface=>U Y
  | .interface _,.nilIface,.iface _ _=>U J
  | .interface _,.iface _ _,.nilIface=>U J
  | .struct _,.agg j,.agg C=>if r.leaf.isEmpty then O else kw r.leaf j.toList C.toList
  | .array _ _,.agg j,.agg C=>if r.leaf.isEmpty then O else kw r.leaf j.toList C.toList
  | _,_,_=>O
def Lq(M_:Ren):∀ (ls:List Nat) (xs ys:List V) (b:Bool),kw ls xs ys=U b->xs.map (b_ M_)=xs/\ys.map (b_ M_)=ys
 | [],[],[],_,_=>by simp
 | l::ls,x::xs,y::ys,b,h=>by
  simp only[kw]at h;split at h
  next a c h1 j=>have ih:=Lq M_ ls xs ys c j;unfold AG at h1;split at h1 <;> simp_all
  ·cases h
 | [],_::_,_,_,h=>by simp[kw]at h
 | [],[],_::_,_,h=>by simp[kw]at h
 | _::_,[],_,_,h=>by simp[kw]at h
 | _::_,_::_,[],_,h=>by simp[kw]at h
def U2n(E:jo P){t:TypeId}{x y:V}{b:Bool}(hv:wG E t x y=U b)(w:World):(Op.equal t (b_ M_ x) (b_ M_ y)).run P w=.ok b w:=by
 unfold wG at hv;cases hr:E.ty.A t with
 | none=>grind
 | some r =>
  simp only[hr]at hv;have ho:=E.K t r hr;have hu:=ho.1;have j:∀ T ys:Array V,(if r.leaf.isEmpty=Y then O else kw r.leaf T.toList ys.toList)=U b->(Op.equal t (b_ M_ (.agg T)) (b_ M_ (.agg ys))).run P w=.ok b w:=by
   intro T ys he;split at he
   ·cases he
   ·rename_i hc;obtain⟨_,_,_,_,_,_,_,_,_,hq⟩:=ho;have h1:=Lq M_ _ _ _ _ he;have h2:=(hq (by grind)).2.1 _ _ _ w he;have e1:T.map (b_ M_)=T:=by apply dj;simp_all
    have e2:ys.map (b_ M_)=ys:=by apply dj;simp_all
    simp_all
  have C:(∀ d,(Op.equalIn (d+1) t (b_ M_ x) (b_ M_ y)).run P w=.ok b w)->(Op.equal t (b_ M_ x) (b_ M_ y)).run P w=.ok b w:=fun hd=>hd 9999;split at hv <;> first
   | (rename_i hd;cases hv;refine C fun d => ?_;simp[Op.equalIn,run_underlying hu,hd,b_];done)
   | exact j _ _ hv
   | cases hv
def Q9:Operand->Bool
 | .const _=>Y
 | _=>J
def oM(E:jo P)(op:BinOp)(t:TypeId)(x y:V):Option V :=
 match op with
 | .eql=>(wG E t x y).map .bool
 | .neq=>(wG E t x y).map fun b => .bool (!b)
 | _=>O
def ja(s:Sem V):Option V :=
 match O9 s with
 | some v=>if flat v then U v else O
 | none=>O
def SG{s:Sem V}{v:V}(hs:ja s=U v):flat v=Y/\∀ w,s.run P w=.ok v w:=by
 unfold ja at hs;split at hs
 ·rename_i u C;split at hs
  next j=>cases hs;exact⟨j,Usv C⟩
  ·cases hs
 ·cases hs
def Y5(E:jo P)(op:BinOp)(t:TypeId)(k:Bool)(x y:V):Option V :=
 match x,y with
 | .int _ _,.int _ _=>ja (binOp op t x y)
 | .string _,.string _=>ja (binOp op t x y)
 | .nilIface,.nilIface=>if k then oM E op t x y else O
 | _,_=>oM E op t x y
def OE(E:jo P){G:Bs}(H:c_ G M_ h w){op:BinOp}{t:TypeId}{T oy:Operand}{x y v:V}
  (C:(eqGuard op t T oy (b_ M_ x) (b_ M_ y)).run P w=.ok () w)
  (h1:binOp .eql t (b_ M_ x) (b_ M_ y)=(do pure (.bool (<- Op.equal t (b_ M_ x) (b_ M_ y)))))
  (h2:binOp .neq t (b_ M_ x) (b_ M_ y)=(do pure (.bool (!(<- Op.equal t (b_ M_ x) (b_ M_ y))))))
  (hv:oM E op t x y=U v):e_ P G M_ h w (do eqGuard op t T oy (b_ M_ x) (b_ M_ y);binOp op t (b_ M_ x) (b_ M_ y)) v h:=by
 cases op <;> simp only[oM]at hv <;> first
  | grind
  | skip
 ·rw[au]at hv;obtain⟨b,j,rfl⟩:=hv;refine e_.flat H rfl ?_;simp only[aw,C,ak,h1,U2n E j,bg]
 ·rw[au]at hv;obtain⟨b,j,rfl⟩:=hv;refine e_.flat H rfl ?_;simp only[aw,C,ak,h2,U2n E j,bg]
def Uay{E:jo P}{op:BinOp}{t:TypeId}{x y v:V}(hv:oM E op t x y=U v):∃ b,wG E t x y=U b:=by
 cases op <;> simp only[oM]at hv <;> first
  | grind
  | (rw[au]at hv;grind)
def U3l (E : jo P) {G : Bs} (H : c_ G M_ h w) {op : BinOp} {t : TypeId} {ox oy : Operand} {x y v : V} (hv : Y5 E op t (Q9 ox || Q9 oy) x y = U v) :
    e_ P G M_ h w (do eqGuard op t ox oy (b_ M_ x) (b_ M_ y); binOp op t (b_ M_ x) (b_ M_ y)) v h := by
  have T : (eqGuard op t ox oy (b_ M_ x) (b_ M_ y)).run P w = .ok () w -> b_ M_ x = x -> b_ M_ y = y -> ja (binOp op t x y) = U v ->
      e_ P G M_ h w (do eqGuard op t ox oy (b_ M_ x) (b_ M_ y); binOp op t (b_ M_ x) (b_ M_ y)) v h := by
    intro hg e1 e2 hp;obtain ⟨hf, C⟩ := SG (P := P) hp;refine e_.flat H hf ?_;simp_all
  cases x <;> cases y <;> simp only [Y5] at hv <;> first
    | (refine T ?_ jA jA hv; cases op <;> simp [eqGuard]; done)
    | (obtain ⟨b, j⟩ := Uay hv
       unfold wG at j;cases C : E.ty.A t with
       | none => simp [C] at j
       | some r =>
         simp only [C] at j;cases hd : r.desc <;> simp [hd] at j; done)
    | (refine OE E H ?_ ?_ ?_ hv
       · simp only [b_,eqGuard]; cases op <;> simp; done
       · simp only [b_]; rfl
       · simp only [b_]; rfl)
    | skip
  ·
    split at hv
    · rename_i hk
      refine OE E H ?_ rfl rfl hv;simp only [Q9,cj] at hk;simp only [b_,eqGuard];rcases hk with hk | hk
      · cases ox <;> simp at hk; cases op <;> simp
      · cases oy <;> simp at hk; cases op <;> simp
    · cases hv
  ·
    rename_i xs ys;obtain ⟨b, j⟩ := Uay hv;have hc : ∃ r, E.ty.A t = U r /\ r.leaf ≠ [] := by
      unfold wG at j;cases C : E.ty.A t with
      | none => simp [C] at j
      | some r =>
        simp only [C] at j;refine ⟨r, rfl, fun h0 => ?_⟩;cases hd : r.desc <;> simp [hd,h0] at j
    obtain ⟨r, C, hl⟩ := hc;obtain ⟨_, _, _, _, _, _, _, _, _, hq⟩ := E.K t r C;refine OE E H ?_ ?_ ?_ hv
    · rw [jZ, jZ]; exact run_eqGuard_agg w op t ox oy _ _ (hq hl).1
    · rw [jZ, jZ]; rfl
    · rw [jZ, jZ]; rfl
end
end Go.Ab
