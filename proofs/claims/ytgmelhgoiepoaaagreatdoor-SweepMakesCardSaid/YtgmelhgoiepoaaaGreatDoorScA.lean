import Derived.Test.YtgmelhgoiepoaaaGreatDoorFA
import Derived.Test.YtgmelhgoiepoaaaGreatDoorAbG
import Derived.Test.YtgmelhgoiepoaaaGreatDoorBlA
set_option linter.all false
noncomputable section
namespace Go.Proofs.YtgmelhgoiepoaaaGreatDoor
open Go Go.Ab
set_option maxRecDepth 100000
def i8(z:Int):Value:=.int .u8 z
abbrev SB(h:Heap)(v:Value)(xs:List Int):Prop:=Sl h 1 v xs.length (xs.map i8)
abbrev OB(h:Heap)(n0:Nat)(v:Value)(xs:List Int):Prop:=Own h n0 1 v xs.length (xs.map i8)
theorem Qtf{b:Nat}{h h1:Heap}{v:Value}{xs:List Int}(s:SB h v xs):Qns (E b).toEnv 22 v h1=some (.int .i64 xs.length):=Qc7 (T22 b) s
theorem Z9m{b:Nat}{h:Heap}{v:Value}{xs:List Int}(s:SB h v xs){k:IntKind}{i:Nat}{z:Int}(hi:xs[i]? = some z) :
  ∃ bk o,Uw v=some bk/\Xq (E b).toEnv 22 v (.int k (i:Int))=some (.pointer (some ⟨bk,o,none⟩))/\Yp h bk o=some (i8 z):=by
 have hl:i < xs.length:=(List.getElem?_eq_some_iff.1 hi).1
 obtain⟨bk,o,h1,h2,h3, -⟩:=Xih (T22 b) Qcl s (k:=k) (i:=(i:Int)) (by omega) (by omega)
 refine⟨bk,o,h1,h2,?_⟩
 have:=h3 0 (by omega)
 simpa[hi]using this
theorem Qjk{b:Nat}{h:Heap}{z:Int}:Xc (E b).toEnv 22 1 [(0,.int .u8 z)] h=some (.slice (some ⟨h.next,0,none⟩) 1 1,h.push (.cells true 1 [i8 z])):=Qu6 (T22 b) Qcl (by omega) (by omega) rfl rfl rfl
theorem Q4t{b:Nat}{h:Heap}{n0:Nat}{v:Value}{xs:List Int}(o:OB h n0 v xs)(h0:n0<=h.next)(hn:xs.length < 1099511627776)(z:Int) :
  ∃ v' h',Qi7 (E b).toEnv 22 22 v (.slice (some ⟨h.next,0,none⟩) 1 1) (h.push (.cells true 1 [i8 z]))=some (v',h')/\OB h' n0 v' (xs ++ [z])/\Beyond v h h':=by
 obtain⟨v',h',k1,k2,k3⟩:=Xg8 (T22 b) Qcl (by omega) o h0 (ys:=[i8 z]) rfl (by rw[Qnj];omega) (by omega)
 exact⟨v',h',k1,by simp only[OB,List.map_append,List.length_append];exact k2,k3⟩
theorem Xkr{b:Nat}{h:Heap}{n0:Nat}{v x:Value}{xs ys:List Int}(o:OB h n0 v xs)(h0:n0<=h.next)(s:SB h x ys)(hn:xs.length+ys.length < 1099511627776) :
  ∃ v' h',Qi7 (E b).toEnv 22 22 v x h=some (v',h')/\OB h' n0 v' (xs++ys)/\Beyond v h h':=by
 obtain⟨v',h',k1,k2,k3⟩:=Qp5 (T22 b) Qcl (by omega) o h0 (Q56 (T22 b) Qcl s) (by simp) (by rw[Qnj];omega) (by omega)
 exact⟨v',h',k1,by simp only[OB,List.map_append,List.length_append];exact k2,k3⟩
def CBI(v:Value)(xs:List Int)(h:Heap)(k:Nat)(s:St):Prop:=∃ (t:Tr Value) (h1:Heap) (o:Value) (i:Nat),s=⟨⟨19,t⟩,[],h1⟩/\t.get 0=some v/\t.get 3=some o/\t.get 4=some (.int .i64 (i:Int))/\i<=xs.length/\k=xs.length-i/\OB h1 h.next o (xs.take i)/\Old h h1
attribute [local simp] Qr X8 aop Qe nth Ab.g0 gv gs Qb Qa aev evs evO Qf Tr.get_put St.put Tm.put flat flatA X9 Qk Qn Ql Qm Qi Qj Qh Qo Qg Q5 Q6 Qp Q9 Q3 Q1 Q8 Qc Qd Q0 Q2 Q7 Xh ldv Xe X7 Xw Nat.testBit loadAt Ab.runT Jh Z0 Qab Xo
section
attribute [local simp] Qkf Qra Jf Qa5 Qt Qmt Qp2 Qy Qds Qbn Qw V1 U5 Qdn Wz U2 Qdm Q4 Qq Xk V5 Qba Qa0 U4 J9 Wx U6 V0 Qlj Qv2 Qlg Qfx Qv.putAll
theorem Xs7(b:Nat){h:Heap}{v:Value}{xs:List Int}(s:SB h v xs)(hn:xs.length < 1000000000)(K:KP)(hk:∀ v' h',OB h' h.next v' xs->Old h h'->K (.ret v') h'):FK b 21 [v] h K:=by
 refine FF b (Jf b) Xqf Yjm X78 rfl ?_
 simp
 refine Qbo (CBI v xs h) xs.length ⟨_,h,.slice none 0 0,0,rfl,by simp,by simp,by simp,by omega,rfl,Own.nil,Old.refl _⟩ ?_
 rintro k s' ⟨t,h1,o,i,rfl,t0,t3,t4,hi,rfl,ho,hold⟩ _
 have s1:=s.old hold
 by_cases hlt:i < xs.length
 ·have hlt':(i:Int) < (xs.length:Int):=by omega
  obtain⟨bk,off, -,hix,hld⟩:=Z9m (b:=b) s1 (k:=.i64) (List.getElem?_eq_getElem hlt)
  have hw:=wS (i:=i) (by omega)
  obtain⟨v',h',hA,hO,hB⟩:=Q4t (b:=b) ho hold.1 (by rw[List.length_take];omega) xs[i]
  simp[t0,t3,t4,Qtf s,hlt',hix,hld,i8,Qjk,hA,hw]
  simp only[i8]at hA
  simp[hA,t4,hw]
  refine⟨xs.length-(i+1),by omega,_,h',v',i+1,rfl,by simp[t0],by simp,by simp,by omega,rfl,?_,hB.old hold ho⟩
  rw[List.take_succ,List.getElem?_eq_getElem hlt]
  exact hO
 ·have hlt':¬ (i:Int) < (xs.length:Int):=by omega
  simp[t0,t3,t4,Qtf s,hlt,hlt']
  refine hk o h1 ?_ hold
  rwa [List.take_of_length_le (by omega)]at ho
end
def SBI(v1 v2:Value)(xs ys:List Int)(h:Heap)(k:Nat)(s:St):Prop:=∃ (t:Tr Value) (i:Nat),s=⟨⟨27,t⟩,[],h⟩/\t.get 0=some v1/\t.get 1=some v2/\t.get 5=some (.int .i64 (i:Int))/\i<=xs.length/\k=xs.length-i/\xs.take i=ys.take i
section
attribute [local simp] Qp2 X3q
theorem Zne(b:Nat){h:Heap}{v1 v2:Value}{xs ys:List Int}(s1:SB h v1 xs)(s2:SB h v2 ys)(hn:xs.length < 1099511627776)(K:KP)(hk:K (.ret (.bool (decide (xs=ys)))) h):FK b 67 [v1,v2] h K:=by
 refine FF b (Zc b) Xw2 Ye6 X73 rfl ?_
 by_cases hl:xs.length=ys.length
 ·have hl':(xs.length:Int)=(ys.length:Int):=by omega
  simp[Qf3,Qjw,Zc,Qa5,Qcu,Qhc,Qt,Qmt,Qg4,Qy,Qds,Qbn,Qw,V1,U5,Qdn,Wz,U2,Qdm,Q4,Qq,Xk,V5,Qba,Qa0,U4,J9,Wx,U6,V0,Qlj,Qv2,Qlg,Qfx,Qv.putAll,Qtf s1,Qtf s2,hl']
  refine Qbo (SBI v1 v2 xs ys h) xs.length ⟨_,0,rfl,by simp,by simp,by simp,by omega,rfl,rfl⟩ ?_
  rintro k s' ⟨t,i,rfl,t0,t1,t5,hi,rfl,hq⟩ _
  by_cases hlt:i < xs.length
  ·have hlt':(i:Int) < (xs.length:Int):=by omega
   obtain⟨bk1,o1, -,ix1,ld1⟩:=Z9m (b:=b) s1 (k:=.i64) (List.getElem?_eq_getElem hlt)
   obtain⟨bk2,o2, -,ix2,ld2⟩:=Z9m (b:=b) s2 (k:=.i64) (List.getElem?_eq_getElem (show i < ys.length by omega))
   have hw:=wS (i:=i) (by omega)
   simp[Qf3,Qjw,Zc,Qa5,Qcu,Qhc,Qt,Qmt,Qg4,Qy,Qds,Qbn,Qw,V1,U5,Qdn,Wz,U2,Qdm,Q4,Qq,Xk,V5,Qba,Qa0,U4,J9,Wx,U6,V0,Qlj,Qv2,Qlg,Qfx,Qv.putAll,t0,t1,t5,Qtf s1,hlt']
   by_cases he:xs[i]=ys[i]
   ·refine Z64 Qwp Qwn Qu5 (by kernel_rfl) (by simp[Qz3,X1k,Xq9,Xve,t0,t1,t5,ix1,ix2,ld1,ld2,he,i8];rfl) ?_
    simp[Qf3,Qjw,Zc,Qa5,Qcu,Qhc,Qt,Qmt,Qg4,Qy,Qds,Qbn,Qw,V1,U5,Qdn,Wz,U2,Qdm,Q4,Qq,Xk,V5,Qba,Qa0,U4,J9,Wx,U6,V0,Qlj,Qv2,Qlg,Qfx,Qv.putAll,t5,hw]
    refine⟨xs.length-(i+1),by omega,_,i+1,rfl,by simp[t0],by simp[t1],by simp,by omega,rfl,?_⟩
    rw[List.take_succ,List.take_succ,hq,List.getElem?_eq_getElem hlt,List.getElem?_eq_getElem (show i < ys.length by omega),he]
   ·refine Z64 Qwp Qwn Qu5 (by kernel_rfl) (by simp[Qz3,X1k,Xq9,Xve,t0,t1,t5,ix1,ix2,ld1,ld2,he,i8];rfl) ?_
    have hne:¬ xs=ys:=fun e=>he (by subst e;rfl)
    simp[Qf3,Qjw,Zc,Qa5,Qcu,Qhc,Qt,Qmt,Qg4,Qy,Qds,Qbn,Qw,V1,U5,Qdn,Wz,U2,Qdm,Q4,Qq,Xk,V5,Qba,Qa0,U4,J9,Wx,U6,V0,Qlj,Qv2,Qlg,Qfx,Qv.putAll,t5,hw]
    simpa[hne]using hk
  ·have hlt':¬ (i:Int) < (xs.length:Int):=by omega
   have : i=xs.length:=by omega
   subst this
   have he:xs=ys:=by
    rw[List.take_of_length_le (Nat.le_refl _),List.take_of_length_le (by omega)]at hq;exact hq
   simp[Qf3,Qjw,Zc,Qa5,Qcu,Qhc,Qt,Qmt,Qg4,Qy,Qds,Qbn,Qw,V1,U5,Qdn,Wz,U2,Qdm,Q4,Qq,Xk,V5,Qba,Qa0,U4,J9,Wx,U6,V0,Qlj,Qv2,Qlg,Qfx,Qv.putAll,t0,t1,t5,Qtf s1]
   simpa[he]using hk
 ·have hl':¬ (xs.length:Int)=(ys.length:Int):=by omega
  have hne:¬ xs=ys:=fun e=>hl (by rw[e])
  simp[Qf3,Qjw,Zc,Qa5,Qcu,Qhc,Qt,Qmt,Qg4,Qy,Qds,Qbn,Qw,V1,U5,Qdn,Wz,U2,Qdm,Q4,Qq,Xk,V5,Qba,Qa0,U4,J9,Wx,U6,V0,Qlj,Qv2,Qlg,Qfx,Qv.putAll,Qtf s1,Qtf s2,hl']
  simpa[hne]using hk
end
def Bytes(xs:List Int):Prop:=∀ z ∈ xs,0<=z/\z < 256
structure OpV where
 code:Int
 data:List Int
 val:Value
def OpV.cells(o:OpV):List Value:=[.int .i64 o.code,o.val]
def Qup(os:List OpV):List Value:=os.flatMap OpV.cells
def Jbv(v w:Value):Prop:=∀ c,Uw v=some c->Uw w≠some c
structure OpsAt (h:Heap) (n0:Nat) (lv:Value) (os:List OpV):Prop where
 row:Own h n0 2 lv os.length (Qup os)
 data:∀ o ∈ os,OB h n0 o.val o.data
 apart:∀ o ∈ os,Jbv lv o.val
 each:os.Pairwise (fun o p=>Jbv o.val p.val)
theorem OpsAt.nil{h:Heap}{n0:Nat}:OpsAt h n0 (.slice none 0 0) []:=⟨Own.nil,by simp,by simp,.nil⟩
theorem OpsAt.old{h h':Heap}{n0:Nat}{lv:Value}{os:List OpV}(o:OpsAt h n0 lv os)(a:Old h h'):OpsAt h' n0 lv os :=
 ⟨o.row.keep fun c _ hc=>a.2 c hc,fun p hp=>(o.data p hp).keep fun c _ hc=>a.2 c hc,o.apart,o.each⟩
theorem OpsAt.app{b:Nat}{h1 h:Heap}{n0:Nat}{lv:Value}{os:List OpV}{te ts:TypeId}{re rs:TyRec}(T:SlTy (E b).toEnv te ts re rs)(hz:re.size=2)(hb:re.bytes=32)(o1:OpsAt h1 n0 lv os)(a:Old h1 h)(h0:n0<=h1.next)(hn:os.length < 1000000){p:OpV}(hp:OB h h1.next p.val p.data) :
  ∃ v' h',Qi7 (E b).toEnv ts ts lv (.slice (some ⟨h.next,0,none⟩) 1 1) (h.push (.cells true 1 p.cells))=some (v',h')/\OpsAt h' n0 v' (os ++ [p])/\Beyond lv h h'/\∀ c,Uw v'=some c->Uw lv=some c∨h.next<=c:=by
 have o:=o1.old a
 obtain⟨v',h',k1,k2,k3,k4⟩:=Q84 T hz (by omega) o.row (Nat.le_trans h0 a.1) (ys:=p.cells) rfl (by rw[hb];omega) (by omega)
 have far:∀ c,Uw p.val=some c->h1.next<=c/\c < h.next:=fun c hc=>hp.from hc
 refine⟨v',h',k1,⟨?_,?_,?_,?_⟩,k3,k4⟩
 ·rw[List.length_append]
  simpa[Qup]using k2
 ·intro q hq
  rw[List.mem_append]at hq
  rcases hq with hq | hq
  ·refine(o.data q hq).keep fun c hc hlt=>k3.2 c hlt fun e=>o.apart q hq c e hc
  ·simp at hq;subst hq
   refine(hp.low h0).keep fun c hc hlt=>k3.2 c hlt fun e => ?_
   have:=far c hc
   have:=o1.row.out e
   omega
 ·intro q hq c hc e
  rw[List.mem_append]at hq
  rcases hq with hq | hq
  ·rcases k4 c hc with h | h
   ·exact o.apart q hq c h e
   ·have:=(o.data q hq).out e;omega
  ·simp at hq;subst hq
   have h5:=far c e
   rcases k4 c hc with h | h
   ·have:=o1.row.out h;omega
   ·omega
 ·rw[List.pairwise_append]
  refine⟨o.each,by simp,fun q hq r hr c hc e => ?_⟩
  simp at hr;subst hr
  have h5:=far c e
  have:=(o1.data q hq).out hc
  omega
theorem Z39(b:Nat)(z:Int):Qk7 (E b).toEnv 123 [(0,.int .i64 z)]=some (.agg ⟨[.int .i64 z,.slice none 0 0]⟩):=by kernel_rfl
theorem Z9n{b:Nat}{h:Heap}{v:Value}{xs:List Int}(s:SB h v xs){k:IntKind}{i:Int}(h0:0<=i)(h1:i<=xs.length):∃ v' h',Qdk (E b).toEnv 22 v (some (.int k i)) none none h=some (v',h')/\SB h' v' (xs.drop i.toNat)/\Old h h'/\(Uw v≠none->Uw v'≠none)/\∀ c,Uw v'=some c->Uw v=some c∨c=h.next:=by
 obtain⟨v',h',k1,k2,k3,k4⟩:=Z0l (T22 b) (k:=k) Qcl (by omega) s h0 h1
 refine⟨v',h',k1,?_,k3,fun hv => ?_,fun c hc => ?_⟩
 ·rw[SB,List.length_drop]
  simpa using k2
 ·rcases k4 with⟨e,_⟩ | ⟨e,_⟩
  ·rw[e];exact hv
  ·rw[e];simp
 ·rcases k4 with⟨e,_⟩ | ⟨e,_⟩
  ·rw[e]at hc;exact .inl hc
  ·rw[e]at hc;cases hc;exact .inr rfl
def Zp8(os:List OpV):List Int:=os.flatMap fun o=>IntKind.u8.wrap o.code::o.data
theorem Z8t{b:Nat}{h:Heap}{lv:Value}{os:List OpV}{te ts:TypeId}{re rs:TyRec}(T:SlTy (E b).toEnv te ts re rs)(hz:re.size=2)(o:Sl h 2 lv os.length (Qup os)){i:Nat}{p:OpV}(hp:os[i]? = some p) :
  ∃ bk off,Uw lv=some bk/\Xq (E b).toEnv ts lv (.int .i64 (i:Int))=some (.pointer (some ⟨bk,off,none⟩))/\U8 h bk off 2=some (.agg ⟨[.int .i64 p.code,p.val]⟩):=by
 have hl:i < os.length:=(List.getElem?_eq_some_iff.1 hp).1
 obtain⟨bk,off,h1,h2, -,h3⟩:=Xih T hz o (k:=.i64) (i:=(i:Int)) (by omega) (by omega)
 refine⟨bk,off,h1,h2,?_⟩
 rw[h3]
 have : ∀ (os:List OpV) (i:Nat),os[i]? = some p->((Qup os).drop (i*2)).take 2=[.int .i64 p.code,p.val]:=by
  intro os
  induction os with
  | nil=>intro i hi;simp at hi
  | cons q os ih =>
   intro i hi
   cases i with
   | zero=>simp at hi;subst hi;simp[Qup,OpV.cells]
   | succ i =>
    have e:Qup (q::os)=.int .i64 q.code::q.val::Qup os:=rfl
    rw[e,show(i+1)*2=i*2+1+1 by omega,List.drop_succ_cons,List.drop_succ_cons]
    exact ih i (by simpa using hi)
 simp only[Int.toNat_natCast]
 rw[this os i hp]
def Jfd(lv:Value)(os:List OpV)(h:Heap)(k:Nat)(s:St):Prop:=∃ (t:Tr Value) (h1:Heap) (o:Value) (i:Nat),s=⟨⟨23,t⟩,[],h1⟩/\t.get 3=some o/\t.get 6=some lv/\t.get 7=some (.int .i64 (os.length:Int))/\t.get 8=some (.int .i64 (i:Int))/\i<=os.length/\k=os.length-i/\OB h1 h.next o (Zp8 (os.take i))/\Old h h1
theorem Zu3:∀ os:List OpV,(Zp8 os).length=(os.map fun o=>o.data.length+1).sum
 | []=>rfl
 | o::os=>by have:=Zu3 os;simp[Zp8]at this ⊢;omega
section
attribute [local simp] Qis Qp8 Qe7 Qln Qle Y3p Qt Y30 Y3d Y3c Y3n Xgf Vx Qif Qi9 Xg7 Qai Qy Qds Qbn Qw V1 U5 Qdn Wz U2 Qdm Q4 Qq Xk V5 Qba Qa0 U4 J9 Wx U6 V0 Qlj Qv2 Qlg Qfx Qv.putAll
theorem Jau(b:Nat){h:Heap}{lv:Value}{os:List OpV}(row:Sl h 2 lv os.length (Qup os))(data:∀ o ∈ os,SB h o.val o.data)(hos:os.length < 1000)(hd:∀ o ∈ os,o.data.length<=1000)(K:KP)(hk:∀ v' h',OB h' h.next v' (Zp8 os)->Old h h'->K (.ret v') h'):FK b 71 [lv] h K:=by
 refine FF b (Qe7 b) Yoe Zfw Y7f rfl ?_
 have e0:∀ h1,Qns (E b).toEnv 121 lv h1=some (.int .i64 (os.length:Int)):=fun h1=>Qc7 (Jbd b) row
 simp[e0]
 refine Qbo (Jfd lv os h) os.length ⟨_,h,.slice none 0 0,0,rfl,by simp,by simp,by simp,by simp,by omega,rfl,Own.nil,Old.refl _⟩ ?_
 rintro k s' ⟨t,h1,o,i,rfl,t3,t6,t7,t8,hi,rfl,ho,hold⟩ _
 by_cases hlt:i < os.length
 ·have hlt':(i:Int) < (os.length:Int):=by omega
  obtain⟨p,hp⟩:∃ p,os[i]? = some p:=⟨_,List.getElem?_eq_getElem hlt⟩
  have hpm:=List.mem_of_getElem? hp
  obtain⟨bk,off, -,x1,g1⟩:=Z8t (b:=b) (Jbd b) Q7h (row.old hold) hp
  have hw:=wS (i:=i) (by omega)
  have hst0:Jl (h1.push (.cells true 1 [.int .i64 0,.slice none 0 0])) h1.next 0 [.int .i64 p.code,p.val]=some ((h1.push (.cells true 1 [.int .i64 0,.slice none 0 0])).set h1.next (some (.cells true 1 [.int .i64 p.code,p.val]))):=by
   rw[Zx (by rw[Heap.get_push,if_pos rfl]) (by simp)];rfl
  obtain⟨h3,e3⟩:∃ h3,h3=(h1.push (.cells true 1 [.int .i64 0,.slice none 0 0])).set h1.next (some (.cells true 1 [.int .i64 p.code,p.val])):=⟨_,rfl⟩
  have g3:h3.get h1.next=some (.cells true 1 [.int .i64 p.code,p.val]):=by rw[e3,Heap.get_set _ _ _ _ (by simp only[Qdt];omega),if_pos rfl]
  have a13:Old h1 h3:=by rw[e3];exact(Old.push _ _).set _ (Nat.le_refl _) (by simp only[Qdt];omega)
  have n3:h3.next=h1.next+1:=by rw[e3,Z41,Qdt]
  rw[<- e3]at hst0
  have hx1:Yp h3 h1.next 0=some (.int .i64 p.code):=by rw[Xm g3];rfl
  have ho3:OB h3 h.next o (Zp8 (os.take i)):=ho.keep fun c _ hc=>a13.2 c hc
  have hlen:(Zp8 (os.take i)).length<=1001*i:=by
   rw[Zu3]
   have : ∀ l:List OpV,(∀ o ∈ l,o.data.length<=1000)->(l.map fun o=>o.data.length+1).sum<=1001*l.length:=by
    intro l hl
    induction l with
    | nil=>simp
    | cons o l ih=>have:=ih fun q hq=>hl q (by simp[hq]);have:=hl o (by simp);simp;omega
   refine Nat.le_trans (this _ fun o ho=>hd o (List.mem_of_mem_take ho)) ?_
   rw[List.length_take];omega
  have hdp:=hd p hpm
  obtain⟨v1,h4,hA1,o4,b4⟩:=Q4t (b:=b) ho3 (Nat.le_trans hold.1 a13.1) (by omega) (IntKind.u8.wrap p.code)
  have hne:Uw o≠some h1.next:=fun e=>by have:=ho.out e;omega
  have hx2:Yp h4 h1.next 1=some p.val:=by rw[Xm (by rw[b4.2 _ (by omega) hne];exact g3)];rfl
  have hx2':Yp (h3.push (.cells true 1 [i8 (IntKind.u8.wrap p.code)])) h1.next 1=some p.val:=by rw[Xm (by rw[Heap.get_push,if_neg (by omega)];exact g3)];rfl
  have a4:Old h h4:=b4.old (hold.trans a13) ho3
  have dp:SB h4 p.val p.data:=(data p hpm).old a4
  obtain⟨v2,h5,hA2,o5,b5⟩:=Xkr (b:=b) o4 a4.1 dp (by rw[List.length_append];simp;omega)
  simp only[i8]at hA1 hx2'
  simp[t3,t6,t7,t8,hlt',x1,g1,hst0]
  refine Qfq [] (by simp) Xo1 Xuk Xmy (by simp[Xz9,X5l,X7v,t3,hx1,hx2,i8,Qjk,hA1,hA2];exact⟨rfl,rfl⟩) ?_ ?_
  ·simp[Qf2,t3,hx1,hx2,hx2',Y5k dp,Zft]
  ·simp[t8,hw]
   refine⟨os.length-(i+1),by omega,_,h5,v2,i+1,rfl,by simp,by simp[t6],by simp[t7],by simp,by omega,rfl,?_,b5.old a4 o4⟩
   have e1:Zp8 (os.take (i+1))=Zp8 (os.take i) ++ [IntKind.u8.wrap p.code]++p.data:=by
    rw[List.take_succ,hp]
    simp[Zp8]
   rw[e1]
   exact o5
 ·have hlt':¬ (i:Int) < (os.length:Int):=by omega
  have : i=os.length:=by omega
  subst this
  simp[t3,t6,t7,t8]
  refine hk o h1 ?_ hold
  rwa [List.take_of_length_le (Nat.le_refl _)]at ho
end
theorem Laid.old{h h':Heap}(hl:Ab.LaidIn h laidAll)(a:Old h h'):Ab.LaidIn h' laidAll:=fun x hx=>a.get (hl x hx)
structure Menv where
 nk:Value
 dig:List Value
 lk:Int
 hd:dig.length=32
def Menv.cells(e:Menv):List Value:=e.nk::e.dig ++ [.int .i64 e.lk]
theorem Menv.len(e:Menv):e.cells.length=34:=by simp[Menv.cells,e.hd]
structure Br where
 off:Bool
 dead:Bool
 turned:Bool
def Br.cells(x:Br):List Value:=[.bool x.off,.bool x.dead,.bool x.turned]
def Z85(l:List Br):List Value:=l.flatMap Br.cells
structure Itm (h:Heap) (MB:Nat->Prop) (v:Value) (x:List Int):Prop where
 sb:SB h v x
 by8:Bytes x
 out:∀ c,Uw v=some c->¬ MB c
structure Mv (MB MB':Nat->Prop) (h h':Heap):Prop where
 next:h.next<=h'.next
 same:∀ c,c < h.next->¬ MB c->h'.get c=h.get c
 sub:∀ c,MB' c->MB c∨h.next<=c
theorem Mv.refl(MB:Nat->Prop)(h:Heap):Mv MB MB h h:=⟨Nat.le_refl _,fun _ _ _=>rfl,fun _ h => .inl h⟩
theorem Mv.trans{A B C:Nat->Prop}{h h' h'':Heap}(a:Mv A B h h')(c:Mv B C h' h''):Mv A C h h'' :=
  ⟨Nat.le_trans a.next c.next,fun k hk hn=>by
    rw[c.same k (Nat.lt_of_lt_of_le hk a.next) (fun hb=>by
      rcases a.sub k hb with h | h
      · exact hn h
      · omega),a.same k hk hn],
   fun k hk=>by
    rcases c.sub k hk with h | h
    · exact a.sub k h
    · exact .inr (Nat.le_trans a.next h)⟩
theorem Mv.old{MB:Nat->Prop}{h h':Heap}(a:Old h h'):Mv MB MB h h':=⟨a.1,fun c hc _=>a.2 c hc,fun _ h => .inl h⟩
theorem Itm.mv{MB MB':Nat->Prop}{h h':Heap}{v:Value}{x:List Int}(i:Itm h MB v x)(m:Mv MB MB' h h'):Itm h' MB' v x :=
 ⟨i.sb.keep fun c hc hl=>m.same c hl (i.out c hc),i.by8,fun c hc hm=>by
  rcases m.sub c hm with h | h
  ·exact i.out c hc h
  ·have:=i.sb.blk hc;omega⟩
structure MRow (h:Heap) (MB:Nat->Prop) (μ:Nat) (e:Menv) (ps:List (Value × List Int)) (op:List Br) (sv ov:Value) (z:Nat):Prop where
 at':h.get μ=some (.cells true z (e.cells ++ [sv,ov]))
 mb:MB μ
 st:Own h 0 1 sv ps.length (ps.reverse.map (·.1))
 op:Own h 0 3 ov op.length (Z85 op.reverse)
 ms:∀ c,Uw sv=some c->MB c/\c≠μ
 mo:∀ c,Uw ov=some c->MB c/\c≠μ/\Uw sv≠some c
structure Mach (h:Heap) (MB:Nat->Prop) (μ:Nat) (e:Menv) (ps:List (Value × List Int)) (op:List Br):Prop where
 row:∃ sv ov z,MRow h MB μ e ps op sv ov z
 items:∀ p ∈ ps,Itm h MB p.1 p.2
 low:∀ c,MB c->c < h.next
theorem Jdw(e:Menv)(a c:Value):(e.cells ++ [a,c])[34]? = some a:=by rw[List.getElem?_append_right (by rw[e.len];omega),e.len];rfl
theorem MRow.c34{h:Heap}{MB:Nat->Prop}{μ z:Nat}{e:Menv}{ps:List (Value × List Int)}{op:List Br}{sv ov:Value}(m:MRow h MB μ e ps op sv ov z):Yp h μ 34=some sv:=by rw[Xm m.at',Jdw]
theorem Zuj(a:Addr):Xdk (.pointer (some a))=some (.pointer (some a)):=Eq.trans rfl rfl
def pe(z:Int):List PanicEntry:=[{v:=.iface 42 (.int .i64 z),recovered:=false}]
def isT(x:List Int):Bool:=x.any fun z=>z != 0
theorem Mach.old{h h':Heap}{MB:Nat->Prop}{μ:Nat}{e:Menv}{ps:List (Value × List Int)}{op:List Br}(M:Mach h MB μ e ps op)(a:Old h h'):Mach h' MB μ e ps op:=by
 obtain⟨⟨sv,ov,z,r⟩,its,low⟩:=M
 refine⟨⟨sv,ov,z,?_⟩,fun p hp=>(its p hp).mv (Mv.old a),fun c hc=>Nat.lt_of_lt_of_le (low c hc) a.1⟩
 exact⟨a.get r.at',r.mb,r.st.keep fun c _ hc=>a.2 c hc,r.op.keep fun c _ hc=>a.2 c hc,r.ms,r.mo⟩
theorem Itm.nil{h:Heap}{MB:Nat->Prop}:Itm h MB (.slice none 0 0) []:=⟨Sl.nil,(fun _ h=>by cases h),(fun _ h=>by cases h)⟩
def Jeo(x:Bool):List Int:=if x then [1]else []
theorem Itm.new{h:Heap}{MB:Nat->Prop}(low:∀ c,MB c->c < h.next){xs:List Int}(hb:Bytes xs)(hl:xs.length < 1000000):Itm (h.push (.cells true 1 (xs.map i8))) MB (.slice (some ⟨h.next,0,none⟩) xs.length xs.length) xs:=by
 refine⟨(Own.new (n0:=0) (Nat.zero_le _) (by rw[Heap.get_push,if_pos rfl]) (by simp) (by unfold Qfn;omega) (.inr rfl)).sl,hb,fun c hc hm => ?_⟩
 cases hc
 exact absurd (low _ hm) (Nat.lt_irrefl _)
def Jck:List Br->Bool
 | []=>false
 | x::_=>x.off
theorem Qui{h:Heap}{n0 z n:Nat}{v:Value}{xs:List Value}(o:Own h n0 z v n xs){bk i:Nat}(hb:Uw v=some bk)(hi:i < xs.length)(w:Value) :
  ∃ h',Jl h bk i [w]=some h'/\Own h' n0 z v n (xs.set i w)/\h'.next=h.next/\∀ c,c≠bk->h'.get c=h.get c:=by
 rcases o with⟨rfl,rfl,rfl⟩ | ⟨bk',c,z',rest,rfl,h1,h2,h3,h4,h5,h6⟩
 ·cases hb
 ·simp only[Uw,Option.some.injEq]at hb
  subst hb
  have hlt:=Heap.get_lt h2
  refine⟨_,Qhe h2 (by simp;omega),.inr ⟨bk',c,z',rest,rfl,h1,by rw[Heap.get_set _ _ _ _ hlt,if_pos rfl,List.set_append_left _ _ hi],by simpa using h3,h4,h5,by simpa using h6⟩,rfl,fun k hk=>by rw[Heap.get_set _ _ _ _ hlt,if_neg (Ne.symm hk)]⟩
def brF(code:Int)(st:List (List Int))(op:List Br):Option (Option (List (List Int) × List Br)) :=
 if code=136 then some (if Jck op then some (st,⟨true,true,false⟩::op)else match st with
  | []=>none
  | x::r=>some (r,⟨!isT x,false,false⟩::op))
 else if code=137∨code=138 then some (match op with
  | []=>none
  | x::l=>if code=138 then some (st,l)else if x.turned then none else some (st,⟨x.dead || !x.off,x.dead,true⟩::l))
 else none
def MOk(MB:Nat->Prop)(h:Heap)(μ:Nat)(e:Menv)(st:List (List Int))(op:List Br)(h':Heap):Prop:=∃ ps MB',ps.map (·.2)=st/\Mach h' MB' μ e ps op/\Mv MB MB' h h'
theorem MOk.mk' {MB MB':Nat->Prop}{h h':Heap}{μ:Nat}{e:Menv}{ps:List (Value × List Int)}{op:List Br}{st:List (List Int)}(hs:ps.map (·.2)=st)(M:Mach h' MB' μ e ps op)(m:Mv MB MB' h h'):MOk MB h μ e st op h':=⟨ps,MB',hs,M,m⟩
def Jff(a b:Int):Int:=IntKind.wrap .i64 ((BitVec.ofInt 64 a ||| BitVec.ofInt 64 b).toNat:Nat)
def Jbl(x:List Int):Nat->Int
 | 0=>0
 | i+1=>Jff (Jbl x i) (IntKind.i64.wrap (x.getD i 0*2 ^ (8*i)))
theorem MRow.c33{h:Heap}{MB:Nat->Prop}{μ z:Nat}{e:Menv}{ps:List (Value × List Int)}{op:List Br}{sv ov:Value}(m:MRow h MB μ e ps op sv ov z):Yp h μ 33=some (.int .i64 e.lk):=by
 rw[Xm m.at',List.getElem?_append_left (by rw[e.len];omega)]
 simp[Menv.cells,e.hd]
end Go.Proofs.YtgmelhgoiepoaaaGreatDoor
end
