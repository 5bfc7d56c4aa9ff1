/-
  Rows of bytes: copied, lent, held against one another, written over.
-/
import Derived.Test.YtgeeklmjfbiieaaDoorFactsP
import Derived.Test.YtgeeklmjfbiieaaDoorAbG
import Derived.Test.YtgeeklmjfbiieaaDoorBlA
set_option linter.all false
noncomputable section
namespace Go.Proofs.YtgeeklmjfbiieaaDoor
open Go Go.Ab
set_option maxRecDepth 100000
def i8(z:Int):Value:=.int .u8 z
abbrev SB(h:Heap)(v:Value)(xs:List Int):Prop:=Sl h 1 v xs.length (xs.map i8)
abbrev OB(h:Heap)(n0:Nat)(v:Value)(xs:List Int):Prop:=Own h n0 1 v xs.length (xs.map i8)
theorem Qdr{b:Nat}{h h1:Heap}{v:Value}{xs:List Int}(s:SB h v xs):Qib (E b).toEnv 47 v h1=some (.int .i64 xs.length):=Qdu (T47 b) s
theorem Xp0{b:Nat}{h:Heap}{v:Value}{xs:List Int}(s:SB h v xs){k:IntKind}{i:Nat}{z:Int}(hi:xs[i]? = some z) :
  ∃ bk o,Vn v=some bk∧J7 (E b).toEnv 47 v (.int k (i:Int))=some (.pointer (some ⟨bk,o,none⟩))∧Vs h bk o=some (i8 z):=by
 have hl:i < xs.length:=(List.getElem?_eq_some_iff.1 hi).1
 obtain⟨bk,o,h1,h2,h3, -⟩:=Xiw (T47 b) Qb3 s (k:=k) (i:=(i:Int)) (by omega) (by omega)
 refine⟨bk,o,h1,h2,?_⟩
 have:=h3 0 (by omega)
 simpa[hi]using this
theorem Qqx{b:Nat}{h:Heap}{z:Int}:Jl (E b).toEnv 47 1 [(0,.int .u8 z)] h=some (.slice (some ⟨h.next,0,none⟩) 1 1,h.push (.cells true 1 [i8 z])):=Q7l (T47 b) Qb3 (by omega) (by omega) rfl rfl rfl
theorem Xmc{b:Nat}{h:Heap}{n0:Nat}{v:Value}{xs:List Int}(o:OB h n0 v xs)(h0:n0≤h.next)(hn:xs.length < 1099511627776)(z:Int) :
  ∃ v' h',Qad (E b).toEnv 47 47 v (.slice (some ⟨h.next,0,none⟩) 1 1) (h.push (.cells true 1 [i8 z]))=some (v',h')∧OB h' n0 v' (xs ++ [z])∧Beyond v h h':=by
 obtain⟨v',h',k1,k2,k3⟩:=Xhx (T47 b) Qb3 (by omega) o h0 (ys:=[i8 z]) rfl (by rw[Qp5];omega) (by omega)
 exact⟨v',h',k1,by simp only[OB,List.map_append,List.length_append];exact k2,k3⟩
theorem Xt5{b:Nat}{h:Heap}{n0:Nat}{v x:Value}{xs ys:List Int}(o:OB h n0 v xs)(h0:n0≤h.next)(s:SB h x ys)(hn:xs.length+ys.length < 1099511627776) :
  ∃ v' h',Qad (E b).toEnv 47 47 v x h=some (v',h')∧OB h' n0 v' (xs++ys)∧Beyond v h h':=by
 obtain⟨v',h',k1,k2,k3⟩:=Qwo (T47 b) Qb3 (by omega) o h0 (Xgq (T47 b) Qb3 s) (by simp) (by rw[Qp5];omega) (by omega)
 exact⟨v',h',k1,by simp only[OB,List.map_append,List.length_append];exact k2,k3⟩
def CBI(v:Value)(xs:List Int)(h:Heap)(k:Nat)(s:St):Prop:=∃ (t:Tr Value) (h1:Heap) (o:Value) (i:Nat),s=⟨⟨19,t⟩,[],h1⟩∧t.get 0=some v∧t.get 3=some o∧t.get 4=some (.int .i64 (i:Int))∧i≤xs.length∧k=xs.length-i∧OB h1 h.next o (xs.take i)∧Old h h1
section
attribute [local simp] Qb7 Qez Ul Qda Qd8 Ys Zo Qaf Qiv Yw Qcf Yh Xh X6 Yj Q5 Qd Xg Qq Qe Xi Qk Y1 Z9 Z2 aop X4 nth Ab.g0 gv gs Qx X2 aev evs evO X7 Tr.get_put St.put Tm.put flat flatA Z3 Xe Xc Xf Xa Xb Xd X9 Xj X8 Qt Qu Q6 X5 Qo Qf Q2 Qp Qg Q7 Yf Yn Ye Y0 Yi.putAll Xy X0 Qb Q3 Qy Qz X1 Q4 Qc Qw
theorem Xtc(b:Nat){h:Heap}{v:Value}{xs:List Int}(s:SB h v xs)(hn:xs.length < 1000000000)(K:AEnd→Heap→Prop)(hk:∀ v' h',OB h' h.next v' xs→Old h h'→K (.ret v') h'):FnK Tryd.prog (E b).G 46 [v] h K:=by
 refine Qal (E b) (Wp b) (V2 b) Vm (Wv b) (Qak b) (Ul b) Qzt Xb7 Q3m rfl ?_
 simp
 refine Qs0 (CBI v xs h) xs.length ⟨_,h,.slice none 0 0,0,rfl,by simp,by simp,by simp,by omega,rfl,Own.nil,Old.refl _⟩ ?_
 rintro k s' ⟨t,h1,o,i,rfl,t0,t3,t4,hi,rfl,ho,hold⟩ _
 have s1:=s.old hold
 by_cases hlt:i < xs.length
 ·have hlt':(i:Int) < (xs.length:Int):=by omega
  obtain⟨bk,off, -,hix,hld⟩:=Xp0 (b:=b) s1 (k:=.i64) (List.getElem?_eq_getElem hlt)
  have hw:IntKind.i64.wrap ((i:Int)+1)=((i+1:Nat):Int):=by rw[Qbe (by omega) (by omega)];omega
  obtain⟨v',h',hA,hO,hB⟩:=Xmc (b:=b) ho hold.1 (by rw[List.length_take];omega) xs[i]
  simp[t0,t3,t4,Qdr s,hlt',hix,hld,i8,Qqx,hA,hw]
  simp only[i8]at hA
  simp[hA,t4,hw]
  refine⟨xs.length-(i+1),by omega,_,h',v',i+1,rfl,by simp[t0],by simp,by simp,by omega,rfl,?_,hB.old hold ho⟩
  rw[List.take_succ,List.getElem?_eq_getElem hlt]
  exact hO
 ·have hlt':¬ (i:Int) < (xs.length:Int):=by omega
  simp[t0,t3,t4,Qdr s,hlt,hlt']
  refine hk o h1 ?_ hold
  rwa [List.take_of_length_le (by omega)]at ho
end
end Go.Proofs.YtgeeklmjfbiieaaDoor
end
noncomputable section
namespace Go.Proofs.YtgeeklmjfbiieaaDoor
open Go Go.Ab
set_option maxRecDepth 100000
theorem Xpc(b:Nat){h:Heap}{v:Value}{xs:List Int}(s:SB h v xs)(hv:Vn v≠none)(hn:xs.length < 1000000000)(K:AEnd→Heap→Prop)
  (hk:∀ v' h',OB h' h.next v' xs→Old h h'→K (.ret v') h'):FnK Tryd.prog (E b).G 63 [v] h K:=by
 refine Qal (E b) (Wp b) (V2 b) Vm (Wv b) (Qak b) (U7 b) Q6i Xhs Xcv rfl ?_
 have e0:Z3 (E b).toEnv .eql 47 true v (.slice none 0 0)=some (.bool false):=by
  cases v with
  | slice a n c=>cases a with
   | none=>exact absurd rfl hv
   | some a=>simp[Z3,Xse,aEq,Qy5,(T47 b).d]
  | _=>rcases s with⟨_,e,_⟩ | ⟨_,_,_,_,_,_,_,e,_⟩ <;> cases e
 have e1:Jl (E b).toEnv 47 0 [] h=some (.slice (some ⟨h.next,0,none⟩) 0 0,h.push (.cells true 1 [])):=by simp[Jl,Qy5,(T47 b).d,Xpe,Qb3,Q9l,Vv,Nat.ble]
 obtain⟨v',h',k1,k2,k3⟩:=Xt5 (b:=b) (h:=h.push (.cells true 1 [])) (n0:=h.next) (v:=.slice (some ⟨h.next,0,none⟩) 0 0) (xs:=[]) (Own.new (Nat.le_refl _) (by rw[Heap.get_push,if_pos rfl];rfl) rfl (by decide) (.inr rfl)) (Nat.le_succ _) (s.old (Old.push _ _)) (by simpa using(by omega:xs.length < 1099511627776))
 simp[Qrm,Xdf,U7,Q4r,Q73,Yh,Xh,X6,Yj,Q5,Qd,Xg,Qq,Qe,Xi,Qk,Y1,Z9,Z2,aop,X4,nth,Ab.g0,gv,gs,Qx,X2,aev,evs,evO,X7,Tr.get_put,St.put,Tm.put,flat,flatA,Xe,Xc,Xf,Xa,Xb,Xd,X9,Xj,X8,Qt,Qu,Q6,X5,Qo,Qf,Q2,Qp,Qg,Q7,Yf,Yn,Ye,Y0,Yi.putAll,Xy,X0,Qb,Q3,Qy,Qz,X1,Q4,Qc,Qw,e0,e1,k1]
 exact hk v' h' k2 ⟨Nat.le_trans (Nat.le_succ _) k3.1,fun c hc=>by rw[k3.2 c (Nat.lt_of_lt_of_le hc (Nat.le_succ _)) (by simp[Vn];omega),Heap.get_push,if_neg (by omega)]⟩
end Go.Proofs.YtgeeklmjfbiieaaDoor
end
noncomputable section
namespace Go.Proofs.YtgeeklmjfbiieaaDoor
open Go Go.Ab
set_option maxRecDepth 100000
def pz:Nat→List Int→Option (List (Int × List Int))
 | _,[]=>some []
 | 0,_::_=>none
 | n+1,c::r=>if c≤64∧c≤r.length then(pz n (r.drop c.toNat)).map ((c,r.take c.toNat) :: ·)else if c < 129∨c > 139 then none else(pz n r).map ((c,[]) :: ·)
def Bytes(xs:List Int):Prop:=∀ z ∈ xs,0≤z∧z < 256
structure OpV where
 code:Int
 data:List Int
 val:Value
def OpV.cells(o:OpV):List Value:=[.int .i64 o.code,o.val]
def Qn1(os:List OpV):List Value:=os.flatMap OpV.cells
def Qjy(os:List OpV):List (Int × List Int):=os.map fun o=>(o.code,o.data)
def Xyt(v w:Value):Prop:=∀ c,Vn v=some c→Vn w≠some c
structure OpsAt (h:Heap) (n0:Nat) (lv:Value) (os:List OpV):Prop where
 row:Own h n0 2 lv os.length (Qn1 os)
 data:∀ o ∈ os,OB h n0 o.val o.data
 apart:∀ o ∈ os,Xyt lv o.val
 each:os.Pairwise (fun o p=>Xyt o.val p.val)
theorem OpsAt.nil{h:Heap}{n0:Nat}:OpsAt h n0 (.slice none 0 0) []:=⟨Own.nil,by simp,by simp,.nil⟩
theorem OpsAt.old{h h':Heap}{n0:Nat}{lv:Value}{os:List OpV}(o:OpsAt h n0 lv os)(a:Old h h'):OpsAt h' n0 lv os :=
 ⟨o.row.keep fun c _ hc=>a.2 c hc,fun p hp=>(o.data p hp).keep fun c _ hc=>a.2 c hc,o.apart,o.each⟩
theorem OpsAt.app{b:Nat}{h1 h:Heap}{n0:Nat}{lv:Value}{os:List OpV}{te ts:TypeId}{re rs:TyRec}(T:SlTy (E b).toEnv te ts re rs)(hz:re.size=2)(hb:re.bytes=32)(o1:OpsAt h1 n0 lv os)(a:Old h1 h)(h0:n0≤h1.next)(hn:os.length < 1000000){p:OpV}(hp:OB h h1.next p.val p.data) :
  ∃ v' h',Qad (E b).toEnv ts ts lv (.slice (some ⟨h.next,0,none⟩) 1 1) (h.push (.cells true 1 p.cells))=some (v',h')∧OpsAt h' n0 v' (os ++ [p])∧Beyond lv h h'∧∀ c,Vn v'=some c→Vn lv=some c∨h.next≤c:=by
 have o:=o1.old a
 obtain⟨v',h',k1,k2,k3,k4⟩:=Qn5 T hz (by omega) o.row (Nat.le_trans h0 a.1) (ys:=p.cells) rfl (by rw[hb];omega) (by omega)
 have far:∀ c,Vn p.val=some c→h1.next≤c∧c < h.next:=fun c hc=>hp.from hc
 refine⟨v',h',k1,⟨?_,?_,?_,?_⟩,k3,k4⟩
 ·rw[List.length_append]
  simpa[Qn1]using k2
 ·intro q hq
  rw[List.mem_append]at hq
  rcases hq with hq | hq
  ·refine(o.data q hq).keep fun c hc hlt=>k3.2 c hlt fun e=>o.apart q hq c e hc
  ·simp at hq;subst hq
   refine(hp.low h0).keep fun c hc hlt=>k3.2 c hlt fun e => ?_
   have:=far c hc
   have:=o1.row.out e
   omega
 ·intro q hq c hc e
  rw[List.mem_append]at hq
  rcases hq with hq | hq
  ·rcases k4 c hc with h | h
   ·exact o.apart q hq c h e
   ·have:=(o.data q hq).out e;omega
  ·simp at hq;subst hq
   have h5:=far c e
   rcases k4 c hc with h | h
   ·have:=o1.row.out h;omega
   ·omega
 ·rw[List.pairwise_append]
  refine⟨o.each,by simp,fun q hq r hr c hc e => ?_⟩
  simp at hr;subst hr
  have h5:=far c e
  have:=(o1.data q hq).out hc
  omega
def PI(xs:List Int)(h:Heap)(n:Nat)(s:St):Prop:=∃ (t:Tr Value) (h1:Heap) (bv lv:Value) (rest:List Int) (os:List OpV),s=⟨⟨53,t⟩,[],h1⟩∧t.get 0=some bv∧t.get 4=some lv∧SB h1 bv rest∧(rest=[]∨Vn bv≠none)∧OpsAt h1 h.next lv os∧Xyt lv bv∧Old h h1∧n=rest.length∧rest.length+os.length≤256∧Bytes rest∧∀ f,xs.length≤f→∃ f',rest.length≤f'∧pz f xs=(pz f' rest).map (Qjy os ++ ·)
def X1z(xs:List Int):Prop:=xs.length > 256∨pz xs.length xs=none ∨ ∃ l,pz xs.length xs=some l∧l.length > 64
theorem Q0f(b:Nat)(z:Int):Qzu (E b).toEnv 103 [(0,.int .i64 z)]=some (.agg ⟨[.int .i64 z,.slice none 0 0]⟩):=by kernel_rfl
theorem X1l{b:Nat}{h:Heap}{v:Value}{xs:List Int}(s:SB h v xs){k:IntKind}{i:Int}(h0:0≤i)(h1:i≤xs.length):∃ v',Wb (E b).toEnv 47 v none (some (.int k i)) none h=some (v',h)∧SB h v' (xs.take i.toNat)∧Vn v'=Vn v:=by
 obtain⟨v',k1,k2,k3⟩:=X3o (T47 b) (k:=k) Qb3 (by omega) s h0 h1
 refine⟨v',k1,?_,k3⟩
 have e:(xs.take i.toNat).length=i.toNat:=by rw[List.length_take];omega
 rw[SB,e]
 simpa using k2
theorem Xhp{b:Nat}{h:Heap}{v:Value}{xs:List Int}(s:SB h v xs){k:IntKind}{i:Int}(h0:0≤i)(h1:i≤xs.length):∃ v' h',Wb (E b).toEnv 47 v (some (.int k i)) none none h=some (v',h')∧SB h' v' (xs.drop i.toNat)∧Old h h'∧(Vn v≠none→Vn v'≠none)∧∀ c,Vn v'=some c→Vn v=some c∨c=h.next:=by
 obtain⟨v',h',k1,k2,k3,k4⟩:=Xyv (T47 b) (k:=k) Qb3 (by omega) s h0 h1
 refine⟨v',h',k1,?_,k3,fun hv => ?_,fun c hc => ?_⟩
 ·rw[SB,List.length_drop]
  simpa using k2
 ·rcases k4 with⟨e,_⟩ | ⟨e,_⟩
  ·rw[e];exact hv
  ·rw[e];simp
 ·rcases k4 with⟨e,_⟩ | ⟨e,_⟩
  ·rw[e]at hc;exact .inl hc
  ·rw[e]at hc;cases hc;exact .inr rfl
theorem X3b{h:Heap}{v:Value}{xs:List Int}(s:SB h v xs)(hx:xs ≠ []):Vn v≠none:=by
 rcases s with⟨c,rfl,_,_,e⟩ | ⟨bk,o,c,ow,z',pre,post,rfl,_⟩
 ·exact absurd (List.map_eq_nil_iff.1 e) hx
 ·simp[Vn]
theorem Xmq{f:Nat}{c:Int}{r:List Int}(hf:(c::r).length≤f):∃ f',r.length≤f'∧pz f (c::r)=(if c≤64∧c≤r.length then(pz f' (r.drop c.toNat)).map ((c,r.take c.toNat) :: ·)else if c < 129∨c > 139 then none else(pz f' r).map ((c,[]) :: ·)):=by
 cases f with
 | zero=>simp at hf
 | succ f=>exact⟨f,by simpa using hf,rfl⟩
theorem Qvp(os:List OpV):(Qjy os).length=os.length:=by simp[Qjy]
section
attribute [local simp] Jz Ug Xz Ys Yv Qaf Qiv W8 We Qbi Qbk Qh5 V8 Jr U7 Yq Qmn Zo V6 Js Vc Qb9 Jn V7 Yh Xh X6 Yj Q5 Qd Xg Qq Qe Xi Qk Y1 Z9 Z2 aop X4 nth Ab.g0 gv gs Qx X2 aev evs evO X7 Tr.get_put St.put Tm.put flat flatA Z3 Xe Xc Xf Xa Xb Xd X9 Xj X8 Qt Qu Q6 X5 Qo Qf Q2 Qp Qg Q7 Yf Yn Ye Y0 Yi.putAll Xy X0 Qb Q3 Qy Qz X1 Q4 Qc Qw
set_option maxHeartbeats 1000000 in
theorem Q7d(b:Nat){h:Heap}{v:Value}{xs:List Int}(s:SB h v xs)(hb:Bytes xs)(K:AEnd→Heap→Prop)(hk0:X1z xs→∀ h',Old h h'→K (.ret (.tuple #[.slice none 0 0,.int .i64 16])) h')
  (hk:∀ l,xs.length≤256→pz xs.length xs=some l→l.length≤64→∀ lv os h',Qjy os=l→OpsAt h' h.next lv os→Old h h'→K (.ret (.tuple #[lv,.int .i64 0])) h'):FnK Tryd.prog (E b).G 24 [v] h K:=by
 refine Qal (E b) (Wp b) (V2 b) Vm (Wv b) (Qak b) (Xz b) Q2w Xdt Q9v rfl ?_
 by_cases hlen:(256:Int) < (xs.length:Int)
 ·simp[Qdr s,hlen]
  exact hk0 (.inl (by omega)) h (Old.refl _)
 ·simp[Qdr s,hlen]
  have hx0:xs=[]∨Vn v≠none:=by
   by_cases hx:xs=[]
   ·exact .inl hx
   ·exact .inr (X3b s hx)
  refine Qs0 (PI xs h) xs.length ⟨_,h,v,.slice none 0 0,xs,[],rfl,?_,?_,s,hx0,OpsAt.nil,(fun c hc=>by cases hc),Old.refl _,rfl,by simp;omega,hb,fun f hf=>⟨f,hf,by cases pz f xs <;> simp[Qjy]⟩⟩ ?_
  ·simp
  ·simp
  rintro n s' ⟨t,h1,bv,lv,rest,os,rfl,t0,t4,sb,hbv,hos,hap,hold,rfl,hcount,hbr,hpz⟩ _
  cases rest with
  | nil =>
   obtain⟨f',hf',hp⟩:=hpz xs.length (Nat.le_refl _)
   have hp':pz xs.length xs=some (Qjy os):=by
    rw[hp];cases f' <;> simp[pz]
   have hlv:=Qdu (T67 b) hos.row.sl (h1:=h1)
   by_cases h64:(64:Int) < (os.length:Int)
   ·
    have e0:=Qdr (b:=b) (h1:=h1) sb
    simp at e0
    simp[t0,t4,e0,hlv,h64]
    exact hk0 (.inr (.inr ⟨_,hp',by rw[Qvp];omega⟩)) h1 hold
   ·
    have e0:=Qdr (b:=b) (h1:=h1) sb
    simp at e0
    simp[t0,t4,e0,hlv,h64]
    exact hk _ (by omega) hp' (by rw[Qvp];omega) lv os h1 rfl hos hold
  | cons c r =>
   have hc:0≤c∧c < 256:=hbr c (by simp)
   have hbr':Bytes r:=fun z hz=>hbr z (by simp[hz])
   have hcl:(0:Int) < (r.length:Int)+1:=by omega
   obtain⟨bk,off,hblk,hix,hld⟩:=Xp0 (b:=b) sb (k:=.i64) (i:=0) (z:=c) rfl
   obtain⟨bv1,h2,hs1,sb1,a1,ne1,mv1⟩:=Xhp (b:=b) sb (k:=.i64) (i:=1) (by omega) (by simp;omega)
   have hwc:IntKind.i64.wrap c=c:=Qbe (by omega) (by omega)
   simp only[Int.toNat_one,List.drop_one,List.tail_cons]at sb1
   have hne1:Vn bv1≠none:=ne1 (by rw[hblk];simp)
   have hst0:Uv (h2.push (.cells true 1 [.int .i64 0,.slice none 0 0])) h2.next 0 [.int .i64 c,.slice none 0 0]=some ((h2.push (.cells true 1 [.int .i64 0,.slice none 0 0])).set h2.next (some (.cells true 1 [.int .i64 c,.slice none 0 0]))):=by
    rw[Qeo (by rw[Heap.get_push,if_pos rfl]) (by simp)];rfl
   have e0:Qib (E b).toEnv 47 bv h1=some (.int .i64 ((r.length:Int)+1)):=by have:=Qdr (b:=b) (h1:=h1) sb;simpa using this
   have hix':J7 (E b).toEnv 47 bv (.int .i64 0)=some (.pointer (some ⟨bk,off,none⟩)):=hix
   simp only[i8]at hld
   obtain⟨h3,e3⟩:∃ h3,h3=(h2.push (.cells true 1 [.int .i64 0,.slice none 0 0])).set h2.next (some (.cells true 1 [.int .i64 c,.slice none 0 0])):=⟨_,rfl⟩
   have g3:h3.get h2.next=some (.cells true 1 [.int .i64 c,.slice none 0 0]):=by rw[e3,Heap.get_set _ _ _ _ (by simp only[Q93];omega),if_pos rfl]
   have a3:Old h2 h3:=by rw[e3];exact(Old.push _ _).set _ (Nat.le_refl _) (by simp only[Q93];omega)
   have n3:h3.next=h2.next+1:=by rw[e3,Xvi,Q93]
   rw[← e3]at hst0
   have a13:Old h1 h3:=a1.trans a3
   have sb3:SB h3 bv1 r:=sb1.old a3
   have e1:∀ h,Qib (E b).toEnv 47 bv1 h=some (.int .i64 r.length):=fun h=>Qdr sb1
   have htot:r.length+os.length+1≤256:=by simp at hcount;omega
   by_cases hpush:c≤64∧c≤(r.length:Int)
   ·obtain⟨p1,p2⟩:=hpush
    obtain⟨bv2,hs2,sb2,ne2⟩:=X1l (b:=b) sb3 (k:=.i64) (i:=c) hc.1 p2
    simp[t0,t4,e0,hcl,hix',hld,hs1,hwc,Q0f,hst0,e1,p1,p2,hs2]
    refine Xpc b sb2 (by rw[ne2];exact hne1) (by rw[List.length_take];omega) _ fun dv h4 od a4 => ?_
    have g4:h4.get h2.next=some (.cells true 1 [.int .i64 c,.slice none 0 0]):=a4.get g3
    have hst1:Uv h4 h2.next 1 [dv]=some (h4.set h2.next (some (.cells true 1 [.int .i64 c,dv]))):=by rw[Qd1 g4 (by simp)];rfl
    obtain⟨h5,e5⟩:∃ h5,h5=h4.set h2.next (some (.cells true 1 [.int .i64 c,dv])):=⟨_,rfl⟩
    have n4:h2.next < h4.next:=by have:=a4.1;omega
    have g5:h5.get h2.next=some (.cells true 1 [.int .i64 c,dv]):=by rw[e5,Heap.get_set _ _ _ _ n4,if_pos rfl]
    have a15:Old h1 h5:=by rw[e5];exact(a13.trans a4).set _ a1.1 n4
    rw[← e5]at hst1
    have od5:OB h5 h3.next dv (r.take c.toNat):=od.keep fun k hk hlt=>by
     have:=od.from hk
     rw[e5,Heap.get_set _ _ _ _ n4,if_neg (by omega)]
    obtain⟨bv3,h6,hs3,sb6,a6,ne3,mv3⟩:=Xhp (b:=b) ((sb1.old a3).old a4 |>.keep (h':=h5) fun k hk hlt=>by
     have:=sb1.blk hk
     rw[e5,Heap.get_set _ _ _ _ n4,if_neg (by omega)]) (k:=.i64) (i:=c) hc.1 p2
    have hld6:Qgg h6 h2.next 0 2=some (.agg ⟨[.int .i64 c,dv]⟩):=by rw[Qau (a6.get g5) (by simp)];rfl
    have hbl:Jl (E b).toEnv 67 1 [(0,.agg ⟨[.int .i64 c,dv]⟩)] h6=some (.slice (some ⟨h6.next,0,none⟩) 1 1,h6.push (.cells true 1 [.int .i64 c,dv])):=Q7l (T67 b) Qfx (by omega) (by omega) rfl rfl rfl
    obtain⟨lv',h7,hA,hO,hB,mvl⟩:=OpsAt.app (b:=b) (T67 b) Qfx Xfb hos (a15.trans a6) hold.1 (by omega) (p:=⟨c,r.take c.toNat,dv⟩) ((od5.low (by have:=a13.1;omega)).keep fun k _ hlt=>a6.2 k hlt)
    simp only[OpV.cells]at hA
    have hap1:∀ k,Vn lv=some k→Vn bv1≠some k:=fun k hk e=>by
     rcases mv1 k e with e | e
     ·exact hap k hk e
     ·have:=hos.row.out hk;omega
    have hap3:∀ k,Vn lv=some k→Vn bv3≠some k:=fun k hk e=>by
     rcases mv3 k e with e | e
     ·exact hap1 k hk e
     ·have:=hos.row.out hk;have:=a15.1;omega
    simp[X3n b _ _ _ dv od.one,hst1,hs3,hld6,hbl,hA,t4]
    refine⟨(r.drop c.toNat).length,by simp;omega,_,h7,bv3,lv',r.drop c.toNat,_,rfl,by simp,by simp,?_,.inr (ne3 hne1),hO,?_,?_,rfl,?_,fun z hz=>hbr' z (List.mem_of_mem_drop hz),fun f hf => ?_⟩
    ·exact sb6.keep fun k hk hlt=>hB.2 k hlt fun e=>hap3 k e hk
    ·intro k hk e
     rcases mvl k hk with hk | hk
     ·exact hap3 k hk e
     ·have:=sb6.blk e;omega
    ·exact hB.old (hold.trans (a15.trans a6)) (hos.old (a15.trans a6)).row
    ·simp;omega
    ·obtain⟨f1,hf1,q1⟩:=hpz f hf
     obtain⟨f2,hf2,q2⟩:=Xmq (c:=c) (r:=r) hf1
     refine⟨f2,by simp;omega,?_⟩
     rw[q1,q2,if_pos ⟨p1,p2⟩,Option.map_map]
     congr 1
     funext l
     simp[Qjy]
   ·have hstop:c < 129∨139 < c→X1z xs:=fun hq=>by
     obtain⟨f1,hf1,q1⟩:=hpz xs.length (Nat.le_refl _)
     obtain⟨f2,hf2,q2⟩:=Xmq (c:=c) (r:=r) hf1
     refine .inr (.inl ?_)
     rw[q1,q2,if_neg hpush,if_pos (by omega)]
     rfl
    have hK:∀ h',Old h h'→c < 129∨139 < c→K (.ret (.tuple #[.slice none 0 0,.int .i64 16])) h':=fun h' ho hq=>hk0 (hstop hq) h' ho
    by_cases p1:c≤64
    ·have p2:¬ c≤(r.length:Int):=fun p2=>hpush ⟨p1,p2⟩
     have p3:c < 129:=by omega
     simp[t0,t4,e0,hcl,hix',hld,hs1,hwc,Q0f,hst0,e1,p1,p2,p3]
     exact hK h3 (hold.trans a13) (.inl p3)
    ·by_cases p3:c < 129
     ·simp[t0,t4,e0,hcl,hix',hld,hs1,hwc,Q0f,hst0,e1,p1,p3]
      exact hK h3 (hold.trans a13) (.inl p3)
     ·by_cases p4:139 < c
      ·simp[t0,t4,e0,hcl,hix',hld,hs1,hwc,Q0f,hst0,e1,p1,p3,p4]
       exact hK h3 (hold.trans a13) (.inr p4)
      ·have hld3:Qgg h3 h2.next 0 2=some (.agg ⟨[.int .i64 c,.slice none 0 0]⟩):=by rw[Qau g3 (by simp)];rfl
       have hbl:Jl (E b).toEnv 67 1 [(0,.agg ⟨[.int .i64 c,.slice none 0 0]⟩)] h3=some (.slice (some ⟨h3.next,0,none⟩) 1 1,h3.push (.cells true 1 [.int .i64 c,.slice none 0 0])):=Q7l (T67 b) Qfx (by omega) (by omega) rfl rfl rfl
       obtain⟨lv',h7,hA,hO,hB,mvl⟩:=OpsAt.app (b:=b) (T67 b) Qfx Xfb hos a13 hold.1 (by omega) (p:=⟨c,[],.slice none 0 0⟩) Own.nil
       simp only[OpV.cells]at hA
       have hap1:∀ k,Vn lv=some k→Vn bv1≠some k:=fun k hk e=>by
        rcases mv1 k e with e | e
        ·exact hap k hk e
        ·have:=hos.row.out hk;omega
       simp[t0,t4,e0,hcl,hix',hld,hs1,hwc,Q0f,hst0,e1,p1,p3,p4,hld3,hbl,hA]
       refine⟨r.length,by omega,_,h7,bv1,lv',r,_,rfl,by simp,by simp,?_,.inr hne1,hO,?_,?_,rfl,?_,hbr',fun f hf => ?_⟩
       ·exact sb3.keep fun k hk hlt=>hB.2 k hlt fun e=>hap1 k e hk
       ·intro k hk e
        rcases mvl k hk with hk | hk
        ·exact hap1 k hk e
        ·have:=sb3.blk e;omega
       ·exact hB.old (hold.trans a13) (hos.old a13).row
       ·simp;omega
       ·obtain⟨f1,hf1,q1⟩:=hpz f hf
        obtain⟨f2,hf2,q2⟩:=Xmq (c:=c) (r:=r) hf1
        refine⟨f2,hf2,?_⟩
        rw[q1,q2,if_neg hpush,if_neg (by omega),Option.map_map]
        congr 1
        funext l
        simp[Qjy]
end
end Go.Proofs.YtgeeklmjfbiieaaDoor
end
noncomputable section
namespace Go.Proofs.YtgeeklmjfbiieaaDoor
open Go Go.Ab
set_option maxRecDepth 100000
theorem Qci(b:Nat){h:Heap}(hl:Ab.LaidIn h laidAll)(K:AEnd→Heap→Prop)(hk:K (.ret (.bool true)) h):FnK Tryd.prog (E b).G 15 [] h K :=
 ⟨_,_,Q26 (k:=10000) (m:=30) Vm Xmw Xk0 Xcx rfl hl Q2k (bs:=[]) rfl (by simp) (fun k d r hd _=>by simp at hd) Ji,Nat.le_refl _,hk⟩
theorem Laid.old{h h':Heap}(hl:Ab.LaidIn h laidAll)(a:Old h h'):Ab.LaidIn h' laidAll:=fun x hx=>a.get (hl x hx)
theorem Xfq:∀ {os:List OpV} {i:Nat} {o:OpV},os[i]? = some o→(Qn1 os)[i*2]? = some (.int .i64 o.code)∧(Qn1 os)[i*2+1]? = some o.val
 | p::os,0,o,h=>by simp at h;subst h;simp[Qn1,OpV.cells]
 | p::os,i+1,o,h=>by
  have:=Xfq (os:=os) (i:=i) (o:=o) (by simpa using h)
  have e:Qn1 (p::os)=.int .i64 p.code::p.val::Qn1 os:=rfl
  rw[e,show(i+1)*2=i*2+1+1 by omega]
  simpa using this
theorem Xxy{b:Nat}{h:Heap}{n0:Nat}{lv:Value}{os:List OpV}{te ts:TypeId}{re rs:TyRec}(T:SlTy (E b).toEnv te ts re rs)(hz:re.size=2)(o:Own h n0 2 lv os.length (Qn1 os)){i:Nat}{p:OpV}(hp:os[i]? = some p) :
  ∃ bk off,Vn lv=some bk∧J7 (E b).toEnv ts lv (.int .i64 (i:Int))=some (.pointer (some ⟨bk,off,none⟩))∧Vs h bk off=some (.int .i64 p.code)∧Vs h bk (off+1)=some p.val:=by
 have hl:i < os.length:=(List.getElem?_eq_some_iff.1 hp).1
 obtain⟨bk,off,h1,h2,h3, -⟩:=Xiw T hz o.sl (k:=.i64) (i:=(i:Int)) (by omega) (by omega)
 obtain⟨q1,q2⟩:=Xfq hp
 have e0:=h3 0 (by omega)
 have e1:=h3 1 (by omega)
 simp only[Int.toNat_natCast,Nat.add_zero]at e0 e1
 exact⟨bk,off,h1,h2,by rw[e0,q1],by rw[e1,q2]⟩
theorem Xm7:∀ {f:Nat} {xs:List Int} {l:List (Int × List Int)},pz f xs=some l→∀ p ∈ l,p.2.length≤64
 | f,[],l,h=>by cases f <;> (simp[pz]at h;subst h;simp)
 | 0,_::_,l,h=>by simp[pz]at h
 | f+1,c::r,l,h=>by
  simp only[pz]at h
  split at h
  ·rename_i hc
   rw[Option.map_eq_some_iff]at h
   obtain⟨l',h1,rfl⟩:=h
   intro p hp
   rcases List.mem_cons.1 hp with rfl | hp
   ·simp only[List.length_take];omega
   ·exact Xm7 h1 p hp
  ·split at h
   ·cases h
   ·rw[Option.map_eq_some_iff]at h
    obtain⟨l',h1,rfl⟩:=h
    intro p hp
    rcases List.mem_cons.1 hp with rfl | hp
    ·simp
    ·exact Xm7 h1 p hp
end Go.Proofs.YtgeeklmjfbiieaaDoor
end
