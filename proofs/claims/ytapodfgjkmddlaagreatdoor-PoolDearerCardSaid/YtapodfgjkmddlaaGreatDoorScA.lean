import Derived.Test.YtapodfgjkmddlaaGreatDoorFA
import Derived.Test.YtapodfgjkmddlaaGreatDoorAbG
import Derived.Test.YtapodfgjkmddlaaGreatDoorBlA
set_option linter.all false
noncomputable section
namespace Go.Proofs.YtapodfgjkmddlaaGreatDoor
open Go Go.Ab
set_option maxRecDepth 100000
def i8(z:Int):Value:=.int .u8 z
abbrev SB(h:Heap)(v:Value)(xs:List Int):Prop:=Sl h 1 v xs.length (xs.map i8)
abbrev OB(h:Heap)(n0:Nat)(v:Value)(xs:List Int):Prop:=Own h n0 1 v xs.length (xs.map i8)
def Qmi{b:Nat}{h h1:Heap}{v:Value}{xs:List Int}(s:SB h v xs):Qkc (E b).toEnv 45 v h1=some (.int .i64 xs.length):=Qa0 (T45 b) s
def Zg3{b:Nat}{h:Heap}{v:Value}{xs:List Int}(s:SB h v xs){k:IntKind}{i:Nat}{z:Int}(hi:xs[i]? = some z) :
  ∃ bk o,J4 v=some bk/\V5 (E b).toEnv 45 v (.int k (i:Int))=some (pO bk o)/\Yw h bk o=some (i8 z):=by
 have hl:i < xs.length:=(List.getElem?_eq_some_iff.1 hi).1;obtain⟨bk,o,h1,h2,h3, -⟩:=Q7o (T45 b) Qjp s (k:=k) (i:=(i:Int)) (by omega) (by omega);refine⟨bk,o,h1,h2,?_⟩;have:=h3 0 (by omega);simpa[hi]using this
def Xie{b:Nat}{h:Heap}{z:Int}:W7 (E b).toEnv 45 1 [(0,.int .u8 z)] h=some (.slice (some ⟨h.next,0,none⟩) 1 1,h.push (.cells true 1 [i8 z])):=Xlx (T45 b) Qjp (by omega) (by omega) rfl rfl rfl
def Z08{b:Nat}{h:Heap}{n0:Nat}{v:Value}{xs:List Int}(o:OB h n0 v xs)(h0:n0<=h.next)(hn:xs.length < 1099511627776)(z:Int) :
  ∃ v' h',Qjr (E b).toEnv 45 45 v (.slice (some ⟨h.next,0,none⟩) 1 1) (h.push (.cells true 1 [i8 z]))=some (v',h')/\OB h' n0 v' (xs ++ [z])/\Beyond v h h':=by
 obtain⟨v',h',k1,k2,k3⟩:=Zj8 (T45 b) Qjp (by omega) o h0 (ys:=[i8 z]) rfl (by rw[Q6l];omega) (by omega);exact⟨v',h',k1,by simp only[OB,aR,ae];exact k2,k3⟩
def Z61{b:Nat}{h:Heap}{n0:Nat}{v x:Value}{xs ys:List Int}(o:OB h n0 v xs)(h0:n0<=h.next)(s:SB h x ys)(hn:xs.length+ys.length < 1099511627776) :
  ∃ v' h',Qjr (E b).toEnv 45 45 v x h=some (v',h')/\OB h' n0 v' (xs++ys)/\Beyond v h h':=by
 obtain⟨v',h',k1,k2,k3⟩:=Xcu (T45 b) Qjp (by omega) o h0 (Ymy (T45 b) Qjp s) (by simp) (by rw[Q6l];omega) (by omega);exact⟨v',h',k1,by simp only[OB,aR,ae];exact k2,k3⟩
def CBI(v:Value)(xs:List Int)(h:Heap)(k:Nat)(s:St):Prop:=∃ (t:Tr Value) (h1:Heap) (o:Value) (i:Nat),s=⟨⟨19,t⟩,[],h1⟩/\t.get 0=some v/\t.get 3=some o/\t.get 4=some (.int .i64 (i:Int))/\i<=xs.length/\k=xs.length-i/\OB h1 h.next o (xs.take i)/\Old h h1
attribute [local simp] Xj Xt Xl Xn Qz X7 Xs Xg X5 Xr Q6 X2 Yn Ya aop Qg nth Ab.g0 gv gs Qd Qc aev evs evO Qh Tr.get_put St.put Tm.put flat flatA Y9 Qm Qp Qn Qo Qk Ql Qj Qt Qi Q7 Q8 X0 Xk Xh X6 Qu Xf X8 Qy Yh Zx Yg Xw Xm.putAll Qv Q0 Q9 Wj Yq Y1 ldv Yk Vi Nat.testBit loadAt Ab.runT Zc Yl Ys
section
attribute [local simp] Qqp Q0z Qav Qwi 
def Zt6(b:Nat){h:Heap}{v:Value}{xs:List Int}(s:SB h v xs)(hn:xs.length < 1000000000)(K:KP)(hk:∀ v' h',OB h' h.next v' xs->Old h h'->K (.ret v') h'):FK b 108 [v] h K:=by
 refine F3 b (Qav b) Yeq rfl ?_;simp;refine Qdf (CBI v xs h) xs.length ⟨_,h,.slice none 0 0,0,rfl,by simp,by simp,by simp,by omega,rfl,Own.nil,Old.refl _⟩ ?_;rintro k s' ⟨t,h1,o,i,rfl,t0,t3,t4,hi,rfl,ho,hold⟩ _;have s1:=s.old hold;by_cases hlt:i < xs.length
 ·have hlt':(i:Int) < (xs.length:Int):=by omega
  obtain⟨bk,off, -,hix,hld⟩:=Zg3 (b:=b) s1 (k:=.i64) (List.getElem?_eq_getElem hlt);have hw:=wS (i:=i) (by omega);obtain⟨v',h',hA,hO,hB⟩:=Z08 (b:=b) ho hold.1 (by rw[br];omega) xs[i];simp[t0,t3,t4,Qmi s,hlt',hix,hld,i8,Xie,hA,hw];simp only[i8]at hA;simp[hA,t4,hw];refine⟨xs.length-(i+1),by omega,_,h',v',i+1,rfl,by simp[t0],by simp,by simp,by omega,rfl,?_,hB.old hold ho⟩;rw[aQ,List.getElem?_eq_getElem hlt];exact hO
 ·have hlt':¬ (i:Int) < (xs.length:Int):=by omega
  simp[t0,t3,t4,Qmi s,hlt,hlt'];refine hk o h1 ?_ hold;rwa [aj (by omega)]at ho
end
def SBI(v1 v2:Value)(xs ys:List Int)(h:Heap)(k:Nat)(s:St):Prop:=∃ (t:Tr Value) (i:Nat),s=⟨⟨27,t⟩,[],h⟩/\t.get 0=some v1/\t.get 1=some v2/\t.get 5=some (.int .i64 (i:Int))/\i<=xs.length/\k=xs.length-i/\xs.take i=ys.take i
section
attribute [local simp] Qcb Qfe Jp Uw Qdk Qwi Q4p Qcg 
def Zz5(b:Nat){h:Heap}{v1 v2:Value}{xs ys:List Int}(s1:SB h v1 xs)(s2:SB h v2 ys)(hn:xs.length < 1099511627776)(K:KP)(hk:K (.ret (.bool (decide (xs=ys)))) h):FK b 100 [v1,v2] h K:=by
 refine F3 b (Jp b) Yki rfl ?_;by_cases hl:xs.length=ys.length
 ·have hl':(xs.length:Int)=(ys.length:Int):=by omega
  simp[Qmi s1,Qmi s2,hl'];refine Qdf (SBI v1 v2 xs ys h) xs.length ⟨_,0,rfl,by simp,by simp,by simp,by omega,rfl,rfl⟩ ?_;rintro k s' ⟨t,i,rfl,t0,t1,t5,hi,rfl,hq⟩ _;by_cases hlt:i < xs.length
  ·have hlt':(i:Int) < (xs.length:Int):=by omega
   obtain⟨bk1,o1, -,ix1,ld1⟩:=Zg3 (b:=b) s1 (k:=.i64) (List.getElem?_eq_getElem hlt);obtain⟨bk2,o2, -,ix2,ld2⟩:=Zg3 (b:=b) s2 (k:=.i64) (List.getElem?_eq_getElem (show i < ys.length by omega));have hw:=wS (i:=i) (by omega);simp[t0,t1,t5,Qmi s1,hlt'];by_cases he:xs[i]=ys[i]
   ·refine Qem [] (by simp) Q4n Q7e Q4m (by simp[Q98,t0,t1,t5,ix1,ix2,ld1,ld2,he,i8];first | exact⟨rfl,rfl⟩ | rfl) (by simp[Qlx,t0,t1,t5,ix1,ix2,ld1,ld2]) ?_;simp[t5,hw];refine⟨xs.length-(i+1),by omega,_,i+1,rfl,by simp[t0],by simp[t1],by simp,by omega,rfl,?_⟩;rw[aQ,aQ,hq,List.getElem?_eq_getElem hlt,List.getElem?_eq_getElem (show i < ys.length by omega),he]
   ·refine Qem [] (by simp) Q4n Q7e Q4m (by simp[Q98,t0,t1,t5,ix1,ix2,ld1,ld2,he,i8];first | exact⟨rfl,rfl⟩ | rfl) (by simp[Qlx,t0,t1,t5,ix1,ix2,ld1,ld2]) ?_;have hne:¬ xs=ys:=fun e=>he (by subst e;rfl);simp[t5,hw];simpa[hne]using hk
  ·have hlt':¬ (i:Int) < (xs.length:Int):=by omega
   have : i=xs.length:=by omega
   subst this;have he:xs=ys:=by
    rw[aj (ab _),aj (by omega)]at hq;exact hq
   simp[t0,t1,t5,Qmi s1];simpa[he]using hk
 ·have hl':¬ (xs.length:Int)=(ys.length:Int):=by omega
  have hne:¬ xs=ys:=fun e=>hl (by rw[e]);simp[Qmi s1,Qmi s2,hl'];simpa[hne]using hk
end
def Zhc(b:Nat){h:Heap}{v:Value}{xs:List Int}(s:SB h v xs)(hv:J4 v≠none)(hn:xs.length < 1000000000)(K:KP)
  (hk:∀ v' h',OB h' h.next v' xs->Old h h'->K (.ret v') h'):FK b 50 [v] h K:=by
 refine F3 b (Jt b) Xuo rfl ?_;have e0q:Zhe (E b).toEnv .eql 45 v (.slice none 0 0)=some (.bool false):=by
  cases v with
  | slice a n c=>cases a with
   | none=>exact absurd rfl hv
   | some a=>simp[Zhe,aEq,Xp4,(T45 b).d]
  | _=>rcases s with⟨_,e,_⟩ | ⟨_,_,_,_,_,_,_,e,_⟩ <;> cases e
 have e0:Y9 (E b).toEnv .eql 45 true v (.slice none 0 0)=some (.bool false):=by simp[Y9,e0q]
 have e1:W7 (E b).toEnv 45 0 [] h=some (.slice (some ⟨h.next,0,none⟩) 0 0,h.push (.cells true 1 [])):=by simp[W7,Xp4,(T45 b).d,Z58,Qjp,Xsb,Qc2,Nat.ble]
 obtain⟨v',h',k1,k2,k3⟩:=Z61 (b:=b) (h:=h.push (.cells true 1 [])) (n0:=h.next) (v:=.slice (some ⟨h.next,0,none⟩) 0 0) (xs:=[]) (Own.new (ab _) (by rw[Heap.get_push,if_pos rfl];rfl) rfl (by decide) (.inr rfl)) (bH _) (s.old (Old.push _ _)) (by simpa using(by omega:xs.length < 1099511627776));simp[Q93,X7m,Jt,Xun,Xvd,e0,e0q,e1,k1];exact hk v' h' k2 ⟨ai (bH _) k3.1,fun c hc=>by rw[k3.2 c (au hc (bH _)) (by simp[J4];omega),Heap.get_push,if_neg (by omega)]⟩
def pz:Nat->List Int->Option (List (Int × List Int))
 | _,[]=>some []
 | 0,_::_=>none
 | n+1,c::r=>if c<=64/\c<=r.length then(pz n (r.drop c.toNat)).map ((c,r.take c.toNat) :: ·)else if c < 129∨c > 139 then none else(pz n r).map ((c,[]) :: ·)
def Bytes(xs:List Int):Prop:=∀ z ∈ xs,0<=z/\z < 256
structure OpV where
 code:Int
 data:List Int
 val:Value
def OpV.cells(o:OpV):List Value:=[.int .i64 o.code,o.val]
def Qt0(os:List OpV):List Value:=os.flatMap OpV.cells
def Xpa(os:List OpV):List (Int × List Int):=os.map fun o=>(o.code,o.data)
def Jnc(v w:Value):Prop:=∀ c,J4 v=some c->J4 w≠some c
structure OpsAt (h:Heap) (n0:Nat) (lv:Value) (os:List OpV):Prop where
 row:Own h n0 2 lv os.length (Qt0 os)
 data:∀ o ∈ os,OB h n0 o.val o.data
 apart:∀ o ∈ os,Jnc lv o.val
 each:os.Pairwise (fun o p=>Jnc o.val p.val)
def OpsAt.nil{h:Heap}{n0:Nat}:OpsAt h n0 (.slice none 0 0) []:=⟨Own.nil,by simp,by simp,.nil⟩
def OpsAt.old{h h':Heap}{n0:Nat}{lv:Value}{os:List OpV}(o:OpsAt h n0 lv os)(a:Old h h'):OpsAt h' n0 lv os :=
 ⟨o.row.keep fun c _ hc=>a.2 c hc,fun p hp=>(o.data p hp).keep fun c _ hc=>a.2 c hc,o.apart,o.each⟩
def OpsAt.app{b:Nat}{h1 h:Heap}{n0:Nat}{lv:Value}{os:List OpV}{te ts:TypeId}{re rs:TyRec}(T:SlTy (E b).toEnv te ts re rs)(hz:re.size=2)(hb:re.bytes=32)(o1:OpsAt h1 n0 lv os)(a:Old h1 h)(h0:n0<=h1.next)(hn:os.length < 1000000){p:OpV}(hp:OB h h1.next p.val p.data) :
  ∃ v' h',Qjr (E b).toEnv ts ts lv (.slice (some ⟨h.next,0,none⟩) 1 1) (h.push (.cells true 1 p.cells))=some (v',h')/\OpsAt h' n0 v' (os ++ [p])/\Beyond lv h h'/\∀ c,J4 v'=some c->J4 lv=some c∨h.next<=c:=by
 have o:=o1.old a;obtain⟨v',h',k1,k2,k3,k4⟩:=Qtj T hz (by omega) o.row (ai h0 a.1) (ys:=p.cells) rfl (by rw[hb];omega) (by omega);have far:∀ c,J4 p.val=some c->h1.next<=c/\c < h.next:=fun c hc=>hp.from hc;refine⟨v',h',k1,⟨?_,?_,?_,?_⟩,k3,k4⟩
 ·rw[ae];simpa[Qt0]using k2
 ·intro q hq;rw[al]at hq;rcases hq with hq | hq
  ·refine(o.data q hq).keep fun c hc hlt=>k3.2 c hlt fun e=>o.apart q hq c e hc
  ·simp at hq;subst hq;refine(hp.low h0).keep fun c hc hlt=>k3.2 c hlt fun e => ?_;have:=far c hc;have:=o1.row.out e;omega
 ·intro q hq c hc e;rw[al]at hq;rcases hq with hq | hq
  ·rcases k4 c hc with h | h
   ·exact o.apart q hq c h e
   ·have:=(o.data q hq).out e;omega
  ·simp at hq;subst hq;have h5:=far c e;rcases k4 c hc with h | h
   ·have:=o1.row.out h;omega
   ·omega
 ·rw[List.pairwise_append];refine⟨o.each,by simp,fun q hq r hr c hc e => ?_⟩;simp at hr;subst hr;have h5:=far c e;have:=(o1.data q hq).out hc;omega
def PI(xs:List Int)(h:Heap)(n:Nat)(s:St):Prop:=∃ (t:Tr Value) (h1:Heap) (bv lv:Value) (rest:List Int) (os:List OpV),s=⟨⟨53,t⟩,[],h1⟩/\t.get 0=some bv/\t.get 4=some lv/\SB h1 bv rest/\(rest=[]∨J4 bv≠none)/\OpsAt h1 h.next lv os/\Jnc lv bv/\Old h h1/\n=rest.length/\rest.length+os.length<=256/\Bytes rest/\∀ f,xs.length<=f->∃ f',rest.length<=f'/\pz f xs=(pz f' rest).map (Xpa os ++ ·)
def Jot(xs:List Int):Prop:=xs.length > 256∨pz xs.length xs=none ∨ ∃ l,pz xs.length xs=some l/\l.length > 64
def X2b(b:Nat)(z:Int):Qn1 (E b).toEnv 125 [(0,.int .i64 z)]=some (.agg ⟨[.int .i64 z,.slice none 0 0]⟩):=kR
def Jqk{b:Nat}{h:Heap}{v:Value}{xs:List Int}(s:SB h v xs){k:IntKind}{i:Int}(h0:0<=i)(h1:i<=xs.length):∃ v',Qes (E b).toEnv 45 v none (some (.int k i)) none h=some (v',h)/\SB h v' (xs.take i.toNat)/\J4 v'=J4 v:=by
 obtain⟨v',k1,k2,k3⟩:=Jt0 (T45 b) (k:=k) Qjp (by omega) s h0 h1;refine⟨v',k1,?_,k3⟩;have e:(xs.take i.toNat).length=i.toNat:=by rw[br];omega
 rw[SB,e];simpa using k2
def Zpw{b:Nat}{h:Heap}{v:Value}{xs:List Int}(s:SB h v xs){k:IntKind}{i:Int}(h0:0<=i)(h1:i<=xs.length):∃ v' h',Qes (E b).toEnv 45 v (some (.int k i)) none none h=some (v',h')/\SB h' v' (xs.drop i.toNat)/\Old h h'/\(J4 v≠none->J4 v'≠none)/\∀ c,J4 v'=some c->J4 v=some c∨c=h.next:=by
 obtain⟨v',h',k1,k2,k3,k4⟩:=Jn6 (T45 b) (k:=k) Qjp (by omega) s h0 h1;refine⟨v',h',k1,?_,k3,fun hv => ?_,fun c hc => ?_⟩
 ·rw[SB,bm];simpa using k2
 ·rcases k4 with⟨e,_⟩ | ⟨e,_⟩
  ·rw[e];exact hv
  ·rw[e];simp
 ·rcases k4 with⟨e,_⟩ | ⟨e,_⟩
  ·rw[e]at hc;exact .inl hc
  ·rw[e]at hc;cases hc;exact .inr rfl
def Jue{h:Heap}{v:Value}{xs:List Int}(s:SB h v xs)(hx:xs ≠ []):J4 v≠none:=by
 rcases s with⟨c,rfl,_,_,e⟩ | ⟨bk,o,c,ow,z',pre,post,rfl,_⟩
 ·exact absurd (List.map_eq_nil_iff.1 e) hx
 ·simp[J4]
def Z26{f:Nat}{c:Int}{r:List Int}(hf:(c::r).length<=f):∃ f',r.length<=f'/\pz f (c::r)=(if c<=64/\c<=r.length then(pz f' (r.drop c.toNat)).map ((c,r.take c.toNat) :: ·)else if c < 129∨c > 139 then none else(pz f' r).map ((c,[]) :: ·)):=by
 cases f with
 | zero=>simp at hf
 | succ f=>exact⟨f,by simpa using hf,rfl⟩
def Zjq(os:List OpV):(Xpa os).length=os.length:=by simp[Xpa]
section
attribute [local simp] Qcw Qgq V3 Qwi Qhs Qhr Qlo Qlf Qdm Qch Jt Zj Qdg Qcj Qde Qlp Qdl
set_option maxHeartbeats 1000000 in
def Jjw(b:Nat){h:Heap}{v:Value}{xs:List Int}(s:SB h v xs)(hb:Bytes xs)(K:KP)(hk0:Jot xs->∀ h',Old h h'->K (.ret (.tuple #[.slice none 0 0,.int .i64 16])) h')
  (hk:∀ l,xs.length<=256->pz xs.length xs=some l->l.length<=64->∀ lv os h',Xpa os=l->OpsAt h' h.next lv os->Old h h'->K (.ret (.tuple #[lv,.int .i64 0])) h'):FK b 93 [v] h K:=by
 refine F3 b (V3 b) Ypx rfl ?_;by_cases hlen:(256:Int) < (xs.length:Int)
 ·simp[Qmi s,hlen];exact hk0 (.inl (by omega)) h (Old.refl _)
 ·simp[Qmi s,hlen];have hx0:xs=[]∨J4 v≠none:=by
   by_cases hx:xs=[]
   ·exact .inl hx
   ·exact .inr (Jue s hx)
  refine Qdf (PI xs h) xs.length ⟨_,h,v,.slice none 0 0,xs,[],rfl,?_,?_,s,hx0,OpsAt.nil,(fun c hc=>by cases hc),Old.refl _,rfl,by simp;omega,hb,fun f hf=>⟨f,hf,by cases pz f xs <;> simp[Xpa]⟩⟩ ?_
  ·simp
  ·simp
  rintro n s' ⟨t,h1,bv,lv,rest,os,rfl,t0,t4,sb,hbv,hos,hap,hold,rfl,hcount,hbr,hpz⟩ _;cases rest with
  | nil =>
   obtain⟨f',hf',hp⟩:=hpz xs.length (ab _);have hp':pz xs.length xs=some (Xpa os):=by
    rw[hp];cases f' <;> simp[pz]
   have hlv:=Qa0 (Ja5 b) hos.row.sl (h1:=h1);by_cases h64:(64:Int) < (os.length:Int)
   ·
    have e0:=Qmi (b:=b) (h1:=h1) sb;simp at e0;simp[t0,t4,e0,hlv,h64];exact hk0 (.inr (.inr ⟨_,hp',by rw[Zjq];omega⟩)) h1 hold
   ·
    have e0:=Qmi (b:=b) (h1:=h1) sb;simp at e0;simp[t0,t4,e0,hlv,h64];exact hk _ (by omega) hp' (by rw[Zjq];omega) lv os h1 rfl hos hold
  | cons c r =>
   have hc:0<=c/\c < 256:=hbr c (by simp);have hbr':Bytes r:=fun z hz=>hbr z (by simp[hz]);have hcl:(0:Int) < (r.length:Int)+1:=by omega
   obtain⟨bk,off,hblk,hix,hld⟩:=Zg3 (b:=b) sb (k:=.i64) (i:=0) (z:=c) rfl;obtain⟨bv1,h2,hs1,sb1,a1,ne1,mv1⟩:=Zpw (b:=b) sb (k:=.i64) (i:=1) (by omega) (by simp;omega);have hwc:IntKind.i64.wrap c=c:=Uq (by omega) (by omega);simp only[Int.toNat_one,List.drop_one,List.tail_cons]at sb1;have hne1:J4 bv1≠none:=ne1 (by rw[hblk];simp);have hst0:Ur (h2.push (.cells true 1 [.int .i64 0,.slice none 0 0])) h2.next 0 [.int .i64 c,.slice none 0 0]=some ((h2.push (.cells true 1 [.int .i64 0,.slice none 0 0])).set h2.next (some (.cells true 1 [.int .i64 c,.slice none 0 0]))):=by
    rw[Wh (by rw[Heap.get_push,if_pos rfl]) (by simp)];rfl
   have e0:Qkc (E b).toEnv 45 bv h1=some (.int .i64 ((r.length:Int)+1)):=by have:=Qmi (b:=b) (h1:=h1) sb;simpa using this
   have hix':V5 (E b).toEnv 45 bv (.int .i64 0)=some (pO bk off):=hix;simp only[i8]at hld;obtain⟨h3,e3⟩:∃ h3,h3=(h2.push (.cells true 1 [.int .i64 0,.slice none 0 0])).set h2.next (some (.cells true 1 [.int .i64 c,.slice none 0 0])):=⟨_,rfl⟩;have g3:h3.get h2.next=some (.cells true 1 [.int .i64 c,.slice none 0 0]):=by rw[e3,gY (by simp only[Qmo];omega),if_pos rfl]
   have a3:Old h2 h3:=by rw[e3];exact(Old.push _ _).set _ (ab _) (by simp only[Qmo];omega)
   have n3:h3.next=h2.next+1:=by rw[e3,X2h,Qmo]
   rw[<- e3]at hst0;have a13:Old h1 h3:=a1.trans a3;have sb3:SB h3 bv1 r:=sb1.old a3;have e1:∀ h,Qkc (E b).toEnv 45 bv1 h=some (.int .i64 r.length):=fun h=>Qmi sb1;have htot:r.length+os.length+1<=256:=by simp at hcount;omega
   by_cases hpush:c<=64/\c<=(r.length:Int)
   ·obtain⟨p1,p2⟩:=hpush;obtain⟨bv2,hs2,sb2,ne2⟩:=Jqk (b:=b) sb3 (k:=.i64) (i:=c) hc.1 p2;simp[t0,t4,e0,hcl,hix',hld,hs1,hwc,X2b,hst0,e1,p1,p2,hs2];refine Zhc b sb2 (by rw[ne2];exact hne1) (by rw[br];omega) _ fun dv h4 od a4 => ?_;have g4:h4.get h2.next=some (.cells true 1 [.int .i64 c,.slice none 0 0]):=a4.get g3;have hst1:Ur h4 h2.next 1 [dv]=some (h4.set h2.next (some (.cells true 1 [.int .i64 c,dv]))):=by rw[Qeu g4 (by simp)];rfl
    obtain⟨h5,e5⟩:∃ h5,h5=h4.set h2.next (some (.cells true 1 [.int .i64 c,dv])):=⟨_,rfl⟩;have n4:h2.next < h4.next:=(by have:=a4.1;omega);have g5:h5.get h2.next=some (.cells true 1 [.int .i64 c,dv]):=by rw[e5,gY n4,if_pos rfl]
    have a15:Old h1 h5:=(by rw[e5];exact(a13.trans a4).set _ a1.1 n4);rw[<- e5]at hst1;have od5:OB h5 h3.next dv (r.take c.toNat):=od.keep fun k hk hlt=>by
     have:=od.from hk;rw[e5,gY n4,if_neg (by omega)]
    obtain⟨bv3,h6,hs3,sb6,a6,ne3,mv3⟩:=Zpw (b:=b) ((sb1.old a3).old a4 |>.keep (h':=h5) fun k hk hlt=>by
     have:=sb1.blk hk;rw[e5,gY n4,if_neg (by omega)]) (k:=.i64) (i:=c) hc.1 p2
    have hld6:Wy h6 h2.next 0 2=some (.agg ⟨[.int .i64 c,dv]⟩):=by rw[V2 (a6.get g5) (by simp)];rfl
    have hbl:W7 (E b).toEnv 123 1 [(0,.agg ⟨[.int .i64 c,dv]⟩)] h6=some (.slice (some ⟨h6.next,0,none⟩) 1 1,h6.push (.cells true 1 [.int .i64 c,dv])):=Xlx (Ja5 b) Qwu (by omega) (by omega) rfl rfl rfl;obtain⟨lv',h7,hA,hO,hB,mvl⟩:=OpsAt.app (b:=b) (Ja5 b) Qwu Ypq hos (a15.trans a6) hold.1 (by omega) (p:=⟨c,r.take c.toNat,dv⟩) ((od5.low (by have:=a13.1;omega)).keep fun k _ hlt=>a6.2 k hlt);simp only[OpV.cells]at hA;have hap1:∀ k,J4 lv=some k->J4 bv1≠some k:=fun k hk e=>by
     rcases mv1 k e with e | e
     ·exact hap k hk e
     ·have:=hos.row.out hk;omega
    have hap3:∀ k,J4 lv=some k->J4 bv3≠some k:=fun k hk e=>by
     rcases mv3 k e with e | e
     ·exact hap1 k hk e
     ·have:=hos.row.out hk;have:=a15.1;omega
    simp[Jui b _ _ _ dv od.one,hst1,hs3,hld6,hbl,hA,t4];refine⟨(r.drop c.toNat).length,by simp;omega,_,h7,bv3,lv',r.drop c.toNat,_,rfl,by simp,by simp,?_,.inr (ne3 hne1),hO,?_,?_,rfl,?_,fun z hz=>hbr' z (dy hz),fun f hf => ?_⟩
    ·exact sb6.keep fun k hk hlt=>hB.2 k hlt fun e=>hap3 k e hk
    ·intro k hk e;rcases mvl k hk with hk | hk
     ·exact hap3 k hk e
     ·have:=sb6.blk e;omega
    ·exact hB.old (hold.trans (a15.trans a6)) (hos.old (a15.trans a6)).row
    ·simp;omega
    ·obtain⟨f1,hf1,q1⟩:=hpz f hf;obtain⟨f2,hf2,q2⟩:=Z26 (c:=c) (r:=r) hf1;refine⟨f2,by simp;omega,?_⟩;rw[q1,q2,if_pos ⟨p1,p2⟩,dW];congr 1;funext l;simp[Xpa]
   ·have hstop:c < 129∨139 < c->Jot xs:=fun hq=>by
     obtain⟨f1,hf1,q1⟩:=hpz xs.length (ab _);obtain⟨f2,hf2,q2⟩:=Z26 (c:=c) (r:=r) hf1;refine .inr (.inl ?_);rw[q1,q2,if_neg hpush,if_pos (by omega)];rfl
    have hK:∀ h',Old h h'->c < 129∨139 < c->K (.ret (.tuple #[.slice none 0 0,.int .i64 16])) h':=fun h' ho hq=>hk0 (hstop hq) h' ho;by_cases p1:c<=64
    ·have p2:¬ c<=(r.length:Int):=fun p2=>hpush ⟨p1,p2⟩;have p3:c < 129:=(by omega);simp[t0,t4,e0,hcl,hix',hld,hs1,hwc,X2b,hst0,e1,p1,p2,p3];exact hK h3 (hold.trans a13) (.inl p3)
    ·by_cases p3:c < 129
     ·simp[t0,t4,e0,hcl,hix',hld,hs1,hwc,X2b,hst0,e1,p1,p3];exact hK h3 (hold.trans a13) (.inl p3)
     ·by_cases p4:139 < c
      ·simp[t0,t4,e0,hcl,hix',hld,hs1,hwc,X2b,hst0,e1,p1,p3,p4];exact hK h3 (hold.trans a13) (.inr p4)
      ·have hld3:Wy h3 h2.next 0 2=some (.agg ⟨[.int .i64 c,.slice none 0 0]⟩):=by rw[V2 g3 (by simp)];rfl
       have hbl:W7 (E b).toEnv 123 1 [(0,.agg ⟨[.int .i64 c,.slice none 0 0]⟩)] h3=some (.slice (some ⟨h3.next,0,none⟩) 1 1,h3.push (.cells true 1 [.int .i64 c,.slice none 0 0])):=Xlx (Ja5 b) Qwu (by omega) (by omega) rfl rfl rfl;obtain⟨lv',h7,hA,hO,hB,mvl⟩:=OpsAt.app (b:=b) (Ja5 b) Qwu Ypq hos a13 hold.1 (by omega) (p:=⟨c,[],.slice none 0 0⟩) Own.nil;simp only[OpV.cells]at hA;have hap1:∀ k,J4 lv=some k->J4 bv1≠some k:=fun k hk e=>by
        rcases mv1 k e with e | e
        ·exact hap k hk e
        ·have:=hos.row.out hk;omega
       simp[t0,t4,e0,hcl,hix',hld,hs1,hwc,X2b,hst0,e1,p1,p3,p4,hld3,hbl,hA];refine⟨r.length,by omega,_,h7,bv1,lv',r,_,rfl,by simp,by simp,?_,.inr hne1,hO,?_,?_,rfl,?_,hbr',fun f hf => ?_⟩
       ·exact sb3.keep fun k hk hlt=>hB.2 k hlt fun e=>hap1 k e hk
       ·intro k hk e;rcases mvl k hk with hk | hk
        ·exact hap1 k hk e
        ·have:=sb3.blk e;omega
       ·exact hB.old (hold.trans a13) (hos.old a13).row
       ·simp;omega
       ·obtain⟨f1,hf1,q1⟩:=hpz f hf;obtain⟨f2,hf2,q2⟩:=Z26 (c:=c) (r:=r) hf1;refine⟨f2,hf2,?_⟩;rw[q1,q2,if_neg hpush,if_neg (by omega),dW];congr 1;funext l;simp[Xpa]
end
def Ja4(os:List OpV):List Int:=os.flatMap fun o=>IntKind.u8.wrap o.code::o.data
def Jnh{b:Nat}{h:Heap}{lv:Value}{os:List OpV}{te ts:TypeId}{re rs:TyRec}(T:SlTy (E b).toEnv te ts re rs)(hz:re.size=2)(o:Sl h 2 lv os.length (Qt0 os)){i:Nat}{p:OpV}(hp:os[i]? = some p) :
  ∃ bk off,J4 lv=some bk/\V5 (E b).toEnv ts lv (.int .i64 (i:Int))=some (pO bk off)/\Wy h bk off 2=some (.agg ⟨[.int .i64 p.code,p.val]⟩):=by
 have hl:i < os.length:=(List.getElem?_eq_some_iff.1 hp).1;obtain⟨bk,off,h1,h2, -,h3⟩:=Q7o T hz o (k:=.i64) (i:=(i:Int)) (by omega) (by omega);refine⟨bk,off,h1,h2,?_⟩;rw[h3];have : ∀ (os:List OpV) (i:Nat),os[i]? = some p->((Qt0 os).drop (i*2)).take 2=[.int .i64 p.code,p.val]:=by
  intro os;induction os with
  | nil=>intro i hi;simp at hi
  | cons q os ih =>
   intro i hi;cases i with
   | zero=>simp at hi;subst hi;simp[Qt0,OpV.cells]
   | succ i =>
    have e:Qt0 (q::os)=.int .i64 q.code::q.val::Qt0 os:=rfl;rw[e,show(i+1)*2=i*2+1+1 by omega,List.drop_succ_cons,List.drop_succ_cons];exact ih i (by simpa using hi)
 simp only[aT];rw[this os i hp]
def Jvx(lv:Value)(os:List OpV)(h:Heap)(k:Nat)(s:St):Prop:=∃ (t:Tr Value) (h1:Heap) (o:Value) (i:Nat),s=⟨⟨23,t⟩,[],h1⟩/\t.get 3=some o/\t.get 6=some lv/\t.get 7=some (.int .i64 (os.length:Int))/\t.get 8=some (.int .i64 (i:Int))/\i<=os.length/\k=os.length-i/\OB h1 h.next o (Ja4 (os.take i))/\Old h h1
def Z67:∀ os:List OpV,(Ja4 os).length=(os.map fun o=>o.data.length+1).sum
 | []=>rfl
 | o::os=>by have:=Z67 os;simp[Ja4]at this ⊢;omega
section
attribute [local simp] Qnl Qyl Qgz Qt5 Qsy Qlp Qlo Qlf Jb Vz Ub Ua Zj Z8 
def Jps(b:Nat){h:Heap}{lv:Value}{os:List OpV}(row:Sl h 2 lv os.length (Qt0 os))(data:∀ o ∈ os,SB h o.val o.data)(hos:os.length < 1000)(hd:∀ o ∈ os,o.data.length<=1000)(K:KP)(hk:∀ v' h',OB h' h.next v' (Ja4 os)->Old h h'->K (.ret v') h'):FK b 64 [lv] h K:=by
 refine F3 b (Qgz b) Y5x rfl ?_;have e0:∀ h1,Qkc (E b).toEnv 123 lv h1=some (.int .i64 (os.length:Int)):=fun h1=>Qa0 (Ja5 b) row;simp[e0];refine Qdf (Jvx lv os h) os.length ⟨_,h,.slice none 0 0,0,rfl,by simp,by simp,by simp,by simp,by omega,rfl,Own.nil,Old.refl _⟩ ?_;rintro k s' ⟨t,h1,o,i,rfl,t3,t6,t7,t8,hi,rfl,ho,hold⟩ _;by_cases hlt:i < os.length
 ·have hlt':(i:Int) < (os.length:Int):=by omega
  obtain⟨p,hp⟩:∃ p,os[i]? = some p:=⟨_,List.getElem?_eq_getElem hlt⟩;have hpm:=List.mem_of_getElem? hp;obtain⟨bk,off, -,x1,g1⟩:=Jnh (b:=b) (Ja5 b) Qwu (row.old hold) hp;have hw:=wS (i:=i) (by omega);have hst0:Ur (h1.push (.cells true 1 [.int .i64 0,.slice none 0 0])) h1.next 0 [.int .i64 p.code,p.val]=some ((h1.push (.cells true 1 [.int .i64 0,.slice none 0 0])).set h1.next (some (.cells true 1 [.int .i64 p.code,p.val]))):=by
   rw[Wh (by rw[Heap.get_push,if_pos rfl]) (by simp)];rfl
  obtain⟨h3,e3⟩:∃ h3,h3=(h1.push (.cells true 1 [.int .i64 0,.slice none 0 0])).set h1.next (some (.cells true 1 [.int .i64 p.code,p.val])):=⟨_,rfl⟩;have g3:h3.get h1.next=some (.cells true 1 [.int .i64 p.code,p.val]):=by rw[e3,gY (by simp only[Qmo];omega),if_pos rfl]
  have a13:Old h1 h3:=by rw[e3];exact(Old.push _ _).set _ (ab _) (by simp only[Qmo];omega)
  have n3:h3.next=h1.next+1:=by rw[e3,X2h,Qmo]
  rw[<- e3]at hst0;have hx1:Yw h3 h1.next 0=some (.int .i64 p.code):=by rw[Yi g3];rfl
  have ho3:OB h3 h.next o (Ja4 (os.take i)):=ho.keep fun c _ hc=>a13.2 c hc;have hlen:(Ja4 (os.take i)).length<=1001*i:=by
   rw[Z67];have : ∀ l:List OpV,(∀ o ∈ l,o.data.length<=1000)->(l.map fun o=>o.data.length+1).sum<=1001*l.length:=by
    intro l hl;induction l with
    | nil=>simp
    | cons o l ih=>have:=ih fun q hq=>hl q (by simp[hq]);have:=hl o (by simp);simp;omega
   refine ai (this _ fun o ho=>hd o (ce ho)) ?_;rw[br];omega
  have hdp:=hd p hpm;obtain⟨v1,h4,hA1,o4,b4⟩:=Z08 (b:=b) ho3 (ai hold.1 a13.1) (by omega) (IntKind.u8.wrap p.code);have hne:J4 o≠some h1.next:=fun e=>by have:=ho.out e;omega
  have hx2:Yw h4 h1.next 1=some p.val:=by rw[Yi (by rw[b4.2 _ (by omega) hne];exact g3)];rfl
  have hx2':Yw (h3.push (.cells true 1 [i8 (IntKind.u8.wrap p.code)])) h1.next 1=some p.val:=by rw[Yi (by rw[Heap.get_push,if_neg (by omega)];exact g3)];rfl
  have a4:Old h h4:=b4.old (hold.trans a13) ho3;have dp:SB h4 p.val p.data:=(data p hpm).old a4;obtain⟨v2,h5,hA2,o5,b5⟩:=Z61 (b:=b) o4 a4.1 dp (by rw[ae];simp;omega);simp only[i8]at hA1 hx2';simp[t3,t6,t7,t8,hlt',x1,g1,hst0];refine Qem [] (by simp) Yby Yj6 Yai (by simp[Ymt,Ysa,Yuo,t3,hx1,hx2,i8,Xie,hA1,hA2];exact⟨rfl,rfl⟩) ?_ ?_
  ·simp[Qip,t3,hx1,hx2,hx2',Xpl dp,Qwt]
  ·simp[t8,hw];refine⟨os.length-(i+1),by omega,_,h5,v2,i+1,rfl,by simp,by simp[t6],by simp[t7],by simp,by omega,rfl,?_,b5.old a4 o4⟩;have e1:Ja4 (os.take (i+1))=Ja4 (os.take i) ++ [IntKind.u8.wrap p.code]++p.data:=by
    rw[aQ,hp];simp[Ja4]
   rw[e1];exact o5
 ·have hlt':¬ (i:Int) < (os.length:Int):=by omega
  have : i=os.length:=by omega
  subst this;simp[t3,t6,t7,t8];refine hk o h1 ?_ hold;rwa [aj (ab _)]at ho
end
def Laid.old{h h':Heap}(hl:Ab.LaidIn h laidAll)(a:Old h h'):Ab.LaidIn h' laidAll:=fun x hx=>a.get (hl x hx)
def Zhy:∀ {os:List OpV} {i:Nat} {o:OpV},os[i]? = some o->(Qt0 os)[i*2]? = some (.int .i64 o.code)/\(Qt0 os)[i*2+1]? = some o.val
 | p::os,0,o,h=>by simp at h;subst h;simp[Qt0,OpV.cells]
 | p::os,i+1,o,h=>by
  have:=Zhy (os:=os) (i:=i) (o:=o) (by simpa using h);have e:Qt0 (p::os)=.int .i64 p.code::p.val::Qt0 os:=rfl;rw[e,show(i+1)*2=i*2+1+1 by omega];simpa using this
def Jpb{b:Nat}{h:Heap}{n0:Nat}{lv:Value}{os:List OpV}{te ts:TypeId}{re rs:TyRec}(T:SlTy (E b).toEnv te ts re rs)(hz:re.size=2)(o:Own h n0 2 lv os.length (Qt0 os)){i:Nat}{p:OpV}(hp:os[i]? = some p) :
  ∃ bk off,J4 lv=some bk/\V5 (E b).toEnv ts lv (.int .i64 (i:Int))=some (pO bk off)/\Yw h bk off=some (.int .i64 p.code)/\Yw h bk (off+1)=some p.val:=by
 have hl:i < os.length:=(List.getElem?_eq_some_iff.1 hp).1;obtain⟨bk,off,h1,h2,h3, -⟩:=Q7o T hz o.sl (k:=.i64) (i:=(i:Int)) (by omega) (by omega);obtain⟨q1,q2⟩:=Zhy hp;have e0:=h3 0 (by omega);have e1:=h3 1 (by omega);simp only[aT,bX]at e0 e1;exact⟨bk,off,h1,h2,by rw[e0,q1],by rw[e1,q2]⟩
def Zzy:∀ {f:Nat} {xs:List Int} {l:List (Int × List Int)},pz f xs=some l->∀ p ∈ l,p.2.length<=64
 | f,[],l,h=>by cases f <;> (simp[pz]at h;subst h;simp)
 | 0,_::_,l,h=>by simp[pz]at h
 | f+1,c::r,l,h=>by
  simp only[pz]at h;split at h
  ·rename_i hc;rw[ak]at h;obtain⟨l',h1,rfl⟩:=h;intro p hp;rcases ap.1 hp with rfl | hp
   ·simp only[br];omega
   ·exact Zzy h1 p hp
  ·split at h
   ·cases h
   ·rw[ak]at h;obtain⟨l',h1,rfl⟩:=h;intro p hp;rcases ap.1 hp with rfl | hp
    ·simp
    ·exact Zzy h1 p hp
structure Menv where
 nk:Value
 dig:List Value
 lk:Int
 hd:dig.length=32
def Menv.cells(e:Menv):List Value:=e.nk::e.dig ++ [.int .i64 e.lk]
def Menv.len(e:Menv):e.cells.length=34:=by simp[Menv.cells,e.hd]
structure Br where
 off:Bool
 dead:Bool
 turned:Bool
def Br.cells(x:Br):List Value:=[.bool x.off,.bool x.dead,.bool x.turned]
def Qkk(l:List Br):List Value:=l.flatMap Br.cells
def Xpi(l:List Br):(Qkk l).length=l.length*3:=by
 induction l with
 | nil=>rfl
 | cons x l ih=>simp[Qkk,Br.cells]at ih ⊢;omega
structure Itm (h:Heap) (MB:Nat->Prop) (v:Value) (x:List Int):Prop where
 sb:SB h v x
 by8:Bytes x
 out:∀ c,J4 v=some c->¬ MB c
structure Mv (MB MB':Nat->Prop) (h h':Heap):Prop where
 next:h.next<=h'.next
 same:∀ c,c < h.next->¬ MB c->h'.get c=h.get c
 sub:∀ c,MB' c->MB c∨h.next<=c
def Mv.refl(MB:Nat->Prop)(h:Heap):Mv MB MB h h:=⟨ab _,fun _ _ _=>rfl,fun _ h => .inl h⟩
def Mv.trans{A B C:Nat->Prop}{h h' h'':Heap}(a:Mv A B h h')(c:Mv B C h' h''):Mv A C h h'' :=
  ⟨ai a.next c.next,fun k hk hn=>by
    rw[c.same k (au hk a.next) (fun hb=>by
      rcases a.sub k hb with h | h
      · exact hn h
      · omega),a.same k hk hn],
   fun k hk=>by
    rcases c.sub k hk with h | h
    · exact a.sub k h
    · exact .inr (ai a.next h)⟩
def Mv.old{MB:Nat->Prop}{h h':Heap}(a:Old h h'):Mv MB MB h h':=⟨a.1,fun c hc _=>a.2 c hc,fun _ h => .inl h⟩
def Itm.mv{MB MB':Nat->Prop}{h h':Heap}{v:Value}{x:List Int}(i:Itm h MB v x)(m:Mv MB MB' h h'):Itm h' MB' v x :=
 ⟨i.sb.keep fun c hc hl=>m.same c hl (i.out c hc),i.by8,fun c hc hm=>by
  rcases m.sub c hm with h | h
  ·exact i.out c hc h
  ·have:=i.sb.blk hc;omega⟩
structure MRow (h:Heap) (MB:Nat->Prop) (μ:Nat) (e:Menv) (ps:List (Value × List Int)) (op:List Br) (sv ov:Value) (z:Nat):Prop where
 at':h.get μ=some (.cells true z (e.cells ++ [sv,ov]))
 mb:MB μ
 st:Own h 0 1 sv ps.length (ps.reverse.map (·.1))
 op:Own h 0 3 ov op.length (Qkk op.reverse)
 ms:∀ c,J4 sv=some c->MB c/\c≠μ
 mo:∀ c,J4 ov=some c->MB c/\c≠μ/\J4 sv≠some c
structure Mach (h:Heap) (MB:Nat->Prop) (μ:Nat) (e:Menv) (ps:List (Value × List Int)) (op:List Br):Prop where
 row:∃ sv ov z,MRow h MB μ e ps op sv ov z
 items:∀ p ∈ ps,Itm h MB p.1 p.2
 low:∀ c,MB c->c < h.next
def Jtt(e:Menv)(a c:Value):(e.cells ++ [a,c])[34]? = some a:=by rw[List.getElem?_append_right (by rw[e.len];omega),e.len];rfl
def Job(e:Menv)(a c:Value):(e.cells ++ [a,c])[35]? = some c:=by rw[List.getElem?_append_right (by rw[e.len];omega),e.len];rfl
def Jpf(e:Menv)(a c x:Value):(e.cells ++ [a,c]).set 34 x=e.cells ++ [x,c]:=by rw[bN _ _ (by rw[e.len];omega),e.len];rfl
def Jq2(e:Menv)(a c x:Value):(e.cells ++ [a,c]).set 35 x=e.cells ++ [a,x]:=by rw[bN _ _ (by rw[e.len];omega),e.len];rfl
def MRow.c34{h:Heap}{MB:Nat->Prop}{μ z:Nat}{e:Menv}{ps:List (Value × List Int)}{op:List Br}{sv ov:Value}(m:MRow h MB μ e ps op sv ov z):Yw h μ 34=some sv:=by rw[Yi m.at',Jtt]
def MRow.c35{h:Heap}{MB:Nat->Prop}{μ z:Nat}{e:Menv}{ps:List (Value × List Int)}{op:List Br}{sv ov:Value}(m:MRow h MB μ e ps op sv ov z):Yw h μ 35=some ov:=by rw[Yi m.at',Job]
def MRow.s34{h:Heap}{MB:Nat->Prop}{μ z:Nat}{e:Menv}{ps:List (Value × List Int)}{op:List Br}{sv ov:Value}(m:MRow h MB μ e ps op sv ov z)(x:Value):Ur h μ 34 [x]=some (h.set μ (some (.cells true z (e.cells ++ [x,ov])))):=by rw[Qeu m.at' (by simp[e.len]),Jpf]
def MRow.s35{h:Heap}{MB:Nat->Prop}{μ z:Nat}{e:Menv}{ps:List (Value × List Int)}{op:List Br}{sv ov:Value}(m:MRow h MB μ e ps op sv ov z)(x:Value):Ur h μ 35 [x]=some (h.set μ (some (.cells true z (e.cells ++ [sv,x])))):=by rw[Qeu m.at' (by simp[e.len]),Jq2]
def Qec(a:Addr):Xzw (.pointer (some a))=some (.pointer (some a)):=Eq.trans rfl rfl
def pe(z:Int):List PanicEntry:=[{v:=.iface 39 (.int .i64 z),recovered:=false}]
section
attribute [local simp] X1
def Xut(b:Nat)(h:Heap)(z:Int)(K:KP)(hk:K (.ret (.tuple #[])) h):FK b 94 [.bool true,.int .i64 z] h K:=by
 refine F3 b (X1 b) Xva rfl ?_;simp[Q89,X8e,Jpj];exact hk
def Xi8(b:Nat)(h:Heap)(z:Int)(K:KP)(hk:K (.panic (pe z)) h):FK b 94 [.bool false,.int .i64 z] h K:=by
 refine F3 b (X1 b) Xva rfl ?_;simp[Q89,X8e,Jpj];exact hk
def Xee(b:Nat){h:Heap}{MB:Nat->Prop}{μ:Nat}{e:Menv}{op:List Br}(M:Mach h MB μ e [] op)(K:KP)(hk:K (.panic (pe 16)) h):FK b 114 [pO μ 0] h K:=by
 refine F3 b (Qq b) Q3l rfl ?_;obtain⟨⟨sv,ov,z,r⟩, -, -⟩:=M;have e0:∀ h1,Qkc (E b).toEnv 66 sv h1=some (.int .i64 0):=fun h1=>Qa0 (T66 b) r.st.sl;simp[Wf,Qbb,Qq,Qcu,Qbm,Z8,Qec,r.c34,e0];refine Xi8 b h 16 _ ?_;simp[Wf,Qbb,Qq,Qcu,Qbm,Z8];exact hk
def Qyd(b:Nat){h:Heap}{MB:Nat->Prop}{μ:Nat}{e:Menv}{v:Value}{x:List Int}{ps:List (Value × List Int)}{op:List Br}(M:Mach h MB μ e ((v,x)::ps) op)(hl:ps.length < 1000)(K:KP)(hk:∀ h',Mach h' MB μ e ps op->Mv MB MB h h'->h'.next=h.next->Itm h' MB v x->(∀ ov,Yw h μ 35=some ov->Yw h' μ 35=some ov)->K (.ret v) h'):FK b 114 [pO μ 0] h K:=by
 refine F3 b (Qq b) Q3l rfl ?_;obtain⟨⟨sv,ov,z,r⟩,its,low⟩:=M;have e0:∀ h1,Qkc (E b).toEnv 66 sv h1=some (.int .i64 ((ps.length:Int)+1)):=fun h1=>by have:=Qa0 (T66 b) r.st.sl (h1:=h1);simpa using this
 have h0:(0:Int) < (ps.length:Int)+1:=by omega
 have hw:IntKind.i64.wrap (ps.length:Int)=(ps.length:Int):=Uq (by omega) (by omega);obtain⟨bk,o,q1,q2,q3, -⟩:=Q7o (T66 b) Qic r.st.sl (k:=.i64) (i:=(ps.length:Int)) (by omega) (by simp;try omega);have q4:Yw h bk o=some v:=by
  have:=q3 0 (by omega);simpa using this
 obtain⟨sv',t1,t2,t3⟩:=Zvv (T66 b) Qic (by omega) r.st (k:=.i64) (i:=(ps.length:Int)) (by omega) (by simp;try omega);have t2':Own h 0 1 sv' ps.length (ps.reverse.map (·.1)):=by simpa using t2
 have st:Qbw (E b).toEnv 66 (pO μ 34) sv' h=_:=(Jn0 b h μ 34 sv' t2'.one).trans (r.s34 sv');simp[Wf,Qbb,Qq,Qcu,Qbm,Z8,Qec,r.c34,e0,h0];refine Xut b h 16 _ ?_;simp[Wf,Qbb,Qq,Qcu,Qbm,Z8];refine Qem [] (by simp) Xf8 Xh4 Xe4 (by simp[Xkz,Wf,Qbb,Qq,Qcu,Qbm,Z8,Qec,r.c34,e0,hw,q2,q4];exact⟨rfl,rfl⟩) ?_ ?_
 ·simp[Qil,Wf,Qbb,Qq,Qcu,Qbm,Z8]
 simp[Wf,Qbb,Qq,Qcu,Qbm,Z8];have hos:Xzz (some sv) (some sv)=true:=Xxx r.st;refine Qem [] (by simp) Xfu Xhl Xf0 (by simp[Xjb,Xkn,Wf,Qbb,Qq,Qcu,Qbm,Z8,Qec,r.c34,e0,hw,t1,st];exact⟨rfl,rfl⟩) ?_ ?_
 ·simp[Qdw,Wf,Qbb,Qq,Qcu,Qbm,Z8,hos,r.c34]
 simp[Wf,Qbb,Qq,Qcu,Qbm,Z8];have hlt:=Heap.get_lt r.at';have mv:Mv MB MB h (h.set μ (some (.cells true z (e.cells ++ [sv',ov])))):=⟨ab _,fun c _ hn=>by rw[gY hlt,if_neg (fun q=>hn (by subst q;exact r.mb))],fun _ h => .inl h⟩;have kp:∀ c,c≠μ->(h.set μ (some (.cells true z (e.cells ++ [sv',ov])))).get c=h.get c:=fun c hc=>by rw[gY hlt,if_neg (Ne.symm hc)]
 refine hk _ ⟨⟨sv',ov,z,?_⟩,fun p hp=>(its p (by simp[hp])).mv mv,low⟩ mv rfl ((its (v,x) (by simp)).mv mv) fun ov9 q=>by
  rw[r.c35]at q;rw[Yi (by rw[gY hlt,if_pos rfl]),Job,q]
 exact⟨by rw[gY hlt,if_pos rfl],r.mb,t2'.keep fun c hc _=>kp c (r.ms c (t3 ▸ hc)).2,r.op.keep fun c hc _=>kp c (r.mo c hc).2.1,fun c hc=>r.ms c (t3 ▸ hc),fun c hc=>by rw[t3];exact r.mo c hc⟩
def Xsg(b:Nat){h:Heap}{MB:Nat->Prop}{μ:Nat}{e:Menv}{v:Value}{x:List Int}{ps:List (Value × List Int)}{op:List Br}(M:Mach h MB μ e ps op)(i:Itm h MB v x)(hl:ps.length < 16)(K:KP)(hk:∀ h' MB',Mach h' MB' μ e ((v,x)::ps) op->Mv MB MB' h h'->K (.ret (.tuple #[])) h'):FK b 111 [pO μ 0,v] h K:=by
  refine F3 b (X3 b) Q21 rfl ?_;obtain⟨⟨sv,ov,z,r⟩,its,low⟩:=M;have e0:∀ h1,Qkc (E b).toEnv 66 sv h1=some (.int .i64 (ps.length:Int)):=fun h1=>Qa0 (T66 b) r.st.sl;have h0:(ps.length:Int) < 16:=by omega
  have hv:=i.sb.one;obtain⟨hnt,hcl⟩:=Q29 hv;have hb:=Xlx (T66 b) (z:=1) Qic (by omega) (by omega) hnt (ys:=[v]) (by rw[hcl]) rfl (h:=h);obtain⟨sv',h2,a1,a2,a3,a4⟩:=Qtj (T66 b) Qic (by omega) r.st (bn _) (ys:=[v]) rfl (by rw[Yk0];omega) (by omega);have hlt:=Heap.get_lt r.at';have g2:h2.get μ=some (.cells true z (e.cells ++ [sv,ov])):=by rw[a3.2 μ hlt fun q=>(r.ms _ q).2 rfl];exact r.at'
  have st:Qbw (E b).toEnv 66 (pO μ 34) sv' h2=some (h2.set μ (some (.cells true z (e.cells ++ [sv',ov])))):=(Jn0 b h2 μ 34 sv' a2.one).trans (by rw[Qeu g2 (by simp[e.len]),Jpf]);simp[Qhp,Qob,X3,Qcu,Qbm,Qec,r.c34,e0,h0];refine Xut b h 16 _ ?_;simp[Qhp,Qob,X3,Qcu,Qbm,Qec,r.c34,e0,h0,hb,a1,st];have hlt2:μ < h2.next:=Heap.get_lt g2;have mv:Mv MB (fun c=>MB c∨J4 sv'=some c) h (h2.set μ (some (.cells true z (e.cells ++ [sv',ov])))) :=
    ⟨a3.1,fun c hc hn=>by rw[gY hlt2,if_neg (fun q=>hn (by subst q;exact r.mb)),a3.2 c hc (fun q=>hn (r.ms c q).1)],
     fun c hc=>by
      rcases hc with hc | hc
      · exact .inl hc
      · rcases a4 c hc with q | q
        · exact .inl (r.ms c q).1
        · exact .inr q⟩
  have nμ:∀ c,J4 sv'=some c->c≠μ:=fun c hc=>by
    rcases a4 c hc with q | q
    · exact(r.ms c q).2
    · omega
  refine hk _ _ ⟨⟨sv',ov,z,?_⟩,?_,?_⟩ mv
  · refine⟨by rw[gY hlt2,if_pos rfl],.inl r.mb,?_,?_,fun c hc=>⟨.inr hc,nμ c hc⟩,fun c hc=>⟨.inl (r.mo c hc).1,(r.mo c hc).2.1,fun q => ?_⟩⟩
    · have : Own h2 0 1 sv' ((v,x)::ps).length (((v,x)::ps).reverse.map (·.1)):=by simpa using a2
      exact this.keep fun c hc _=>by rw[gY hlt2,if_neg (Ne.symm (nμ c hc))]
    · exact r.op.keep fun c hc hlt3=>by rw[gY hlt2,if_neg (Ne.symm (r.mo c hc).2.1),a3.2 c hlt3 (r.mo c hc).2.2]
    · rcases a4 c q with q | q
      · exact(r.mo c hc).2.2 q
      · have:=r.op.out hc;omega
  · intro p hp
    simp only[ap]at hp;rcases hp with rfl | hp
    · exact i.mv mv
    · exact(its p hp).mv mv
  · rintro c (hc | hc)
    · exact au (low c hc) a3.1
    · exact a2.out hc
def Xnu(b:Nat){h:Heap}{MB:Nat->Prop}{μ:Nat}{e:Menv}{v:Value}{ps:List (Value × List Int)}{op:List Br}(M:Mach h MB μ e ps op)(hl:16<=ps.length)(K:KP)(hk:K (.panic (pe 16)) h):FK b 111 [pO μ 0,v] h K:=by
 refine F3 b (X3 b) Q21 rfl ?_;obtain⟨⟨sv,ov,z,r⟩,its,low⟩:=M;have e0:∀ h1,Qkc (E b).toEnv 66 sv h1=some (.int .i64 (ps.length:Int)):=fun h1=>Qa0 (T66 b) r.st.sl;have h0:¬ (ps.length:Int) < 16:=by omega
 simp[Qhp,Qob,X3,Qcu,Qbm,Qec,r.c34,e0,h0];refine Xi8 b h 16 _ ?_;simp[Qhp,Qob,X3,Qcu,Qbm];exact hk
end
def isT(x:List Int):Bool:=x.any fun z=>z != 0
def TLI(v:Value)(xs:List Int)(h:Heap)(k:Nat)(s:St):Prop:=∃ (t:Tr Value) (h1:Heap) (w:Value) (ys:List Int),s=⟨⟨21,t⟩,[],h1⟩/\t.get 0=some w/\t.get 1=some zU/\SB h1 w ys/\Old h h1/\k=ys.length/\ys.length<=xs.length/\isT ys=isT xs/\t.get 4=some (.slice none 0 0)
section
attribute [local simp] Qih Qqh Qbi Qmu Qwi Q4p Qmy Qm1 Ye Qlu
def Jif(b:Nat){h:Heap}{v:Value}{xs:List Int}(s:SB h v xs)(hn:xs.length < 1000000000)(K:KP)(hk:∀ w ys h',SB h' w ys->ys.length<=xs.length->isT ys=isT xs->(ys=[]∨ys.head? ≠ some 0)->Old h h'->K (.ret w) h'):FK b 132 [v,.int .u8 0] h K:=by
 refine F3 b (Qbi b) Xqq rfl ?_;simp;refine Qdf (TLI v xs h) xs.length ⟨_,h,v,xs,rfl,by simp,by simp,s,Old.refl _,rfl,ab _,rfl,by simp⟩ ?_;rintro k s' ⟨t,h1,w,ys,rfl,t0,t1,sw,hold,rfl,hle,hT,t4⟩ _;have e0:=fun h1=>Qmi (b:=b) (h1:=h1) sw;cases ys with
 | nil =>
  simp at e0;simp[t0,t1,t4,e0];exact hk _ [] h1 Sl.nil (by simp) hT (.inl rfl) hold
 | cons z r =>
  obtain⟨bk,off,hblk,hix,hld⟩:=Zg3 (b:=b) sw (k:=.i64) (i:=0) (z:=z) rfl;have hpos:(0:Int) < (r.length:Int)+1:=by omega
  have hne:¬ ((r.length:Int)+1=0):=by omega
  simp at e0 hix;by_cases hz:z=0
  ·subst hz;obtain⟨w',h2,q1,q2,q3,q4,q5⟩:=Zpw (b:=b) sw (k:=.i64) (i:=1) (by omega) (by simp;omega);simp only[i8]at hld;simp[t0,t1,t4,e0,hpos,hix,hld,q1];exact⟨r.length,by omega,_,h2,w',r,rfl,by simp,by simp[t1],by simpa using q2,hold.trans q3,rfl,by simp at hle;omega,by rw[<- hT];simp[isT],by simp[t4]⟩
  ·simp only[i8]at hld;simp[t0,t1,t4,e0,hpos,hne,hix,hld,hz];exact hk w (z::r) h1 sw hle hT (.inr (by simpa using hz)) hold
end
def TRI(v:Value)(xs:List Int)(h:Heap)(k:Nat)(s:St):Prop:=∃ (t:Tr Value) (w:Value) (ys:List Int),s=⟨⟨24,t⟩,[],h⟩/\t.get 0=some w/\t.get 1=some zU/\SB h w ys/\k=ys.length/\ys.length<=xs.length/\isT ys=isT xs/\t.get 4=some (.slice none 0 0)
section
attribute [local simp] Qhx Qof Qas Qm0 Qwi Q4p Qlv Ql2
def Jft(b:Nat){h:Heap}{v:Value}{xs:List Int}(s:SB h v xs)(hn:xs.length < 1000000000)(K:KP)(hk:∀ w ys,SB h w ys->ys.length<=xs.length->isT ys=isT xs->K (.ret w) h):FK b 133 [v,.int .u8 0] h K:=by
 refine F3 b (Qas b) Xmn rfl ?_;simp;refine Qdf (TRI v xs h) xs.length ⟨_,v,xs,rfl,by simp,by simp,s,rfl,ab _,rfl,by simp⟩ ?_;rintro k s' ⟨t,w,ys,rfl,t0,t1,sw,rfl,hle,hT,t4⟩ _;have e0:=fun h1=>Qmi (b:=b) (h1:=h1) sw;rcases List.eq_nil_or_concat ys with rfl | ⟨r,z,rfl⟩
 ·simp at e0;simp[t0,t1,t4,e0];exact hk _ [] sw (by simp) hT
 ·rw[List.concat_eq_append]at *;obtain⟨bk,off,hblk,hix,hld⟩:=Zg3 (b:=b) sw (k:=.i64) (i:=r.length) (z:=z) (by simp);have hpos:(0:Int) < (r.length:Int)+1:=by omega
  have hwr:IntKind.i64.wrap (r.length:Int)=(r.length:Int):=by
   simp at hle;exact Uq (by omega) (by omega)
  simp at e0 hix;simp only[i8]at hld;by_cases hz:z=0
  ·subst hz;obtain⟨w',q1,q2,q3⟩:=Jqk (b:=b) sw (k:=.i64) (i:=(r.length:Int)) (by omega) (by simp;try omega);simp[t0,t1,t4,e0,hpos,hix,hld,hwr,q1];exact⟨r.length,by simp,_,w',r,rfl,by simp,by simp[t1],by simpa using q2,rfl,by simp at hle;omega,by rw[<- hT];simp[isT],by simp[t4]⟩
  ·simp[t0,t1,t4,e0,hpos,hix,hld,hwr,hz];exact hk w (r ++ [z]) sw hle hT
end
section
attribute [local simp] Qpl 
def Jl2(b:Nat){h:Heap}{v:Value}{xs:List Int}(s:SB h v xs)(hn:xs.length < 1000000000)(K:KP)(hk:∀ w (n:Nat) h',(∀ h1,Qkc (E b).toEnv 45 w h1=some (.int .i64 n))->decide (0 < n)=isT xs->Old h h'->K (.ret w) h'):FK b 118 [v,.string ⟨⟨[0]⟩⟩] h K:=by
 refine F3 b (Qpl b) Y4q rfl ?_;have e0:=fun h1=>Qmi (b:=b) (h1:=h1) s;have e2:Zyp (E b).toEnv 9 (.string ⟨⟨[0]⟩⟩) (.int .i64 0)=some zU:=kR
 have e3:Qfz (binOp .eql 9 (.string ⟨⟨[0]⟩⟩) (.string ⟨⟨[]⟩⟩))=some (.bool false):=kR
 have e4:(ByteArray.mk ⟨[0]⟩).size=1:=by rfl
 cases xs with
 | nil =>
  simp at e0;simp[Qth,Q3v,Ye,Qxm,Jrx,Zxu,Qun,Qt8,Qas,Qbi,e0];exact hk _ 0 h (fun _=>by kernel_rfl) (by simp[isT]) (Old.refl _)
 | cons z tl =>
  have hne:¬ ((tl.length:Int)+1=0):=by omega
  simp at e0;obtain⟨_,_,c1,n1,w1,ys1,rfl,rfl,s1,l1,t1⟩:=Jft b s hn (fun r h' => ∃ w ys,r=.ret w/\h=h'/\SB h w ys/\ys.length<=(z::tl).length/\isT ys=isT (z::tl)) (fun w ys q1 q2 q3=>⟨w,ys,rfl,rfl,q1,q2,q3⟩);obtain⟨_,h2,c2,n2,w2,ys2,rfl,s2,l2,t2,hd2,old2⟩:=Jif b s1 (by omega) (fun r h' => ∃ w ys,r=.ret w/\SB h' w ys/\ys.length<=ys1.length/\isT ys=isT ys1/\(ys=[]∨ys.head? ≠ some 0)/\Old h h') (fun w ys h' q1 q2 q3 q4 q5=>⟨w,ys,rfl,q1,q2,q3,q4,q5⟩);simp[Qth,Q3v,Ye,Qxm,Jrx,Zxu,Qun,Qt8,Qas,Qbi,e0,hne,e2,e3,e4];refine Qem [⟨133,[v,.int .u8 0],h,w1,h,true⟩,⟨132,[w1,.int .u8 0],h,w2,h2,true⟩] ?_ Ycw Yl8 Ybf (by simp[Yp6,Yst,Yuc,Qth,Q3v,Ye,Qxm,Jrx,Zxu,Qun,Qt8,Qas,Qbi,e2,Qud];exact⟨rfl,rfl⟩) ?_ ?_
  ·exact zk2 ⟨c1,n1,fun _ _ _=>rfl⟩ ⟨c2,n2,fun _ c hc=>old2.2 c hc⟩
  ·simp[Qi6,Qth,Q3v,Ye,Qxm,Jrx,Zxu,Qun,Qt8,Qas,Qbi,e2]
  simp[Qth,Q3v,Ye,Qxm,Jrx,Zxu,Qun,Qt8,Qas,Qbi];refine hk w2 ys2.length h2 (fun h1=>Qmi s2) ?_ old2;rw[<- t1,<- t2];cases ys2 with
  | nil=>simp[isT]
  | cons y l =>
   have : y≠0:=by simpa using hd2
   simp[isT,this]
def Yzj(b:Nat){h:Heap}{v:Value}{xs:List Int}(s:SB h v xs)(hn:xs.length < 1000000000)(K:KP)(hk:∀ h',Old h h'->K (.ret (.bool (isT xs))) h'):FK b 97 [v] h K:=by
 refine F3 b (Xc b) Yft rfl ?_;simp[Q3f,Xuk,Xc];refine Jl2 b s hn _ fun w n h' q1 q2 q3 => ?_;have e:decide ((0:Int) < (n:Int))=isT xs:=by rw[<- q2];congr 1;simp
 simp[Q3f,Xuk,Xc,q1,-Int.natCast_pos,e];exact hk h' q3
end
def Mach.old{h h':Heap}{MB:Nat->Prop}{μ:Nat}{e:Menv}{ps:List (Value × List Int)}{op:List Br}(M:Mach h MB μ e ps op)(a:Old h h'):Mach h' MB μ e ps op:=by
 obtain⟨⟨sv,ov,z,r⟩,its,low⟩:=M;refine⟨⟨sv,ov,z,?_⟩,fun p hp=>(its p hp).mv (Mv.old a),fun c hc=>au (low c hc) a.1⟩;exact⟨a.get r.at',r.mb,r.st.keep fun c _ hc=>a.2 c hc,r.op.keep fun c _ hc=>a.2 c hc,r.ms,r.mo⟩
def Itm.nil{h:Heap}{MB:Nat->Prop}:Itm h MB (.slice none 0 0) []:=⟨Sl.nil,(fun _ h=>by cases h),(fun _ h=>by cases h)⟩
def Jik(x:Bool):List Int:=if x then [1]else []
def Itm.new{h:Heap}{MB:Nat->Prop}(low:∀ c,MB c->c < h.next){xs:List Int}(hb:Bytes xs)(hl:xs.length < 1000000):Itm (h.push (.cells true 1 (xs.map i8))) MB (.slice (some ⟨h.next,0,none⟩) xs.length xs.length) xs:=by
 refine⟨(Own.new (n0:=0) (bn _) (by rw[Heap.get_push,if_pos rfl]) (by simp) (by unfold Ql9;omega) (.inr rfl)).sl,hb,fun c hc hm => ?_⟩;cases hc;exact absurd (low _ hm) (Nat.lt_irrefl _)
section
attribute [local simp] Qd1 Qga Xe X3
def Jd6(b:Nat){h:Heap}{MB:Nat->Prop}{μ:Nat}{e:Menv}{ps:List (Value × List Int)}{op:List Br}(x:Bool)(M:Mach h MB μ e ps op)(K:KP)(hk:ps.length < 16->∀ v h' MB',Mach h' MB' μ e ((v,Jik x)::ps) op->Mv MB MB' h h'->K (.ret (.tuple #[])) h')
  (hp:16<=ps.length->∀ h',Old h h'->K (.panic (pe 16)) h'):FK b 115 [pO μ 0,.bool x] h K:=by
 refine F3 b (Xe b) Xnx rfl ?_;cases x with
 | true =>
  have i:=Itm.new (h:=h) (MB:=MB) M.low (xs:=[1]) (by intro z hz;simp at hz;omega) (by simp);simp[Xie];by_cases hl:ps.length < 16
  ·refine Xsg b (M.old (Old.push _ _)) i hl _ fun h' MB' q1 q2 => ?_;simp;exact hk hl _ h' MB' q1 ((Mv.old (Old.push _ _)).trans q2)
  ·refine Xnu b (M.old (Old.push _ _)) (by omega) _ ?_;simp;exact hp (by omega) _ (Old.push _ _)
 | false =>
  simp;by_cases hl:ps.length < 16
  ·refine Xsg b M Itm.nil hl _ fun h' MB' q1 q2 => ?_;simp;exact hk hl _ h' MB' q1 q2
  ·refine Xnu b M (by omega) _ ?_;simp;exact hp (by omega) _ (Old.refl _)
end
def Jgw:List Br->Bool
 | []=>false
 | x::_=>x.off
def Jts(b:Nat){h:Heap}{ov:Value}{x:Br}{r:List Br}(o:Own h 0 3 ov (x::r).length (Qkk (x::r).reverse))(k:IntKind):∃ bk o1,J4 ov=some bk/\V5 (E b).toEnv 160 ov (.int k (r.length:Int))=some (pO bk o1)/\Yw h bk o1=some (.bool x.off)/\Yw h bk (o1+1)=some (.bool x.dead)/\Yw h bk (o1+2)=some (.bool x.turned):=by
 obtain⟨bk,o1,q1,q2,q3, -⟩:=Q7o (Jgb b) Xzu o.sl (k:=k) (i:=(r.length:Int)) (by omega) (by simp;try omega);have e1:Qkk (x::r).reverse=Qkk r.reverse++x.cells:=by simp[Qkk]
 have e2:(Qkk r.reverse).length=r.length*3:=by rw[Xpi];simp
 have g:∀ j,j < 3->Yw h bk (o1+j)=x.cells[j]? := fun j hj=>by
  rw[q3 j hj,e1,aT,<- e2,List.getElem?_append_right (Nat.le_add_right _ _),de]
 exact⟨bk,o1,q1,q2,g 0 (by omega),g 1 (by omega),g 2 (by omega)⟩
section
attribute [local simp] Qcc Qf4 Qx Qdt Uk Qdc Qk0 Qby Xxm
def Xy6(b:Nat){h:Heap}{MB:Nat->Prop}{μ:Nat}{e:Menv}{ps:List (Value × List Int)}{op:List Br}(M:Mach h MB μ e ps op)(hl:op.length < 1000)(K:KP)(hk:K (.ret (.bool (Jgw op))) h):FK b 113 [pO μ 0] h K:=by
 refine F3 b (Qx b) Xrn rfl ?_;obtain⟨⟨sv,ov,z,r⟩,its,low⟩:=M;have e0:∀ h1,Qkc (E b).toEnv 160 ov h1=some (.int .i64 (op.length:Int)):=fun h1=>Qa0 (Jgb b) r.op.sl;simp;cases op with
 | nil =>
  simp at e0;refine Qem [] (by simp) Qxu Qyy Qxr (by simp[Q07,Q04,Qec,r.c35,e0];exact⟨rfl,rfl⟩) ?_ ?_
  ·simp[Qfj]
  simp;exact hk
 | cons x l =>
  obtain⟨bk,o1,q1,q2,g0',g1,g2⟩:=Jts b r.op .i64;have h0:(0:Int) < (l.length:Int)+1:=by omega
  have hw:IntKind.i64.wrap (l.length:Int)=(l.length:Int):=by
   simp at hl;exact Uq (by omega) (by omega)
  simp at e0;refine Qem [] (by simp) Qxu Qyy Qxr (by simp[Q07,Q04,Qec,r.c35,e0,h0,hw,q2,g0'];exact⟨rfl,rfl⟩) ?_ ?_
  ·simp[Qfj]
  simp;exact hk
end
def Q34{h:Heap}{n0 z n:Nat}{v:Value}{xs:List Value}(o:Own h n0 z v n xs){bk i:Nat}(hb:J4 v=some bk)(hi:i < xs.length)(w:Value) :
  ∃ h',Ur h bk i [w]=some h'/\Own h' n0 z v n (xs.set i w)/\h'.next=h.next/\∀ c,c≠bk->h'.get c=h.get c:=by
 rcases o with⟨rfl,rfl,rfl⟩ | ⟨bk',c,z',rest,rfl,h1,h2,h3,h4,h5,h6⟩
 ·cases hb
 ·simp only[J4,ar]at hb;subst hb;have hlt:=Heap.get_lt h2;refine⟨_,Qeu h2 (by simp;omega),.inr ⟨bk',c,z',rest,rfl,h1,by rw[gY hlt,if_pos rfl,List.set_append_left _ _ hi],by simpa using h3,h4,h5,by simpa using h6⟩,rfl,fun k hk=>by rw[gY hlt,if_neg (Ne.symm hk)]⟩
def Jkp(b:Nat){h:Heap}{ov:Value}{x:Br}{r:List Br}(o:Own h 0 3 ov (x::r).length (Qkk (x::r).reverse)):∃ bk,J4 ov=some bk/\V5 (E b).toEnv 160 ov (.int .i64 (r.length:Int))=some (pO bk (r.length*3))/\∀ h1 x1,Own h1 0 3 ov (x::r).length (Qkk r.reverse++x1)->x1.length=3->∀ j,j < 3->Yw h1 bk (r.length*3+j)=x1[j]? := by
 have e2:(Qkk r.reverse).length=r.length*3:=by rw[Xpi];simp
 rcases o with⟨_,h,_⟩ | ⟨bk',c,z',rest,rfl,h1,h2,h3,h4,h5,h6⟩
 ·cases h
 ·refine⟨bk',rfl,?_,fun k x1 ho hx1 j hj => ?_⟩
  ·rw[Qk0 b ⟨by omega,by simp;try omega⟩];simp
  ·rcases ho with⟨h,_⟩ | ⟨bk2,c2,z2,rest2,e,g1,g2,g3⟩
   ·cases h
   ·simp only[Value.slice.injEq,ar,Addr.mk.injEq]at e;obtain⟨⟨rfl,_⟩,_⟩:=e;rw[Yi g2,aM,List.getElem?_append_right (by omega),e2,de,List.getElem?_append_left (by omega)]
def brF(code:Int)(st:List (List Int))(op:List Br):Option (Option (List (List Int) × List Br)) :=
 if code=136 then some (if Jgw op then some (st,⟨true,true,false⟩::op)else match st with
  | []=>none
  | x::r=>some (r,⟨!isT x,false,false⟩::op))
 else if code=137∨code=138 then some (match op with
  | []=>none
  | x::l=>if code=138 then some (st,l)else if x.turned then none else some (st,⟨x.dead || !x.off,x.dead,true⟩::l))
 else none
def MOk(MB:Nat->Prop)(h:Heap)(μ:Nat)(e:Menv)(st:List (List Int))(op:List Br)(h':Heap):Prop:=∃ ps MB',ps.map (·.2)=st/\Mach h' MB' μ e ps op/\Mv MB MB' h h'
def Z2o(MB:Nat->Prop)(h h':Heap):Prop:=∃ MB',Mv MB MB' h h'
def Z6a(b:Nat)(x y:Bool):Qn1 (E b).toEnv 206 [(0,.bool x),(1,.bool y)]=some (.agg ⟨[.bool x,.bool y,.bool false]⟩):=kR
def Mach.opened{b:Nat}{h:Heap}{MB:Nat->Prop}{μ:Nat}{e:Menv}{ps:List (Value × List Int)}{op:List Br}(M:Mach h MB μ e ps op)(hl:op.length < 1000){ov:Value}(hov:Yw h μ 35=some ov)(x y:Bool) :
    ∃ ov' h2,W7 (E b).toEnv 160 1 [(0,.agg ⟨[.bool x,.bool y,.bool false]⟩)] h=some (.slice (some ⟨h.next,0,none⟩) 1 1,h.push (.cells true 1 [.bool x,.bool y,.bool false])) /\
      Qjr (E b).toEnv 160 160 ov (.slice (some ⟨h.next,0,none⟩) 1 1) (h.push (.cells true 1 [.bool x,.bool y,.bool false]))=some (ov',h2) /\
      ∃ h3,Qbw (E b).toEnv 160 (pO μ 35) ov' h2=some h3/\Xzz (some ov) (some ov)=true/\∃ MB',Mach h3 MB' μ e ps (⟨x,y,false⟩::op)/\Mv MB MB' h h3:=by
  obtain⟨⟨sv,ov0,z,r⟩,its,low⟩:=M;rw[r.c35]at hov;cases hov;have hbl:=Xlx (Jgb b) (z:=3) Xzu (by omega) (by omega) (y:=.agg ⟨[.bool x,.bool y,.bool false]⟩) rfl (ys:=[.bool x,.bool y,.bool false]) rfl rfl (h:=h);obtain⟨ov',h2,a1,a2,a3,a4⟩:=Qtj (Jgb b) Xzu (by omega) r.op (bn _) (ys:=[.bool x,.bool y,.bool false]) rfl (by rw[Z97];omega) (by omega);have hlt:=Heap.get_lt r.at';have g2:h2.get μ=some (.cells true z (e.cells ++ [sv,ov])):=by rw[a3.2 μ hlt fun q=>(r.mo _ q).2.1 rfl];exact r.at'
  have hlt2:μ < h2.next:=Heap.get_lt g2;refine⟨ov',h2,hbl,a1,h2.set μ (some (.cells true z (e.cells ++ [sv,ov']))),?_,Xxx r.op,fun c=>MB c∨J4 ov'=some c,?_,?_⟩
  · exact(Jkq b h2 μ 35 ov' a2.one).trans (by rw[Qeu g2 (by simp[e.len]),Jq2])
  all_goals have mv:Mv MB (fun c=>MB c∨J4 ov'=some c) h (h2.set μ (some (.cells true z (e.cells ++ [sv,ov'])))) :=
    ⟨a3.1,fun c hc hn=>by rw[gY hlt2,if_neg (fun q=>hn (by subst q;exact r.mb)),a3.2 c hc (fun q=>hn (r.mo c q).1)],
     fun c hc=>by
      rcases hc with hc | hc
      · exact .inl hc
      · rcases a4 c hc with q | q
        · exact .inl (r.mo c q).1
        · exact .inr q⟩
  · have nμ:∀ c,J4 ov'=some c->c≠μ:=fun c hc=>by
      rcases a4 c hc with q | q
      · exact(r.mo c q).2.1
      · omega
    refine⟨⟨sv,ov',z,?_⟩,fun p hp=>(its p hp).mv mv,?_⟩
    · refine⟨by rw[gY hlt2,if_pos rfl],.inl r.mb,?_,?_,fun c hc=>⟨.inl (r.ms c hc).1,(r.ms c hc).2⟩,fun c hc=>⟨.inr hc,nμ c hc,fun q => ?_⟩⟩
      · exact r.st.keep fun c hc hlt3=>by rw[gY hlt2,if_neg (Ne.symm (r.ms c hc).2),a3.2 c hlt3 (fun q=>(r.mo c q).2.2 hc)]
      · have : Own h2 0 3 ov' (⟨x,y,false⟩::op:List Br).length (Qkk (⟨x,y,false⟩::op:List Br).reverse):=by simpa[Qkk,Br.cells]using a2
        exact this.keep fun c hc _=>by rw[gY hlt2,if_neg (Ne.symm (nμ c hc))]
      · rcases a4 c hc with q' | q'
        · exact(r.mo c q').2.2 q
        · have:=r.st.out q;omega
    · rintro c (hc | hc)
      · exact au (low c hc) a3.1
      · exact a2.out hc
  · exact mv
def Jtk(b:Nat){h:Heap}{MB:Nat->Prop}{μ:Nat}{e:Menv}{ps:List (Value × List Int)}{op:List Br}(M:Mach h MB μ e ps op)(h1:ps.length < 1000)(h2:op.length < 1000)(h3:∀ p ∈ ps,p.2.length < 1000000000)(K:KP)
  (hk:∀ st' op',brF 136 (ps.map (·.2)) op=some (some (st',op'))->∀ h',MOk MB h μ e st' op' h'->K (.ret (.bool true)) h')
  (hp:brF 136 (ps.map (·.2)) op=some none->∀ h',Z2o MB h h'->K (.panic (pe 16)) h'):CallOK Tryz.prog (E b).G 112 [pO μ 0,.int .i64 136] h K:=by
 refine Qh3 (E b) (Vy _ _) (Uf b) (Jd b) mixed (Ui b) (Qr b) Qen.1 Qen.2.1 Qen.2.2 rfl ?_;simp[Y7,Yj,Qr,Ye,Qx,Uk,Qdc,Qq,Xc,X1,Qk0,Y6,Qep,Xxm,Qpq,Qej,Qby,Y4,Y0,Y3];refine(Xy6 b M h2 _ ?_).ok;simp[Y7,Yj,Qr,Ye,Qx,Uk,Qdc,Qq,Xc,X1,Qk0,Y6,Qep,Xxm,Qpq,Qej,Qby,Y4,Y0,Y3];obtain⟨ov,hov⟩:∃ ov,Yw h μ 35=some ov:=by
  obtain⟨⟨sv,ov,z,r⟩,_,_⟩:=M;exact⟨ov,r.c35⟩
 cases hd:Jgw op with
 | true =>
  obtain⟨ov',h4,q1,q2,h5,q3,q4,MB',q5,q6⟩:=M.opened (b:=b) h2 hov true true;refine Qem [] (by simp) Qjs Qkj Qrx (by simp[Qtp,Qtr,Quo,Qux,Qto,Qtq,Y7,Yj,Qr,Ye,Qx,Uk,Qdc,Qq,Xc,X1,Qk0,Y6,Qep,Xxm,Qpq,Qej,Qby,Y4,Y0,Y3,Qec,hov,Z6a,q1,q2,q3];exact⟨rfl,rfl⟩) ?_ ?_
  ·simp[Js,Y7,Yj,Qr,Ye,Qx,Uk,Qdc,Qq,Xc,X1,Qk0,Y6,Qep,Xxm,Qpq,Qej,Qby,Y4,Y0,Y3,q4,hov]
  simp[Y7,Yj,Qr,Ye,Qx,Uk,Qdc,Qq,Xc,X1,Qk0,Y6,Qep,Xxm,Qpq,Qej,Qby,Y4,Y0,Y3];exact hk _ _ (by simp[brF,hd]) _ ⟨ps,MB',rfl,q5,q6⟩
 | false =>
  cases ps with
  | nil =>
   have hdl:X8o 8 114 #[.tmp 19] Uy Js 0=[⟨(some 12),.move (.tmp 0),0, "",#[],none⟩,⟨(some 13),.move (.tmp 0),0, "",#[],none⟩,⟨(some 14),.nilCheck (.tmp 13),0, "",#[],none⟩,⟨(some 15),.fieldAddr 162 (.tmp 14) 2,0, "",#[],none⟩,⟨(some 16),.load 160 (.tmp 15),0, "",#[],none⟩,⟨(some 17),.move (.tmp 5),0, "",#[],none⟩,⟨(some 18),.move (.tmp 17),0, "",#[],none⟩,⟨(some 19),.move (.tmp 0),0, "",#[],(some (6,false))⟩,⟨(some 20),.makeFunc (.func 114) #[(.tmp 19)] #[],0, "",#[],(some (6,false))⟩,⟨(some 21),.assign (.const (.bool false)),0, "",#[],(some (6,false))⟩,⟨(some 22),.assign (.const (.bool false)),0, "",#[],(some (6,false))⟩,⟨(some 23),.assign (.const (.bool false)),0, "",#[],none⟩,⟨(some 24),.move (.tmp 5),0, "",#[],none⟩,⟨(some 25),.assign (.const (.bool false)),0, "",#[],none⟩,⟨(some 26),.assign (.const (.bool false)),0, "",#[],none⟩,⟨(some 27),.assign (.const (.bool false)),0, "",#[],none⟩,⟨(some 28),.assign (.const (.bool false)),0, "",#[],none⟩,⟨(some 29),.assign (.const (.bool false)),0, "",#[],none⟩,⟨none,.assign (.const (.bool false)),0, "",#[],none⟩]:=kR
   refine Jsx (p0:=8) (d0:=20) (f:=114) (args:=#[.tmp 19]) (o:=(Qc0.toList[8]?).getD ⟨none,.move (.tmp 0),0, "",#[],none⟩) (c:={callee:=.value (.func 114),args:=#[.tmp 19],argTypes:=#[157]}) (l:=[pO μ 0]) (ch:=pe 16) (h':=h) rfl Qjs Qkj (by kernel_rfl) (by kernel_rfl) (by kernel_rfl) rfl rfl (by kernel_rfl) (by kernel_rfl) (by kernel_rfl) (by rw[hdl];simp[Q4d,X0n,Yxv,Yjr,Y7,Yj,Qr,Ye,Qx,Uk,Qdc,Qq,Xc,X1,Qk0,Y6,Qep,Xxm,Qpq,Qej,Qby,Y4,Y0,Y3,Qec,hov,X93];rfl) (by simp[Tr.get_put]) (by kernel_rfl) ?_ ?_
   ·exact(Xee b M (fun r h1=>r=.panic (pe 16)/\h1=h) ⟨rfl,rfl⟩).ok
   ·intro T hT;simp[Y7,Yj,Qr,Ye,Qx,Uk,Qdc,Qq,Xc,X1,Qk0,Y6,Qep,Xxm,Qpq,Qej,Qby,Y4,Y0,Y3];exact hp (by simp[brF,hd]) h ⟨MB,Mv.refl _ _⟩
  | cons p ps =>
   obtain⟨v,x⟩:=p;have hx:=h3 (v,x) (by simp);obtain⟨_,h4,c1,n1,rfl,M1,m1,e1,i1,k1⟩:=Qyd b M (by simp at h1;omega) (fun r h'=>r=.ret v/\Mach h' MB μ e ps op/\Mv MB MB h h'/\h'.next=h.next/\Itm h' MB v x/\(∀ ov,Yw h μ 35=some ov->Yw h' μ 35=some ov)) (fun h' q1 q2 q3 q4 q5=>⟨rfl,q1,q2,q3,q4,q5⟩);obtain⟨_,h5,c2,n2,rfl,a2⟩:=Yzj b i1.sb hx (fun r h'=>r=.ret (.bool (isT x))/\Old h4 h') (fun h' q=>⟨rfl,q⟩);have hov4:=k1 ov hov;have hov5:Yw h5 μ 35=some ov:=by
    obtain⟨⟨sv,ov1,z,r⟩,_,_⟩:=M1;rw[r.c35]at hov4;rw[Yi (a2.get r.at'),Job];exact hov4
   obtain⟨ov',h6,q1,q2,h7,q3,q4,MB',q5,q6⟩:=(M1.old a2).opened (b:=b) h2 hov5 (!isT x) false;refine Qem [⟨114,[pO μ 0],h,v,h4,false⟩,⟨97,[v],h4,.bool (isT x),h5,true⟩] ?_ Qjs Qkj Qrx (by simp[Qtp,Qtr,Quo,Qux,Qto,Qtq,Y7,Yj,Qr,Ye,Qx,Uk,Qdc,Qq,Xc,X1,Qk0,Y6,Qep,Xxm,Qpq,Qej,Qby,Y4,Y0,Y3,Qec,hov,Z6a,q1,q2,q3,Qud];exact⟨rfl,rfl⟩) ?_ ?_
   ·exact zk2 ⟨c1,n1,fun q=>by cases q⟩ ⟨c2,n2,fun _ c hc=>a2.2 c hc⟩
   ·simp[Js,Y7,Yj,Qr,Ye,Qx,Uk,Qdc,Qq,Xc,X1,Qk0,Y6,Qep,Xxm,Qpq,Qej,Qby,Y4,Y0,Y3,q4,hov,hov4,hov5]
   simp[Y7,Yj,Qr,Ye,Qx,Uk,Qdc,Qq,Xc,X1,Qk0,Y6,Qep,Xxm,Qpq,Qej,Qby,Y4,Y0,Y3];refine hk _ _ (by simp[brF,hd]) _ ⟨ps,MB',rfl,q5,m1.trans ((Mv.old a2).trans q6)⟩
section
attribute [local simp] Y7 Yj Qr Ye Qx Uk Qdc Qq Xc X1 Qk0 Y6 Qep Xxm Qpq Qej Qby Y4 Y0 Y3
def Xjs(b:Nat){h:Heap}{μ:Nat}{code:Int}(hc:brF code [] []=none)(K:KP)(hk:K (.ret (.bool false)) h):CallOK Tryz.prog (E b).G 112 [pO μ 0,.int .i64 code] h K:=by
 have c1:¬ code=136:=fun q=>by subst q;simp[brF]at hc
 have c2:¬ code=137:=fun q=>by subst q;simp[brF]at hc
 have c3:¬ code=138:=fun q=>by subst q;simp[brF]at hc
 refine Qh3 (E b) (Vy _ _) (Uf b) (Jd b) mixed (Ui b) (Qr b) Qen.1 Qen.2.1 Qen.2.2 rfl ?_;simp[c1,c2,c3];exact hk
def Jfi(b:Nat){h:Heap}{MB:Nat->Prop}{μ:Nat}{e:Menv}{ps:List (Value × List Int)}(M:Mach h MB μ e ps []){code:Int}(hc:code=137∨code=138)(K:KP)(hp:K (.panic (pe 16)) h):CallOK Tryz.prog (E b).G 112 [pO μ 0,.int .i64 code] h K:=by
 obtain⟨⟨sv,ov,z,r⟩,its,low⟩:=M;have e0:∀ h1,Qkc (E b).toEnv 160 ov h1=some (.int .i64 0):=fun h1=>Qa0 (Jgb b) r.op.sl;refine Qh3 (E b) (Vy _ _) (Uf b) (Jd b) mixed (Ui b) (Qr b) Qen.1 Qen.2.1 Qen.2.2 rfl ?_;rcases hc with rfl | rfl
 all_goals
  simp[Qec,r.c35,e0];refine(Xi8 b h 16 _ ?_).ok;simp;exact hp
def Jpk(b:Nat){h:Heap}{MB:Nat->Prop}{μ:Nat}{e:Menv}{ps:List (Value × List Int)}{x:Br}{l:List Br}(M:Mach h MB μ e ps (x::l))(hl:l.length < 1000)(K:KP)(hk:∀ h',Mach h' MB μ e ps l->Mv MB MB h h'->K (.ret (.bool true)) h'):CallOK Tryz.prog (E b).G 112 [pO μ 0,.int .i64 138] h K:=by
 obtain⟨⟨sv,ov,z,r⟩,its,low⟩:=M;have e0:∀ h1,Qkc (E b).toEnv 160 ov h1=some (.int .i64 ((l.length:Int)+1)):=fun h1=>by have:=Qa0 (Jgb b) r.op.sl (h1:=h1);simpa using this
 have h0:(0:Int) < (l.length:Int)+1:=by omega
 have hw:IntKind.i64.wrap (l.length:Int)=(l.length:Int):=Uq (by omega) (by omega);obtain⟨bk,q1,q2,q3⟩:=Jkp b r.op;obtain⟨ov',t1,t2,t3⟩:=Zvv (Jgb b) Xzu (by omega) r.op (k:=.i64) (i:=(l.length:Int)) (by omega) (by simp;try omega);have t2':Own h 0 3 ov' l.length (Qkk l.reverse):=by
  have e1:Qkk (x::l).reverse=Qkk l.reverse++x.cells:=by simp[Qkk]
  have e2:(Qkk l.reverse).length=l.length*3:=by rw[Xpi];simp
  rw[e1,aT,<- e2,dX]at t2;exact t2
 have st:Qbw (E b).toEnv 160 (pO μ 35) ov' h=_:=(Jkq b h μ 35 ov' t2'.one).trans (r.s35 ov');have hos:Xzz (some ov) (some ov)=true:=Xxx r.op;refine Qh3 (E b) (Vy _ _) (Uf b) (Jd b) mixed (Ui b) (Qr b) Qen.1 Qen.2.1 Qen.2.2 rfl ?_;simp[Qec,r.c35,e0,h0];refine(Xut b h 16 _ ?_).ok;simp;refine Qem [] (by simp) Qrz Qsl Qry (by simp[Qts,Qec,r.c35,e0,hw,q2];exact⟨rfl,rfl⟩) ?_ ?_
 ·simp[Qco]
 simp;refine Qem [] (by simp) Q2r Q4l Q47 (by simp[Q5a,Q64,Qec,r.c35,e0,hw,t1,st];exact⟨rfl,rfl⟩) ?_ ?_
 ·simp[Qaz,hos,r.c35]
 simp;have hlt:=Heap.get_lt r.at';have mv:Mv MB MB h (h.set μ (some (.cells true z (e.cells ++ [sv,ov'])))):=⟨ab _,fun c _ hn=>by rw[gY hlt,if_neg (fun q=>hn (by subst q;exact r.mb))],fun _ h => .inl h⟩;have kp:∀ c,c≠μ->(h.set μ (some (.cells true z (e.cells ++ [sv,ov'])))).get c=h.get c:=fun c hc=>by rw[gY hlt,if_neg (Ne.symm hc)]
 refine hk _ ⟨⟨sv,ov',z,?_⟩,fun p hp=>(its p hp).mv mv,low⟩ mv;exact⟨by rw[gY hlt,if_pos rfl],r.mb,r.st.keep fun c hc _=>kp c (r.ms c hc).2,t2'.keep fun c hc _=>kp c (r.mo c (t3 ▸ hc)).2.1,r.ms,fun c hc=>r.mo c (t3 ▸ hc)⟩
def Jnz(b:Nat){h:Heap}{MB:Nat->Prop}{μ:Nat}{e:Menv}{ps:List (Value × List Int)}{x:Br}{l:List Br}(M:Mach h MB μ e ps (x::l))(hl:l.length < 1000)(K:KP)(hk:x.turned=false->∀ h',Mach h' MB μ e ps (⟨x.dead || !x.off,x.dead,true⟩::l)->Mv MB MB h h'->K (.ret (.bool true)) h')
  (hp:x.turned=true->K (.panic (pe 16)) h):CallOK Tryz.prog (E b).G 112 [pO μ 0,.int .i64 137] h K:=by
 obtain⟨⟨sv,ov,z,r⟩,its,low⟩:=M;have e0:∀ h1,Qkc (E b).toEnv 160 ov h1=some (.int .i64 ((l.length:Int)+1)):=fun h1=>by have:=Qa0 (Jgb b) r.op.sl (h1:=h1);simpa using this
 have h0:(0:Int) < (l.length:Int)+1:=by omega
 have hw:IntKind.i64.wrap (l.length:Int)=(l.length:Int):=Uq (by omega) (by omega);have e1:Qkk (x::l).reverse=Qkk l.reverse++x.cells:=by simp[Qkk]
 have e2:(Qkk l.reverse).length=l.length*3:=by rw[Xpi];simp
 obtain⟨bk,q1,q2,q3⟩:=Jkp b r.op;have o0:=r.op;rw[e1]at o0;have g:=q3 h x.cells o0 rfl;have g2:Yw h bk (l.length*3+2)=some (.bool x.turned):=g 2 (by omega);obtain⟨h1,s1,o1,n1,k1⟩:=Q34 o0 q1 (i:=l.length*3+2) (by simp[e2,Br.cells]) (.bool true);have w1:(Qkk l.reverse++x.cells).set (l.length*3+2) (.bool true)=Qkk l.reverse ++ [Value.bool x.off,.bool x.dead,.bool true]:=by rw[bN _ _ (by omega),e2,de];rfl
 rw[w1]at o1;have f:=q3 h1 _ o1 rfl;have f0:Yw h1 bk (l.length*3)=some (.bool x.off):=f 0 (by omega);have f1:Yw h1 bk (l.length*3+1)=some (.bool x.dead):=f 1 (by omega);obtain⟨h2,s2,o2,n2,k2⟩:=Q34 o1 q1 (i:=l.length*3) (by simp[e2]) (.bool (x.dead || !x.off));have w2:(Qkk l.reverse ++ [Value.bool x.off,.bool x.dead,.bool true]).set (l.length*3) (.bool (x.dead || !x.off))=Qkk (⟨x.dead || !x.off,x.dead,true⟩::l:List Br).reverse:=by rw[bN _ _ (by omega),e2,dG];simp[Qkk,Br.cells]
 rw[w2]at o2;refine Qh3 (E b) (Vy _ _) (Uf b) (Jd b) mixed (Ui b) (Qr b) Qen.1 Qen.2.1 Qen.2.2 rfl ?_;simp[Qec,r.c35,e0,h0];refine(Xut b h 16 _ ?_).ok;simp;refine Qem [] (by simp) Qrz Qsl Qry (by simp[Qts,Qec,r.c35,e0,hw,q2];exact⟨rfl,rfl⟩) ?_ ?_
 ·simp[Qco]
 simp[Qec,g2];cases ht:x.turned with
 | true =>
  refine(Xi8 b h 16 _ ?_).ok;simp;exact hp ht
 | false =>
  refine(Xut b h 16 _ ?_).ok;have sb:bk≠μ/\J4 sv≠some bk:=(r.mo bk q1).2;have kk:∀ c,c≠bk->h2.get c=h.get c:=fun c hc=>by rw[k2 c hc,k1 c hc]
  have mv:Mv MB MB h h2:=⟨by omega,fun c _ hn=>kk c (fun q=>hn (by subst q;exact(r.mo _ q1).1)),fun _ h => .inl h⟩;have fin:Mach h2 MB μ e ps (⟨x.dead || !x.off,x.dead,true⟩::l):=by
   refine⟨⟨sv,ov,z,?_⟩,fun p hp=>(its p hp).mv mv,fun c hc=>by rw[n2,n1];exact low c hc⟩;exact⟨by rw[kk μ (Ne.symm sb.1)];exact r.at',r.mb,r.st.keep fun c hc _=>kk c (fun q=>sb.2 (by subst q;exact hc)),by simpa using o2,r.ms,r.mo⟩
  cases hd:x.dead with
  | true =>
   simp[hd]at f1 s2;simp[Qec,s1,f1,s2];exact hk ht h2 (by simpa[hd]using fin) mv
  | false =>
   simp[hd]at f1 s2;simp[Qec,s1,f1,f0,s2];exact hk ht h2 (by simpa[hd]using fin) mv
end
def Jv4(a b:Int):Int:=IntKind.wrap .i64 ((BitVec.ofInt 64 a ||| BitVec.ofInt 64 b).toNat:Nat)
def Jtc(x y:Int):Qfz (binOp .or 3 (.int .i64 x) (.int .i64 y))=some (.int .i64 (Jv4 x y)):=kR
def Jqg(x y:Int)(h:y=0∨y=8∨y=16∨y=24):Qfz (binOp .shl 3 (.int .i64 x) (.int .i64 y))=some (.int .i64 (IntKind.i64.wrap (x*2 ^ y.toNat))):=by
 rcases h with rfl | rfl | rfl | rfl
 ·exact(by kernel_rfl:Qfz (binOp .shl 3 (.int .i64 x) (.int .i64 0))=some (.int .i64 (IntKind.i64.wrap (x*2 ^ 0))))
 ·exact(by kernel_rfl:Qfz (binOp .shl 3 (.int .i64 x) (.int .i64 8))=some (.int .i64 (IntKind.i64.wrap (x*2 ^ 8))))
 ·exact(by kernel_rfl:Qfz (binOp .shl 3 (.int .i64 x) (.int .i64 16))=some (.int .i64 (IntKind.i64.wrap (x*2 ^ 16))))
 ·exact(by kernel_rfl:Qfz (binOp .shl 3 (.int .i64 x) (.int .i64 24))=some (.int .i64 (IntKind.i64.wrap (x*2 ^ 24))))
def Zdf(x:List Int):Nat->Int
 | 0=>0
 | i+1=>Jv4 (Zdf x i) (IntKind.i64.wrap (x.getD i 0*2 ^ (8*i)))
def UI(μ:Nat)(v:Value)(x:List Int)(h:Heap)(k:Nat)(s:St):Prop:=∃ (t:Tr Value) (i:Nat),s=⟨⟨35,t⟩,[],h⟩/\t.get 0=some (pO μ 0)/\t.get 12=some v/\t.get 13=some (.int .i64 4)/\t.get 14=some (.int .i64 (i:Int))/\t.get 3=some (.int .i64 (Zdf x i))/\i<=4/\k=4-i
def MRow.c33{h:Heap}{MB:Nat->Prop}{μ z:Nat}{e:Menv}{ps:List (Value × List Int)}{op:List Br}{sv ov:Value}(m:MRow h MB μ e ps op sv ov z):Yw h μ 33=some (.int .i64 e.lk):=by
 rw[Yi m.at',List.getElem?_append_left (by rw[e.len];omega)];simp[Menv.cells,e.hd]
section
attribute [local simp] Vx W4 X4 Qq Ye X1 Qwi Qhs Qhr Qfk Q0x Vz 
def Jgz(b:Nat){h:Heap}{MB:Nat->Prop}{μ:Nat}{e:Menv}{v:Value}{x:List Int}{ps:List (Value × List Int)}{op:List Br}(M:Mach h MB μ e ((v,x)::ps) op)(hl:ps.length < 1000)(K:KP)(hk:x.length=4->Zdf x 4<=e.lk->∀ h',Mach h' MB μ e ps op->Mv MB MB h h'->K (.ret (.tuple #[])) h')
  (h4:x.length≠4->∀ h',Mv MB MB h h'->K (.panic (pe 16)) h') (he:x.length=4->¬ Zdf x 4<=e.lk->∀ h',Mv MB MB h h'->K (.panic (pe 18)) h'):FK b 117 [pO μ 0] h K:=by
 refine F3 b (X4 b) Qzy rfl ?_;simp;refine Qyd b M hl _ fun h1 M1 m1 _ i1 _ => ?_;have len:=fun hx=>Qmi (b:=b) (h1:=hx) i1.sb;by_cases hx:x.length=4
 ·rw[hx]at len;have len4:∀ hx,Qkc (E b).toEnv 45 v hx=some (.int .i64 4):=len;simp[len4];refine Xut b h1 16 _ ?_;simp[len4];refine Qdf (UI μ v x h1) 4 ⟨_,0,rfl,by simp,by simp,by simp,by simp,by simp[Zdf],by omega,rfl⟩ ?_;rintro k s' ⟨t,i,rfl,t0,t12,t13,t14,t3,hi,rfl⟩ _;obtain⟨⟨sv,ov,z,r⟩,its,low⟩:=M1;by_cases hlt:i < 4
  ·have hlt':(i:Int) < 4:=by omega
   obtain⟨c,hc⟩:∃ c,x[i]? = some c:=⟨_,List.getElem?_eq_getElem (by omega)⟩;obtain⟨bk,off,q1,q2,q3⟩:=Zg3 (b:=b) i1.sb (k:=.i64) hc;have hb:=i1.by8 c (List.mem_of_getElem? hc);have w1:IntKind.i64.wrap c=c:=Uq (by omega) (by omega);have w2:IntKind.i64.wrap (8*(i:Int))=8*(i:Int):=Uq (by omega) (by omega);have w3:=wS (i:=i) (by omega);obtain⟨a1,ha1⟩:∃ a:Int,a=IntKind.i64.wrap (c*2 ^ (8*i)):=⟨_,rfl⟩;have sh:Qfz (binOp .shl 3 (.int .i64 c) (.int .i64 (8*(i:Int))))=some (.int .i64 a1):=by
    rw[Jqg c _ (by omega),ha1];congr 5
   have orr:Qfz (binOp .or 3 (.int .i64 (Zdf x i)) (.int .i64 a1))=some (.int .i64 (Zdf x (i+1))):=by
    rw[Jtc,ha1,Zdf,List.getD_eq_getElem?_getD,hc];rfl
   simp only[i8]at q3;simp[t0,t12,t13,t14,t3,hlt',q2,q3,w1,w2,w3,sh,orr];exact⟨4-(i+1),by omega,_,i+1,rfl,by simp[t0],by simp[t12],by simp[t13],by simp,by simp,by omega,rfl⟩
  ·have : i=4:=by omega
   subst this;have c33:=r.c33;by_cases hle:Zdf x 4<=e.lk
   ·simp[Qec,t0,t12,t13,t14,t3,c33,hle];refine Xut b h1 18 _ ?_;simp;exact hk hx hle h1 ⟨⟨sv,ov,z,r⟩,its,low⟩ m1
   ·simp[Qec,t0,t12,t13,t14,t3,c33,hle];refine Xi8 b h1 18 _ ?_;simp;exact he hx hle h1 m1
 ·have hx':¬ (x.length:Int)=4:=by omega
  simp[len,hx,hx'];refine Xi8 b h1 16 _ ?_;simp;exact h4 hx h1 m1
end
def Jnf(xs:List Int):ByteArray:=⟨⟨xs.map fun n=>UInt8.ofNat n.toNat⟩⟩
def Zhh:∀ xs:List Int,Xj9 (xs.map i8)=some xs
 | []=>rfl
 | x::xs=>by
  show(match Xj9 (xs.map i8)with | some r=>some (x::r) | none=>none)=_;rw[Zhh xs]
def Z6u(b:Nat){h:Heap}{v:Value}{xs:List Int}(s:SB h v xs):Xla (E b).toEnv 45 9 v h=some (.string (Jnf xs),h):=by
 have h1:R45.desc=.slice 5:=(T45 b).d;have h2:R9.desc=.string:=kR
 have h3:R5.desc=.int .u8:=kR
 rcases s with⟨c,rfl,_,e,e2⟩ | ⟨bk,o,c,ow,z',pre,post,rfl,g1,g2,g3, -⟩
 ·have : xs=[]:=List.map_eq_nil_iff.1 e2;subst this;simp only[Xla,Xp4,Juq,h1,h2,Z58,h3];rfl
 ·have h4:Ab.cellsAt h ⟨bk,o,none⟩ xs.length=some (xs.map i8):=by
   simp only[Ab.cellsAt,g1];rw[<- g2,aM,bZ,Q2o (by simp),aF (by simp),aj (by simp)]
  simp only[Xla,Xp4,Juq,h1,h2,Z58,h3,h4,Zhh];rfl
def Jgq(x y:ByteArray):Qfz (binOp .eql 9 (.string x) (.string y))=some (.bool (x.toList == y.toList)):=kR
def Jrb:∀ (xs ys:List Int),Bytes xs->Bytes ys->xs.map (fun n=>UInt8.ofNat n.toNat)=ys.map (fun n=>UInt8.ofNat n.toNat)->xs=ys:=by
 intro xs;induction xs with
 | nil=>intro ys _ _ e;cases ys <;> simp_all
 | cons x xs ih =>
  intro ys hx hy e;cases ys with
  | nil=>simp at e
  | cons y ys =>
   simp only[aE,bO]at e;have b1:=hx x (by simp);have b2:=hy y (by simp);have e3:=congrArg UInt8.toNat e.1;simp only[UInt8.toNat_ofNat']at e3;have : x=y:=by omega
   rw[this,ih ys (fun z hz=>hx z (by simp[hz])) (fun z hz=>hy z (by simp[hz])) e.2]
def Je3{xs ys:List Int}(hx:Bytes xs)(hy:Bytes ys):((Jnf xs).toList == (Jnf ys).toList)=decide (xs=ys):=by
 rw[ByteArray.toList_eq,ByteArray.toList_eq];show(xs.map (fun n=>UInt8.ofNat n.toNat) == ys.map (fun n=>UInt8.ofNat n.toNat))=decide (xs=ys);by_cases h:xs=ys
 ·subst h;simp
 ·rw[decide_eq_false h];simp only[beq_eq_false_iff_ne,ne_eq];exact fun e=>h (Jrb xs ys hx hy e)
def Z53(b:Nat){h:Heap}{v w:Value}{xs ys:List Int}(s1:SB h v xs)(s2:SB h w ys)(b1:Bytes xs)(b2:Bytes ys)(K:KP)(hk:K (.ret (.bool (decide (xs=ys)))) h):FK b 42 [v,w] h K:=by
 refine F3 b (Xv b) Yx0 rfl ?_;simp[Xvj,Y9w,Xv,Jmo,Z6u b s1,Z6u b s2,Jgq,Je3 b1 b2];exact hk
end Go.Proofs.YtapodfgjkmddlaaGreatDoor
end
