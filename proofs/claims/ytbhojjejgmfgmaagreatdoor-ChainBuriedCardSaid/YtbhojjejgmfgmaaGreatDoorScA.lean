import Derived.Test.YtbhojjejgmfgmaaGreatDoorFA
import Derived.Test.YtbhojjejgmfgmaaGreatDoorAbG
import Derived.Test.YtbhojjejgmfgmaaGreatDoorBlA
set_option linter.all false
open List renaming length→L
open Option renaming some→U,none→O
open Bool renaming true→Y,false→J
open Go renaming Value→V
open Go.Value renaming int→I,slice→M
open Go.IntKind renaming i64→X
open Go.Ab.Blk renaming cells→S
noncomputable section
namespace Go.Proofs.YtbhojjejgmfgmaaGreatDoor
open Go Go.Ab
set_option maxRecDepth 100000
variable(b:Nat){h:N}{ov:V}{h':N}{n0:Nat}{MB:Nat->Prop}{μ:Nat}{z:Nat}
def i8(z:Int):V:=I .u8 z
abbrev SB(h:N)(v:V)(xs:List Int):Prop:=Sl h 1 v (L xs) (xs.map i8)
abbrev OB(h:N)(n0:Nat)(v:V)(xs:List Int):Prop:=ig h n0 1 v (L xs) (xs.map i8)
def m_{b:Nat}{h h1:N}{v:V}{xs:List Int}(s:SB h v xs):iP (E b).toiS 28 v h1=U (I X (L xs)):=ja (ma b) s
def Dc{b:Nat}{h:N}{v:V}{xs:List Int}(s:SB h v xs){k:IntKind}{i:Nat}{z:Int}(hi:xs[i]? = U z) :
  ∃ bk o,Vn v=U bk/\Ug (E b).toiS 28 v (I k (i:Int))=U (pO bk o)/\Jr h bk o=U (i8 z):=by
 have hl:i < L xs:=(List.getElem?_eq_some_iff.1 hi).1;obtain⟨bk,o,h1,C,P, -⟩:=o_ (ma b) nf s (k:=k) (i:=(i:Int)) jA jA;refine⟨bk,o,h1,C,?_⟩;have:=P 0 jA;simpa[hi]using this
def HI{b:Nat}{h:N}{z:Int}:Wc (E b).toiS 28 1 [(0,I .u8 z)] h=U (M (U ⟨h.Q,0,O⟩) 1 1,h.push (S Y 1 [i8 z])):=u7 (ma b) nf jA jA rfl rfl rfl
def Vb5{b:Nat}{h:N}{n0:Nat}{v:V}{xs:List Int}(o:OB h n0 v xs)(h0:n0<=h.Q)(hn:L xs < 1099511627776)(z:Int) :
  ∃ C h',mR (E b).toiS 28 28 v (M (U ⟨h.Q,0,O⟩) 1 1) (h.push (S Y 1 [i8 z]))=U (C,h')/\OB h' n0 C (xs ++ [z])/\jj v h h':=by
 obtain⟨C,h',P,T,k3⟩:=HM (ma b) nf jA o h0 (ys:=[i8 z]) rfl (by rw[wT];omega) jA;exact⟨C,h',P,by simp only[OB,bg,ah];exact T,k3⟩
def J2g{b:Nat}{h:N}{n0:Nat}{v x:V}{xs ys:List Int}(o:OB h n0 v xs)(h0:n0<=h.Q)(s:SB h x ys)(hn:L xs+L ys < 1099511627776) :
  ∃ C h',mR (E b).toiS 28 28 v x h=U (C,h')/\OB h' n0 C (xs++ys)/\jj v h h':=by
 obtain⟨C,h',P,T,k3⟩:=wW (ma b) nf jA o h0 (uW (ma b) nf s) kA (by rw[wT];omega) jA;exact⟨C,h',P,by simp only[OB,bg,ah];exact T,k3⟩
def SBI(v1 v2:V)(xs ys:List Int)(h:N)(k:Nat)(s:St):Prop:=∃ (t:Tr V) (i:Nat),s=⟨⟨27,t⟩,[],h⟩/\t.A 0=U v1/\t.A 1=U v2/\t.A 5=U (I X (i:Int))/\i<=L xs/\k=L xs-i/\xs.take i=ys.take i
attribute [local simp] Xd Y5 Y0 Xu X6 Xi Y4 Xw Xg Y3 Q6 Qv Zk Z6 iN Qg gS Ab.g0 gv gs Q7 Qd g_ kH kU Qh Tr.H St.put Tm.put flat i5 Xa Yx Qm Qp Qn Qo Qk Ql Qj Qq Qi Q9 Q8 X7 Xz Xx Xh Qw Xv Xj Qz Ja U0 J9 Zd Xs.putAll Qr Q0 Qb Qa Zj Zo kT mX U9 J0 J4 Nat.testBit loadAt Ab.runT Je Ym uM
section
attribute [local simp] Qfy Qkv Uj Wi Qhc zx Sz Qg8 
def Jnv{v1 v2:V}{xs ys:List Int}(s1:SB h v1 xs)(s2:SB h v2 ys)(hn:L xs < 1099511627776)(K:KP)(hk:K (.ret (.bool (decide (xs=ys)))) h):FK b 149 [v1,v2] h K:=by
 refine iI b (Uj b) Y8b rfl ?_;by_cases hl:L xs=L ys
 ·have h2:(L xs:Int)=(L ys:Int):=jA
  simp[m_ s1,m_ s2,h2];refine jE (SBI v1 v2 xs ys h) (L xs) ⟨_,0,rfl,kA,kA,kA,jA,rfl,rfl⟩ ?_;rintro k s' ⟨t,i,rfl,t0,t1,t5,hi,rfl,hq⟩ _;by_cases hb:i < L xs
  ·have hx:(i:Int) < (L xs:Int):=jA
   obtain⟨h3,o1, -,C,T⟩:=Dc (b:=b) s1 (k:=.i64) (List.getElem?_eq_getElem hb);obtain⟨hp,o2, -,P,hc⟩:=Dc (b:=b) s2 (k:=.i64) (List.getElem?_eq_getElem (show i < L ys by omega));have hw:=wS (i:=i) jA;simp[t0,t1,t5,m_ s1,hx];by_cases he:xs[i]=ys[i]
   ·refine ju [] kA Xfy Xjc Xfw (by simp[Xmb,t0,t1,t5,C,P,T,hc,he,i8];first | exact⟨rfl,rfl⟩ | rfl) (by simp[Fp,t0,t1,t5,C,P,T,hc]) ?_;simp[t5,hw];refine⟨L xs-(i+1),jA,_,i+1,rfl,by simp[t0],by simp[t1],kA,jA,rfl,?_⟩;rw[bH,bH,hq,List.getElem?_eq_getElem hb,List.getElem?_eq_getElem (show i < L ys by omega),he]
   ·refine ju [] kA Xfy Xjc Xfw (by simp[Xmb,t0,t1,t5,C,P,T,hc,he,i8];first | exact⟨rfl,rfl⟩ | rfl) (by simp[Fp,t0,t1,t5,C,P,T,hc]) ?_;have hr:¬ xs=ys:=fun e=>he (by subst e;rfl);simp[t5,hw];simpa[hr]using hk
  ·have hx:¬ (i:Int) < (L xs:Int):=jA
   have : i=L xs:=jA
   subst this;have he:xs=ys:=by
    rw[ai (ac _),ai jA]at hq;exact hq
   simp[t0,t1,t5,m_ s1];simpa[he]using hk
 ·have h2:¬ (L xs:Int)=(L ys:Int):=jA
  have hr:¬ xs=ys:=fun e=>hl (by rw[e]);simp[m_ s1,m_ s2,h2];simpa[hr]using hk
end
def Z4n{v:V}{xs:List Int}(s:SB h v xs)(hv:Vn v≠O)(hn:L xs < 1000000000)(K:KP)(hk:∀ P h',OB h' h.Q P xs->a_ h h'->K (.ret P) h'):FK b 53 [v] h K:=by
 refine iI b (JT b) Ydg rfl ?_;have C:kh (E b).toiS .eql 28 v (M O 0 0)=U (.bool J):=by
  cases v with
  | slice a n c=>cases a with
   | none=>exact absurd rfl hv
   | some a=>simp[kh,pp,qC,(ma b).d]
  | _=>rcases s with⟨_,e,_⟩ | ⟨_,_,_,_,_,_,_,e,_⟩ <;> cases e
 have e0:Yx (E b).toiS .eql 28 Y v (M O 0 0)=U (.bool J):=by simp[Yx,C]
 have e1:Wc (E b).toiS 28 0 [] h=U (M (U ⟨h.Q,0,O⟩) 0 0,h.push (S Y 1 [])):=by simp[Wc,qC,(ma b).d,uI,nf,nr,kx,Nat.ble]
 obtain⟨P,h',k1,k2,T⟩:=J2g (b:=b) (h:=h.push (S Y 1 [])) (n0:=h.Q) (v:=M (U ⟨h.Q,0,O⟩) 0 0) (xs:=[]) (ig.new (ac _) (by rw[N.F,if_pos rfl];rfl) rfl qA (.inr rfl)) (bn _) (s.R (a_.push _ _)) (by simpa using(by omega:L xs < 1099511627776));simp[Sc,Yvg,JT,Ye7,e0,C,e1,k1];exact hk P h' k2 ⟨ak (bn _) T.1,fun c hc=>by rw[T.2 c (aw hc (bn _)) (by simp[Vn];omega),N.F,if_neg jA]⟩
def pz:Nat->List Int->Option (List (Int × List Int))
 | _,[]=>U []
 | 0,_::_=>O
 | n+1,c::r=>if c<=64/\c<=L r then(pz n (r.drop c.toNat)).map ((c,r.take c.toNat) :: ·)else if c < 129∨c > 139 then O else(pz n r).map ((c,[]) :: ·)
def Bytes(xs:List Int):Prop:=∀ z ∈ xs,0<=z/\z < 256
structure qs where
 code:Int
 data:List Int
 val:V
def qs.cells(o:qs):List V:=[I X o.code,o.val]
def zy(os:List qs):List V:=os.flatMap qs.cells
def zC(os:List qs):List (Int × List Int):=os.map fun o=>(o.code,o.data)
def TZ(v w:V):Prop:=∀ c,Vn v=U c->Vn w≠U c
structure kK (h:N) (n0:Nat) (lv:V) (os:List qs):Prop where
 row:ig h n0 2 lv (L os) (zy os)
 data:∀ o ∈ os,OB h n0 o.val o.data
 apart:∀ o ∈ os,TZ lv o.val
 each:os.Pairwise (fun o p=>TZ o.val p.val)
def kK.nil:kK h n0 (M O 0 0) []:=⟨ig.nil,kA,kA,.nil⟩
def kK.R{P:V}{os:List qs}(o:kK h n0 P os)(a:a_ h h'):kK h' n0 P os :=
 ⟨o.row.keep fun c _ C=>a.2 c C,fun p T=>(o.data p T).keep fun c _ C=>a.2 c C,o.apart,o.each⟩
def kK.app{b:Nat}{h1 h:N}{n0:Nat}{lv:V}{os:List qs}{te ts:TypeId}{re rs:ib}(T:jQ (E b).toiS te ts re rs)(hz:re.size=2)(hb:re.bytes=32)(o1:kK h1 n0 lv os)(a:a_ h1 h)(h0:n0<=h1.Q)(hn:L os < 1000000){p:qs}(hp:OB h h1.Q p.val p.data) :
  ∃ v' h',mR (E b).toiS ts ts lv (M (U ⟨h.Q,0,O⟩) 1 1) (h.push (S Y 1 p.cells))=U (v',h')/\kK h' n0 v' (os ++ [p])/\jj lv h h'/\∀ c,Vn v'=U c->Vn lv=U c∨h.Q<=c:=by
 have o:=o1.R a;obtain⟨v',h',k1,k2,k3,k4⟩:=Bu T hz jA o.row (ak h0 a.1) (ys:=p.cells) rfl (by rw[hb];omega) jA;have far:∀ c,Vn p.val=U c->h1.Q<=c/\c < h.Q:=fun c P=>hp.from P;refine⟨v',h',k1,⟨?_,?_,?_,?_⟩,k3,k4⟩
 ·rw[ah];simpa[zy]using k2
 ·intro q C;rw[ab]at C;rcases C with C | C
  ·refine(o.data q C).keep fun c P hx=>k3.2 c hx fun e=>o.apart q C c e P
  ·simp at C;subst C;refine(hp.low h0).keep fun c P hx=>k3.2 c hx fun e => ?_;have:=far c P;have:=o1.row.out e;omega
 ·intro q C c P e;rw[ab]at C;rcases C with C | C
  ·rcases k4 c P with h | h
   ·exact o.apart q C c h e
   ·have:=(o.data q C).out e;omega
  ·simp at C;subst C;have h5:=far c e;rcases k4 c P with h | h
   ·have:=o1.row.out h;omega
   ·omega
 ·rw[List.pairwise_append];refine⟨o.each,kA,fun q C r hr c P e => ?_⟩;simp at hr;subst hr;have h5:=far c e;have:=(o1.data q C).out P;omega
def PI(xs:List Int)(h:N)(n:Nat)(s:St):Prop:=∃ (t:Tr V) (h1:N) (P T:V) (C:List Int) (os:List qs),s=⟨⟨53,t⟩,[],h1⟩/\t.A 0=U P/\t.A 4=U T/\SB h1 P C/\(C=[]∨Vn P≠O)/\kK h1 h.Q T os/\TZ T P/\a_ h h1/\n=L C/\L C+L os<=256/\Bytes C/\∀ f,L xs<=f->∃ f',L C<=f'/\pz f xs=(pz f' C).map (zC os ++ ·)
def Vf2(xs:List Int):Prop:=L xs > 256∨pz (L xs) xs=O ∨ ∃ l,pz (L xs) xs=U l/\L l > 64
def HL(z:Int):lK (E b).toiS 194 [(0,I X z)]=U (.agg ⟨[I X z,M O 0 0]⟩):=kR
def Vgu{b:Nat}{h:N}{v:V}{xs:List Int}(s:SB h v xs){k:IntKind}{i:Int}(h0:0<=i)(h1:i<=L xs):∃ C,ka (E b).toiS 28 v O (U (I k i)) O h=U (C,h)/\SB h C (xs.take i.toNat)/\Vn C=Vn v:=by
 obtain⟨C,P,T,k3⟩:=Vff (ma b) (k:=k) nf jA s h0 h1;refine⟨C,P,?_,k3⟩;have e:L (xs.take i.toNat)=i.toNat:=by rw[bh];omega
 rw[SB,e];simpa using T
def Ot{b:Nat}{h:N}{v:V}{xs:List Int}(s:SB h v xs){k:IntKind}{i:Int}(h0:0<=i)(h1:i<=L xs):∃ C h',ka (E b).toiS 28 v (U (I k i)) O O h=U (C,h')/\SB h' C (xs.drop i.toNat)/\a_ h h'/\(Vn v≠O->Vn C≠O)/\∀ c,Vn C=U c->Vn v=U c∨c=h.Q:=by
 obtain⟨C,h',k1,k2,k3,T⟩:=J3c (ma b) (k:=k) nf jA s h0 h1;refine⟨C,h',k1,?_,k3,fun hv => ?_,fun c P => ?_⟩
 ·rw[SB,ba];simpa using k2
 ·rcases T with⟨e,_⟩ | ⟨e,_⟩
  ·rw[e];exact hv
  ·rw[e];simp
 ·rcases T with⟨e,_⟩ | ⟨e,_⟩
  ·rw[e]at P;exact .inl P
  ·rw[e]at P;cases P;exact .inr rfl
def Vkq{v:V}{xs:List Int}(s:SB h v xs)(C:xs ≠ []):Vn v≠O:=by
 rcases s with⟨c,rfl,_,_,e⟩ | ⟨P,o,c,ow,T,pre,post,rfl,_⟩
 ·exact absurd (gg.1 e) C
 ·simp[Vn]
def ZK{f:Nat}{c:Int}{r:List Int}(P:L (c::r)<=f):∃ C,L r<=C/\pz f (c::r)=(if c<=64/\c<=L r then(pz C (r.drop c.toNat)).map ((c,r.take c.toNat) :: ·)else if c < 129∨c > 139 then O else(pz C r).map ((c,[]) :: ·)):=by
 cases f with
 | zero=>simp at P
 | succ f=>exact⟨f,by simpa using P,rfl⟩
def Lr(os:List qs):L (zC os)=L os:=by simp[zC]
section
attribute [local simp] Qgo Qm2 W1 zx NE NF Qx3 Qwz Qhf Qg9 JT Vz Qh7 Qga Qh6 Qwx Qhe
set_option maxHeartbeats 1000000 in
def J9j{v:V}{xs:List Int}(s:SB h v xs)(hb:Bytes xs)(K:KP)(eA:Vf2 xs->∀ h',a_ h h'->K (.ret (.tuple #[M O 0 0,I X 16])) h')(P:∀ l,L xs<=256->pz (L xs) xs=U l->L l<=64->∀ lv os h',zC os=l->kK h' h.Q lv os->a_ h h'->K (.ret (.tuple #[lv,I X 0])) h'):FK b 105 [v] h K:=by
 refine iI b (W1 b) Zdi rfl ?_;by_cases g2:(256:Int) < (L xs:Int)
 ·simp[m_ s,g2];exact eA (.inl jA) h (a_.refl _)
 ·simp[m_ s,g2];have pF:xs=[]∨Vn v≠O:=by
   by_cases hx:xs=[]
   ·exact .inl hx
   ·exact .inr (Vkq s hx)
  refine jE (PI xs h) (L xs) ⟨_,h,v,M O 0 0,xs,[],rfl,?_,?_,s,pF,kK.nil,(fun c hc=>by cases hc),a_.refl _,rfl,by simp;omega,hb,fun f hf=>⟨f,hf,by cases pz f xs <;> simp[zC]⟩⟩ ?_
  ·simp
  ·simp
  rintro n s' ⟨t,h1,bv,lv,q4,os,rfl,t0,t4,sb,hR,hy,r2,C,rfl,hg,z',hw⟩ _;cases q4 with
  | nil =>
   obtain⟨f',hV,hp⟩:=hw (L xs) (ac _);have pE:pz (L xs) xs=U (zC os):=by
    rw[hp];cases f' <;> simp[pz]
   have pD:=ja (Dx b) hy.row.sl (h1:=h1);by_cases x2:(64:Int) < (L os:Int)
   ·
    have e0:=m_ (b:=b) (h1:=h1) sb;simp at e0;simp[t0,t4,e0,pD,x2];exact eA (.inr (.inr ⟨_,pE,by rw[Lr];omega⟩)) h1 C
   ·
    have e0:=m_ (b:=b) (h1:=h1) sb;simp at e0;simp[t0,t4,e0,pD,x2];exact P _ jA pE (by rw[Lr];omega) lv os h1 rfl hy C
  | cons c r =>
   have hc:0<=c/\c < 256:=z' c kA;have hm:Bytes r:=fun z hz=>z' z (by simp[hz]);have re:(0:Int) < (L r:Int)+1:=jA
   obtain⟨bk,off,hj,p5,he⟩:=Dc (b:=b) sb (k:=.i64) (i:=0) (z:=c) rfl;obtain⟨es,h2,a2,lb,a1,cb,pC⟩:=Ot (b:=b) sb (k:=.i64) (i:=1) jA (by simp;omega);have m0:IntKind.i64.wrap c=c:=jW jA jA;simp only[Int.toNat_one,List.drop_one,List.tail_cons]at lb;have hn:Vn es≠O:=cb (by rw[hj];simp);have T:Wp (h2.push (S Y 1 [I X 0,M O 0 0])) h2.Q 0 [I X c,M O 0 0]=U ((h2.push (S Y 1 [I X 0,M O 0 0])).set h2.Q (U (S Y 1 [I X c,M O 0 0]))):=by
    rw[kI (by rw[N.F,if_pos rfl]) kA];rfl
   have e0:iP (E b).toiS 28 bv h1=U (I X ((L r:Int)+1)):=by have:=m_ (b:=b) (h1:=h1) sb;simpa using this
   have Z':Ug (E b).toiS 28 bv (I X 0)=U (pO bk off):=p5;simp only[i8]at he;obtain⟨h3,e3⟩:∃ h3,h3=(h2.push (S Y 1 [I X 0,M O 0 0])).set h2.Q (U (S Y 1 [I X c,M O 0 0])):=⟨_,rfl⟩;have g3:h3.A h2.Q=U (S Y 1 [I X c,M O 0 0]):=by rw[e3,gY (by simp only[kn];omega),if_pos rfl]
   have a3:a_ h2 h3:=by rw[e3];exact(a_.push _ _).set _ (ac _) (by simp only[kn];omega)
   have n3:h3.Q=h2.Q+1:=by rw[e3,nJ,kn]
   rw[<- e3]at T;have e2:a_ h1 h3:=a1.trans a3;have x1:SB h3 es r:=lb.R a3;have e1:∀ h,iP (E b).toiS 28 es h=U (I X (L r)):=fun h=>m_ lb;have p9:L r+L os+1<=256:=by simp at hg;omega
   by_cases hr:c<=64/\c<=(L r:Int)
   ·obtain⟨p1,p2⟩:=hr;obtain⟨ch,p6,m2,n1⟩:=Vgu (b:=b) x1 (k:=.i64) (i:=c) hc.1 p2;simp[t0,t4,e0,re,Z',he,a2,m0,HL,T,e1,p1,p2,p6];refine Z4n b m2 (by rw[n1];exact hn) (by rw[bh];omega) _ fun dv h4 od a4 => ?_;have g4:h4.A h2.Q=U (S Y 1 [I X c,M O 0 0]):=a4.A g3;have hu:Wp h4 h2.Q 1 [dv]=U (h4.set h2.Q (U (S Y 1 [I X c,dv]))):=by rw[oF g4 kA];rfl
    obtain⟨h5,e5⟩:∃ h5,h5=h4.set h2.Q (U (S Y 1 [I X c,dv])):=⟨_,rfl⟩;have n4:h2.Q < h4.Q:=(by have:=a4.1;omega);have g5:h5.A h2.Q=U (S Y 1 [I X c,dv]):=by rw[e5,gY n4,if_pos rfl]
    have q3:a_ h1 h5:=(by rw[e5];exact(e2.trans a4).set _ a1.1 n4);rw[<- e5]at hu;have s2:OB h5 h3.Q dv (r.take c.toNat):=od.keep fun k P s1=>by
     have:=od.from P;rw[e5,gY n4,if_neg jA]
    obtain⟨pB,h6,p7,m1,a6,c2,c1⟩:=Ot (b:=b) ((lb.R a3).R a4 |>.keep (h':=h5) fun k P s1=>by
     have:=lb.blk P;rw[e5,gY n4,if_neg jA]) (k:=.i64) (i:=c) hc.1 p2
    have ha:iz h6 h2.Q 0 2=U (.agg ⟨[I X c,dv]⟩):=by rw[Uh (a6.A g5) kA];rfl
    have ud:Wc (E b).toiS 187 1 [(0,.agg ⟨[I X c,dv]⟩)] h6=U (M (U ⟨h6.Q,0,O⟩) 1 1,h6.push (S Y 1 [I X c,dv])):=u7 (Dx b) B9 jA jA rfl rfl rfl;obtain⟨hL,h7,hA,hO,hB,aA⟩:=kK.app (b:=b) (Dx b) B9 Z5q hy (q3.trans a6) C.1 jA (p:=⟨c,r.take c.toNat,dv⟩) ((s2.low (by have:=e2.1;omega)).keep fun k _ s1=>a6.2 k s1);simp only[qs.cells]at hA;have ls:∀ k,Vn lv=U k->Vn es≠U k:=fun k P e=>by
     rcases pC k e with e | e
     ·exact r2 k P e
     ·have:=hy.row.out P;omega
    have hC:∀ k,Vn lv=U k->Vn pB≠U k:=fun k P e=>by
     rcases c1 k e with e | e
     ·exact ls k P e
     ·have:=hy.row.out P;have:=q3.1;omega
    simp[UD b _ _ _ dv od.one,hu,p7,ha,ud,hA,t4];refine⟨L (r.drop c.toNat),by simp;omega,_,h7,pB,hL,r.drop c.toNat,_,rfl,kA,kA,?_,.inr (c2 hn),hO,?_,?_,rfl,?_,fun z hz=>hm z (dj hz),fun f hf => ?_⟩
    ·exact m1.keep fun k P s1=>hB.2 k s1 fun e=>hC k e P
    ·intro k P e;rcases aA k P with P | P
     ·exact hC k P e
     ·have:=m1.blk e;omega
    ·exact hB.R (C.trans (q3.trans a6)) (hy.R (q3.trans a6)).row
    ·simp;omega
    ·obtain⟨f1,g1,q1⟩:=hw f hf;obtain⟨f2,ht,q2⟩:=ZK (c:=c) (r:=r) g1;refine⟨f2,by simp;omega,?_⟩;rw[q1,q2,if_pos ⟨p1,p2⟩,fD];congr 1;funext l;simp[zC]
   ·have v':c < 129∨139 < c->Vf2 xs:=fun hq=>by
     obtain⟨f1,g1,q1⟩:=hw (L xs) (ac _);obtain⟨f2,ht,q2⟩:=ZK (c:=c) (r:=r) g1;refine .inr (.inl ?_);rw[q1,q2,if_neg hr,if_pos jA];rfl
    have hK:∀ h',a_ h h'->c < 129∨139 < c->K (.ret (.tuple #[M O 0 0,I X 16])) h':=fun h' ho hq=>eA (v' hq) h' ho;by_cases p1:c<=64
    ·have p2:¬ c<=(L r:Int):=fun p2=>hr ⟨p1,p2⟩;have p3:c < 129:=jA;simp[t0,t4,e0,re,Z',he,a2,m0,HL,T,e1,p1,p2,p3];exact hK h3 (C.trans e2) (.inl p3)
    ·by_cases p3:c < 129
     ·simp[t0,t4,e0,re,Z',he,a2,m0,HL,T,e1,p1,p3];exact hK h3 (C.trans e2) (.inl p3)
     ·by_cases p4:139 < c
      ·simp[t0,t4,e0,re,Z',he,a2,m0,HL,T,e1,p1,p3,p4];exact hK h3 (C.trans e2) (.inr p4)
      ·have r1:iz h3 h2.Q 0 2=U (.agg ⟨[I X c,M O 0 0]⟩):=by rw[Uh g3 kA];rfl
       have ud:Wc (E b).toiS 187 1 [(0,.agg ⟨[I X c,M O 0 0]⟩)] h3=U (M (U ⟨h3.Q,0,O⟩) 1 1,h3.push (S Y 1 [I X c,M O 0 0])):=u7 (Dx b) B9 jA jA rfl rfl rfl;obtain⟨hL,h7,hA,hO,hB,aA⟩:=kK.app (b:=b) (Dx b) B9 Z5q hy e2 C.1 jA (p:=⟨c,[],M O 0 0⟩) ig.nil;simp only[qs.cells]at hA;have ls:∀ k,Vn lv=U k->Vn es≠U k:=fun k P e=>by
        rcases pC k e with e | e
        ·exact r2 k P e
        ·have:=hy.row.out P;omega
       simp[t0,t4,e0,re,Z',he,a2,m0,HL,T,e1,p1,p3,p4,r1,ud,hA];refine⟨L r,jA,_,h7,es,hL,r,_,rfl,kA,kA,?_,.inr hn,hO,?_,?_,rfl,?_,hm,fun f hf => ?_⟩
       ·exact x1.keep fun k P s1=>hB.2 k s1 fun e=>ls k e P
       ·intro k P e;rcases aA k P with P | P
        ·exact ls k P e
        ·have:=x1.blk e;omega
       ·exact hB.R (C.trans e2) (hy.R e2).row
       ·simp;omega
       ·obtain⟨f1,g1,q1⟩:=hw f hf;obtain⟨f2,ht,q2⟩:=ZK (c:=c) (r:=r) g1;refine⟨f2,ht,?_⟩;rw[q1,q2,if_neg hr,if_neg jA,fD];congr 1;funext l;simp[zC]
end
def Laid.R(hl:Ab.LaidIn h laidAll)(a:a_ h h'):Ab.LaidIn h' laidAll:=fun x C=>a.A (hl x C)
def Z5d:∀ {os:List qs} {i:Nat} {o:qs},os[i]? = U o->(zy os)[i*2]? = U (I X o.code)/\(zy os)[i*2+1]? = U o.val
 | p::os,0,o,h=>by simp at h;subst h;simp[zy,qs.cells]
 | p::os,i+1,o,h=>by
  have:=Z5d (os:=os) (i:=i) (o:=o) (by simpa using h);have e:zy (p::os)=I X p.code::p.val::zy os:=rfl;rw[e,show(i+1)*2=i*2+1+1 by omega];simpa using this
def Vfm{b:Nat}{h:N}{n0:Nat}{C:V}{os:List qs}{te ts:TypeId}{re rs:ib}(T:jQ (E b).toiS te ts re rs)(hz:re.size=2)(o:ig h n0 2 C (L os) (zy os)){i:Nat}{p:qs}(hp:os[i]? = U p) :
  ∃ bk off,Vn C=U bk/\Ug (E b).toiS ts C (I X (i:Int))=U (pO bk off)/\Jr h bk off=U (I X p.code)/\Jr h bk (off+1)=U p.val:=by
 have hl:i < L os:=(List.getElem?_eq_some_iff.1 hp).1;obtain⟨bk,off,h1,h2,h3, -⟩:=o_ T hz o.sl (k:=.i64) (i:=(i:Int)) jA jA;obtain⟨q1,q2⟩:=Z5d hp;have P:=h3 0 jA;have e1:=h3 1 jA;simp only[bb,cz]at P e1;exact⟨bk,off,h1,h2,by rw[P,q1],by rw[e1,q2]⟩
def Z_:∀ {f:Nat} {xs:List Int} {l:List (Int × List Int)},pz f xs=U l->∀ p ∈ l,L p.2<=64
 | f,[],l,h=>by cases f <;> (simp[pz]at h;subst h;simp)
 | 0,_::_,l,h=>by simp[pz]at h
 | f+1,c::r,l,h=>by
  simp only[pz]at h;split at h
  ·rename_i T;rw[aj]at h;obtain⟨P,h1,rfl⟩:=h;intro p C;rcases ao.1 C with rfl | C
   ·simp only[bh];omega
   ·exact Z_ h1 p C
  ·split at h
   ·cases h
   ·rw[aj]at h;obtain⟨P,h1,rfl⟩:=h;intro p C;rcases ao.1 C with rfl | C
    ·simp
    ·exact Z_ h1 p C
structure iO where
 nk:V
 dig:List V
 lk:Int
 hd:L dig=32
def iO.cells(e:iO):List V:=e.nk::e.dig ++ [I X e.lk]
def iO.len(e:iO):L e.cells=34:=by simp[iO.cells,e.hd]
structure Br where
 off:Bool
 dead:Bool
 turned:Bool
def Br.cells(x:Br):List V:=[.bool x.off,.bool x.dead,.bool x.turned]
def nW(l:List Br):List V:=l.flatMap Br.cells
def MG(l:List Br):L (nW l)=L l*3:=by
 induction l with
 | nil=>rfl
 | cons x l ih=>simp[nW,Br.cells]at ih ⊢;omega
structure qb (h:N) (MB:Nat->Prop) (v:V) (x:List Int):Prop where
 sb:SB h v x
 by8:Bytes x
 out:∀ c,Vn v=U c->¬ MB c
structure Mv (MB MB':Nat->Prop) (h h':N):Prop where
 Q:h.Q<=h'.Q
 same:∀ c,c < h.Q->¬ MB c->h'.A c=h.A c
 sub:∀ c,MB' c->MB c∨h.Q<=c
def Mv.refl(MB:Nat->Prop)(h:N):Mv MB MB h h:=⟨ac _,fun _ _ _=>rfl,fun _ h => .inl h⟩
def Mv.trans{A B C:Nat->Prop}{h h' P:N}(a:Mv A B h h')(c:Mv B C h' P):Mv A C h P :=
  ⟨ak a.Q c.Q,fun k T hn=>by
    rw[c.same k (aw T a.Q) (fun hb=>by
      rcases a.sub k hb with h | h
      · exact hn h
      · omega),a.same k T hn],
   fun k T=>by
    rcases c.sub k T with h | h
    · exact a.sub k h
    · exact .inr (ak a.Q h)⟩
def Mv.R{h h':N}(a:a_ h h'):Mv MB MB h h':=⟨a.1,fun c C _=>a.2 c C,fun _ h => .inl h⟩
def qb.mv{C:Nat->Prop}{h h':N}{v:V}{x:List Int}(i:qb h MB v x)(m:Mv MB C h h'):qb h' C v x :=
 ⟨i.sb.keep fun c P hl=>m.same c hl (i.out c P),i.by8,fun c P T=>by
  rcases m.sub c T with h | h
  ·exact i.out c P h
  ·have:=i.sb.blk P;omega⟩
structure pQ (h:N) (MB:Nat->Prop) (μ:Nat) (e:iO) (ps:List (V × List Int)) (op:List Br) (sv ov:V) (z:Nat):Prop where
 at':h.A μ=U (S Y z (e.cells ++ [sv,ov]))
 mb:MB μ
 st:ig h 0 1 sv (L ps) (ps.reverse.map (·.1))
 op:ig h 0 3 ov (L op) (nW op.reverse)
 ms:∀ c,Vn sv=U c->MB c/\c≠μ
 mo:∀ c,Vn ov=U c->MB c/\c≠μ/\Vn sv≠U c
structure i_ (h:N) (MB:Nat->Prop) (μ:Nat) (e:iO) (ps:List (V × List Int)) (op:List Br):Prop where
 row:∃ sv ov z,pQ h MB μ e ps op sv ov z
 items:∀ p ∈ ps,qb h MB p.1 p.2
 low:∀ c,MB c->c < h.Q
def Vk3(e:iO)(a c:V):(e.cells ++ [a,c])[34]? = U a:=by rw[List.getElem?_append_right (by rw[e.len];omega),e.len];rfl
def TM(e:iO)(a c:V):(e.cells ++ [a,c])[35]? = U c:=by rw[List.getElem?_append_right (by rw[e.len];omega),e.len];rfl
def Vfq(e:iO)(a c x:V):(e.cells ++ [a,c]).set 34 x=e.cells ++ [x,c]:=by rw[cf _ _ (by rw[e.len];omega),e.len];rfl
def Vgc(e:iO)(a c x:V):(e.cells ++ [a,c]).set 35 x=e.cells ++ [a,x]:=by rw[cf _ _ (by rw[e.len];omega),e.len];rfl
def pQ.c34{e:iO}{ps:List (V × List Int)}{op:List Br}{sv ov:V}(m:pQ h MB μ e ps op sv ov z):Jr h μ 34=U sv:=by rw[Zy m.at',Vk3]
def pQ.c35{e:iO}{ps:List (V × List Int)}{op:List Br}{sv ov:V}(m:pQ h MB μ e ps op sv ov z):Jr h μ 35=U ov:=by rw[Zy m.at',TM]
def pQ.s34{e:iO}{ps:List (V × List Int)}{op:List Br}{sv ov:V}(m:pQ h MB μ e ps op sv ov z)(x:V):Wp h μ 34 [x]=U (h.set μ (U (S Y z (e.cells ++ [x,ov])))):=by rw[oF m.at' (by simp[e.len]),Vfq]
def pQ.s35{e:iO}{ps:List (V × List Int)}{op:List Br}{sv ov:V}(m:pQ h MB μ e ps op sv ov z)(x:V):Wp h μ 35 [x]=U (h.set μ (U (S Y z (e.cells ++ [sv,x])))):=by rw[oF m.at' (by simp[e.len]),Vgc]
def jg(a:Addr):Hw (.pointer (U a))=U (.pointer (U a)):=Eq.trans rfl rfl
def pe(z:Int):List PanicEntry:=[{v:=.iface 36 (I X z),recovered:=false}]
section
attribute [local simp] X8
def vL(h:N)(z:Int)(K:KP)(C:K (.ret (.tuple #[])) h):FK b 106 [.bool Y,I X z] h K:=by
 refine iI b (X8 b) Ye2 rfl ?_;simp[Sq,Yw1,Vgq];exact C
def uo(h:N)(z:Int)(K:KP)(C:K (.panic (pe z)) h):FK b 106 [.bool J,I X z] h K:=by
 refine iI b (X8 b) Ye2 rfl ?_;simp[Sq,Yw1,Vgq];exact C
def wM{e:iO}{op:List Br}(M_:i_ h MB μ e [] op)(K:KP)(P:K (.panic (pe 16)) h):FK b 130 [pO μ 0] h K:=by
 refine iI b (Qt b) Xef rfl ?_;obtain⟨⟨sv,ov,z,r⟩, -, -⟩:=M_;have C:∀ h1,iP (E b).toiS 141 sv h1=U (I X 0):=fun h1=>ja (mK b) r.st.sl;simp[xv,yH,Qt,tI,ph,U7,jg,r.c34,C];refine uo b h 16 _ ?_;simp[xv,yH,Qt,tI,ph,U7];exact P
def vm{e:iO}{v:V}{x:List Int}{ps:List (V × List Int)}{op:List Br}(M_:i_ h MB μ e ((v,x)::ps) op)(hl:L ps < 1000)(K:KP)(hk:∀ h',i_ h' MB μ e ps op->Mv MB MB h h'->h'.Q=h.Q->qb h' MB v x->(∀ ov,Jr h μ 35=U ov->Jr h' μ 35=U ov)->K (.ret v) h'):FK b 130 [pO μ 0] h K:=by
 refine iI b (Qt b) Xef rfl ?_;obtain⟨⟨sv,ov,z,r⟩,its,low⟩:=M_;have e0:∀ h1,iP (E b).toiS 141 sv h1=U (I X ((L ps:Int)+1)):=fun h1=>by have:=ja (mK b) r.st.sl (h1:=h1);simpa using this
 have h0:(0:Int) < (L ps:Int)+1:=jA
 have hw:IntKind.i64.wrap (L ps:Int)=(L ps:Int):=jW jA jA;obtain⟨bk,o,q1,q2,q3, -⟩:=o_ (mK b) qE r.st.sl (k:=.i64) (i:=(L ps:Int)) jA (by simp;try omega);have q4:Jr h bk o=U v:=by
  have:=q3 0 jA;simpa using this
 obtain⟨C,t1,t2,t3⟩:=KA (mK b) qE jA r.st (k:=.i64) (i:=(L ps:Int)) jA (by simp;try omega);have hx:ig h 0 1 C (L ps) (ps.reverse.map (·.1)):=by simpa using t2
 have st:j0 (E b).toiS 141 (pO μ 34) C h=_:=(J4r b h μ 34 C hx.one).trans (r.s34 C);simp[xv,yH,Qt,tI,ph,U7,jg,r.c34,e0,h0];refine vL b h 16 _ ?_;simp[xv,yH,Qt,tI,ph,U7];refine ju [] kA Xt8 Xvp Xrc (by simp[X0k,xv,yH,Qt,tI,ph,U7,jg,r.c34,e0,hw,q2,q4];first | exact⟨rfl,rfl⟩ | rfl) ?_ ?_
 ·simp[Jx,xv,yH,Qt,tI,ph,U7]
 simp[xv,yH,Qt,tI,ph,U7];have h2:vJ (U sv) (U sv)=Y:=PJ r.st;refine ju [] kA Xtv Xw8 Xsx (by simp[Xyi,X07,xv,yH,Qt,tI,ph,U7,jg,r.c34,e0,hw,t1,st];first | exact⟨rfl,rfl⟩ | rfl) ?_ ?_
 ·simp[CM,xv,yH,Qt,tI,ph,U7,h2,r.c34]
 simp[xv,yH,Qt,tI,ph,U7];have T:=N.D r.at';have mv:Mv MB MB h (h.set μ (U (S Y z (e.cells ++ [C,ov])))):=⟨ac _,fun c _ hn=>by rw[gY T,if_neg (fun q=>hn (by subst q;exact r.mb))],fun _ h => .inl h⟩;have kp:∀ c,c≠μ->(h.set μ (U (S Y z (e.cells ++ [C,ov])))).A c=h.A c:=fun c P=>by rw[gY T,if_neg (Ne.symm P)]
 refine hk _ ⟨⟨C,ov,z,?_⟩,fun p hp=>(its p (by simp[hp])).mv mv,low⟩ mv rfl ((its (v,x) kA).mv mv) fun hr q=>by
  rw[r.c35]at q;rw[Zy (by rw[gY T,if_pos rfl]),TM,q]
 exact⟨by rw[gY T,if_pos rfl],r.mb,hx.keep fun c P _=>kp c (r.ms c (t3 ▸ P)).2,r.op.keep fun c P _=>kp c (r.mo c P).2.1,fun c P=>r.ms c (t3 ▸ P),fun c P=>by rw[t3];exact r.mo c P⟩
def zi{e:iO}{v:V}{x:List Int}{ps:List (V × List Int)}{op:List Br}(M_:i_ h MB μ e ps op)(i:qb h MB v x)(hl:L ps < 16)(K:KP)(hk:∀ h' hr,i_ h' hr μ e ((v,x)::ps) op->Mv MB hr h h'->K (.ret (.tuple #[])) h'):FK b 127 [pO μ 0,v] h K:=by
  refine iI b (X9 b) Xcd rfl ?_;obtain⟨⟨sv,ov,z,r⟩,its,low⟩:=M_;have e0:∀ h1,iP (E b).toiS 141 sv h1=U (I X (L ps:Int)):=fun h1=>ja (mK b) r.st.sl;have h0:(L ps:Int) < 16:=jA
  have hv:=i.sb.one;obtain⟨ls,hA⟩:=yP hv;have hb:=u7 (mK b) (z:=1) qE jA jA ls (ys:=[v]) (by rw[hA]) rfl (h:=h);obtain⟨P,h2,a1,a2,a3,a4⟩:=Bu (mK b) qE jA r.st (bQ _) (ys:=[v]) rfl (by rw[Jk7];omega) jA;have Z':=N.D r.at';have g2:h2.A μ=U (S Y z (e.cells ++ [sv,ov])):=by rw[a3.2 μ Z' fun q=>(r.ms _ q).2 rfl];exact r.at'
  have st:j0 (E b).toiS 141 (pO μ 34) P h2=U (h2.set μ (U (S Y z (e.cells ++ [P,ov])))):=(J4r b h2 μ 34 P a2.one).trans (by rw[oF g2 (by simp[e.len]),Vfq]);simp[JB,Nx,X9,tI,ph,jg,r.c34,e0,h0];refine vL b h 16 _ ?_;simp[JB,Nx,X9,tI,ph,jg,r.c34,e0,h0,hb,a1,st];have T:μ < h2.Q:=N.D g2;have mv:Mv MB (fun c=>MB c∨Vn P=U c) h (h2.set μ (U (S Y z (e.cells ++ [P,ov])))) :=
    ⟨a3.1,fun c C hn=>by rw[gY T,if_neg (fun q=>hn (by subst q;exact r.mb)),a3.2 c C (fun q=>hn (r.ms c q).1)],
     fun c C=>by
      rcases C with C | C
      · exact .inl C
      · rcases a4 c C with q | q
        · exact .inl (r.ms c q).1
        · exact .inr q⟩
  have h3:∀ c,Vn P=U c->c≠μ:=fun c C=>by
    rcases a4 c C with q | q
    · exact(r.ms c q).2
    · omega
  refine hk _ _ ⟨⟨P,ov,z,?_⟩,?_,?_⟩ mv
  · refine⟨by rw[gY T,if_pos rfl],.inl r.mb,?_,?_,fun c C=>⟨.inr C,h3 c C⟩,fun c C=>⟨.inl (r.mo c C).1,(r.mo c C).2.1,fun q => ?_⟩⟩
    · have : ig h2 0 1 P (L ((v,x)::ps)) (((v,x)::ps).reverse.map (·.1)):=by simpa using a2
      exact this.keep fun c C _=>by rw[gY T,if_neg (Ne.symm (h3 c C))]
    · exact r.op.keep fun c C hx=>by rw[gY T,if_neg (Ne.symm (r.mo c C).2.1),a3.2 c hx (r.mo c C).2.2]
    · rcases a4 c q with q | q
      · exact(r.mo c C).2.2 q
      · have:=r.op.out C;omega
  · intro p hp
    simp only[ao]at hp;rcases hp with rfl | hp
    · exact i.mv mv
    · exact(its p hp).mv mv
  · rintro c (C | C)
    · exact aw (low c C) a3.1
    · exact a2.out C
def Ez{e:iO}{v:V}{ps:List (V × List Int)}{op:List Br}(M_:i_ h MB μ e ps op)(hl:16<=L ps)(K:KP)(P:K (.panic (pe 16)) h):FK b 127 [pO μ 0,v] h K:=by
 refine iI b (X9 b) Xcd rfl ?_;obtain⟨⟨sv,ov,z,r⟩,its,low⟩:=M_;have C:∀ h1,iP (E b).toiS 141 sv h1=U (I X (L ps:Int)):=fun h1=>ja (mK b) r.st.sl;have h0:¬ (L ps:Int) < 16:=jA
 simp[JB,Nx,X9,tI,ph,jg,r.c34,C,h0];refine uo b h 16 _ ?_;simp[JB,Nx,X9,tI,ph];exact P
end
def mY(x:List Int):Bool:=x.any fun z=>z != 0
def TLI(v:V)(xs:List Int)(h:N)(k:Nat)(s:St):Prop:=∃ (t:Tr V) (h1:N) (w:V) (C:List Int),s=⟨⟨21,t⟩,[],h1⟩/\t.A 0=U w/\t.A 1=U zU/\SB h1 w C/\a_ h h1/\k=L C/\L C<=L xs/\mY C=mY xs/\t.A 4=U (M O 0 0)
section
attribute [local simp] Qo2 Qwy CY Qtw zx Sz Qu0 Qsv Z9 Qsk
def J7p{v:V}{xs:List Int}(s:SB h v xs)(hn:L xs < 1000000000)(K:KP)(hk:∀ w ys h',SB h' w ys->L ys<=L xs->mY ys=mY xs->(ys=[]∨ys.head? ≠ U 0)->a_ h h'->K (.ret w) h'):FK b 156 [v,I .u8 0] h K:=by
 refine iI b (CY b) X87 rfl ?_;simp;refine jE (TLI v xs h) (L xs) ⟨_,h,v,xs,rfl,kA,kA,s,a_.refl _,rfl,ac _,rfl,kA⟩ ?_;rintro k s' ⟨t,h1,w,ys,rfl,t0,t1,sw,C,rfl,hc,hT,t4⟩ _;have e0:=fun h1=>m_ (b:=b) (h1:=h1) sw;cases ys with
 | nil =>
  simp at e0;simp[t0,t1,t4,e0];exact hk _ [] h1 Sl.nil kA hT (.inl rfl) C
 | cons z r =>
  obtain⟨bk,off,hr,hx,P⟩:=Dc (b:=b) sw (k:=.i64) (i:=0) (z:=z) rfl;have T:(0:Int) < (L r:Int)+1:=jA
  have hb:¬ ((L r:Int)+1=0):=jA
  simp at e0 hx;by_cases hz:z=0
  ·subst hz;obtain⟨w',h2,q1,q2,q3,q4,q5⟩:=Ot (b:=b) sw (k:=.i64) (i:=1) jA (by simp;omega);simp only[i8]at P;simp[t0,t1,t4,e0,T,hx,P,q1];exact⟨L r,jA,_,h2,w',r,rfl,kA,by simp[t1],by simpa using q2,C.trans q3,rfl,by simp at hc;omega,by rw[<- hT];simp[mY],by simp[t4]⟩
  ·simp only[i8]at P;simp[t0,t1,t4,e0,T,hb,hx,P,hz];exact hk w (z::r) h1 sw hc hT (.inr (by simpa using hz)) C
end
def TRI(v:V)(xs:List Int)(h:N)(k:Nat)(s:St):Prop:=∃ (t:Tr V) (w:V) (C:List Int),s=⟨⟨24,t⟩,[],h⟩/\t.A 0=U w/\t.A 1=U zU/\SB h w C/\k=L C/\L C<=L xs/\mY C=mY xs/\t.A 4=U (M O 0 0)
section
attribute [local simp] Qn6 Qvj C2 Qsu zx Sz Qso Qrr
def J52{v:V}{xs:List Int}(s:SB h v xs)(hn:L xs < 1000000000)(K:KP)(hk:∀ w ys,SB h w ys->L ys<=L xs->mY ys=mY xs->K (.ret w) h):FK b 157 [v,I .u8 0] h K:=by
 refine iI b (C2 b) X2b rfl ?_;simp;refine jE (TRI v xs h) (L xs) ⟨_,v,xs,rfl,kA,kA,s,rfl,ac _,rfl,kA⟩ ?_;rintro k s' ⟨t,w,ys,rfl,t0,t1,sw,rfl,hx,hT,t4⟩ _;have e0:=fun h1=>m_ (b:=b) (h1:=h1) sw;rcases List.eq_nil_or_concat ys with rfl | ⟨r,z,rfl⟩
 ·simp at e0;simp[t0,t1,t4,e0];exact hk _ [] sw kA hT
 ·rw[List.concat_eq_append]at *;obtain⟨bk,off,h2,P,T⟩:=Dc (b:=b) sw (k:=.i64) (i:=L r) (z:=z) kA;have C:(0:Int) < (L r:Int)+1:=jA
  have hc:IntKind.i64.wrap (L r:Int)=(L r:Int):=by
   simp at hx;exact jW jA jA
  simp at e0 P;simp only[i8]at T;by_cases hz:z=0
  ·subst hz;obtain⟨w',q1,q2,q3⟩:=Vgu (b:=b) sw (k:=.i64) (i:=(L r:Int)) jA (by simp;try omega);simp[t0,t1,t4,e0,C,P,T,hc,q1];exact⟨L r,kA,_,w',r,rfl,kA,by simp[t1],by simpa using q2,rfl,by simp at hx;omega,by rw[<- hT];simp[mY],by simp[t4]⟩
  ·simp[t0,t1,t4,e0,C,P,T,hc,hz];exact hk w (r ++ [z]) sw hx hT
end
section
attribute [local simp] Qwf 
def Vav{v:V}{xs:List Int}(s:SB h v xs)(hn:L xs < 1000000000)(K:KP)(hk:∀ w (n:Nat) h',(∀ h1,iP (E b).toiS 28 w h1=U (I X n))->decide (0 < n)=mY xs->a_ h h'->K (.ret w) h'):FK b 135 [v,.string ⟨⟨[0]⟩⟩] h K:=by
 refine iI b (Qwf b) Zt8 rfl ?_;have e0:=fun h1=>m_ (b:=b) (h1:=h1) s;have e2:Kw (E b).toiS 9 (.string ⟨⟨[0]⟩⟩) (I X 0)=U zU:=kR
 have e3:jD (binOp .eql 9 (.string ⟨⟨[0]⟩⟩) (.string ⟨⟨[]⟩⟩))=U (.bool J):=kR
 have e4:(ByteArray.mk ⟨[0]⟩).size=1:=by rfl
 cases xs with
 | nil =>
  simp at e0;simp[EV,HZ,Z9,Kh,Ih,Kx,Kn,IG,C2,CY,e0];exact hk _ 0 h (fun _=>by kernel_rfl) (by simp[mY]) (a_.refl _)
 | cons z tl =>
  have hb:¬ ((L tl:Int)+1=0):=jA
  simp at e0;obtain⟨_,_,c1,n1,w1,T,rfl,rfl,s1,l1,t1⟩:=J52 b s hn (fun r h' => ∃ w C,r=.ret w/\h=h'/\SB h w C/\L C<=L (z::tl)/\mY C=mY (z::tl)) (fun w C q1 q2 q3=>⟨w,C,rfl,rfl,q1,q2,q3⟩);obtain⟨_,h2,c2,n2,w2,hx,rfl,s2,l2,t2,hr,P⟩:=J7p b s1 jA (fun r h' => ∃ w C,r=.ret w/\SB h' w C/\L C<=L T/\mY C=mY T/\(C=[]∨C.head? ≠ U 0)/\a_ h h') (fun w C h' q1 q2 q3 q4 q5=>⟨w,C,rfl,q1,q2,q3,q4,q5⟩);simp[EV,HZ,Z9,Kh,Ih,Kx,Kn,IG,C2,CY,e0,hb,e2,e3,e4];refine ju [⟨157,[v,I .u8 0],h,w1,h,Y⟩,⟨156,[w1,I .u8 0],h,w2,h2,Y⟩] ?_ Y0n Y99 Yz3 (by simp[Zd0,Zgw,Zic,EV,HZ,Z9,Kh,Ih,Kx,Kn,IG,C2,CY,e2,r_];first | exact⟨rfl,rfl⟩ | rfl) ?_ ?_
  ·exact wm ⟨c1,n1,fun _ _ _=>rfl⟩ ⟨c2,n2,fun _ c hc=>P.2 c hc⟩
  ·simp[zQ,EV,HZ,Z9,Kh,Ih,Kx,Kn,IG,C2,CY,e2]
  simp[EV,HZ,Z9,Kh,Ih,Kx,Kn,IG,C2,CY];refine hk w2 (L hx) h2 (fun h1=>m_ s2) ?_ P;rw[<- t1,<- t2];cases hx with
  | nil=>simp[mY]
  | cons y l =>
   have : y≠0:=by simpa using hr
   simp[mY,this]
def PA{v:V}{xs:List Int}(s:SB h v xs)(P:L xs < 1000000000)(K:KP)(C:∀ h',a_ h h'->K (.ret (.bool (mY xs))) h'):FK b 109 [v] h K:=by
 refine iI b (Xp b) Y3j rfl ?_;simp[SF,Ydd,Xp];refine Vav b s P _ fun w n h' T q2 q3 => ?_;have e:decide ((0:Int) < (n:Int))=mY xs:=by rw[<- q2];congr 1;simp
 simp[SF,Ydd,Xp,T,-Int.natCast_pos,e];exact C h' q3
end
def i_.R{e:iO}{ps:List (V × List Int)}{op:List Br}(M_:i_ h MB μ e ps op)(a:a_ h h'):i_ h' MB μ e ps op:=by
 obtain⟨⟨sv,ov,z,r⟩,its,low⟩:=M_;refine⟨⟨sv,ov,z,?_⟩,fun p P=>(its p P).mv (Mv.R a),fun c C=>aw (low c C) a.1⟩;exact⟨a.A r.at',r.mb,r.st.keep fun c _ C=>a.2 c C,r.op.keep fun c _ C=>a.2 c C,r.ms,r.mo⟩
def qb.nil:qb h MB (M O 0 0) []:=⟨Sl.nil,(fun _ h=>by cases h),(fun _ h=>by cases h)⟩
def Cl(x:Bool):List Int:=if x then [1]else []
def qb.new(low:∀ c,MB c->c < h.Q){xs:List Int}(C:Bytes xs)(hl:L xs < 1000000):qb (h.push (S Y 1 (xs.map i8))) MB (M (U ⟨h.Q,0,O⟩) (L xs) (L xs)) xs:=by
 refine⟨(ig.new (n0:=0) (bQ _) (by rw[N.F,if_pos rfl]) kA (by unfold iJ;omega) (.inr rfl)).sl,C,fun c P T => ?_⟩;cases P;exact absurd (low _ T) (Nat.lt_irrefl _)
section
attribute [local simp] Qgt Qlp Xt X9
def J22{e:iO}{ps:List (V × List Int)}{op:List Br}(x:Bool)(M_:i_ h MB μ e ps op)(K:KP)(hk:L ps < 16->∀ v h' C,i_ h' C μ e ((v,Cl x)::ps) op->Mv MB C h h'->K (.ret (.tuple #[])) h')(hp:16<=L ps->∀ h',a_ h h'->K (.panic (pe 16)) h'):FK b 131 [pO μ 0,.bool x] h K:=by
 refine iI b (Xt b) X45 rfl ?_;cases x with
 | true =>
  have i:=qb.new (h:=h) (MB:=MB) M_.low (xs:=[1]) (by intro z hz;simp at hz;omega) kA;simp[HI];by_cases hl:L ps < 16
  ·refine zi b (M_.R (a_.push _ _)) i hl _ fun h' C P T => ?_;simp;exact hk hl _ h' C P ((Mv.R (a_.push _ _)).trans T)
  ·refine Ez b (M_.R (a_.push _ _)) jA _ ?_;simp;exact hp jA _ (a_.push _ _)
 | false =>
  simp;by_cases hl:L ps < 16
  ·refine zi b M_ qb.nil hl _ fun h' C P T => ?_;simp;exact hk hl _ h' C P T
  ·refine Ez b M_ jA _ ?_;simp;exact hp jA _ (a_.refl _)
end
def BB:List Br->Bool
 | []=>J
 | x::_=>x.off
def Vk2{x:Br}{r:List Br}(o:ig h 0 3 ov (L (x::r)) (nW (x::r).reverse))(k:IntKind):∃ bk o1,Vn ov=U bk/\Ug (E b).toiS 196 ov (I k (L r:Int))=U (pO bk o1)/\Jr h bk o1=U (.bool x.off)/\Jr h bk (o1+1)=U (.bool x.dead)/\Jr h bk (o1+2)=U (.bool x.turned):=by
 obtain⟨bk,o1,q1,q2,q3, -⟩:=o_ (yR b) Hv o.sl (k:=k) (i:=(L r:Int)) jA (by simp;try omega);have C:nW (x::r).reverse=nW r.reverse++x.cells:=by simp[nW]
 have P:L (nW r.reverse)=L r*3:=by rw[MG];simp
 have g:∀ j,j < 3->Jr h bk (o1+j)=x.cells[j]? := fun j T=>by
  rw[q3 j T,C,bb,<- P,List.getElem?_append_right (Nat.le_add_right _ _),df]
 exact⟨bk,o1,q1,q2,g 0 jA,g 1 jA,g 2 jA⟩
section
attribute [local simp] Qg0 Qkd Qy Qhs vl vi vf vW tU
def wJ{e:iO}{ps:List (V × List Int)}{op:List Br}(M_:i_ h MB μ e ps op)(hl:L op < 1000)(K:KP)(T:K (.ret (.bool (BB op))) h):FK b 129 [pO μ 0] h K:=by
 refine iI b (Qy b) X9b rfl ?_;obtain⟨⟨sv,ov,z,r⟩,its,low⟩:=M_;have C:∀ h1,iP (E b).toiS 196 ov h1=U (I X (L op:Int)):=fun h1=>ja (yR b) r.op.sl;simp;cases op with
 | nil =>
  simp at C;refine ju [] kA Q6m Q81 Q6f (by simp[Q9p,Q9m,jg,r.c35,C];first | exact⟨rfl,rfl⟩ | rfl) ?_ ?_
  ·simp[Gh]
  simp;exact T
 | cons x l =>
  obtain⟨bk,o1,q1,q2,P,g1,g2⟩:=Vk2 b r.op X;have h0:(0:Int) < (L l:Int)+1:=jA
  have hw:IntKind.i64.wrap (L l:Int)=(L l:Int):=by
   simp at hl;exact jW jA jA
  simp at C;refine ju [] kA Q6m Q81 Q6f (by simp[Q9p,Q9m,jg,r.c35,C,h0,hw,q2,P];first | exact⟨rfl,rfl⟩ | rfl) ?_ ?_
  ·simp[Gh]
  simp;exact T
end
def own_set{n:Nat}{v:V}{xs:List V}(o:ig h n0 z v n xs){bk i:Nat}(hb:Vn v=U bk)(hi:i < L xs)(w:V) :
  ∃ h',Wp h bk i [w]=U h'/\ig h' n0 z v n (xs.set i w)/\h'.Q=h.Q/\∀ c,c≠bk->h'.A c=h.A c:=by
 rcases o with⟨rfl,rfl,rfl⟩ | ⟨T,c,z',P,rfl,h1,h2,h3,h4,h5,h6⟩
 ·cases hb
 ·simp only[Vn,av]at hb;subst hb;have C:=N.D h2;refine⟨_,oF h2 (by simp;omega),.inr ⟨T,c,z',P,rfl,h1,by rw[gY C,if_pos rfl,fY _ _ hi],by simpa using h3,h4,h5,by simpa using h6⟩,rfl,fun k hk=>by rw[gY C,if_neg (Ne.symm hk)]⟩
def Vag{x:Br}{r:List Br}(o:ig h 0 3 ov (L (x::r)) (nW (x::r).reverse)):∃ bk,Vn ov=U bk/\Ug (E b).toiS 196 ov (I X (L r:Int))=U (pO bk (L r*3))/\∀ h1 C,ig h1 0 3 ov (L (x::r)) (nW r.reverse++C)->L C=3->∀ j,j < 3->Jr h1 bk (L r*3+j)=C[j]? := by
 have e2:L (nW r.reverse)=L r*3:=by rw[MG];simp
 rcases o with⟨_,h,_⟩ | ⟨P,c,z',hx,rfl,h1,h2,h3,h4,h5,h6⟩
 ·cases h
 ·refine⟨P,rfl,?_,fun k C ho hk j hj => ?_⟩
  ·rw[vf b ⟨jA,by simp;try omega⟩];simp
  ·rcases ho with⟨h,_⟩ | ⟨hc,c2,z2,T,e,g1,g2,g3⟩
   ·cases h
   ·simp only[Value.slice.injEq,av,Addr.mk.injEq]at e;obtain⟨⟨rfl,_⟩,_⟩:=e;rw[Zy g2,aQ,List.getElem?_append_right jA,e2,df,List.getElem?_append_left jA]
def lS(code:Int)(st:List (List Int))(op:List Br):Option (Option (List (List Int) × List Br)) :=
 if code=136 then U (if BB op then U (st,⟨Y,Y,J⟩::op)else match st with
  | []=>O
  | x::r=>U (r,⟨!mY x,J,J⟩::op))
 else if code=137∨code=138 then U (match op with
  | []=>O
  | x::l=>if code=138 then U (st,l)else if x.turned then O else U (st,⟨x.dead || !x.off,x.dead,Y⟩::l))
 else O
def s9(MB:Nat->Prop)(h:N)(μ:Nat)(e:iO)(st:List (List Int))(op:List Br)(h':N):Prop:=∃ P C,P.map (·.2)=st/\i_ h' C μ e P op/\Mv MB C h h'
def tL(MB:Nat->Prop)(h h':N):Prop:=∃ C,Mv MB C h h'
def Jvj(x y:Bool):lK (E b).toiS 246 [(0,.bool x),(1,.bool y)]=U (.agg ⟨[.bool x,.bool y,.bool J]⟩):=kR
def i_.opened{b:Nat}{h:N}{MB:Nat->Prop}{μ:Nat}{e:iO}{ps:List (V × List Int)}{op:List Br}(M_:i_ h MB μ e ps op)(hl:L op < 1000){ov:V}(hr:Jr h μ 35=U ov)(x y:Bool) :
    ∃ P h2,Wc (E b).toiS 196 1 [(0,.agg ⟨[.bool x,.bool y,.bool J]⟩)] h=U (M (U ⟨h.Q,0,O⟩) 1 1,h.push (S Y 1 [.bool x,.bool y,.bool J])) /\
      mR (E b).toiS 196 196 ov (M (U ⟨h.Q,0,O⟩) 1 1) (h.push (S Y 1 [.bool x,.bool y,.bool J]))=U (P,h2) /\
      ∃ h3,j0 (E b).toiS 196 (pO μ 35) P h2=U h3/\vJ (U ov) (U ov)=Y/\∃ hk,i_ h3 hk μ e ps (⟨x,y,J⟩::op)/\Mv MB hk h h3:=by
  obtain⟨⟨sv,ls,z,r⟩,its,low⟩:=M_;rw[r.c35]at hr;cases hr;have hA:=u7 (yR b) (z:=3) Hv jA jA (y:=.agg ⟨[.bool x,.bool y,.bool J]⟩) rfl (ys:=[.bool x,.bool y,.bool J]) rfl rfl (h:=h);obtain⟨P,h2,a1,a2,a3,a4⟩:=Bu (yR b) Hv jA r.op (bQ _) (ys:=[.bool x,.bool y,.bool J]) rfl (by rw[Jyr];omega) jA;have Z':=N.D r.at';have g2:h2.A μ=U (S Y z (e.cells ++ [sv,ov])):=by rw[a3.2 μ Z' fun q=>(r.mo _ q).2.1 rfl];exact r.at'
  have T:μ < h2.Q:=N.D g2;refine⟨P,h2,hA,a1,h2.set μ (U (S Y z (e.cells ++ [sv,P]))),?_,PJ r.op,fun c=>MB c∨Vn P=U c,?_,?_⟩
  · exact(Vah b h2 μ 35 P a2.one).trans (by rw[oF g2 (by simp[e.len]),Vgc])
  all_goals have mv:Mv MB (fun c=>MB c∨Vn P=U c) h (h2.set μ (U (S Y z (e.cells ++ [sv,P])))) :=
    ⟨a3.1,fun c C hn=>by rw[gY T,if_neg (fun q=>hn (by subst q;exact r.mb)),a3.2 c C (fun q=>hn (r.mo c q).1)],
     fun c C=>by
      rcases C with C | C
      · exact .inl C
      · rcases a4 c C with q | q
        · exact .inl (r.mo c q).1
        · exact .inr q⟩
  · have hb:∀ c,Vn P=U c->c≠μ:=fun c C=>by
      rcases a4 c C with q | q
      · exact(r.mo c q).2.1
      · omega
    refine⟨⟨sv,P,z,?_⟩,fun p hp=>(its p hp).mv mv,?_⟩
    · refine⟨by rw[gY T,if_pos rfl],.inl r.mb,?_,?_,fun c C=>⟨.inl (r.ms c C).1,(r.ms c C).2⟩,fun c C=>⟨.inr C,hb c C,fun q => ?_⟩⟩
      · exact r.st.keep fun c C hx=>by rw[gY T,if_neg (Ne.symm (r.ms c C).2),a3.2 c hx (fun q=>(r.mo c q).2.2 C)]
      · have : ig h2 0 3 P (L (⟨x,y,J⟩::op:List Br)) (nW (⟨x,y,J⟩::op:List Br).reverse):=by simpa[nW,Br.cells]using a2
        exact this.keep fun c C _=>by rw[gY T,if_neg (Ne.symm (hb c C))]
      · rcases a4 c C with q' | q'
        · exact(r.mo c q').2.2 q
        · have:=r.st.out q;omega
    · rintro c (C | C)
      · exact aw (low c C) a3.1
      · exact a2.out C
  · exact mv
def Vjr{e:iO}{ps:List (V × List Int)}{op:List Br}(M_:i_ h MB μ e ps op)(h1:L ps < 1000)(h2:L op < 1000)(h3:∀ p ∈ ps,L p.2 < 1000000000)(K:KP)(hk:∀ Z' hA,lS 136 (ps.map (·.2)) op=U (U (Z',hA))->∀ h',s9 MB h μ e Z' hA h'->K (.ret (.bool Y)) h')(hp:lS 136 (ps.map (·.2)) op=U O->∀ h',tL MB h h'->K (.panic (pe 16)) h'):fx Tryz.prog (E b).G 128 [pO μ 0,I X 136] h K:=by
 refine kW (E b) (kE _ _) (Wh b) (Vm b) ie (Ws b) (Qu b) tG.1 tG.2.1 tG.2.2 rfl ?_;simp[Zv,J6,Qu,Z9,Qy,vl,vi,Qt,Xp,X8,vf,Zu,w9,tU,vV,w_,vW,Zt,Zn,Zs];refine(wJ b M_ h2 _ ?_).ok;simp[Zv,J6,Qu,Z9,Qy,vl,vi,Qt,Xp,X8,vf,Zu,w9,tU,vV,w_,vW,Zt,Zn,Zs];obtain⟨ov,C⟩:∃ ov,Jr h μ 35=U ov:=by
  obtain⟨⟨sv,ov,z,r⟩,_,_⟩:=M_;exact⟨ov,r.c35⟩
 cases hd:BB op with
 | true =>
  obtain⟨hy,h4,q1,q2,h5,q3,q4,hb,q5,q6⟩:=M_.opened (b:=b) h2 C Y Y;refine ju [] kA VM VK Qxj (by simp[Qzu,Q00,Q1i,Q29,Qzs,Qzv,Zv,J6,Qu,Z9,Qy,vl,vi,Qt,Xp,X8,vf,Zu,w9,tU,vV,w_,vW,Zt,Zn,Zs,jg,C,Jvj,q1,q2,q3];first | exact⟨rfl,rfl⟩ | rfl) ?_ ?_
  ·simp[Uk,Zv,J6,Qu,Z9,Qy,vl,vi,Qt,Xp,X8,vf,Zu,w9,tU,vV,w_,vW,Zt,Zn,Zs,q4,C]
  simp[Zv,J6,Qu,Z9,Qy,vl,vi,Qt,Xp,X8,vf,Zu,w9,tU,vV,w_,vW,Zt,Zn,Zs];exact hk _ _ (by simp[lS,hd]) _ ⟨ps,hb,rfl,q5,q6⟩
 | false =>
  cases ps with
  | nil =>
   have ls:mI 8 130 #[.tmp 19] yL Uk 0=[⟨(U 12),.move (.tmp 0),0, "",#[],O⟩,⟨(U 13),.move (.tmp 0),0, "",#[],O⟩,⟨(U 14),.nilCheck (.tmp 13),0, "",#[],O⟩,⟨(U 15),.fieldAddr 198 (.tmp 14) 2,0, "",#[],O⟩,⟨(U 16),.load 196 (.tmp 15),0, "",#[],O⟩,⟨(U 17),.move (.tmp 5),0, "",#[],O⟩,⟨(U 18),.move (.tmp 17),0, "",#[],O⟩,⟨(U 19),.move (.tmp 0),0, "",#[],(U (6,J))⟩,⟨(U 20),.makeFunc (.func 130) #[(.tmp 19)] #[],0, "",#[],(U (6,J))⟩,⟨(U 21),.assign (.const (.bool J)),0, "",#[],(U (6,J))⟩,⟨(U 22),.assign (.const (.bool J)),0, "",#[],(U (6,J))⟩,⟨(U 23),.assign (.const (.bool J)),0, "",#[],O⟩,⟨(U 24),.move (.tmp 5),0, "",#[],O⟩,⟨(U 25),.assign (.const (.bool J)),0, "",#[],O⟩,⟨(U 26),.assign (.const (.bool J)),0, "",#[],O⟩,⟨(U 27),.assign (.const (.bool J)),0, "",#[],O⟩,⟨(U 28),.assign (.const (.bool J)),0, "",#[],O⟩,⟨(U 29),.assign (.const (.bool J)),0, "",#[],O⟩,⟨O,.assign (.const (.bool J)),0, "",#[],O⟩]:=kR
   refine Vfb (p0:=8) (d0:=20) (f:=130) (args:=#[.tmp 19]) (o:=(CV.toList[8]?).getD ⟨O,.move (.tmp 0),0, "",#[],O⟩) (c:={callee:=.value (.func 130),args:=#[.tmp 19],argTypes:=#[191]}) (l:=[pO μ 0]) rfl VM VK (by kernel_rfl) (by kernel_rfl) (by kernel_rfl) rfl rfl (by kernel_rfl) (by kernel_rfl) (by kernel_rfl) (by rw[ls];simp[jF,rW,o8,ui,Zv,J6,Qu,Z9,Qy,vl,vi,Qt,Xp,X8,vf,Zu,w9,tU,vV,w_,vW,Zt,Zn,Zs,jg,C,AT];rfl) (by simp[Tr.H]) (by kernel_rfl) ?_;refine(wM b M_ _ ?_).ok;intro T hT;simp[Zv,J6,Qu,Z9,Qy,vl,vi,Qt,Xp,X8,vf,Zu,w9,tU,vV,w_,vW,Zt,Zn,Zs];exact hp (by simp[lS,hd]) h ⟨MB,Mv.refl _ _⟩
  | cons p ps =>
   obtain⟨v,x⟩:=p;have hx:=h3 (v,x) kA;obtain⟨_,h4,c1,n1,rfl,M1,m1,e1,i1,k1⟩:=vm b M_ (by simp at h1;omega) (fun r h'=>r=.ret v/\i_ h' MB μ e ps op/\Mv MB MB h h'/\h'.Q=h.Q/\qb h' MB v x/\(∀ ov,Jr h μ 35=U ov->Jr h' μ 35=U ov)) (fun h' q1 q2 q3 q4 q5=>⟨rfl,q1,q2,q3,q4,q5⟩);obtain⟨_,h5,c2,n2,rfl,a2⟩:=PA b i1.sb hx (fun r h'=>r=.ret (.bool (mY x))/\a_ h4 h') (fun h' q=>⟨rfl,q⟩);have P:=k1 ov C;have hr:Jr h5 μ 35=U ov:=by
    obtain⟨⟨sv,hq,z,r⟩,_,_⟩:=M1;rw[r.c35]at P;rw[Zy (a2.A r.at'),TM];exact P
   obtain⟨hy,h6,q1,q2,h7,q3,q4,hb,q5,q6⟩:=(M1.R a2).opened (b:=b) h2 hr (!mY x) J;refine ju [⟨130,[pO μ 0],h,v,h4,J⟩,⟨109,[v],h4,.bool (mY x),h5,Y⟩] ?_ VM VK Qxj (by simp[Qzu,Q00,Q1i,Q29,Qzs,Qzv,Zv,J6,Qu,Z9,Qy,vl,vi,Qt,Xp,X8,vf,Zu,w9,tU,vV,w_,vW,Zt,Zn,Zs,jg,C,Jvj,q1,q2,q3,r_];first | exact⟨rfl,rfl⟩ | rfl) ?_ ?_
   ·exact wm ⟨c1,n1,fun q=>by cases q⟩ ⟨c2,n2,fun _ c hc=>a2.2 c hc⟩
   ·simp[Uk,Zv,J6,Qu,Z9,Qy,vl,vi,Qt,Xp,X8,vf,Zu,w9,tU,vV,w_,vW,Zt,Zn,Zs,q4,C,P,hr]
   simp[Zv,J6,Qu,Z9,Qy,vl,vi,Qt,Xp,X8,vf,Zu,w9,tU,vV,w_,vW,Zt,Zn,Zs];refine hk _ _ (by simp[lS,hd]) _ ⟨ps,hb,rfl,q5,m1.trans ((Mv.R a2).trans q6)⟩
section
attribute [local simp] Zv J6 Qu Z9 Qy vl vi Qt Xp X8 vf Zu w9 tU vV w_ vW Zt Zn Zs
def yq{code:Int}(C:lS code [] []=O)(K:KP)(hk:K (.ret (.bool J)) h):fx Tryz.prog (E b).G 128 [pO μ 0,I X code] h K:=by
 have P:¬ code=136:=fun q=>by subst q;simp[lS]at C
 have T:¬ code=137:=fun q=>by subst q;simp[lS]at C
 have c3:¬ code=138:=fun q=>by subst q;simp[lS]at C
 refine kW (E b) (kE _ _) (Wh b) (Vm b) ie (Ws b) (Qu b) tG.1 tG.2.1 tG.2.2 rfl ?_;simp[P,T,c3];exact hk
def J4p{e:iO}{ps:List (V × List Int)}(M_:i_ h MB μ e ps []){code:Int}(P:code=137∨code=138)(K:KP)(T:K (.panic (pe 16)) h):fx Tryz.prog (E b).G 128 [pO μ 0,I X code] h K:=by
 obtain⟨⟨sv,ov,z,r⟩,its,low⟩:=M_;have C:∀ h1,iP (E b).toiS 196 ov h1=U (I X 0):=fun h1=>ja (yR b) r.op.sl;refine kW (E b) (kE _ _) (Wh b) (Vm b) ie (Ws b) (Qu b) tG.1 tG.2.1 tG.2.2 rfl ?_;rcases P with rfl | rfl
 all_goals
  simp[jg,r.c35,C];refine(uo b h 16 _ ?_).ok;simp;exact T
def Vfr{e:iO}{ps:List (V × List Int)}{x:Br}{l:List Br}(M_:i_ h MB μ e ps (x::l))(hl:L l < 1000)(K:KP)(hk:∀ h',i_ h' MB μ e ps l->Mv MB MB h h'->K (.ret (.bool Y)) h'):fx Tryz.prog (E b).G 128 [pO μ 0,I X 138] h K:=by
 obtain⟨⟨sv,ov,z,r⟩,its,low⟩:=M_;have e0:∀ h1,iP (E b).toiS 196 ov h1=U (I X ((L l:Int)+1)):=fun h1=>by have:=ja (yR b) r.op.sl (h1:=h1);simpa using this
 have h0:(0:Int) < (L l:Int)+1:=jA
 have hw:IntKind.i64.wrap (L l:Int)=(L l:Int):=jW jA jA;obtain⟨bk,q1,q2,q3⟩:=Vag b r.op;obtain⟨C,t1,t2,t3⟩:=KA (yR b) Hv jA r.op (k:=.i64) (i:=(L l:Int)) jA (by simp;try omega);have hx:ig h 0 3 C (L l) (nW l.reverse):=by
  have e1:nW (x::l).reverse=nW l.reverse++x.cells:=by simp[nW]
  have e2:L (nW l.reverse)=L l*3:=by rw[MG];simp
  rw[e1,bb,<- e2,dR]at t2;exact t2
 have st:j0 (E b).toiS 196 (pO μ 35) C h=_:=(Vah b h μ 35 C hx.one).trans (r.s35 C);have h2:vJ (U ov) (U ov)=Y:=PJ r.op;refine kW (E b) (kE _ _) (Wh b) (Vm b) ie (Ws b) (Qu b) tG.1 tG.2.1 tG.2.2 rfl ?_;simp[jg,r.c35,e0,h0];refine(vL b h 16 _ ?_).ok;simp;refine ju [] kA Qxr Qyd Qxm (by simp[Q02,jg,r.c35,e0,hw,q2];first | exact⟨rfl,rfl⟩ | rfl) ?_ ?_
 ·simp[Gn]
 simp;refine ju [] kA Xde Xfv Xf5 (by simp[Xgx,Xhs,jg,r.c35,e0,hw,t1,st];first | exact⟨rfl,rfl⟩ | rfl) ?_ ?_
 ·simp[C0,h2,r.c35]
 simp;have T:=N.D r.at';have mv:Mv MB MB h (h.set μ (U (S Y z (e.cells ++ [sv,C])))):=⟨ac _,fun c _ hn=>by rw[gY T,if_neg (fun q=>hn (by subst q;exact r.mb))],fun _ h => .inl h⟩;have kp:∀ c,c≠μ->(h.set μ (U (S Y z (e.cells ++ [sv,C])))).A c=h.A c:=fun c P=>by rw[gY T,if_neg (Ne.symm P)]
 refine hk _ ⟨⟨sv,C,z,?_⟩,fun p hp=>(its p hp).mv mv,low⟩ mv;exact⟨by rw[gY T,if_pos rfl],r.mb,r.st.keep fun c P _=>kp c (r.ms c P).2,hx.keep fun c P _=>kp c (r.mo c (t3 ▸ P)).2.1,r.ms,fun c P=>r.mo c (t3 ▸ P)⟩
def Ve0{e:iO}{ps:List (V × List Int)}{x:Br}{l:List Br}(M_:i_ h MB μ e ps (x::l))(hl:L l < 1000)(K:KP)(hk:x.turned=J->∀ h',i_ h' MB μ e ps (⟨x.dead || !x.off,x.dead,Y⟩::l)->Mv MB MB h h'->K (.ret (.bool Y)) h')(hp:x.turned=Y->K (.panic (pe 16)) h):fx Tryz.prog (E b).G 128 [pO μ 0,I X 137] h K:=by
 obtain⟨⟨sv,ov,z,r⟩,its,low⟩:=M_;have e0:∀ h1,iP (E b).toiS 196 ov h1=U (I X ((L l:Int)+1)):=fun h1=>by have:=ja (yR b) r.op.sl (h1:=h1);simpa using this
 have h0:(0:Int) < (L l:Int)+1:=jA
 have hw:IntKind.i64.wrap (L l:Int)=(L l:Int):=jW jA jA;have e1:nW (x::l).reverse=nW l.reverse++x.cells:=by simp[nW]
 have e2:L (nW l.reverse)=L l*3:=by rw[MG];simp
 obtain⟨C,q1,q2,q3⟩:=Vag b r.op;have o0:=r.op;rw[e1]at o0;have g:=q3 h x.cells o0 rfl;have g2:Jr h C (L l*3+2)=U (.bool x.turned):=g 2 jA;obtain⟨h1,s1,o1,n1,k1⟩:=own_set o0 q1 (i:=L l*3+2) (by simp[e2,Br.cells]) (.bool Y);have w1:(nW l.reverse++x.cells).set (L l*3+2) (.bool Y)=nW l.reverse ++ [Value.bool x.off,.bool x.dead,.bool Y]:=by rw[cf _ _ jA,e2,df];rfl
 rw[w1]at o1;have f:=q3 h1 _ o1 rfl;have f0:Jr h1 C (L l*3)=U (.bool x.off):=f 0 jA;have f1:Jr h1 C (L l*3+1)=U (.bool x.dead):=f 1 jA;obtain⟨h2,s2,o2,n2,k2⟩:=own_set o1 q1 (i:=L l*3) (by simp[e2]) (.bool (x.dead || !x.off));have w2:(nW l.reverse ++ [Value.bool x.off,.bool x.dead,.bool Y]).set (L l*3) (.bool (x.dead || !x.off))=nW (⟨x.dead || !x.off,x.dead,Y⟩::l:List Br).reverse:=by rw[cf _ _ jA,e2,cO];simp[nW,Br.cells]
 rw[w2]at o2;refine kW (E b) (kE _ _) (Wh b) (Vm b) ie (Ws b) (Qu b) tG.1 tG.2.1 tG.2.2 rfl ?_;simp[jg,r.c35,e0,h0];refine(vL b h 16 _ ?_).ok;simp;refine ju [] kA Qxr Qyd Qxm (by simp[Q02,jg,r.c35,e0,hw,q2];first | exact⟨rfl,rfl⟩ | rfl) ?_ ?_
 ·simp[Gn]
 simp[jg,g2];cases ht:x.turned with
 | true =>
  refine(uo b h 16 _ ?_).ok;simp;exact hp ht
 | false =>
  refine(vL b h 16 _ ?_).ok;have sb:C≠μ/\Vn sv≠U C:=(r.mo C q1).2;have kk:∀ c,c≠C->h2.A c=h.A c:=fun c P=>by rw[k2 c P,k1 c P]
  have mv:Mv MB MB h h2:=⟨jA,fun c _ hn=>kk c (fun q=>hn (by subst q;exact(r.mo _ q1).1)),fun _ h => .inl h⟩;have T:i_ h2 MB μ e ps (⟨x.dead || !x.off,x.dead,Y⟩::l):=by
   refine⟨⟨sv,ov,z,?_⟩,fun p hp=>(its p hp).mv mv,fun c P=>by rw[n2,n1];exact low c P⟩;exact⟨by rw[kk μ (Ne.symm sb.1)];exact r.at',r.mb,r.st.keep fun c P _=>kk c (fun q=>sb.2 (by subst q;exact P)),by simpa using o2,r.ms,r.mo⟩
  cases hd:x.dead with
  | true =>
   simp[hd]at f1 s2;simp[jg,s1,f1,s2];exact hk ht h2 (by simpa[hd]using T) mv
  | false =>
   simp[hd]at f1 s2;simp[jg,s1,f1,f0,s2];exact hk ht h2 (by simpa[hd]using T) mv
end
def Vlm(a b:Int):Int:=IntKind.wrap X ((BitVec.ofInt 64 a ||| BitVec.ofInt 64 b).toNat:Nat)
def Vjl(x y:Int):jD (binOp .or 3 (I X x) (I X y))=U (I X (Vlm x y)):=kR
def Vgs(x y:Int)(h:y=0∨y=8∨y=16∨y=24):jD (binOp .shl 3 (I X x) (I X y))=U (I X (IntKind.i64.wrap (x*2 ^ y.toNat))):=by
 rcases h with rfl | rfl | rfl | rfl
 ·exact(by kernel_rfl:jD (binOp .shl 3 (I X x) (I X 0))=U (I X (IntKind.i64.wrap (x*2 ^ 0))))
 ·exact(by kernel_rfl:jD (binOp .shl 3 (I X x) (I X 8))=U (I X (IntKind.i64.wrap (x*2 ^ 8))))
 ·exact(by kernel_rfl:jD (binOp .shl 3 (I X x) (I X 16))=U (I X (IntKind.i64.wrap (x*2 ^ 16))))
 ·exact(by kernel_rfl:jD (binOp .shl 3 (I X x) (I X 24))=U (I X (IntKind.i64.wrap (x*2 ^ 24))))
def yh(x:List Int):Nat->Int
 | 0=>0
 | i+1=>Vlm (yh x i) (IntKind.i64.wrap (x.getD i 0*2 ^ (8*i)))
def UI(μ:Nat)(v:V)(x:List Int)(h:N)(k:Nat)(s:St):Prop:=∃ (t:Tr V) (i:Nat),s=⟨⟨35,t⟩,[],h⟩/\t.A 0=U (pO μ 0)/\t.A 12=U v/\t.A 13=U (I X 4)/\t.A 14=U (I X (i:Int))/\t.A 3=U (I X (yh x i))/\i<=4/\k=4-i
def pQ.c33{e:iO}{ps:List (V × List Int)}{op:List Br}{sv ov:V}(m:pQ h MB μ e ps op sv ov z):Jr h μ 33=U (I X e.lk):=by
 rw[Zy m.at',List.getElem?_append_left (by rw[e.len];omega)];simp[iO.cells,e.hd]
section
attribute [local simp] W_ Qbi Xb Qt Z9 X8 zx NE NF VX Xat kQ 
def J66{e:iO}{v:V}{x:List Int}{ps:List (V × List Int)}{op:List Br}(M_:i_ h MB μ e ((v,x)::ps) op)(hl:L ps < 1000)(K:KP)(hk:L x=4->yh x 4<=e.lk->∀ h',i_ h' MB μ e ps op->Mv MB MB h h'->K (.ret (.tuple #[])) h')(h4:L x≠4->∀ h',Mv MB MB h h'->K (.panic (pe 16)) h')(he:L x=4->¬ yh x 4<=e.lk->∀ h',Mv MB MB h h'->K (.panic (pe 18)) h'):FK b 134 [pO μ 0] h K:=by
 refine iI b (Xb b) Q9g rfl ?_;simp;refine vm b M_ hl _ fun h1 M1 m1 _ i1 _ => ?_;have len:=fun P=>m_ (b:=b) (h1:=P) i1.sb;by_cases P:L x=4
 ·rw[P]at len;have h2:∀ P,iP (E b).toiS 28 v P=U (I X 4):=len;simp[h2];refine vL b h1 16 _ ?_;simp[h2];refine jE (UI μ v x h1) 4 ⟨_,0,rfl,kA,kA,kA,kA,by simp[yh],jA,rfl⟩ ?_;rintro k s' ⟨t,i,rfl,t0,T,t13,t14,t3,hi,rfl⟩ _;obtain⟨⟨sv,ov,z,r⟩,its,low⟩:=M1;by_cases Z':i < 4
  ·have hr:(i:Int) < 4:=jA
   obtain⟨c,hc⟩:∃ c,x[i]? = U c:=⟨_,List.getElem?_eq_getElem jA⟩;obtain⟨bk,off,q1,q2,q3⟩:=Dc (b:=b) i1.sb (k:=.i64) hc;have hb:=i1.by8 c (List.mem_of_getElem? hc);have w1:IntKind.i64.wrap c=c:=jW jA jA;have w2:IntKind.i64.wrap (8*(i:Int))=8*(i:Int):=jW jA jA;have w3:=wS (i:=i) jA;obtain⟨a1,hp⟩:∃ a:Int,a=IntKind.i64.wrap (c*2 ^ (8*i)):=⟨_,rfl⟩;have sh:jD (binOp .shl 3 (I X c) (I X (8*(i:Int))))=U (I X a1):=by
    rw[Vgs c _ jA,hp];congr 5
   have orr:jD (binOp .or 3 (I X (yh x i)) (I X a1))=U (I X (yh x (i+1))):=by
    rw[Vjl,hp,yh,List.getD_eq_getElem?_getD,hc];rfl
   simp only[i8]at q3;simp[t0,T,t13,t14,t3,hr,q2,q3,w1,w2,w3,sh,orr];exact⟨4-(i+1),jA,_,i+1,rfl,by simp[t0],by simp[T],by simp[t13],kA,kA,jA,rfl⟩
  ·have : i=4:=jA
   subst this;have h3:=r.c33;by_cases C:yh x 4<=e.lk
   ·simp[jg,t0,T,t13,t14,t3,h3,C];refine vL b h1 18 _ ?_;simp;exact hk P C h1 ⟨⟨sv,ov,z,r⟩,its,low⟩ m1
   ·simp[jg,t0,T,t13,t14,t3,h3,C];refine uo b h1 18 _ ?_;simp;exact he P C h1 m1
 ·have hA:¬ (L x:Int)=4:=jA
  simp[len,P,hA];refine uo b h1 16 _ ?_;simp;exact h4 P h1 m1
end
def TW(xs:List Int):ByteArray:=⟨⟨xs.map fun n=>UInt8.ofNat n.toNat⟩⟩
def Z4t:∀ xs:List Int,yu (xs.map i8)=U xs
 | []=>rfl
 | x::xs=>by
  show(match yu (xs.map i8)with | some r=>U (x::r) | none=>O)=_;rw[Z4t xs]
def Jw7{v:V}{xs:List Int}(s:SB h v xs):wK (E b).toiS 28 9 v h=U (.string (TW xs),h):=by
 have h1:vc.desc=.slice 5:=(ma b).d;have C:R9.desc=.string:=kR
 have P:R5.desc=.int .u8:=kR
 rcases s with⟨c,rfl,_,e,e2⟩ | ⟨T,o,c,ow,z',pre,post,rfl,g1,g2,g3, -⟩
 ·have : xs=[]:=gg.1 e2;subst this;simp only[wK,qC,Vl6,h1,C,uI,P];rfl
 ·have h4:Ab.cellsAt h ⟨T,o,O⟩ (L xs)=U (xs.map i8):=by
   simp only[Ab.cellsAt,g1];rw[<- g2,aQ,cd,uD kA,aP kA,ai kA]
  simp only[wK,qC,Vl6,h1,C,uI,P,h4,Z4t];rfl
def J5w(x y:ByteArray):jD (binOp .eql 9 (.string x) (.string y))=U (.bool (x.toList == y.toList)):=kR
def Vhf:∀ (xs ys:List Int),Bytes xs->Bytes ys->xs.map (fun n=>UInt8.ofNat n.toNat)=ys.map (fun n=>UInt8.ofNat n.toNat)->xs=ys:=by
 intro xs;induction xs with
 | nil=>intro ys _ _ e;cases ys <;> simp_all
 | cons x xs ih =>
  intro ys P T e;cases ys with
  | nil=>simp at e
  | cons y ys =>
   simp only[aK,cH]at e;have b1:=P x kA;have b2:=T y kA;have e3:=congrArg UInt8.toNat e.1;simp only[UInt8.toNat_ofNat']at e3;have : x=y:=jA
   rw[this,ih ys (fun z C=>P z (by simp[C])) (fun z C=>T z (by simp[C])) e.2]
def J33{xs ys:List Int}(C:Bytes xs)(P:Bytes ys):((TW xs).toList == (TW ys).toList)=decide (xs=ys):=by
 rw[gk,gk];show(xs.map (fun n=>UInt8.ofNat n.toNat) == ys.map (fun n=>UInt8.ofNat n.toNat))=decide (xs=ys);by_cases h:xs=ys
 ·subst h;simp
 ·rw[decide_eq_false h];simp only[beq_eq_false_iff_ne,ne_eq];exact fun e=>h (Vhf xs ys C P e)
def J6d{v w:V}{xs ys:List Int}(s1:SB h v xs)(s2:SB h w ys)(C:Bytes xs)(P:Bytes ys)(K:KP)(T:K (.ret (.bool (decide (xs=ys)))) h):FK b 132 [v,w] h K:=by
 refine iI b (Zb b) Zkt rfl ?_;simp[Yeb,Zyj,Zb,Vb9,Jw7 b s1,Jw7 b s2,J5w,J33 C P];exact T
end Go.Proofs.YtbhojjejgmfgmaaGreatDoor
end
