import Derived.Test.YtmgonkaadhbnpaaGreatDoorFA
import Derived.Test.YtmgonkaadhbnpaaGreatDoorAbG
import Derived.Test.YtmgonkaadhbnpaaGreatDoorStA
set_option linter.all false
set_option maxHeartbeats 1000000
open List renaming length→L
open Option renaming some→U,none→O
open Bool renaming true→Y,false→J
open Go renaming Value→V
open Go.Value renaming int→I,slice→M
open Go.IntKind renaming i64→X
open Go.Ab.Blk renaming cells→S
noncomputable section
namespace Go.Proofs.YtmgonkaadhbnpaaGreatDoor
open Go Go.Ab
set_option maxRecDepth 100000
variable(b:Nat){h:N}{ov:V}{h':N}{n0:Nat}{MB:Nat->Prop}{μ:Nat}{z:Nat}
def i8(z:Int):V:=I .u8 z
abbrev SB(h:N)(v:V)(xs:List Int):Prop:=Sl h 1 v (L xs) (xs.map i8)
abbrev OB(h:N)(n0:Nat)(v:V)(xs:List Int):Prop:=ij h n0 1 v (L xs) (xs.map i8)
def j_{b:Nat}{h h1:N}{v:V}{xs:List Int}(s:SB h v xs):iC (E b).tojo 31 v h1=U (I X (L xs)):=iT (j' b) s
def sL{b:Nat}{h:N}{v:V}{xs:List Int}(s:SB h v xs){k:IntKind}{i:Nat}{z:Int}(hi:xs[i]? = U z) :
  ∃ bk o,J7 v=U bk/\J1 (E b).tojo 31 v (I k (i:Int))=U (pO bk o)/\Zq h bk o=U (i8 z):=by
 have P:i < L xs:=(av.1 hi).1;obtain⟨bk,o,h1,j,C, -⟩:=mQ (j' b) k_ s (k:=k) (i:=(i:Int)) iA iA
 grind
def ua{b:Nat}{h:N}{z:Int}:V6 (E b).tojo 31 1 [(0,I .u8 z)] h=U (M (U ⟨h.Q,0,O⟩) 1 1,h.push (S Y 1 [i8 z])):=oL (j' b) k_ iA iA rfl rfl rfl
def Umm{b:Nat}{h:N}{n0:Nat}{v:V}{xs:List Int}(o:OB h n0 v xs)(h0:n0<=h.Q)(C:L xs < 140737488355328)(z:Int) :
  ∃ j h',kU (E b).tojo 31 31 v (M (U ⟨h.Q,0,O⟩) 1 1) (h.push (S Y 1 [i8 z]))=U (j,h')/\OB h' n0 j (xs ++ [z])/\iM v h h'/\(Ex h v (L xs)->Ex h' j (L xs+1)):=by
 obtain⟨j,h',k1,k2,k3, -,P⟩:=D8 (j' b) k_ iA o h0 (ys:=[i8 z]) rfl (by rw[ux];omega) iA
 grind
def Gx{b:Nat}{h:N}{n0:Nat}{v:V}{xs:List Int}(o:OB h n0 v xs)(h0:n0<=h.Q)(C:L xs < 140737488355328)(z:Int) :
  ∃ j h',kU (E b).tojo 31 31 v (M (U ⟨h.Q,0,O⟩) 1 1) (h.push (S Y 1 [i8 z]))=U (j,h')/\OB h' n0 j (xs ++ [z])/\iM v h h':=by
 obtain⟨j,h',k1,k2,k3, -⟩:=Umm (b:=b) o h0 C z
 grind
def yE{b:Nat}{h:N}{n0:Nat}{v x:V}{xs ys:List Int}(o:OB h n0 v xs)(h0:n0<=h.Q)(s:SB h x ys)(C:L xs+L ys < 140737488355328) :
  ∃ j h',kU (E b).tojo 31 31 v x h=U (j,h')/\OB h' n0 j (xs++ys)/\iM v h h':=by
 obtain⟨j,h',k1,k2,k3⟩:=yr (j' b) k_ iA o h0 (us (j' b) k_ s) jA (by rw[ux];omega) iA
 grind
def CBI(v:V)(xs:List Int)(h:N)(k:Nat)(s:St):Prop:=∃ (t:Tr V) (h1:N) (o:V) (i:Nat),s=⟨⟨19,t⟩,[],h1⟩/\t.A 0=U v/\t.A 3=U o/\t.A 4=U (I X (i:Int))/\i<=L xs/\k=L xs-i/\OB h1 h.Q o (xs.take i)/\a_ h h1/\Ex h1 o i
attribute [local simp] Qw Y9 Xz X0 X6 Xf Y8 Xo Xd Y7 Q6 Qt Yg Y6 jm Qg iD Ab.g0 gv gs Q8 Qd iH kH lr Qh Tr.H St.put Tm.put flat iS Y5 Qm Qp Qn Qo Qk Ql Qj Qq Qi Q7 Q9 X7 Xy Xp Xe Qx Xn Xg X4 Zz Va Zy Yn Qz.putAll Qr Q0 Qa Wa ku Yk Jn Yo Nat.testBit Y0 loadAt Ab.runT Ym Yb Yh
section
attribute [local simp] Q3z Xhq J8 qx 
def Sp{v:V}{xs:List Int}(s:SB h v xs)(hn:L xs < 140737488355328)(K:KP)(hk:∀ T h',OB h' h.Q T xs->a_ h h'->Ex h' T (L xs)->K (.ret T) h'):FK b 28 [v] h K:=by
 refine ip b (J8 b) Z1d rfl ?_;simp;refine iV (CBI v xs h) (L xs) ⟨_,h,M O 0 0,0,rfl,jA,jA,jA,iA,rfl,ij.nil,a_.refl _,Ex.nil⟩ ?_;rintro k s' ⟨t,h1,o,i,rfl,t0,t3,t4,hi,rfl,ho,C,hx⟩ _;have s1:=s.R C;by_cases P:i < L xs
 ·have j:(i:Int) < (L xs:Int):=iA
  obtain⟨bk,off, -,hc,h2⟩:=sL (b:=b) s1 (k:=.i64) (ac P);have hw:=wS (i:=i) iA;obtain⟨T,h',hA,hO,hB,hX⟩:=Umm (b:=b) ho C.1 (by grind) xs[i];simp[t0,t3,t4,j_ s,j,hc,h2,i8,ua,hA,hw];simp only[i8]at hA;simp[hA,t4,hw];refine⟨L xs-(i+1),iA,_,h',T,i+1,rfl,by simp[t0],jA,jA,iA,rfl,?_,hB.R C ho,?_⟩
  ·simp_all
  grind
 ·have j:¬ (i:Int) < (L xs:Int):=iA
  simp[t0,t3,t4,j_ s,P,j]
  grind
end
def Bh{v:V}{xs:List Int}(s:SB h v xs)(P:L xs < 140737488355328)(K:KP)(C:∀ j h',OB h' h.Q j xs->a_ h h'->K (.ret j) h'):FK b 28 [v] h K:=Sp b s P K fun j h' o a _=>C j h' o a
def SU(i:Int):Int:=IntKind.u8.wrap (IntKind.i64.wrap (201+IntKind.i64.wrap (7*i)))
def Uvi(i:Int)(h:N)(K:KP)(j:K (.ret (i8 (SU i))) h):FK b 34 [I X i] h K:=by
 refine ip b (Ru b) Z4m rfl ?_;simp[YL,Jov,Ru,Vv,Vu];exact j
def SBI(v1 v2:V)(xs ys:List Int)(h:N)(k:Nat)(s:St):Prop:=∃ (t:Tr V) (i:Nat),s=⟨⟨27,t⟩,[],h⟩/\t.A 0=U v1/\t.A 1=U v2/\t.A 5=U (I X (i:Int))/\i<=L xs/\k=L xs-i/\xs.take i=ys.take i
section
attribute [local simp] Qj7 Qph Yd Uu ki qx Mf ki 
def GR{v1 v2:V}{xs ys:List Int}(s1:SB h v1 xs)(s2:SB h v2 ys)(hn:L xs < 140737488355328)(K:KP)(hk:K (.ret (.bool (decide (xs=ys)))) h):FK b 33 [v1,v2] h K:=by
 refine ip b (Yd b) Z7i rfl ?_;by_cases hl:L xs=L ys
 ·have hx:(L xs:Int)=(L ys:Int):=iA
  simp[j_ s1,j_ s2,hx];refine iV (SBI v1 v2 xs ys h) (L xs) ⟨_,0,rfl,jA,jA,jA,iA,rfl,rfl⟩ ?_;rintro k s' ⟨t,i,rfl,t0,t1,t5,hi,rfl,hq⟩ _;by_cases h2:i < L xs
  ·have hc:(i:Int) < (L xs:Int):=iA
   obtain⟨hr,o1, -,j,P⟩:=sL (b:=b) s1 (k:=.i64) (ac h2);obtain⟨h3,o2, -,C,T⟩:=sL (b:=b) s2 (k:=.i64) (ac (show i < L ys by omega));have hw:=wS (i:=i) iA;simp[t0,t1,t5,j_ s1,hc];by_cases he:xs[i]=ys[i]
   ·refine jf [] jA Hp.1 (by simp[Hp.2,t0,t1,t5,j,C,P,T,he,i8];first | exact⟨rfl,rfl⟩ | rfl) (by simp[Pk,t0,t1,t5,j,C,P,T]) ?_;simp[t5,hw];refine⟨L xs-(i+1),iA,_,i+1,rfl,by simp[t0],by simp[t1],jA,iA,rfl,?_⟩;rw[aT,aT,hq,ac h2,ac (show i < L ys by omega),he]
   ·refine jf [] jA Hp.1 (by simp[Hp.2,t0,t1,t5,j,C,P,T,he,i8];first | exact⟨rfl,rfl⟩ | rfl) (by simp[Pk,t0,t1,t5,j,C,P,T]) ?_;have hb:¬ xs=ys:=fun e=>he (by grind);simp[t5,hw]
    grind
  ·have hc:¬ (i:Int) < (L xs:Int):=iA
   have : i=L xs:=iA
   subst this;have he:xs=ys:=by
    grind
   simp[t0,t1,t5,j_ s1]
   grind
 ·have hx:¬ (L xs:Int)=(L ys:Int):=iA
  have hb:¬ xs=ys:=fun e=>hl (by rw[e]);simp[j_ s1,j_ s2,hx]
  grind
end
def Vpy{v:V}{xs:List Int}(s:SB h v xs)(hv:J7 v≠O)(hn:L xs < 1000000000)(K:KP)(hk:∀ C h',OB h' h.Q C xs->a_ h h'->K (.ret C) h'):FK b 65 [v] h K:=by
 refine ip b (FW b) UH rfl ?_;have j:oM (E b).tojo .eql 31 v (M O 0 0)=U (.bool J):=by
  cases v with
  | slice a n c=>cases a with
   | none=>exact absurd rfl hv
   | some a=>simp[oM,wG,rX,(j' b).d]
  | _=>rcases s with⟨_,e,_⟩ | ⟨_,_,_,_,_,_,_,e,_⟩ <;> cases e
 have P:Y5 (E b).tojo .eql 31 Y v (M O 0 0)=U (.bool J):=by simp[Y5,j]
 have T:V6 (E b).tojo 31 0 [] h=U (M (U ⟨h.Q,0,O⟩) 0 0,h.push (S Y 1 [])):=by simp[V6,rX,(j' b).d,sX,k_,oQ,mK,Nat.ble]
 obtain⟨C,h',k1,k2,k3⟩:=yE (b:=b) (h:=h.push (S Y 1 [])) (n0:=h.Q) (v:=M (U ⟨h.Q,0,O⟩) 0 0) (xs:=[]) (ij.new (ai _) (by rw[N.F,if_pos rfl];rfl) rfl kA (.inr rfl)) (bJ _) (s.R (a_.push _ _)) (by grind);simp[LX,Tn,FW,qB,P,j,T,k1];exact hk C h' k2 ⟨ao (bJ _) k3.1,fun c hc=>by rw[k3.2 c (aq hc (bJ _)) (by simp[J7];omega),N.F,if_neg iA]⟩
def pz:Nat->List Int->Option (List (Int × List Int))
 | _,[]=>U []
 | 0,_::_=>O
 | n+1,c::r=>if c<=64/\c<=L r then(pz n (r.drop c.toNat)).map ((c,r.take c.toNat) :: ·)else if c < 129∨c > 139 then O else(pz n r).map ((c,[]) :: ·)
def Bytes(xs:List Int):Prop:=∀ z ∈ xs,0<=z/\z < 256
structure mr where
 code:Int
 data:List Int
 val:V
def mr.cells(o:mr):List V:=[I X o.code,o.val]
def rh(os:List mr):List V:=os.flatMap mr.cells
def sV(os:List mr):List (Int × List Int):=os.map fun o=>(o.code,o.data)
def O3(v w:V):Prop:=∀ c,J7 v=U c->J7 w≠U c
structure jU (h:N) (n0:Nat) (lv:V) (os:List mr):Prop where
 row:ij h n0 2 lv (L os) (rh os)
 data:∀ o ∈ os,OB h n0 o.val o.data
 apart:∀ o ∈ os,O3 lv o.val
 each:os.Pairwise (fun o p=>O3 o.val p.val)
def jU.nil:jU h n0 (M O 0 0) []:=⟨ij.nil,jA,jA,.nil⟩
def jU.R{C:V}{os:List mr}(o:jU h n0 C os)(a:a_ h h'):jU h' n0 C os :=
 ⟨o.row.keep fun c _ j=>a.2 c j,fun p P=>(o.data p P).keep fun c _ j=>a.2 c j,o.apart,o.each⟩
def jU.app{b:Nat}{h1 h:N}{n0:Nat}{lv:V}{os:List mr}{te ts:TypeId}{re rs:ir}(T:jF (E b).tojo te ts re rs)(hz:re.size=2)(hb:re.bytes=32)(o1:jU h1 n0 lv os)(a:a_ h1 h)(h0:n0<=h1.Q)(hn:L os < 1000000){p:mr}(hp:OB h h1.Q p.val p.data) :
  ∃ v' h',kU (E b).tojo ts ts lv (M (U ⟨h.Q,0,O⟩) 1 1) (h.push (S Y 1 p.cells))=U (v',h')/\jU h' n0 v' (os ++ [p])/\iM lv h h'/\∀ c,J7 v'=U c->J7 lv=U c∨h.Q<=c:=by
 have o:=o1.R a;obtain⟨v',h',k1,k2,k3,k4⟩:=vy T hz iA o.row (ao h0 a.1) (ys:=p.cells) rfl (by grind) iA;have far:∀ c,J7 p.val=U c->h1.Q<=c/\c < h.Q:=fun c C=>hp.from C;refine⟨v',h',k1,⟨?_,?_,?_,?_⟩,k3,k4⟩
 ·rw[aJ];simpa[rh]using k2
 ·intro q j;rw[ah]at j;rcases j with j | j
  ·refine(o.data q j).keep fun c C P=>k3.2 c P fun e=>o.apart q j c e C
  ·simp at j;subst j;refine(hp.low h0).keep fun c C P=>k3.2 c P fun e => ?_;have:=far c C;have:=o1.row.out e;omega
 ·intro q j c C e;rw[ah]at j;rcases j with j | j
  ·rcases k4 c C with h | h
   ·exact o.apart q j c h e
   ·have:=(o.data q j).out e;omega
  ·simp at j;subst j;have h5:=far c e;rcases k4 c C with h | h
   ·have:=o1.row.out h;omega
   ·omega
 ·rw[fh];refine⟨o.each,jA,fun q j r hr c C e => ?_⟩;simp at hr;subst hr;have h5:=far c e;have:=(o1.data q j).out C;omega
def PI(xs:List Int)(h:N)(n:Nat)(s:St):Prop:=∃ (t:Tr V) (h1:N) (C P:V) (j:List Int) (os:List mr),s=⟨⟨53,t⟩,[],h1⟩/\t.A 0=U C/\t.A 4=U P/\SB h1 C j/\(j=[]∨J7 C≠O)/\jU h1 h.Q P os/\O3 P C/\a_ h h1/\n=L j/\L j+L os<=256/\Bytes j/\∀ f,L xs<=f->∃ T,L j<=T/\pz f xs=(pz T j).map (sV os ++ ·)
def IS(xs:List Int):Prop:=L xs > 256∨pz (L xs) xs=O ∨ ∃ l,pz (L xs) xs=U l/\L l > 64
def B'(z:Int):jP (E b).tojo 156 [(0,I X z)]=U (.agg ⟨[I X z,M O 0 0]⟩):=kR
def U9l{b:Nat}{h:N}{v:V}{xs:List Int}(s:SB h v xs){k:IntKind}{i:Int}(h0:0<=i)(h1:i<=L xs):∃ j,j8 (E b).tojo 31 v O (U (I k i)) O h=U (j,h)/\SB h j (xs.take i.toNat)/\J7 j=J7 v:=by
 obtain⟨j,k1,k2,k3⟩:=U7x (j' b) (k:=k) k_ iA s h0 h1;refine⟨j,k1,?_,k3⟩;have e:L (xs.take i.toNat)=i.toNat:=by grind
 rw[SB,e];simp_all
def Ix{b:Nat}{h:N}{v:V}{xs:List Int}(s:SB h v xs){k:IntKind}{i:Int}(h0:0<=i)(h1:i<=L xs):∃ j h',j8 (E b).tojo 31 v (U (I k i)) O O h=U (j,h')/\SB h' j (xs.drop i.toNat)/\a_ h h'/\(J7 v≠O->J7 j≠O)/\∀ c,J7 j=U c->J7 v=U c∨c=h.Q:=by
 obtain⟨j,h',k1,k2,k3,P⟩:=U5u (j' b) (k:=k) k_ iA s h0 h1;refine⟨j,h',k1,?_,k3,fun hv => ?_,fun c C => ?_⟩
 ·rw[SB,cK];simp_all
 ·grind
 grind
def U4d{b:Nat}{h:N}{v:V}{xs:List Int}(s:SB h v xs){k k2:IntKind}{i j:Int}(h0:0<=i)(h1:i<=j)(P:j<=L xs):∃ C h',j8 (E b).tojo 31 v (U (I k i)) (U (I k2 j)) O h=U (C,h')/\SB h' C ((xs.drop i.toNat).take (j.toNat-i.toNat))/\a_ h h':=by
 obtain⟨C,h',T,q2,q3, -⟩:=Uwi (j' b) (k:=k) (k2:=k2) k_ iA s h0 h1 P;refine⟨C,h',T,?_,q3⟩;have e:L ((xs.drop i.toNat).take (j.toNat-i.toNat))=j.toNat-i.toNat:=by grind
 rw[SB,e];simp_all
def Wd0{v:V}{xs:List Int}(s:SB h v xs)(C:xs ≠ []):J7 v≠O:=by
 rcases s with⟨c,rfl,_,_,e⟩ | ⟨j,o,c,ow,P,pre,post,rfl,_⟩
 ·grind
 ·simp[J7]
def DL{f:Nat}{c:Int}{r:List Int}(C:L (c::r)<=f):∃ j,L r<=j/\pz f (c::r)=(if c<=64/\c<=L r then(pz j (r.drop c.toNat)).map ((c,r.take c.toNat) :: ·)else if c < 129∨c > 139 then O else(pz j r).map ((c,[]) :: ·)):=by
 cases f with
 | zero=>simp at C
 | succ f=>exact⟨f,by grind,rfl⟩
def zO(os:List mr):L (sV os)=L os:=by simp[sV]
section
attribute [local simp] Qk4 Qrg Rf qx Ay Az Pl Pp Ql2 Qjg FW Vd Qkt Qji FP Po FP
def U1u{v:V}{xs:List Int}(s:SB h v xs)(hb:Bytes xs)(K:KP)(ht:IS xs->∀ h',a_ h h'->K (.ret (.tuple #[M O 0 0,I X 16])) h')(C:∀ l,L xs<=256->pz (L xs) xs=U l->L l<=64->∀ lv os h',sV os=l->jU h' h.Q lv os->a_ h h'->K (.ret (.tuple #[lv,I X 0])) h'):FK b 84 [v] h K:=by
 refine ip b (Rf b) Jeb rfl ?_;by_cases g1:(256:Int) < (L xs:Int)
 ·simp[j_ s,g1];exact ht (.inl iA) h (a_.refl _)
 ·simp[j_ s,g1];have gB:xs=[]∨J7 v≠O:=by
   by_cases hx:xs=[]
   ·grind
   ·exact .inr (Wd0 s hx)
  refine iV (PI xs h) (L xs) ⟨_,h,v,M O 0 0,xs,[],rfl,?_,?_,s,gB,jU.nil,(fun c hc=>by cases hc),a_.refl _,rfl,by simp;omega,hb,fun f hf=>⟨f,hf,by cases pz f xs <;> simp[sV]⟩⟩ ?_
  ·simp
  ·simp
  rintro n s' ⟨t,h1,bv,lv,q4,os,rfl,t0,t4,sb,h8,T,r2,j,rfl,hC,eB,q3⟩ _;cases q4 with
  | nil =>
   obtain⟨f',so,hp⟩:=q3 (L xs) (ai _);have c0:pz (L xs) xs=U (sV os):=by
    rw[hp];cases f' <;> simp[pz]
   have hj:=iT (wX b) T.row.sl (h1:=h1);by_cases w1:(64:Int) < (L os:Int)
   ·
    have e0:=j_ (b:=b) (h1:=h1) sb;simp at e0;simp[t0,t4,e0,hj,w1];exact ht (.inr (.inr ⟨_,c0,by rw[zO];omega⟩)) h1 j
   ·
    have e0:=j_ (b:=b) (h1:=h1) sb;simp at e0;simp[t0,t4,e0,hj,w1];exact C _ iA c0 (by rw[zO];omega) lv os h1 rfl T j
  | cons c r =>
   have hc:0<=c/\c < 256:=eB c jA;have M':Bytes r:=fun z hz=>eB z (by simp[hz]);have v':(0:Int) < (L r:Int)+1:=iA
   obtain⟨bk,off,s2,a5,hu⟩:=sL (b:=b) sb (k:=.i64) (i:=0) (z:=c) rfl;obtain⟨a2,h2,s1,he,a1,M1,ha⟩:=Ix (b:=b) sb (k:=.i64) (i:=1) iA (by simp;omega);have hw:IntKind.i64.wrap c=c:=Jr iA iA;simp only[Int.toNat_one,List.drop_one,List.tail_cons]at he;have es:J7 a2≠O:=M1 (by grind);have P:iN (h2.push (S Y 1 [I X 0,M O 0 0])) h2.Q 0 [I X c,M O 0 0]=U ((h2.push (S Y 1 [I X 0,M O 0 0])).set h2.Q (U (S Y 1 [I X c,M O 0 0]))):=by
    rw[jQ (by rw[N.F,if_pos rfl]) jA];rfl
   have e0:iC (E b).tojo 31 bv h1=U (I X ((L r:Int)+1)):=by have:=j_ (b:=b) (h1:=h1) sb;simpa using this
   have hl:J1 (E b).tojo 31 bv (I X 0)=U (pO bk off):=a5;simp only[i8]at hu;obtain⟨h3,e3⟩:∃ h3,h3=(h2.push (S Y 1 [I X 0,M O 0 0])).set h2.Q (U (S Y 1 [I X c,M O 0 0])):=⟨_,rfl⟩;have g3:h3.A h2.Q=U (S Y 1 [I X c,M O 0 0]):=by rw[e3,gY (by simp only[oJ];omega),if_pos rfl]
   have a3:a_ h2 h3:=by rw[e3];exact(a_.push _ _).set _ (ai _) (by simp only[oJ];omega)
   have n3:h3.Q=h2.Q+1:=by rw[e3,wO,oJ]
   rw[<- e3]at P;have hy:a_ h1 h3:=a1.trans a3;have aB:SB h3 a2 r:=he.R a3;have e1:∀ h,iC (E b).tojo 31 a2 h=U (I X (L r)):=fun h=>j_ he;have hD:L r+L os+1<=256:=by grind
   by_cases hr:c<=64/\c<=(L r:Int)
   ·obtain⟨p1,p2⟩:=hr;obtain⟨e4,m1,o2,ev⟩:=U9l (b:=b) aB (k:=.i64) (i:=c) hc.1 p2;simp[t0,t4,e0,v',hl,hu,s1,hw,B',P,e1,p1,p2,m1];refine Vpy b o2 (by grind) (by grind) _ fun dv h4 od a4 => ?_;have g4:h4.A h2.Q=U (S Y 1 [I X c,M O 0 0]):=a4.A g3;have re:iN h4 h2.Q 1 [dv]=U (h4.set h2.Q (U (S Y 1 [I X c,dv]))):=by rw[nS g4 jA];rfl
    obtain⟨h5,e5⟩:∃ h5,h5=h4.set h2.Q (U (S Y 1 [I X c,dv])):=⟨_,rfl⟩;have n4:h2.Q < h4.Q:=(by have:=a4.1;omega);have g5:h5.A h2.Q=U (S Y 1 [I X c,dv]):=by rw[e5,gY n4,if_pos rfl]
    have c1:a_ h1 h5:=(by rw[e5];exact(hy.trans a4).set _ a1.1 n4);rw[<- e5]at re;have g':OB h5 h3.Q dv (r.take c.toNat):=od.keep fun k C hn=>by
     have:=od.from C;rw[e5,gY n4,if_neg iA]
    obtain⟨c2,h6,bx,t9,a6,n2,o1⟩:=Ix (b:=b) ((he.R a3).R a4 |>.keep (h':=h5) fun k C hn=>by
     have:=he.blk C;rw[e5,gY n4,if_neg iA]) (k:=.i64) (i:=c) hc.1 p2
    have aA:iy h6 h2.Q 0 2=U (.agg ⟨[I X c,dv]⟩):=by rw[V9 (a6.A g5) jA];rfl
    have x1:V6 (E b).tojo 149 1 [(0,.agg ⟨[I X c,dv]⟩)] h6=U (M (U ⟨h6.Q,0,O⟩) 1 1,h6.push (S Y 1 [I X c,dv])):=oL (wX b) xR iA iA rfl rfl rfl;obtain⟨r1,h7,hA,hO,hB,gA⟩:=jU.app (b:=b) (wX b) xR Sc T (c1.trans a6) j.1 iA (p:=⟨c,r.take c.toNat,dv⟩) ((g'.low (by have:=hy.1;omega)).keep fun k _ hn=>a6.2 k hn);simp only[mr.cells]at hA;have e2:∀ k,J7 lv=U k->J7 a2≠U k:=fun k C e=>by
     rcases ha k e with e | e
     ·exact r2 k C e
     ·have:=T.row.out C;omega
    have hm:∀ k,J7 lv=U k->J7 c2≠U k:=fun k C e=>by
     rcases o1 k e with e | e
     ·grind
     ·have:=T.row.out C;have:=c1.1;omega
    simp[O8 b _ _ _ dv od.one,re,bx,aA,x1,hA,t4];refine⟨L (r.drop c.toNat),by simp;omega,_,h7,c2,r1,r.drop c.toNat,_,rfl,jA,jA,?_,.inr (n2 es),hO,?_,?_,rfl,?_,fun z hz=>M' z (d6 hz),fun f hf => ?_⟩
    ·exact t9.keep fun k C hn=>hB.2 k hn fun e=>hm k e C
    ·intro k C e;rcases gA k C with C | C
     ·grind
     ·have:=t9.blk e;omega
    ·exact hB.R (j.trans (c1.trans a6)) (T.R (c1.trans a6)).row
    ·simp;omega
    ·obtain⟨f1,hg,q1⟩:=q3 f hf;obtain⟨f2,eA,q2⟩:=DL (c:=c) (r:=r) hg;refine⟨f2,by simp;omega,?_⟩;rw[q1,q2,if_pos ⟨p1,p2⟩,dT];congr 1;funext l;simp[sV]
   ·have g2:c < 129∨139 < c->IS xs:=fun hq=>by
     obtain⟨f1,hg,q1⟩:=q3 (L xs) (ai _);obtain⟨f2,eA,q2⟩:=DL (c:=c) (r:=r) hg;refine .inr (.inl ?_)
     grind
    have hK:∀ h',a_ h h'->c < 129∨139 < c->K (.ret (.tuple #[M O 0 0,I X 16])) h':=fun h' ho hq=>ht (g2 hq) h' ho;by_cases p1:c<=64
    ·have p2:¬ c<=(L r:Int):=fun p2=>hr ⟨p1,p2⟩;have p3:c < 129:=iA;simp[t0,t4,e0,v',hl,hu,s1,hw,B',P,e1,p1,p2,p3];exact hK h3 (j.trans hy) (.inl p3)
    ·by_cases p3:c < 129
     ·simp[t0,t4,e0,v',hl,hu,s1,hw,B',P,e1,p1,p3];exact hK h3 (j.trans hy) (.inl p3)
     ·by_cases p4:139 < c
      ·simp[t0,t4,e0,v',hl,hu,s1,hw,B',P,e1,p1,p3,p4];exact hK h3 (j.trans hy) (.inr p4)
      ·have x2:iy h3 h2.Q 0 2=U (.agg ⟨[I X c,M O 0 0]⟩):=by rw[V9 g3 jA];rfl
       have x1:V6 (E b).tojo 149 1 [(0,.agg ⟨[I X c,M O 0 0]⟩)] h3=U (M (U ⟨h3.Q,0,O⟩) 1 1,h3.push (S Y 1 [I X c,M O 0 0])):=oL (wX b) xR iA iA rfl rfl rfl;obtain⟨r1,h7,hA,hO,hB,gA⟩:=jU.app (b:=b) (wX b) xR Sc T hy j.1 iA (p:=⟨c,[],M O 0 0⟩) ij.nil;simp only[mr.cells]at hA;have e2:∀ k,J7 lv=U k->J7 a2≠U k:=fun k C e=>by
        rcases ha k e with e | e
        ·exact r2 k C e
        ·have:=T.row.out C;omega
       simp[t0,t4,e0,v',hl,hu,s1,hw,B',P,e1,p1,p3,p4,x2,x1,hA];refine⟨L r,iA,_,h7,a2,r1,r,_,rfl,jA,jA,?_,.inr es,hO,?_,?_,rfl,?_,M',fun f hf => ?_⟩
       ·exact aB.keep fun k C hn=>hB.2 k hn fun e=>e2 k e C
       ·intro k C e;rcases gA k C with C | C
        ·grind
        ·have:=aB.blk e;omega
       ·exact hB.R (j.trans hy) (T.R hy).row
       ·simp;omega
       ·obtain⟨f1,hg,q1⟩:=q3 f hf;obtain⟨f2,eA,q2⟩:=DL (c:=c) (r:=r) hg;refine⟨f2,eA,?_⟩;rw[q1,q2,if_neg hr,if_neg iA,dT];congr 1;funext l;simp[sV]
end
def RPI(v:V)(xs:List Int)(h:N)(n:Nat)(s:St):Prop:=∃ (t:Tr V) (h1:N) (C:V) (i:Nat) (os:List mr),s=⟨⟨68,t⟩,[],h1⟩/\t.A 0=U v/\t.A 4=U C/\t.A 5=U (I X (i:Int))/\i<=L xs/\jU h1 h.Q C os/\a_ h h1/\n=L xs-i/\L os<=i/\∀ f,L xs<=f->∃ j,L (xs.drop i)<=j/\pz f xs=(pz j (xs.drop i)).map (sV os ++ ·)
def Uf2(z:Int):jP (E b).tojo 216 [(0,I X z)]=U (.agg ⟨[I X z,M O 0 0]⟩):=kR
section
attribute [local simp] Qmf Qt7 Vg Qpo oU FP v_ Qmx qx Ay Az Qn2 Qky Qks Qjh Qjo FP Zr8 Zsu J8 Qdf Qsq FP
def Uj4{v:V}{xs:List Int}(s:SB h v xs)(hb:Bytes xs)(hn:L xs < 1000000)(K:KP)(x1:IS xs->∀ h',a_ h h'->K (.ret (.tuple #[M O 0 0,I X 16])) h')(hk:∀ l,L xs<=256->pz (L xs) xs=U l->L l<=64->∀ lv os h',sV os=l->jU h' h.Q lv os->a_ h h'->K (.ret (.tuple #[lv,I X 0])) h'):FK b 132 [v] h K:=by
 refine ip b (Vg b) Jiq rfl ?_;by_cases hu:(256:Int) < (L xs:Int)
 ·simp[j_ s,hu];exact x1 (.inl iA) h (a_.refl _)
 ·simp[j_ s,hu];refine iV (RPI v xs h) (L xs) ⟨_,h,M O 0 0,0,[],rfl,?_,?_,?_,iA,jU.nil,a_.refl _,rfl,jA,fun f hf=>⟨f,hf,by simp only[ba];cases pz f xs <;> simp[sV]⟩⟩ ?_
  ·simp
  ·simp
  ·simp
  rintro n s' ⟨t,h1,lv,i,os,rfl,t0,t4,t5,hi,e1,C,rfl,g1,a1⟩ _;have e0:∀ h,iC (E b).tojo 31 v h=U (I X (L xs:Int)):=fun h=>j_ s;have s1:=s.R C;by_cases g2:i < L xs
  ·have hx:(i:Int) < (L xs:Int):=iA
   obtain⟨c,q3⟩:∃ c,xs[i]? = U c:=⟨_,ac g2⟩;have hc:0<=c/\c < 256:=hb c (ae q3);have P:xs.drop i=c::xs.drop (i+1):=by
    rw[bh g2]
    grind
   obtain⟨r,hr⟩:∃ r,r=xs.drop (i+1):=⟨_,rfl⟩;have aB:L r=L xs-(i+1):=by grind
   rw[<- hr]at P;obtain⟨bk,off,aA,a2,ho⟩:=sL (b:=b) s1 (k:=.i64) q3;have M':IntKind.i64.wrap c=c:=Jr iA iA;have hw:IntKind.i64.wrap ((i:Int)+1)=(i:Int)+1:=Jr iA iA;have he:IntKind.i64.wrap ((i:Int)+1+c)=(i:Int)+1+c:=Jr iA iA;simp only[i8]at ho;have ht:c < 129∨139 < c->¬ (c<=64/\c<=L r)->IS xs:=fun hq h2=>by
    obtain⟨f1,T,q1⟩:=a1 (L xs) (ai _);rw[P]at T q1;obtain⟨f2,hm,q2⟩:=DL (c:=c) (r:=r) T;refine .inr (.inl ?_)
    grind
   have hl:iN (h1.push (S Y 1 [I X 0,M O 0 0])) h1.Q 0 [I X c,M O 0 0]=U ((h1.push (S Y 1 [I X 0,M O 0 0])).set h1.Q (U (S Y 1 [I X c,M O 0 0]))):=by
    rw[jQ (by rw[N.F,if_pos rfl]) jA];rfl
   obtain⟨h3,e3⟩:∃ h3,h3=(h1.push (S Y 1 [I X 0,M O 0 0])).set h1.Q (U (S Y 1 [I X c,M O 0 0])):=⟨_,rfl⟩;have g3:h3.A h1.Q=U (S Y 1 [I X c,M O 0 0]):=by rw[e3,gY (by simp only[oJ];omega),if_pos rfl]
   have hy:a_ h1 h3:=by rw[e3];exact(a_.push _ _).set _ (ai _) (by simp only[oJ];omega)
   have n3:h3.Q=h1.Q+1:=by rw[e3,wO,oJ]
   rw[<- e3]at hl;by_cases p1:64 < c
   ·have v':¬ c<=64:=iA;by_cases p3:c < 129
    ·simp[t0,t4,t5,e0,hx,a2,ho,M',p1,p3]
     grind
    ·by_cases p4:139 < c
     ·simp[t0,t4,t5,e0,hx,a2,ho,M',p1,p3,p4]
      grind
     ·have es:iy h3 h1.Q 0 2=U (.agg ⟨[I X c,M O 0 0]⟩):=by rw[V9 g3 jA];rfl
      have hg:V6 (E b).tojo 209 1 [(0,.agg ⟨[I X c,M O 0 0]⟩)] h3=U (M (U ⟨h3.Q,0,O⟩) 1 1,h3.push (S Y 1 [I X c,M O 0 0])):=oL (Al b) z6 iA iA rfl rfl rfl;obtain⟨a3,h7,hA,hO,hB, -⟩:=jU.app (b:=b) (Al b) z6 Vr6 e1 hy C.1 iA (p:=⟨c,[],M O 0 0⟩) ij.nil;simp only[mr.cells]at hA;simp[t0,t4,t5,e0,hx,a2,ho,M',p1,v',p3,p4,Uf2,hl,hw,es,hg,hA];refine⟨L xs-(i+1),iA,_,h7,a3,i+1,_,rfl,by simp[t0],jA,jA,iA,hO,hB.R (C.trans hy) (e1.R hy).row,rfl,by simp;omega,fun f hf => ?_⟩;obtain⟨f1,T,q1⟩:=a1 f hf;rw[P]at T q1;obtain⟨f2,hm,q2⟩:=DL (c:=c) (r:=r) T;refine⟨f2,by grind,?_⟩;rw[q1,q2,if_neg iA,if_neg iA,dT,<- hr];congr 1;funext l;simp[sV]
   ·have v':c<=64:=iA;by_cases p2:(L xs:Int) < (i:Int)+1+c
    ·simp[t0,t4,t5,e0,hx,a2,ho,M',p1,v',p2,hw,he]
     grind
    ·have h2:c<=64/\c<=(L r:Int):=⟨v',iA⟩;obtain⟨pv,h4,r1,x2,a4⟩:=U4d (b:=b) (s1.R hy) (k:=.i64) (k2:=.i64) (i:=(i:Int)+1) (j:=(i:Int)+1+c) iA iA iA;have e5:(xs.drop ((i:Int)+1).toNat).take (((i:Int)+1+c).toNat-((i:Int)+1).toNat)=r.take c.toNat:=by
      grind
     rw[e5]at x2;simp[t0,t4,t5,e0,hx,a2,ho,M',p1,v',p2,hw,he,Uf2,hl,r1];refine Bh b x2 (by grind) _ fun dv h5 od a5 => ?_;have g5:h5.A h1.Q=U (S Y 1 [I X c,M O 0 0]):=(a4.trans a5).A g3;have e2:iN h5 h1.Q 1 [dv]=U (h5.set h1.Q (U (S Y 1 [I X c,dv]))):=by rw[nS g5 jA];rfl
     obtain⟨h6,e6⟩:∃ h6,h6=h5.set h1.Q (U (S Y 1 [I X c,dv])):=⟨_,rfl⟩;have n5:h1.Q < h5.Q:=(by have:=a5.1;have:=a4.1;omega);have g6:h6.A h1.Q=U (S Y 1 [I X c,dv]):=by rw[e6,gY n5,if_pos rfl]
     have hz:a_ h1 h6:=(by rw[e6];exact((hy.trans a4).trans a5).set _ (ai _) n5);rw[<- e6]at e2;have gA:OB h6 h4.Q dv (r.take c.toNat):=od.keep fun k hk g2=>by
      have:=od.from hk;have:=a4.1;rw[e6,gY n5,if_neg iA]
     have re:iy h6 h1.Q 0 2=U (.agg ⟨[I X c,dv]⟩):=by rw[V9 g6 jA];rfl
     have hg:V6 (E b).tojo 209 1 [(0,.agg ⟨[I X c,dv]⟩)] h6=U (M (U ⟨h6.Q,0,O⟩) 1 1,h6.push (S Y 1 [I X c,dv])):=oL (Al b) z6 iA iA rfl rfl rfl;obtain⟨a3,h7,hA,hO,hB, -⟩:=jU.app (b:=b) (Al b) z6 Vr6 e1 hz C.1 iA (p:=⟨c,r.take c.toNat,dv⟩) (gA.low (by have:=hy.1;have:=a4.1;omega));simp only[mr.cells]at hA;simp[O8 b _ _ _ dv od.one,e2,he,re,hg,hA,t4];refine⟨L xs-(i+1+c.toNat),iA,_,h7,a3,i+1+c.toNat,_,rfl,by simp[t0],jA,by simp;omega,iA,hO,hB.R (C.trans hz) (e1.R hz).row,rfl,by simp;omega,fun f hf => ?_⟩;obtain⟨f1,T,q1⟩:=a1 f hf;rw[P]at T q1;obtain⟨f2,hm,q2⟩:=DL (c:=c) (r:=r) T;have e8:xs.drop (i+1+c.toNat)=r.drop c.toNat:=by rw[hr,bU]
     refine⟨f2,by grind,?_⟩;rw[q1,q2,if_pos h2,dT,e8];congr 1;funext l;simp[sV]
  ·have : i=L xs:=iA
   subst this;obtain⟨f',q4,hp⟩:=a1 (L xs) (ai _);have eA:pz (L xs) xs=U (sV os):=by
    rw[hp,cL];cases f' <;> simp[pz]
   have hC:=iT (Al b) e1.row.sl (h1:=h1);by_cases c1:(64:Int) < (L os:Int)
   ·simp[t0,t4,t5,e0,hC,c1];exact x1 (.inr (.inr ⟨_,eA,by rw[zO];omega⟩)) h1 C
   ·simp[t0,t4,t5,e0,hC,c1];exact hk _ iA eA (by rw[zO];omega) lv os h1 rfl e1 C
end
def vW(os:List mr):List Int:=os.flatMap fun o=>IntKind.u8.wrap o.code::o.data
def U63{b:Nat}{h:N}{j:V}{os:List mr}{te ts:TypeId}{P rs:ir}(T:jF (E b).tojo te ts P rs)(hz:P.size=2)(o:Sl h 2 j (L os) (rh os)){i:Nat}{p:mr}(hp:os[i]? = U p) :
  ∃ bk off,J7 j=U bk/\J1 (E b).tojo ts j (I X (i:Int))=U (pO bk off)/\iy h bk off 2=U (.agg ⟨[I X p.code,p.val]⟩):=by
 have hl:i < L os:=(av.1 hp).1;obtain⟨bk,off,h1,h2, -,h3⟩:=mQ T hz o (k:=.i64) (i:=(i:Int)) iA iA;refine⟨bk,off,h1,h2,?_⟩;rw[h3];have : ∀ (os:List mr) (i:Nat),os[i]? = U p->((rh os).drop (i*2)).take 2=[I X p.code,p.val]:=by
  intro os;induction os with
  | nil=>simp
  | cons q os ih =>
   intro i C;cases i with
   | zero=>simp at C;subst C;simp[rh,mr.cells]
   | succ i =>
    have e:rh (q::os)=I X q.code::q.val::rh os:=rfl
    grind
 grind
def Weq(j:V)(os:List mr)(h:N)(k:Nat)(s:St):Prop:=∃ (t:Tr V) (h1:N) (o:V) (i:Nat),s=⟨⟨23,t⟩,[],h1⟩/\t.A 3=U o/\t.A 6=U j/\t.A 7=U (I X (L os:Int))/\t.A 8=U (I X (i:Int))/\i<=L os/\k=L os-i/\OB h1 h.Q o (vW (os.take i))/\a_ h h1
def Umx:∀ os:List mr,L (vW os)=(os.map fun o=>L o.data+1).sum
 | []=>rfl
 | o::os=>by have:=Umx os;simp[vW]at this ⊢;omega
section
attribute [local simp] Q19 Xez BA qB Dy Po Pl Pp U9 V0 Vv Vu Vd Z8 
def U8i{lv:V}{os:List mr}(row:Sl h 2 lv (L os) (rh os))(data:∀ o ∈ os,SB h o.val o.data)(hq:L os < 1000)(hd:∀ o ∈ os,L o.data<=1000)(K:KP)(hk:∀ v' h',OB h' h.Q v' (vW os)->a_ h h'->K (.ret v') h'):FK b 109 [lv] h K:=by
 refine ip b (BA b) J80 rfl ?_;have e0:∀ h1,iC (E b).tojo 149 lv h1=U (I X (L os:Int)):=fun h1=>iT (wX b) row;simp[e0];refine iV (Weq lv os h) (L os) ⟨_,h,M O 0 0,0,rfl,jA,jA,jA,jA,iA,rfl,ij.nil,a_.refl _⟩ ?_;rintro k s' ⟨t,h1,o,i,rfl,t3,t6,t7,t8,hi,rfl,ho,j⟩ _;by_cases hu:i < L os
 ·have P:(i:Int) < (L os:Int):=iA
  obtain⟨p,hp⟩:∃ p,os[i]? = U p:=⟨_,ac hu⟩;have hA:=ae hp;obtain⟨bk,off, -,x1,g1⟩:=U63 (b:=b) (wX b) xR (row.R j) hp;have hw:=wS (i:=i) iA;have T:iN (h1.push (S Y 1 [I X 0,M O 0 0])) h1.Q 0 [I X p.code,p.val]=U ((h1.push (S Y 1 [I X 0,M O 0 0])).set h1.Q (U (S Y 1 [I X p.code,p.val]))):=by
   rw[jQ (by rw[N.F,if_pos rfl]) jA];rfl
  obtain⟨C,e3⟩:∃ C,C=(h1.push (S Y 1 [I X 0,M O 0 0])).set h1.Q (U (S Y 1 [I X p.code,p.val])):=⟨_,rfl⟩;have g3:C.A h1.Q=U (S Y 1 [I X p.code,p.val]):=by rw[e3,gY (by simp only[oJ];omega),if_pos rfl]
  have h2:a_ h1 C:=by rw[e3];exact(a_.push _ _).set _ (ai _) (by simp only[oJ];omega)
  have n3:C.Q=h1.Q+1:=by rw[e3,wO,oJ]
  rw[<- e3]at T;have hy:Zq C h1.Q 0=U (I X p.code):=by rw[Z2 g3];rfl
  have hr:OB C h.Q o (vW (os.take i)):=ho.keep fun c _ hc=>h2.2 c hc;have a2:L (vW (os.take i))<=1001*i:=by
   rw[Umx];have : ∀ l:List mr,(∀ o ∈ l,L o.data<=1000)->(l.map fun o=>L o.data+1).sum<=1001*L l:=by
    intro l hl;induction l with
    | nil=>simp
    | cons o l ih=>grind
   grind
  have M':=hd p hA;obtain⟨v1,h4,hb,o4,b4⟩:=Gx (b:=b) hr (ao j.1 h2.1) iA (IntKind.u8.wrap p.code);have e2:J7 o≠U h1.Q:=fun e=>by have:=ho.out e;omega
  have hB:Zq h4 h1.Q 1=U p.val:=by rw[Z2 (by rw[b4.2 _ iA e2];exact g3)];rfl
  have hx:Zq (C.push (S Y 1 [i8 (IntKind.u8.wrap p.code)])) h1.Q 1=U p.val:=by rw[Z2 (by rw[N.F,if_neg iA];exact g3)];rfl
  have a4:a_ h h4:=b4.R (j.trans h2) hr;have dp:SB h4 p.val p.data:=(data p hA).R a4;obtain⟨v2,h5,hn,o5,b5⟩:=yE (b:=b) o4 a4.1 dp (by grind);simp only[i8]at hb hx;simp[t3,t6,t7,t8,P,x1,g1,T];refine jf [] jA S8.1 (by simp[S8.2,Ji0,Jlr,t3,hy,hB,i8,ua,hb,hn];first | exact⟨rfl,rfl⟩ | rfl) ?_ ?_
  ·simp[JU,t3,hy,hB,hx,AZ dp,yS]
  ·simp[t8,hw];refine⟨L os-(i+1),iA,_,h5,v2,i+1,rfl,jA,by simp[t6],by simp[t7],jA,iA,rfl,?_,b5.R a4 o4⟩;have e1:vW (os.take (i+1))=vW (os.take i) ++ [IntKind.u8.wrap p.code]++p.data:=by
    rw[aT,hp];simp[vW]
   grind
 ·have P:¬ (i:Int) < (L os:Int):=iA
  have : i=L os:=iA
  subst this;simp[t3,t6,t7,t8]
  grind
end
def Laid.R(j:Ab.LaidIn h laidAll)(a:a_ h h'):Ab.LaidIn h' laidAll:=fun x C=>a.A (j x C)
def Vqo:∀ {os:List mr} {i:Nat} {o:mr},os[i]? = U o->(rh os)[i*2]? = U (I X o.code)/\(rh os)[i*2+1]? = U o.val
 | p::os,0,o,h=>by simp at h;subst h;simp[rh,mr.cells]
 | p::os,i+1,o,h=>by
  have:=Vqo (os:=os) (i:=i) (o:=o) (by grind);have e:rh (p::os)=I X p.code::p.val::rh os:=rfl
  grind
def U21{b:Nat}{h:N}{n0:Nat}{j:V}{os:List mr}{te ts:TypeId}{P rs:ir}(T:jF (E b).tojo te ts P rs)(hz:P.size=2)(o:ij h n0 2 j (L os) (rh os)){i:Nat}{p:mr}(C:os[i]? = U p) :
  ∃ bk off,J7 j=U bk/\J1 (E b).tojo ts j (I X (i:Int))=U (pO bk off)/\Zq h bk off=U (I X p.code)/\Zq h bk (off+1)=U p.val:=by
 have hl:i < L os:=(av.1 C).1;obtain⟨bk,off,h1,h2,h3, -⟩:=mQ T hz o.sl (k:=.i64) (i:=(i:Int)) iA iA;obtain⟨q1,q2⟩:=Vqo C;have e0:=h3 0 iA
 grind
def It:∀ {f:Nat} {xs:List Int} {l:List (Int × List Int)},pz f xs=U l->∀ p ∈ l,L p.2<=64
 | f,[],l,h=>by cases f <;> (simp[pz]at h;grind)
 | 0,_::_,l,h=>by simp[pz]at h
 | f+1,c::r,l,h=>by
  simp only[pz]at h;split at h
  ·rename_i P;rw[au]at h;obtain⟨C,h1,rfl⟩:=h;intro p j;rcases ar.1 j with rfl | j
   ·grind
   ·exact It h1 p j
  ·split at h
   ·cases h
   ·rw[au]at h;obtain⟨C,h1,rfl⟩:=h;intro p j;rcases ar.1 j with rfl | j
    ·simp
    ·exact It h1 p j
structure iu where
 nk:V
 dig:List V
 lk:Int
 hd:L dig=32
def iu.cells(e:iu):List V:=e.nk::e.dig ++ [I X e.lk]
def iu.len(e:iu):L e.cells=34:=by simp[iu.cells,e.hd]
structure Br where
 off:Bool
 dead:Bool
 turned:Bool
def Br.cells(x:Br):List V:=[.bool x.off,.bool x.dead,.bool x.turned]
def oA(l:List Br):List V:=l.flatMap Br.cells
def Hf(l:List Br):L (oA l)=L l*3:=by
 induction l with
 | nil=>rfl
 | cons x l ih=>simp[oA,Br.cells]at ih ⊢;omega
structure qC (h:N) (MB:Nat->Prop) (v:V) (x:List Int):Prop where
 sb:SB h v x
 by8:Bytes x
 out:∀ c,J7 v=U c->¬ MB c
structure Mv (MB MB':Nat->Prop) (h h':N):Prop where
 Q:h.Q<=h'.Q
 same:∀ c,c < h.Q->¬ MB c->h'.A c=h.A c
 sub:∀ c,MB' c->MB c∨h.Q<=c
def Mv.refl(MB:Nat->Prop)(h:N):Mv MB MB h h:=⟨ai _,fun _ _ _=>rfl,fun _ h => .inl h⟩
def Mv.trans{A B C:Nat->Prop}{h h' j:N}(a:Mv A B h h')(c:Mv B C h' j):Mv A C h j :=
  ⟨ao a.Q c.Q,fun k P T=>by
    rw[c.same k (aq P a.Q) (fun hb=>by
      rcases a.sub k hb with h | h
      · exact T h
      · omega),a.same k P T],
   fun k P=>by
    rcases c.sub k P with h | h
    · exact a.sub k h
    · exact .inr (ao a.Q h)⟩
def Mv.R{h h':N}(a:a_ h h'):Mv MB MB h h':=⟨a.1,fun c j _=>a.2 c j,fun _ h => .inl h⟩
def qC.mv{j:Nat->Prop}{h h':N}{v:V}{x:List Int}(i:qC h MB v x)(m:Mv MB j h h'):qC h' j v x :=
 ⟨i.sb.keep fun c C P=>m.same c P (i.out c C),i.by8,fun c C T=>by
  rcases m.sub c T with h | h
  ·exact i.out c C h
  ·have:=i.sb.blk C;omega⟩
structure pQ (h:N) (MB:Nat->Prop) (μ:Nat) (e:iu) (ps:List (V × List Int)) (op:List Br) (sv ov:V) (z:Nat):Prop where
 at':h.A μ=U (S Y z (e.cells ++ [sv,ov]))
 mb:MB μ
 st:ij h 0 1 sv (L ps) (ps.reverse.map (·.1))
 op:ij h 0 3 ov (L op) (oA op.reverse)
 ms:∀ c,J7 sv=U c->MB c/\c≠μ
 mo:∀ c,J7 ov=U c->MB c/\c≠μ/\J7 sv≠U c
structure jy (h:N) (MB:Nat->Prop) (μ:Nat) (e:iu) (ps:List (V × List Int)) (op:List Br):Prop where
 row:∃ sv ov z,pQ h MB μ e ps op sv ov z
 items:∀ p ∈ ps,qC h MB p.1 p.2
 low:∀ c,MB c->c < h.Q
def Wcg(e:iu)(a c:V):(e.cells ++ [a,c])[34]? = U a:=by rw[aL (by rw[e.len];omega),e.len];rfl
def OW(e:iu)(a c:V):(e.cells ++ [a,c])[35]? = U c:=by rw[aL (by rw[e.len];omega),e.len];rfl
def U87(e:iu)(a c x:V):(e.cells ++ [a,c]).set 34 x=e.cells ++ [x,c]:=by rw[bD _ _ (by rw[e.len];omega),e.len];rfl
def U8w(e:iu)(a c x:V):(e.cells ++ [a,c]).set 35 x=e.cells ++ [a,x]:=by rw[bD _ _ (by rw[e.len];omega),e.len];rfl
def pQ.c34{e:iu}{ps:List (V × List Int)}{op:List Br}{sv ov:V}(m:pQ h MB μ e ps op sv ov z):Zq h μ 34=U sv:=by rw[Z2 m.at',Wcg]
def pQ.c35{e:iu}{ps:List (V × List Int)}{op:List Br}{sv ov:V}(m:pQ h MB μ e ps op sv ov z):Zq h μ 35=U ov:=by rw[Z2 m.at',OW]
def pQ.s34{e:iu}{ps:List (V × List Int)}{op:List Br}{sv ov:V}(m:pQ h MB μ e ps op sv ov z)(x:V):iN h μ 34 [x]=U (h.set μ (U (S Y z (e.cells ++ [x,ov])))):=by rw[nS m.at' (by simp[e.len]),U87]
def pQ.s35{e:iu}{ps:List (V × List Int)}{op:List Br}{sv ov:V}(m:pQ h MB μ e ps op sv ov z)(x:V):iN h μ 35 [x]=U (h.set μ (U (S Y z (e.cells ++ [sv,x])))):=by rw[nS m.at' (by simp[e.len]),U8w]
def pe(z:Int):List PanicEntry:=[{v:=.iface 48 (I X z),recovered:=false}]
section
attribute [local simp] Xc
def vJ(h:N)(z:Int)(K:KP)(j:K (.ret (.tuple #[])) h):FK b 85 [.bool Y,I X z] h K:=by
 refine ip b (Xc b) UF rfl ?_;simp[L3,Tf,U8x];exact j
def uC(h:N)(z:Int)(K:KP)(j:K (.panic (pe z)) h):FK b 85 [.bool J,I X z] h K:=by
 refine ip b (Xc b) UF rfl ?_;simp[L3,Tf,U8x];exact j
def wR{e:iu}{op:List Br}(M_:jy h MB μ e [] op)(K:KP)(C:K (.panic (pe 16)) h):FK b 123 [pO μ 0] h K:=by
 refine ip b (Qu b) WU rfl ?_;obtain⟨⟨sv,ov,z,r⟩, -, -⟩:=M_;have j:∀ h1,iC (E b).tojo 94 sv h1=U (I X 0):=fun h1=>iT (kB b) r.st.sl;simp[xv,yj,Qu,tX,U1,Z8,ju,r.c34,j];refine uC b h 16 _ ?_;simp[xv,yj,Qu,tX,U1,Z8];exact C
def uX{e:iu}{v:V}{x:List Int}{ps:List (V × List Int)}{op:List Br}(M_:jy h MB μ e ((v,x)::ps) op)(hl:L ps < 1000)(K:KP)(hk:∀ h',jy h' MB μ e ps op->Mv MB MB h h'->h'.Q=h.Q->qC h' MB v x->(∀ ov,Zq h μ 35=U ov->Zq h' μ 35=U ov)->K (.ret v) h'):FK b 123 [pO μ 0] h K:=by
 refine ip b (Qu b) WU rfl ?_;obtain⟨⟨sv,ov,z,r⟩,its,low⟩:=M_;have e0:∀ h1,iC (E b).tojo 94 sv h1=U (I X ((L ps:Int)+1)):=fun h1=>by have:=iT (kB b) r.st.sl (h1:=h1);simpa using this
 have h0:(0:Int) < (L ps:Int)+1:=iA
 have hw:IntKind.i64.wrap (L ps:Int)=(L ps:Int):=Jr iA iA;obtain⟨bk,o,q1,q2,q3, -⟩:=mQ (kB b) oT r.st.sl (k:=.i64) (i:=(L ps:Int)) iA (by simp;try omega);have q4:Zq h bk o=U v:=by
  grind
 obtain⟨j,t1,t2,t3⟩:=BS (kB b) oT iA r.st (k:=.i64) (i:=(L ps:Int)) iA (by simp;try omega);have T:ij h 0 1 j (L ps) (ps.reverse.map (·.1)):=by grind
 have st:j9 (E b).tojo 94 (pO μ 34) j h=_:=(EY b h μ 34 j T.one).trans (r.s34 j);simp[xv,yj,Qu,tX,U1,Z8,ju,r.c34,e0,h0];refine vJ b h 16 _ ?_;simp[xv,yj,Qu,tX,U1,Z8];refine jf [] jA Zu.1 (by simp[Zu.2,xv,yj,Qu,tX,U1,Z8,ju,r.c34,e0,hw,q2,q4];first | exact⟨rfl,rfl⟩ | rfl) ?_ ?_
 ·simp[Qu0,xv,yj,Qu,tX,U1,Z8]
 simp[xv,yj,Qu,tX,U1,Z8];have hx:sP (U sv) (U sv)=Y:=G8 r.st;refine jf [] jA Zg.1 (by simp[Zg.2,Ya7,xv,yj,Qu,tX,U1,Z8,ju,r.c34,e0,hw,t1,st];first | exact⟨rfl,rfl⟩ | rfl) ?_ ?_
 ·simp[QB,xv,yj,Qu,tX,U1,Z8,hx,r.c34]
 simp[xv,yj,Qu,tX,U1,Z8];have P:=N.D r.at';have mv:Mv MB MB h (h.set μ (U (S Y z (e.cells ++ [j,ov])))):=⟨ai _,fun c _ hn=>by rw[gY P,if_neg (fun q=>hn (by subst q;exact r.mb))],fun _ h => .inl h⟩;have kp:∀ c,c≠μ->(h.set μ (U (S Y z (e.cells ++ [j,ov])))).A c=h.A c:=fun c C=>by rw[gY P,if_neg (Ne.symm C)]
 refine hk _ ⟨⟨j,ov,z,?_⟩,fun p hp=>(its p (by simp[hp])).mv mv,low⟩ mv rfl ((its (v,x) jA).mv mv) fun h2 q=>by
  rw[r.c35]at q;rw[Z2 (by rw[gY P,if_pos rfl]),OW,q]
 exact⟨by rw[gY P,if_pos rfl],r.mb,T.keep fun c C _=>kp c (r.ms c (t3 ▸ C)).2,r.op.keep fun c C _=>kp c (r.mo c C).2.1,fun c C=>r.ms c (t3 ▸ C),fun c C=>by rw[t3];exact r.mo c C⟩
def yK{e:iu}{v:V}{x:List Int}{ps:List (V × List Int)}{op:List Br}(M_:jy h MB μ e ps op)(i:qC h MB v x)(hl:L ps < 16)(K:KP)(hk:∀ h' hr,jy h' hr μ e ((v,x)::ps) op->Mv MB hr h h'->K (.ret (.tuple #[])) h'):FK b 120 [pO μ 0,v] h K:=by
  refine ip b (Xh b) W_ rfl ?_;obtain⟨⟨sv,ov,z,r⟩,its,low⟩:=M_;have e0:∀ h1,iC (E b).tojo 94 sv h1=U (I X (L ps:Int)):=fun h1=>iT (kB b) r.st.sl;have h0:(L ps:Int) < 16:=iA
  have hv:=i.sb.one;obtain⟨ho,hA⟩:=xS hv;have hb:=oL (kB b) (z:=1) oT iA iA ho (ys:=[v]) (by rw[hA]) rfl (h:=h);obtain⟨C,T,a1,a2,a3,a4⟩:=vy (kB b) oT iA r.st (bw _) (ys:=[v]) rfl (by rw[Sq];omega) iA;have hy:=N.D r.at';have g2:T.A μ=U (S Y z (e.cells ++ [sv,ov])):=by rw[a3.2 μ hy fun q=>(r.ms _ q).2 rfl];exact r.at'
  have st:j9 (E b).tojo 94 (pO μ 34) C T=U (T.set μ (U (S Y z (e.cells ++ [C,ov])))):=(EY b T μ 34 C a2.one).trans (by rw[nS g2 (by simp[e.len]),U87]);simp[FI,KK,Xh,tX,U1,ju,r.c34,e0,h0];refine vJ b h 16 _ ?_;simp[FI,KK,Xh,tX,U1,ju,r.c34,e0,h0,hb,a1,st];have P:μ < T.Q:=N.D g2;have mv:Mv MB (fun c=>MB c∨J7 C=U c) h (T.set μ (U (S Y z (e.cells ++ [C,ov])))) :=
    ⟨a3.1,fun c j hn=>by rw[gY P,if_neg (fun q=>hn (by subst q;exact r.mb)),a3.2 c j (fun q=>hn (r.ms c q).1)],
     fun c j=>by
      rcases j with j | j
      · grind
      · rcases a4 c j with q | q
        · exact .inl (r.ms c q).1
        omega⟩
  have h3:∀ c,J7 C=U c->c≠μ:=fun c j=>by
    rcases a4 c j with q | q
    · exact(r.ms c q).2
    · omega
  refine hk _ _ ⟨⟨C,ov,z,?_⟩,?_,?_⟩ mv
  · refine⟨by rw[gY P,if_pos rfl],.inl r.mb,?_,?_,fun c j=>⟨.inr j,h3 c j⟩,fun c j=>⟨.inl (r.mo c j).1,(r.mo c j).2.1,fun q => ?_⟩⟩
    · have : ij T 0 1 C (L ((v,x)::ps)) (((v,x)::ps).reverse.map (·.1)):=by grind
      exact this.keep fun c j _=>by rw[gY P,if_neg (Ne.symm (h3 c j))]
    · exact r.op.keep fun c j hx=>by rw[gY P,if_neg (Ne.symm (r.mo c j).2.1),a3.2 c hx (r.mo c j).2.2]
    · rcases a4 c q with q | q
      · exact(r.mo c j).2.2 q
      · have:=r.op.out j;omega
  · intro p hp
    simp only[ar]at hp;rcases hp with rfl | hp
    · exact i.mv mv
    · exact(its p hp).mv mv
  · rintro c (j | j)
    · exact aq (low c j) a3.1
    · exact a2.out j
def Cg{e:iu}{v:V}{ps:List (V × List Int)}{op:List Br}(M_:jy h MB μ e ps op)(P:16<=L ps)(K:KP)(C:K (.panic (pe 16)) h):FK b 120 [pO μ 0,v] h K:=by
 refine ip b (Xh b) W_ rfl ?_;obtain⟨⟨sv,ov,z,r⟩,its,low⟩:=M_;have j:∀ h1,iC (E b).tojo 94 sv h1=U (I X (L ps:Int)):=fun h1=>iT (kB b) r.st.sl;have h0:¬ (L ps:Int) < 16:=iA
 simp[FI,KK,Xh,tX,U1,ju,r.c34,j,h0];refine uC b h 16 _ ?_;simp[FI,KK,Xh,tX,U1];exact C
end
def kS(x:List Int):Bool:=x.any fun z=>z != 0
def TLI(v:V)(xs:List Int)(h:N)(k:Nat)(s:St):Prop:=∃ (t:Tr V) (h1:N) (w:V) (j:List Int),s=⟨⟨21,t⟩,[],h1⟩/\t.A 0=U w/\t.A 1=U zU/\SB h1 w j/\a_ h h1/\k=L j/\L j<=L xs/\kS j=kS xs/\t.A 4=U (M O 0 0)
section
attribute [local simp] Qtu Q3v BD oU qx Mf Q0g Qz2 Ya oU
def Uzr{v:V}{xs:List Int}(s:SB h v xs)(hn:L xs < 1000000000)(K:KP)(hk:∀ w ys h',SB h' w ys->L ys<=L xs->kS ys=kS xs->(ys=[]∨ys.head? ≠ U 0)->a_ h h'->K (.ret w) h'):FK b 159 [v,I .u8 0] h K:=by
 refine ip b (BD b) Ykl rfl ?_;simp;refine iV (TLI v xs h) (L xs) ⟨_,h,v,xs,rfl,jA,jA,s,a_.refl _,rfl,ai _,rfl,jA⟩ ?_;rintro k s' ⟨t,h1,w,ys,rfl,t0,t1,sw,C,rfl,hl,hT,t4⟩ _;have e0:=fun h1=>j_ (b:=b) (h1:=h1) sw;cases ys with
 | nil =>
  simp at e0;simp[t0,t1,t4,e0];exact hk _ [] h1 Sl.nil jA hT (.inl rfl) C
 | cons z r =>
  obtain⟨bk,off,hc,T,j⟩:=sL (b:=b) sw (k:=.i64) (i:=0) (z:=z) rfl;have P:(0:Int) < (L r:Int)+1:=iA
  have hx:¬ ((L r:Int)+1=0):=iA
  simp at e0 T;by_cases hz:z=0
  ·subst hz;obtain⟨w',h2,q1,q2,q3,q4,q5⟩:=Ix (b:=b) sw (k:=.i64) (i:=1) iA (by simp;omega);simp only[i8]at j;simp[t0,t1,t4,e0,P,T,j,q1];exact⟨L r,iA,_,h2,w',r,rfl,jA,by simp[t1],by grind,C.trans q3,rfl,by grind,by rw[<- hT];simp[kS],by simp[t4]⟩
  ·simp only[i8]at j;simp[t0,t1,t4,e0,P,hx,T,j,hz]
   grind
end
def TRI(v:V)(xs:List Int)(h:N)(k:Nat)(s:St):Prop:=∃ (t:Tr V) (w:V) (j:List Int),s=⟨⟨24,t⟩,[],h⟩/\t.A 0=U w/\t.A 1=U zU/\SB h w j/\k=L j/\L j<=L xs/\kS j=kS xs/\t.A 4=U (M O 0 0)
section
attribute [local simp] Qsz Q2e BG oU qx Mf Qyz Qxq
def Uwx{v:V}{xs:List Int}(s:SB h v xs)(hn:L xs < 1000000000)(K:KP)(hk:∀ w ys,SB h w ys->L ys<=L xs->kS ys=kS xs->K (.ret w) h):FK b 160 [v,I .u8 0] h K:=by
 refine ip b (BG b) Yd7 rfl ?_;simp;refine iV (TRI v xs h) (L xs) ⟨_,v,xs,rfl,jA,jA,s,rfl,ai _,rfl,jA⟩ ?_;rintro k s' ⟨t,w,ys,rfl,t0,t1,sw,rfl,h2,hT,t4⟩ _;have T:=fun h1=>j_ (b:=b) (h1:=h1) sw;rcases f8 ys with rfl | ⟨r,z,rfl⟩
 ·simp at T;simp[t0,t1,t4,T]
  grind
 ·rw[f9]at *;obtain⟨bk,off,hx,C,P⟩:=sL (b:=b) sw (k:=.i64) (i:=L r) (z:=z) jA;have j:(0:Int) < (L r:Int)+1:=iA
  have hc:IntKind.i64.wrap (L r:Int)=(L r:Int):=by
   simp at h2;exact Jr iA iA
  simp at T C;simp only[i8]at P;by_cases hz:z=0
  ·subst hz;obtain⟨w',q1,q2,q3⟩:=U9l (b:=b) sw (k:=.i64) (i:=(L r:Int)) iA (by grind);simp[t0,t1,t4,T,j,C,P,hc,q1];exact⟨L r,jA,_,w',r,rfl,jA,by simp[t1],by grind,rfl,by grind,by rw[<- hT];simp[kS],by simp[t4]⟩
  ·simp[t0,t1,t4,T,j,C,P,hc,hz]
   grind
end
section
attribute [local simp] Q3b 
def U3h{v:V}{xs:List Int}(s:SB h v xs)(hn:L xs < 1000000000)(K:KP)(hk:∀ w (n:Nat) h',(∀ h1,iC (E b).tojo 31 w h1=U (I X n))->decide (0 < n)=kS xs->a_ h h'->K (.ret w) h'):FK b 128 [v,.string ⟨⟨[0]⟩⟩] h K:=by
 refine ip b (Q3b b) J56 rfl ?_;have e0:=fun h1=>j_ (b:=b) (h1:=h1) s;have e2:vH (E b).tojo 9 (.string ⟨⟨[0]⟩⟩) (I X 0)=U zU:=kR
 have e3:ja (binOp .eql 9 (.string ⟨⟨[0]⟩⟩) (.string ⟨⟨[]⟩⟩))=U (.bool J):=kR
 have e4:(ByteArray.mk ⟨[0]⟩).size=1:=by rfl
 cases xs with
 | nil =>
  simp at e0;simp[Dw,EB,Ya,oU,EL,Cy,Gk,Gl,BG,BD,e0];exact hk _ 0 h (fun _=>by kernel_rfl) (by simp[kS]) (a_.refl _)
 | cons z tl =>
  have hx:¬ ((L tl:Int)+1=0):=iA
  simp at e0;obtain⟨_,_,c1,n1,w1,P,rfl,rfl,s1,l1,t1⟩:=Uwx b s hn (fun r h' => ∃ w j,r=.ret w/\h=h'/\SB h w j/\L j<=L (z::tl)/\kS j=kS (z::tl)) (fun w j q1 q2 q3=>⟨w,j,rfl,rfl,q1,q2,q3⟩);obtain⟨_,h2,c2,n2,w2,T,rfl,s2,l2,t2,hl,C⟩:=Uzr b s1 iA (fun r h' => ∃ w j,r=.ret w/\SB h' w j/\L j<=L P/\kS j=kS P/\(j=[]∨j.head? ≠ U 0)/\a_ h h') (fun w j h' q1 q2 q3 q4 q5=>⟨w,j,rfl,q1,q2,q3,q4,q5⟩);simp[Dw,EB,Ya,oU,EL,Cy,Gk,Gl,BG,BD,e0,hx,e2,e3,e4];refine jf [⟨160,[v,I .u8 0],h,w1,h,Y⟩,⟨159,[w1,I .u8 0],h,w2,h2,Y⟩] ?_ S5.1 (by simp[S5.2,Jiv,Jl9,Dw,EB,Ya,oU,EL,Cy,Gk,Gl,BG,BD,e2,qy];first | exact⟨rfl,rfl⟩ | rfl) ?_ ?_
  ·exact tu ⟨c1,n1,fun _ _ _=>rfl⟩ ⟨c2,n2,fun _ c hc=>C.2 c hc⟩
  ·simp[JX,Dw,EB,Ya,oU,EL,Cy,Gk,Gl,BG,BD,e2]
  simp[Dw,EB,Ya,oU,EL,Cy,Gk,Gl,BG,BD];refine hk w2 (L T) h2 (fun h1=>j_ s2) ?_ C;rw[<- t1,<- t2];cases T with
  | nil=>simp[kS]
  | cons y l =>
   have : y≠0:=by grind
   simp[kS,this]
def RK{v:V}{xs:List Int}(s:SB h v xs)(j:L xs < 1000000000)(K:KP)(P:∀ h',a_ h h'->K (.ret (.bool (kS xs))) h'):FK b 88 [v] h K:=by
 refine ip b (Xr b) Z2i rfl ?_;simp[Mj,UJ,Xr];refine U3h b s j _ fun w n h' C T q3 => ?_;have e:decide ((0:Int) < (n:Int))=kS xs:=by grind
 simp[Mj,UJ,Xr,C,-Int.natCast_pos,e]
 grind
end
def jy.R{e:iu}{ps:List (V × List Int)}{op:List Br}(M_:jy h MB μ e ps op)(a:a_ h h'):jy h' MB μ e ps op:=by
 obtain⟨⟨sv,ov,z,r⟩,its,low⟩:=M_;refine⟨⟨sv,ov,z,?_⟩,fun p C=>(its p C).mv (Mv.R a),fun c j=>aq (low c j) a.1⟩;exact⟨a.A r.at',r.mb,r.st.keep fun c _ j=>a.2 c j,r.op.keep fun c _ j=>a.2 c j,r.ms,r.mo⟩
def qC.nil:qC h MB (M O 0 0) []:=⟨Sl.nil,(fun _ h=>by cases h),(fun _ h=>by cases h)⟩
def vc(x:Bool):List Int:=if x then [1]else []
def qC.new(low:∀ c,MB c->c < h.Q){xs:List Int}(j:Bytes xs)(P:L xs < 1000000):qC (h.push (S Y 1 (xs.map i8))) MB (M (U ⟨h.Q,0,O⟩) (L xs) (L xs)) xs:=by
 refine⟨(ij.new (n0:=0) (bw _) (by rw[N.F,if_pos rfl]) jA (by unfold iJ;omega) (.inr rfl)).sl,j,fun c C T => ?_⟩;cases C
 grind
section
attribute [local simp] Qkb Qr0 Xt Xh
def Uua{e:iu}{ps:List (V × List Int)}{op:List Br}(x:Bool)(M_:jy h MB μ e ps op)(K:KP)(hk:L ps < 16->∀ v h' j,jy h' j μ e ((v,vc x)::ps) op->Mv MB j h h'->K (.ret (.tuple #[])) h')(hp:16<=L ps->∀ h',a_ h h'->K (.panic (pe 16)) h'):FK b 124 [pO μ 0,.bool x] h K:=by
 refine ip b (Xt b) Yf7 rfl ?_;cases x with
 | true =>
  have i:=qC.new (h:=h) (MB:=MB) M_.low (xs:=[1]) (by intro z hz;grind) jA;simp[ua];by_cases C:L ps < 16
  ·refine yK b (M_.R (a_.push _ _)) i C _ fun h' j P T => ?_;simp;exact hk C _ h' j P ((Mv.R (a_.push _ _)).trans T)
  ·refine Cg b (M_.R (a_.push _ _)) iA _ ?_;simp;exact hp iA _ (a_.push _ _)
 | false =>
  simp;by_cases C:L ps < 16
  ·refine yK b M_ qC.nil C _ fun h' j P T => ?_;simp;exact hk C _ h' j P T
  ·refine Cg b M_ iA _ ?_;simp;exact hp iA _ (a_.refl _)
end
def vf:List Br->Bool
 | []=>J
 | x::_=>x.off
def Wcf{x:Br}{r:List Br}(o:ij h 0 3 ov (L (x::r)) (oA (x::r).reverse))(k:IntKind):∃ bk C,J7 ov=U bk/\J1 (E b).tojo 158 ov (I k (L r:Int))=U (pO bk C)/\Zq h bk C=U (.bool x.off)/\Zq h bk (C+1)=U (.bool x.dead)/\Zq h bk (C+2)=U (.bool x.turned):=by
 obtain⟨bk,C,P,T,q3, -⟩:=mQ (x_ b) D9 o.sl (k:=k) (i:=(L r:Int)) iA (by simp;try omega);have e1:oA (x::r).reverse=oA r.reverse++x.cells:=by simp[oA]
 have e2:L (oA r.reverse)=L r*3:=by rw[Hf];simp
 have g:∀ j,j < 3->Zq h bk (C+j)=x.cells[j]? := fun j hj=>by
  grind
 exact⟨bk,C,P,T,g 0 iA,g 1 iA,g 2 iA⟩
section
attribute [local simp] Qja Qoy X9 qu vw vt vl we rk
def wM{e:iu}{ps:List (V × List Int)}{op:List Br}(M_:jy h MB μ e ps op)(T:L op < 1000)(K:KP)(P:K (.ret (.bool (vf op))) h):FK b 122 [pO μ 0] h K:=by
 refine ip b (X9 b) Ym8 rfl ?_;obtain⟨⟨sv,ov,z,r⟩,its,low⟩:=M_;have j:∀ h1,iC (E b).tojo 158 ov h1=U (I X (L op:Int)):=fun h1=>iT (x_ b) r.op.sl;simp;cases op with
 | nil =>
  simp at j;refine jf [] jA HL.1 (by simp[HL.2,XI,ju,r.c35,j];first | exact⟨rfl,rfl⟩ | rfl) ?_ ?_
  ·simp[PT]
  simp;exact P
 | cons x l =>
  obtain⟨bk,o1,q1,q2,C,g1,g2⟩:=Wcf b r.op X;have h0:(0:Int) < (L l:Int)+1:=iA
  have hw:IntKind.i64.wrap (L l:Int)=(L l:Int):=by
   simp at T;exact Jr iA iA
  simp at j;refine jf [] jA HL.1 (by simp[HL.2,XI,ju,r.c35,j,h0,hw,q2,C];first | exact⟨rfl,rfl⟩ | rfl) ?_ ?_
  ·simp[PT]
  simp;exact P
end
def vP{n:Nat}{v:V}{xs:List V}(o:ij h n0 z v n xs){bk i:Nat}(T:J7 v=U bk)(hi:i < L xs)(w:V) :
  ∃ h',iN h bk i [w]=U h'/\ij h' n0 z v n (xs.set i w)/\h'.Q=h.Q/\∀ c,c≠bk->h'.A c=h.A c:=by
 rcases o with⟨rfl,rfl,rfl⟩ | ⟨P,c,z',C,rfl,h1,h2,h3,h4,h5,h6⟩
 ·cases T
 ·simp only[J7,aU]at T;subst T;have j:=N.D h2;refine⟨_,nS h2 (by simp;omega),.inr ⟨P,c,z',C,rfl,h1,by rw[gY j,if_pos rfl,ff _ _ hi],by grind,h4,h5,by grind⟩,rfl,fun k hk=>by rw[gY j,if_neg (Ne.symm hk)]⟩
def U36{x:Br}{r:List Br}(o:ij h 0 3 ov (L (x::r)) (oA (x::r).reverse)):∃ bk,J7 ov=U bk/\J1 (E b).tojo 158 ov (I X (L r:Int))=U (pO bk (L r*3))/\∀ h1 C,ij h1 0 3 ov (L (x::r)) (oA r.reverse++C)->L C=3->∀ j,j < 3->Zq h1 bk (L r*3+j)=C[j]? := by
 have e2:L (oA r.reverse)=L r*3:=by rw[Hf];simp
 rcases o with⟨_,h,_⟩ | ⟨P,c,z',hc,rfl,h1,h2,h3,h4,h5,h6⟩
 ·cases h
 ·refine⟨P,rfl,?_,fun k C ho hk j hj => ?_⟩
  ·rw[vl b ⟨iA,by simp;try omega⟩];simp
  ·rcases ho with⟨h,_⟩ | ⟨hx,c2,z2,T,e,g1,g2,g3⟩
   ·cases h
   ·simp only[Value.slice.injEq,aU,Addr.mk.injEq]at e;obtain⟨⟨rfl,_⟩,_⟩:=e;rw[Z2 g2,b9,aL iA,e2,ge,aN iA]
def kx(code:Int)(st:List (List Int))(op:List Br):Option (Option (List (List Int) × List Br)) :=
 if code=136 then U (if vf op then U (st,⟨Y,Y,J⟩::op)else match st with
  | []=>O
  | x::r=>U (r,⟨!kS x,J,J⟩::op))
 else if code=137∨code=138 then U (match op with
  | []=>O
  | x::l=>if code=138 then U (st,l)else if x.turned then O else U (st,⟨x.dead || !x.off,x.dead,Y⟩::l))
 else O
def tq(MB:Nat->Prop)(h:N)(μ:Nat)(e:iu)(st:List (List Int))(op:List Br)(h':N):Prop:=∃ ps j,ps.map (·.2)=st/\jy h' j μ e ps op/\Mv MB j h h'
def tL(MB:Nat->Prop)(h h':N):Prop:=∃ j,Mv MB j h h'
def Un0(x y:Bool):jP (E b).tojo 239 [(0,.bool x),(1,.bool y)]=U (.agg ⟨[.bool x,.bool y,.bool J]⟩):=kR
def jy.opened{b:Nat}{h:N}{MB:Nat->Prop}{μ:Nat}{e:iu}{ps:List (V × List Int)}{op:List Br}(M_:jy h MB μ e ps op)(hl:L op < 1000){ov:V}(hb:Zq h μ 35=U ov)(x y:Bool) :
    ∃ j T,V6 (E b).tojo 158 1 [(0,.agg ⟨[.bool x,.bool y,.bool J]⟩)] h=U (M (U ⟨h.Q,0,O⟩) 1 1,h.push (S Y 1 [.bool x,.bool y,.bool J])) /\
      kU (E b).tojo 158 158 ov (M (U ⟨h.Q,0,O⟩) 1 1) (h.push (S Y 1 [.bool x,.bool y,.bool J]))=U (j,T) /\
      ∃ h3,j9 (E b).tojo 158 (pO μ 35) j T=U h3/\sP (U ov) (U ov)=Y/\∃ hk,jy h3 hk μ e ps (⟨x,y,J⟩::op)/\Mv MB hk h h3:=by
  obtain⟨⟨sv,ho,z,r⟩,its,low⟩:=M_;rw[r.c35]at hb;cases hb;have hA:=oL (x_ b) (z:=3) D9 iA iA (y:=.agg ⟨[.bool x,.bool y,.bool J]⟩) rfl (ys:=[.bool x,.bool y,.bool J]) rfl rfl (h:=h);obtain⟨j,T,a1,a2,a3,a4⟩:=vy (x_ b) D9 iA r.op (bw _) (ys:=[.bool x,.bool y,.bool J]) rfl (by rw[Uo5];omega) iA;have hy:=N.D r.at';have g2:T.A μ=U (S Y z (e.cells ++ [sv,ov])):=by rw[a3.2 μ hy fun q=>(r.mo _ q).2.1 rfl];exact r.at'
  have P:μ < T.Q:=N.D g2;refine⟨j,T,hA,a1,T.set μ (U (S Y z (e.cells ++ [sv,j]))),?_,G8 r.op,fun c=>MB c∨J7 j=U c,?_,?_⟩
  · exact(U23 b T μ 35 j a2.one).trans (by rw[nS g2 (by simp[e.len]),U8w])
  all_goals have mv:Mv MB (fun c=>MB c∨J7 j=U c) h (T.set μ (U (S Y z (e.cells ++ [sv,j])))) :=
    ⟨a3.1,fun c C hn=>by rw[gY P,if_neg (fun q=>hn (by subst q;exact r.mb)),a3.2 c C (fun q=>hn (r.mo c q).1)],
     fun c C=>by
      rcases C with C | C
      · grind
      · rcases a4 c C with q | q
        · exact .inl (r.mo c q).1
        omega⟩
  · have hr:∀ c,J7 j=U c->c≠μ:=fun c C=>by
      rcases a4 c C with q | q
      · exact(r.mo c q).2.1
      · omega
    refine⟨⟨sv,j,z,?_⟩,fun p hp=>(its p hp).mv mv,?_⟩
    · refine⟨by rw[gY P,if_pos rfl],.inl r.mb,?_,?_,fun c C=>⟨.inl (r.ms c C).1,(r.ms c C).2⟩,fun c C=>⟨.inr C,hr c C,fun q => ?_⟩⟩
      · exact r.st.keep fun c C hx=>by rw[gY P,if_neg (Ne.symm (r.ms c C).2),a3.2 c hx (fun q=>(r.mo c q).2.2 C)]
      · have : ij T 0 3 j (L (⟨x,y,J⟩::op:List Br)) (oA (⟨x,y,J⟩::op:List Br).reverse):=by simpa[oA,Br.cells]using a2
        exact this.keep fun c C _=>by rw[gY P,if_neg (Ne.symm (hr c C))]
      · rcases a4 c C with q' | q'
        · exact(r.mo c q').2.2 q
        · have:=r.st.out q;omega
    · rintro c (C | C)
      · exact aq (low c C) a3.1
      · exact a2.out C
  · exact mv
def Wc5{e:iu}{ps:List (V × List Int)}{op:List Br}(M_:jy h MB μ e ps op)(h1:L ps < 1000)(h2:L op < 1000)(h3:∀ p ∈ ps,L p.2 < 1000000000)(K:KP)(hk:∀ hr hb,kx 136 (ps.map (·.2)) op=U (U (hr,hb))->∀ h',tq MB h μ e hr hb h'->K (.ret (.bool Y)) h')(hp:kx 136 (ps.map (·.2)) op=U O->∀ h',tL MB h h'->K (.panic (pe 16)) h'):gr Tryz.prog (E b).G 121 [pO μ 0,I X 136] h K:=by
 refine mf (E b) (lQ _ _) (Uc b) (Jh b) iI (Ui b) (Qv b) tV.1 tV.2.1 tV.2.2 rfl ?_;simp[Zv,Ja,Qv,Ya,X9,vw,vt,Qu,Xr,Xc,vl,Zt,xq,rk,vp,xn,we,Zs,Zl,ki];refine(wM b M_ h2 _ ?_).ok;simp[Zv,Ja,Qv,Ya,X9,vw,vt,Qu,Xr,Xc,vl,Zt,xq,rk,vp,xn,we,Zs,Zl,ki];obtain⟨ov,j⟩:∃ ov,Zq h μ 35=U ov:=by
  obtain⟨⟨sv,ov,z,r⟩,_,_⟩:=M_;exact⟨ov,r.c35⟩
 cases hd:vf op with
 | true =>
  obtain⟨hy,h4,q1,q2,h5,q3,q4,hl,q5,q6⟩:=M_.opened (b:=b) h2 j Y Y;refine jf [] jA ⟨PD,Pw,Q4r⟩ (by simp[Q7f,Q7i,Q90,Q9i,Q7d,Q7g,Zv,Ja,Qv,Ya,X9,vw,vt,Qu,Xr,Xc,vl,Zt,xq,rk,vp,xn,we,Zs,Zl,ki,ju,j,Un0,q1,q2,q3];first | exact⟨rfl,rfl⟩ | rfl) ?_ ?_
  ·simp[Wf,Zv,Ja,Qv,Ya,X9,vw,vt,Qu,Xr,Xc,vl,Zt,xq,rk,vp,xn,we,Zs,Zl,ki,q4,j]
  simp[Zv,Ja,Qv,Ya,X9,vw,vt,Qu,Xr,Xc,vl,Zt,xq,rk,vp,xn,we,Zs,Zl,ki];exact hk _ _ (by simp[kx,hd]) _ ⟨ps,hl,rfl,q5,q6⟩
 | false =>
  cases ps with
  | nil =>
   have hA:mT 8 123 #[.tmp 19] AA Wf 0=[⟨(U 12),.move (.tmp 0),0, "",#[],O⟩,⟨(U 13),.move (.tmp 0),0, "",#[],O⟩,⟨(U 14),.nilCheck (.tmp 13),0, "",#[],O⟩,⟨(U 15),.fieldAddr 160 (.tmp 14) 2,0, "",#[],O⟩,⟨(U 16),.load 158 (.tmp 15),0, "",#[],O⟩,⟨(U 17),.move (.tmp 5),0, "",#[],O⟩,⟨(U 18),.move (.tmp 17),0, "",#[],O⟩,⟨(U 19),.move (.tmp 0),0, "",#[],(U (6,J))⟩,⟨(U 20),.makeFunc (.func 123) #[(.tmp 19)] #[],0, "",#[],(U (6,J))⟩,⟨(U 21),.assign (.const (.bool J)),0, "",#[],(U (6,J))⟩,⟨(U 22),.assign (.const (.bool J)),0, "",#[],(U (6,J))⟩,⟨(U 23),.assign (.const (.bool J)),0, "",#[],O⟩,⟨(U 24),.move (.tmp 5),0, "",#[],O⟩,⟨(U 25),.assign (.const (.bool J)),0, "",#[],O⟩,⟨(U 26),.assign (.const (.bool J)),0, "",#[],O⟩,⟨(U 27),.assign (.const (.bool J)),0, "",#[],O⟩,⟨(U 28),.assign (.const (.bool J)),0, "",#[],O⟩,⟨(U 29),.assign (.const (.bool J)),0, "",#[],O⟩,⟨O,.assign (.const (.bool J)),0, "",#[],O⟩]:=kR
   refine Wbk (p0:=8) (d0:=20) (f:=123) (args:=#[.tmp 19]) (o:=(BC.toList[8]?).getD ⟨O,.move (.tmp 0),0, "",#[],O⟩) (c:={callee:=.value (.func 123),args:=#[.tmp 19],argTypes:=#[153]}) (l:=[pO μ 0]) rfl PD Pw (by kernel_rfl) (by kernel_rfl) (by kernel_rfl) rfl rfl (by kernel_rfl) (by kernel_rfl) (by kernel_rfl) (by rw[hA];simp[vh,CR,Zv,Ja,Qv,Ya,X9,vw,vt,Qu,Xr,Xc,vl,Zt,xq,rk,vp,xn,we,Zs,Zl,ki,ju,j,Cf];rfl) (by simp[Tr.H]) (by kernel_rfl) ?_;refine(wR b M_ _ ?_).ok;intro T hT;simp[Zv,Ja,Qv,Ya,X9,vw,vt,Qu,Xr,Xc,vl,Zt,xq,rk,vp,xn,we,Zs,Zl,ki];exact hp (by simp[kx,hd]) h ⟨MB,Mv.refl _ _⟩
  | cons p ps =>
   obtain⟨v,x⟩:=p;have hx:=h3 (v,x) jA;obtain⟨_,h4,c1,n1,rfl,M1,m1,e1,i1,k1⟩:=uX b M_ (by grind) (fun r h'=>r=.ret v/\jy h' MB μ e ps op/\Mv MB MB h h'/\h'.Q=h.Q/\qC h' MB v x/\(∀ ov,Zq h μ 35=U ov->Zq h' μ 35=U ov)) (fun h' q1 q2 q3 q4 q5=>⟨rfl,q1,q2,q3,q4,q5⟩);obtain⟨_,h5,c2,n2,rfl,a2⟩:=RK b i1.sb hx (fun r h'=>r=.ret (.bool (kS x))/\a_ h4 h') (fun h' q=>⟨rfl,q⟩);have C:=k1 ov j;have P:Zq h5 μ 35=U ov:=by
    obtain⟨⟨sv,ho,z,r⟩,_,_⟩:=M1;rw[r.c35]at C;rw[Z2 (a2.A r.at'),OW];exact C
   obtain⟨hy,h6,q1,q2,h7,q3,q4,hl,q5,q6⟩:=(M1.R a2).opened (b:=b) h2 P (!kS x) J;refine jf [⟨123,[pO μ 0],h,v,h4,J⟩,⟨88,[v],h4,.bool (kS x),h5,Y⟩] ?_ ⟨PD,Pw,Q4r⟩ (by simp[Q7f,Q7i,Q90,Q9i,Q7d,Q7g,Zv,Ja,Qv,Ya,X9,vw,vt,Qu,Xr,Xc,vl,Zt,xq,rk,vp,xn,we,Zs,Zl,ki,ju,j,Un0,q1,q2,q3,qy];first | exact⟨rfl,rfl⟩ | rfl) ?_ ?_
   ·exact tu ⟨c1,n1,fun q=>by cases q⟩ ⟨c2,n2,fun _ c hc=>a2.2 c hc⟩
   ·simp[Wf,Zv,Ja,Qv,Ya,X9,vw,vt,Qu,Xr,Xc,vl,Zt,xq,rk,vp,xn,we,Zs,Zl,ki,q4,j,C,P]
   simp[Zv,Ja,Qv,Ya,X9,vw,vt,Qu,Xr,Xc,vl,Zt,xq,rk,vp,xn,we,Zs,Zl,ki];refine hk _ _ (by simp[kx,hd]) _ ⟨ps,hl,rfl,q5,m1.trans ((Mv.R a2).trans q6)⟩
section
attribute [local simp] Zv Ja Qv Ya X9 vw vt Qu Xr Xc vl Zt xq rk vp xn we Zs Zl ki
def xW{code:Int}(j:kx code [] []=O)(K:KP)(hk:K (.ret (.bool J)) h):gr Tryz.prog (E b).G 121 [pO μ 0,I X code] h K:=by
 have C:¬ code=136:=fun q=>by subst q;simp[kx]at j
 have P:¬ code=137:=fun q=>by subst q;simp[kx]at j
 have T:¬ code=138:=fun q=>by subst q;simp[kx]at j
 refine mf (E b) (lQ _ _) (Uc b) (Jh b) iI (Ui b) (Qv b) tV.1 tV.2.1 tV.2.2 rfl ?_;simp[C,P,T];exact hk
def Uwl{e:iu}{ps:List (V × List Int)}(M_:jy h MB μ e ps []){code:Int}(C:code=137∨code=138)(K:KP)(P:K (.panic (pe 16)) h):gr Tryz.prog (E b).G 121 [pO μ 0,I X code] h K:=by
 obtain⟨⟨sv,ov,z,r⟩,its,low⟩:=M_;have j:∀ h1,iC (E b).tojo 158 ov h1=U (I X 0):=fun h1=>iT (x_ b) r.op.sl;refine mf (E b) (lQ _ _) (Uc b) (Jh b) iI (Ui b) (Qv b) tV.1 tV.2.1 tV.2.2 rfl ?_;rcases C with rfl | rfl
 all_goals
  simp[ju,r.c35,j];refine(uC b h 16 _ ?_).ok;simp;exact P
def U88{e:iu}{ps:List (V × List Int)}{x:Br}{l:List Br}(M_:jy h MB μ e ps (x::l))(hl:L l < 1000)(K:KP)(hk:∀ h',jy h' MB μ e ps l->Mv MB MB h h'->K (.ret (.bool Y)) h'):gr Tryz.prog (E b).G 121 [pO μ 0,I X 138] h K:=by
 obtain⟨⟨sv,ov,z,r⟩,its,low⟩:=M_;have e0:∀ h1,iC (E b).tojo 158 ov h1=U (I X ((L l:Int)+1)):=fun h1=>by have:=iT (x_ b) r.op.sl (h1:=h1);simpa using this
 have h0:(0:Int) < (L l:Int)+1:=iA
 have hw:IntKind.i64.wrap (L l:Int)=(L l:Int):=Jr iA iA;obtain⟨bk,q1,q2,q3⟩:=U36 b r.op;obtain⟨j,t1,t2,t3⟩:=BS (x_ b) D9 iA r.op (k:=.i64) (i:=(L l:Int)) iA (by simp;try omega);have T:ij h 0 3 j (L l) (oA l.reverse):=by
  have e1:oA (x::l).reverse=oA l.reverse++x.cells:=by simp[oA]
  have e2:L (oA l.reverse)=L l*3:=by rw[Hf];simp
  grind
 have st:j9 (E b).tojo 158 (pO μ 35) j h=_:=(U23 b h μ 35 j T.one).trans (r.s35 j);have hx:sP (U ov) (U ov)=Y:=G8 r.op;refine mf (E b) (lQ _ _) (Uc b) (Jh b) iI (Ui b) (Qv b) tV.1 tV.2.1 tV.2.2 rfl ?_;simp[ju,r.c35,e0,h0];refine(vJ b h 16 _ ?_).ok;simp;refine jf [] jA KC.1 (by simp[KC.2,ju,r.c35,e0,hw,q2];first | exact⟨rfl,rfl⟩ | rfl) ?_ ?_
 ·simp[QK]
 simp;refine jf [] jA WW.1 (by simp[WW.2,Xpd,ju,r.c35,e0,hw,t1,st];first | exact⟨rfl,rfl⟩ | rfl) ?_ ?_
 ·simp[QQ,hx,r.c35]
 simp;have P:=N.D r.at';have mv:Mv MB MB h (h.set μ (U (S Y z (e.cells ++ [sv,j])))):=⟨ai _,fun c _ hn=>by rw[gY P,if_neg (fun q=>hn (by subst q;exact r.mb))],fun _ h => .inl h⟩;have kp:∀ c,c≠μ->(h.set μ (U (S Y z (e.cells ++ [sv,j])))).A c=h.A c:=fun c C=>by rw[gY P,if_neg (Ne.symm C)]
 refine hk _ ⟨⟨sv,j,z,?_⟩,fun p hp=>(its p hp).mv mv,low⟩ mv;exact⟨by rw[gY P,if_pos rfl],r.mb,r.st.keep fun c C _=>kp c (r.ms c C).2,T.keep fun c C _=>kp c (r.mo c (t3 ▸ C)).2.1,r.ms,fun c C=>r.mo c (t3 ▸ C)⟩
def U6o{e:iu}{ps:List (V × List Int)}{x:Br}{l:List Br}(M_:jy h MB μ e ps (x::l))(hl:L l < 1000)(K:KP)(hk:x.turned=J->∀ h',jy h' MB μ e ps (⟨x.dead || !x.off,x.dead,Y⟩::l)->Mv MB MB h h'->K (.ret (.bool Y)) h')(hp:x.turned=Y->K (.panic (pe 16)) h):gr Tryz.prog (E b).G 121 [pO μ 0,I X 137] h K:=by
 obtain⟨⟨sv,ov,z,r⟩,its,low⟩:=M_;have e0:∀ h1,iC (E b).tojo 158 ov h1=U (I X ((L l:Int)+1)):=fun h1=>by have:=iT (x_ b) r.op.sl (h1:=h1);simpa using this
 have h0:(0:Int) < (L l:Int)+1:=iA
 have hw:IntKind.i64.wrap (L l:Int)=(L l:Int):=Jr iA iA;have e1:oA (x::l).reverse=oA l.reverse++x.cells:=by simp[oA]
 have e2:L (oA l.reverse)=L l*3:=by rw[Hf];simp
 obtain⟨j,q1,q2,q3⟩:=U36 b r.op;have o0:=r.op;rw[e1]at o0;have g:=q3 h x.cells o0 rfl;have g2:Zq h j (L l*3+2)=U (.bool x.turned):=g 2 iA;obtain⟨h1,s1,o1,n1,k1⟩:=vP o0 q1 (i:=L l*3+2) (by simp[e2,Br.cells]) (.bool Y);have w1:(oA l.reverse++x.cells).set (L l*3+2) (.bool Y)=oA l.reverse ++ [Value.bool x.off,.bool x.dead,.bool Y]:=by rw[bD _ _ iA,e2,ge];rfl
 rw[w1]at o1;have f:=q3 h1 _ o1 rfl;have f0:Zq h1 j (L l*3)=U (.bool x.off):=f 0 iA;have f1:Zq h1 j (L l*3+1)=U (.bool x.dead):=f 1 iA;obtain⟨T,s2,o2,n2,k2⟩:=vP o1 q1 (i:=L l*3) (by simp[e2]) (.bool (x.dead || !x.off));have w2:(oA l.reverse ++ [Value.bool x.off,.bool x.dead,.bool Y]).set (L l*3) (.bool (x.dead || !x.off))=oA (⟨x.dead || !x.off,x.dead,Y⟩::l:List Br).reverse:=by rw[bD _ _ iA,e2,dQ];simp[oA,Br.cells]
 rw[w2]at o2;refine mf (E b) (lQ _ _) (Uc b) (Jh b) iI (Ui b) (Qv b) tV.1 tV.2.1 tV.2.2 rfl ?_;simp[ju,r.c35,e0,h0];refine(vJ b h 16 _ ?_).ok;simp;refine jf [] jA KC.1 (by simp[KC.2,ju,r.c35,e0,hw,q2];first | exact⟨rfl,rfl⟩ | rfl) ?_ ?_
 ·simp[QK]
 simp[ju,g2];cases ht:x.turned with
 | true =>
  refine(uC b h 16 _ ?_).ok;simp;exact hp ht
 | false =>
  refine(vJ b h 16 _ ?_).ok;have sb:j≠μ/\J7 sv≠U j:=(r.mo j q1).2;have kk:∀ c,c≠j->T.A c=h.A c:=fun c C=>by rw[k2 c C,k1 c C]
  have mv:Mv MB MB h T:=⟨iA,fun c _ hn=>kk c (fun q=>hn (by subst q;exact(r.mo _ q1).1)),fun _ h => .inl h⟩;have P:jy T MB μ e ps (⟨x.dead || !x.off,x.dead,Y⟩::l):=by
   refine⟨⟨sv,ov,z,?_⟩,fun p hp=>(its p hp).mv mv,fun c C=>by rw[n2,n1];exact low c C⟩;exact⟨by rw[kk μ (Ne.symm sb.1)];exact r.at',r.mb,r.st.keep fun c C _=>kk c (fun q=>sb.2 (by subst q;exact C)),by simpa using o2,r.ms,r.mo⟩
  cases hd:x.dead with
  | true =>
   simp[hd]at f1 s2;simp[ju,s1,f1,s2];exact hk ht T (by simpa[hd]using P) mv
  | false =>
   simp[hd]at f1 s2;simp[ju,s1,f1,f0,s2];exact hk ht T (by simpa[hd]using P) mv
end
def HZ(a b:Int):Int:=IntKind.wrap X ((BitVec.ofInt 64 a ||| BitVec.ofInt 64 b).toNat:Nat)
def Wc1(x y:Int):ja (binOp .or 3 (I X x) (I X y))=U (I X (HZ x y)):=kR
def U9g(x y:Int)(h:y=0∨y=8∨y=16∨y=24):ja (binOp .shl 3 (I X x) (I X y))=U (I X (IntKind.i64.wrap (x*2 ^ y.toNat))):=by
 rcases h with rfl | rfl | rfl | rfl
 ·exact(by kernel_rfl:ja (binOp .shl 3 (I X x) (I X 0))=U (I X (IntKind.i64.wrap (x*2 ^ 0))))
 ·exact(by kernel_rfl:ja (binOp .shl 3 (I X x) (I X 8))=U (I X (IntKind.i64.wrap (x*2 ^ 8))))
 ·exact(by kernel_rfl:ja (binOp .shl 3 (I X x) (I X 16))=U (I X (IntKind.i64.wrap (x*2 ^ 16))))
 ·exact(by kernel_rfl:ja (binOp .shl 3 (I X x) (I X 24))=U (I X (IntKind.i64.wrap (x*2 ^ 24))))
def rA(x:List Int):Nat->Int
 | 0=>0
 | i+1=>HZ (rA x i) (IntKind.i64.wrap (x.getD i 0*2 ^ (8*i)))
def UI(μ:Nat)(v:V)(x:List Int)(h:N)(k:Nat)(s:St):Prop:=∃ (t:Tr V) (i:Nat),s=⟨⟨35,t⟩,[],h⟩/\t.A 0=U (pO μ 0)/\t.A 12=U v/\t.A 13=U (I X 4)/\t.A 14=U (I X (i:Int))/\t.A 3=U (I X (rA x i))/\i<=4/\k=4-i
def pQ.c33{e:iu}{ps:List (V × List Int)}{op:List Br}{sv ov:V}(m:pQ h MB μ e ps op sv ov z):Zq h μ 33=U (I X e.lk):=by
 rw[Z2 m.at',aN (by rw[e.len];omega)];simp[iu.cells,e.hd]
section
attribute [local simp] Q4 Qds Xi Qu Ya Xc qx Ay Az PU XB V0 
def Uye{e:iu}{v:V}{x:List Int}{ps:List (V × List Int)}{op:List Br}(M_:jy h MB μ e ((v,x)::ps) op)(hl:L ps < 1000)(K:KP)(hk:L x=4->rA x 4<=e.lk->∀ h',jy h' MB μ e ps op->Mv MB MB h h'->K (.ret (.tuple #[])) h')(h4:L x≠4->∀ h',Mv MB MB h h'->K (.panic (pe 16)) h')(he:L x=4->¬ rA x 4<=e.lk->∀ h',Mv MB MB h h'->K (.panic (pe 18)) h'):FK b 127 [pO μ 0] h K:=by
 refine ip b (Xi b) XJ rfl ?_;simp;refine uX b M_ hl _ fun h1 M1 m1 _ i1 _ => ?_;have len:=fun C=>j_ (b:=b) (h1:=C) i1.sb;by_cases C:L x=4
 ·rw[C]at len;have T:∀ C,iC (E b).tojo 31 v C=U (I X 4):=len;simp[T];refine vJ b h1 16 _ ?_;simp[T];refine iV (UI μ v x h1) 4 ⟨_,0,rfl,jA,jA,jA,jA,by simp[rA],iA,rfl⟩ ?_;rintro k s' ⟨t,i,rfl,t0,P,t13,t14,t3,hi,rfl⟩ _;obtain⟨⟨sv,ov,z,r⟩,its,low⟩:=M1;by_cases hA:i < 4
  ·have h2:(i:Int) < 4:=iA
   obtain⟨c,hc⟩:∃ c,x[i]? = U c:=⟨_,ac iA⟩;obtain⟨bk,off,q1,q2,q3⟩:=sL (b:=b) i1.sb (k:=.i64) hc;have hb:=i1.by8 c (ae hc);have w1:IntKind.i64.wrap c=c:=Jr iA iA;have w2:IntKind.i64.wrap (8*(i:Int))=8*(i:Int):=Jr iA iA;have w3:=wS (i:=i) iA;obtain⟨a1,h3⟩:∃ a:Int,a=IntKind.i64.wrap (c*2 ^ (8*i)):=⟨_,rfl⟩;have sh:ja (binOp .shl 3 (I X c) (I X (8*(i:Int))))=U (I X a1):=by
    rw[U9g c _ iA,h3];congr 5
   have orr:ja (binOp .or 3 (I X (rA x i)) (I X a1))=U (I X (rA x (i+1))):=by
    rw[Wc1,h3,rA,dW,hc];rfl
   simp only[i8]at q3;simp[t0,P,t13,t14,t3,h2,q2,q3,w1,w2,w3,sh,orr];exact⟨4-(i+1),iA,_,i+1,rfl,by simp[t0],by simp[P],by simp[t13],jA,jA,iA,rfl⟩
  ·have : i=4:=iA
   subst this;have hr:=r.c33;by_cases j:rA x 4<=e.lk
   ·simp[ju,t0,P,t13,t14,t3,hr,j];refine vJ b h1 18 _ ?_;simp;exact hk C j h1 ⟨⟨sv,ov,z,r⟩,its,low⟩ m1
   ·simp[ju,t0,P,t13,t14,t3,hr,j];refine uC b h1 18 _ ?_;simp;exact he C j h1 m1
 ·have hp:¬ (L x:Int)=4:=iA
  simp[len,C,hp];refine uC b h1 16 _ ?_;simp;exact h4 C h1 m1
end
def O0(xs:List Int):ByteArray:=⟨⟨xs.map fun n=>UInt8.ofNat n.toNat⟩⟩
def Vq2:∀ xs:List Int,xY (xs.map i8)=U xs
 | []=>rfl
 | x::xs=>by
  show(match xY (xs.map i8)with | some r=>U (x::r) | none=>O)=_;rw[Vq2 xs]
def Uno{v:V}{xs:List Int}(s:SB h v xs):uV (E b).tojo 31 9 v h=U (.string (O0 xs),h):=by
 have h1:uF.desc=.slice 5:=(j' b).d;have j:R9.desc=.string:=kR
 have C:R5.desc=.int .u8:=kR
 rcases s with⟨c,rfl,_,e,T⟩ | ⟨P,o,c,ow,z',pre,post,rfl,g1,g2,g3, -⟩
 ·have : xs=[]:=List.map_eq_nil_iff.1 T;subst this;simp only[uV,rX,Ii,h1,j,sX,C];rfl
 ·have h4:Ab.cellsAt h ⟨P,o,O⟩ (L xs)=U (xs.map i8):=by
   simp only[Ab.cellsAt,g1];rw[<- g2,b9,di,th jA,bm jA,aj jA]
  simp only[uV,rX,Ii,h1,j,sX,C,h4,Vq2];rfl
def Uy1(x y:ByteArray):ja (binOp .eql 9 (.string x) (.string y))=U (.bool (x.toList == y.toList)):=kR
def Waa:∀ (xs ys:List Int),Bytes xs->Bytes ys->xs.map (fun n=>UInt8.ofNat n.toNat)=ys.map (fun n=>UInt8.ofNat n.toNat)->xs=ys:=by
 intro xs;induction xs with
 | nil=>simp
 | cons x xs ih =>
  intro ys C P e;cases ys with
  | nil=>simp at e
  | cons y ys =>
   simp only[aH,List.cons.injEq]at e;have b1:=C x jA;have b2:=P y jA;have T:=congrArg UInt8.toNat e.1;simp only[UInt8.toNat_ofNat']at T;have : x=y:=iA
   rw[this,ih ys (fun z j=>C z (by simp[j])) (fun z j=>P z (by simp[j])) e.2]
def Uuz{xs ys:List Int}(j:Bytes xs)(C:Bytes ys):((O0 xs).toList == (O0 ys).toList)=decide (xs=ys):=by
 rw[gU,gU];show(xs.map (fun n=>UInt8.ofNat n.toNat) == ys.map (fun n=>UInt8.ofNat n.toNat))=decide (xs=ys);by_cases h:xs=ys
 ·grind
 ·rw[decide_eq_false h];simp only[beq_eq_false_iff_ne,ne_eq];exact fun e=>h (Waa xs ys j C e)
def Uyk{v w:V}{xs ys:List Int}(T:SB h v xs)(s2:SB h w ys)(j:Bytes xs)(C:Bytes ys)(K:KP)(P:K (.ret (.bool (decide (xs=ys)))) h):FK b 125 [v,w] h K:=by
 refine ip b (Yv b) Jpq rfl ?_;simp[UE,Veo,Yv,U6n,Uno b T,Uno b s2,Uy1,Uuz j C];exact P
end Go.Proofs.YtmgonkaadhbnpaaGreatDoor
end
