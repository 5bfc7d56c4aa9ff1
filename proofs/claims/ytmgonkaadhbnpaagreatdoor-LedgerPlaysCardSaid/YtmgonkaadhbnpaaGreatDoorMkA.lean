import Derived.Test.YtmgonkaadhbnpaaGreatDoorTxA
import Derived.Test.YtmgonkaadhbnpaaGreatDoorRgA
import Derived.Test.YtmgonkaadhbnpaaGreatDoorHtA
set_option linter.all false
set_option maxHeartbeats 1000000
open List renaming length→L
open Option renaming some→U,none→O
open Bool renaming true→Y,false→J
open Go renaming Value→V
open Go.Value renaming int→I,slice→M
open Go.IntKind renaming i64→X
open Go.Ab.Blk renaming cells→S
noncomputable section
namespace Go.Proofs.YtmgonkaadhbnpaaGreatDoor
open Go Go.Ab
set_option maxRecDepth 100000
variable{l:List g_}{i:Nat}{k:Nat}(b:Nat){h:N}{bv:V}{xs:List Int}{iv:V}{ov:V}
def Uma(B:Nat)(h:N):j8 (E b).tojo 62 (pO B 0) O O O h=U (M (U ⟨B,0,O⟩) 32 32,h):=kR
def Iq(j:N){zs l:List V}(P:L l=L zs):∃ h1 C,h1=j.push (S Y 1 zs)/\iN h1 j.Q 0 l=U C/\C.A j.Q=U (S Y 1 l)/\a_ j C/\C.Q=j.Q+1:=by
 have g:(j.push (S Y 1 zs)).A j.Q=U (S Y 1 zs):=by rw[N.F,if_pos rfl]
 have lt:=N.D g;refine⟨_,(j.push (S Y 1 zs)).set j.Q (U (S Y 1 l)),rfl,?_,?_,?_,rfl⟩
 ·rw[jQ g iA];simp[P]
 ·rw[gY lt,if_pos rfl]
 ·exact(a_.push j _).set _ (ai _) lt
def U1l:∀ (k n i:Nat),i < k->(qV k n).take (i+1)=(qV k n).take i ++ [(((n / 256 ^ i) % 256:Nat):Int)]:=by
 intro k n i h;rw[aT,Oy k n i h];rfl
def LOI(n k:Nat)(h:N)(m:Nat)(s:St):Prop:=∃ (t:Tr V) (h1:N) (o:V) (i:Nat),s=⟨⟨24,t⟩,[],h1⟩/\t.A 1=U (I X (k:Int))/\t.A 5=U (I .u64 ((n / 256 ^ i:Nat):Int))/\t.A 6=U o/\t.A 7=U (I X (i:Int))/\i<=k/\m=k-i/\OB h1 h.Q o ((qV k n).take i)/\a_ h h1
attribute [local simp] Qw p6 p7 X0 p_ p9 p5 qd qc Q6 Qt Yg Y6 jm Qg iD Ab.g0 gv gs Q8 Qd iH kH lr Qh Tr.H St.put Tm.put flat iS Y5 Qm Qp Qn Qo Qk Ql Qj Qq Qi Q7 Q9 pZ pX pW pY qn qk qj qf qg qi qq Qz.putAll Qr Q0 Qa Wa ku Yk Jn Yo Nat.testBit Y0 loadAt Ab.runT Ym Yb Yh
section
attribute [local simp] WL Y9s FH oU wj wk uG Kq Zen Mn Mm Y8u 
def U5c{n k:Nat}(hn:n < 9223372036854775808)(hx:k<=8)(h:N)(K:KP)(hk:∀ v h',OB h' h.Q v (qV k n)->a_ h h'->K (.ret v) h'):FK b 205 [I X (n:Int),I X (k:Int)] h K:=by
 refine ip b (FH b) Vjf rfl ?_;have w0:IntKind.u64.wrap (n:Int)=(n:Int):=by show(n:Int) % (2 ^ 64:Int)=n;omega
 simp[w0];refine iV (LOI n k h) k ⟨_,h,M O 0 0,0,rfl,jA,jA,jA,jA,iA,rfl,ij.nil,a_.refl _⟩ ?_;rintro m s' ⟨t,h1,o,i,rfl,t1,t5,t6,t7,hi,rfl,T,C⟩ _;by_cases P:i < k
 ·have j:(i:Int) < (k:Int):=iA
  have hw:=wS (i:=i) iA;obtain⟨q,eq⟩:∃ q,q=n / 256 ^ i:=⟨_,rfl⟩;have ml:q<=n:=by rw[eq];exact Nat.div_le_self _ _
  have m0:(0:Int)<=(q:Int):=iA
  rw[<- eq]at t5;have w1:IntKind.u8.wrap (Int.tmod (q:Int) 256)=(q:Int) % 256:=by rw[Int.tmod_eq_emod_of_nonneg m0];show((q:Int) % 256) % (2 ^ 8:Int)=_;omega
  have w2:IntKind.u64.wrap (Int.tdiv (q:Int) 256)=(q:Int) / 256:=by
   rw[Int.tdiv_eq_ediv_of_nonneg m0];show((q:Int) / 256) % (2 ^ 64:Int)=_;omega
  have hc:IntKind.u64.wrap ((q:Int) / 256)=(q:Int) / 256:=by
   grind
  have e3:((n / 256 ^ (i+1):Nat):Int)=(q:Int) / 256:=by rw[gt,<- eP,<- eq];omega
  have e4:((n / 256 ^ i % 256:Nat):Int)=(q:Int) % 256:=iA
  obtain⟨v',h',k1,k2,k3⟩:=Gx (b:=b) T C.1 (by grind) ((q:Int) % 256);simp only[i8]at k1;simp[t1,t5,t6,t7,P,j,w1,w2,hc,ua,i8,k1,hw];exact⟨k-(i+1),iA,_,h',v',i+1,rfl,by simp[t1],(by rw[e3];simp),jA,jA,iA,rfl,by rw[U1l k n i P,e4];exact k2,k3.R C T⟩
 ·have j:¬ (i:Int) < (k:Int):=iA
  have : i=k:=iA
  subst this;rw[aj (by rw[DN];omega)]at T;simp[t1,t6,t7]
  grind
end
def OQ{h0 h:N}{o:V}{xs:List Int}(oo:OB h h0.Q o xs)(a0:a_ h0 h)(hl:L xs < 999999000){n k:Nat}(hn:n < 9223372036854775808)(hx:k<=8)(c:Int) :
  ∃ v1 j lv T v4 C,kU (E b).tojo 31 31 o (M (U ⟨h.Q,0,O⟩) 1 1) (h.push (S Y 1 [i8 c]))=U (v1,j) /\
   (∀ K:jc->N->Prop,K (.ret lv) T->FK b 205 [I X (n:Int),I X (k:Int)] j K) /\
   kU (E b).tojo 31 31 v1 lv T=U (v4,C)/\OB C h0.Q v4 (xs++c::qV k n)/\a_ h0 C:=by
 obtain⟨v1,j,k1,k2,k3⟩:=Gx (b:=b) oo a0.1 iA c;have a2:=k3.R a0 oo;obtain⟨_,T,q,nx,lv,rfl,o3,P⟩:=U5c b hn hx j (fun r h' => ∃ v,r=.ret v/\OB h' j.Q v (qV k n)/\a_ j h') (fun v h' o a=>⟨v,rfl,o,a⟩);have ll:=DN k n;obtain⟨v4,C,j1,j2,j3⟩:=yE (b:=b) (k2.keep fun c _ hc=>P.2 c hc) (ao a2.1 P.1) o3.sl (by grind);refine⟨v1,j,lv,T,v4,C,k1,fun K hK=>⟨_,_,q,nx,hK⟩,j1,?_,j3.R (a2.trans P) (k2.keep fun c _ hc=>P.2 c hc)⟩
 grind
section
attribute [local simp] JY Rt zE oU J8 Pr PH Vv Vu PG PP FH PF PO
def B_(s:SB h bv xs){n:Nat}(hn:n < 9223372036854775808)(hl:L xs < 999999000)(K:KP)(hk:∀ v h',OB h' h.Q v (xs++kJ n)->a_ h h'->K (.ret v) h') :
  FK b 186 [bv,I X (n:Int)] h K:=by
 by_cases C:n < 253
 ·refine Vr3 b s C iA K fun v h' o a=>hk v h' ?_ a;rw[kJ,if_pos C];exact o
 refine ip b (zE b) To rfl ?_;have c0:(0:Int)<=(n:Int):=iA
 have P:¬ (n:Int) < 253:=iA
 simp;refine Bh b s iA _ fun o h1 oo a1 => ?_;by_cases c2:n < 65536
 ·have j:(n:Int) < 65536:=iA
  obtain⟨v1,h2,lv,h3,v4,h4,k1,kf,k2,k3,k4⟩:=OQ b oo a1 hl hn (k:=2) iA 253;simp only[i8]at k1;simp[c0,C,P,c2,j,ua,i8,k1];refine kf _ ?_;simp[k2];refine hk v4 h4 ?_ k4;rw[kJ,if_neg C,if_pos c2];exact k3
 have j:¬ (n:Int) < 65536:=iA
 by_cases c3:n < 4294967296
 ·have T:(n:Int) < 4294967296:=iA
  obtain⟨v1,h2,lv,h3,v4,h4,k1,kf,k2,k3,k4⟩:=OQ b oo a1 hl hn (k:=4) iA 254;simp only[i8]at k1;simp[c0,C,P,c2,j,c3,T,ua,i8,k1];refine kf _ ?_;simp[k2];refine hk v4 h4 ?_ k4;rw[kJ,if_neg C,if_neg c2,if_pos c3];exact k3
 have T:¬ (n:Int) < 4294967296:=iA
 obtain⟨v1,h2,lv,h3,v4,h4,k1,kf,k2,k3,k4⟩:=OQ b oo a1 hl hn (k:=8) iA 255;simp only[i8]at k1;simp[c0,C,P,c2,j,c3,T,ua,i8,k1];refine kf _ ?_;simp[k2];refine hk v4 h4 ?_ k4;rw[kJ,if_neg C,if_neg c2,if_neg c3];exact k3
end
section
def U15{pv:V}{xs ys:List Int}(s:SB h bv xs)(j:SB h pv ys)(hl:L xs < 999990000)(hp:L ys < 1000000)(K:KP)(C:∀ v h',OB h' h.Q v (xs++xD ys)->a_ h h'->K (.ret v) h') :
  FK b 188 [bv,pv] h K:=by
 refine ip b (Kf b) J6z rfl ?_;have len:=fun P=>j_ (b:=b) (h1:=P) j;simp[MI,TQ,Kf,oU,zE,len];refine B_ b s (n:=L ys) iA iA _ fun v h1 o a => ?_;have:=uw (L ys);obtain⟨T,h',k1,k2,k3⟩:=yE (b:=b) o a.1 (j.R a) (by grind);simp[MI,TQ,Kf,oU,zE,k1];refine C T h' ?_ (k3.R a o);rw[xD,<- b9];exact k2
def Uyu(s:SB h bv xs){d:List Nat}(hd:L d=32)(hl:L xs < 999990000)(K:KP)(hk:∀ v h',OB h' h.Q v (xs++kI d)->a_ h h'->K (.ret v) h') :
  FK b 187 [bv,.agg ⟨d.map dk⟩] h K:=by
 refine ip b (C_ b) J19 rfl ?_;obtain⟨T,eA,C,gA⟩:=kQ h ((d.map dk));have P:=kE eA;obtain⟨_,h2,q2,n2,o,rfl,oo,j⟩:=Bh b (s.R C) iA (fun r h' => ∃ v,r=.ret v/\OB h' T.Q v xs/\a_ T h') (fun v h' o a=>⟨v,rfl,o,a⟩);have sd:SB h2 (M (U ⟨h.Q,0,O⟩) 32 32) (kI d):=by have:=IV (j.A gA) iA;grind
 obtain⟨v',h',k1,k2,k3⟩:=yE (b:=b) oo j.1 sd (by simp[kI];omega);simp[EF,Hg,C_,HC,J8,P];refine jf [⟨28,[bv],T,o,h2,Y⟩] ?_ SY.1 (by simp (config:={maxSteps:=1000000})[SY.2,Jj8,EF,Hg,C_,HC,J8,Uma,k1,qy];first | exact⟨rfl,rfl⟩ | rfl) ?_ ?_
 ·exact nK ⟨q2,n2,fun _ c hc=>j.2 c hc⟩
 ·simp[Rx,EF,Hg,C_,HC,J8]
 simp[EF,Hg,C_,HC,J8];exact hk v' h' (k2.low C.1) (C.trans (k3.R j oo))
def U13(l m:List Nat):kI (l++m)=kI l++kI m:=by simp[kI]
def U3a{v:V}{l:List Nat}(s:SB h v (kI l)):SN h v l:=by
 rw[SB,<- E_,show(kI l).length=L l by simp[kI]]at s;exact s
def U3f{v:V}{l:List Nat}(s:SN h v l):SB h v (kI l):=by
 rw[SB,<- E_,show(kI l).length=L l by simp[kI]];exact s
def Uok{s:ByteArray}{l d:List Nat}(hs:uS s=l.map dk)(hl:L l < 1000)(hb:∀ x ∈ l,x < 256){v:V}(sv:SN h v d)(hd:L d < 1000000)(bd:∀ x ∈ d,x < 256)(K:KP)(hk:∀ h',a_ h h'->K (.ret (.agg ⟨(wV l d).map dk⟩)) h') :
  FK b 174 [.string s,v] h K:=by
 refine ip b (Av b) Jas rfl ?_;obtain⟨j,eA,aA,gA⟩:=kQ h (((List.replicate 32 0).map dk));have hy:jd (E b).tojo 62 h=U (pO h.Q 0,j):=by rw[eA];exact Jx b h
 obtain⟨hB,eB⟩:∃ hB,hB=j.push (S Y 1 (l.map dk)):=⟨_,rfl⟩;have aB:=jG eB;have cv:uV (E b).tojo 9 31 (.string s) j=U (M (U ⟨j.Q,0,O⟩) (L l) iJ,hB):=by rw[eB];exact Un1 b hs j
 have sl:SN hB (M (U ⟨j.Q,0,O⟩) (L l) iJ) l:=(ij.new (n0:=0) (z:=1) (z':=1) (bw _) (by rw[eB,N.F,if_pos rfl]) jA (by simp[iJ];omega) (.inl ⟨rfl,rfl⟩)).sl;simp[HK,MA,Av,Jx,zF,K_,Vx,Vw,uG,-Jx,hy,cv];refine OD b sl iA hb _ fun P a2 => ?_;have kl:L (Bl.keyed1 [] l)=32:=oR _;have e1:L ((Bl.keyed1 [] l).map dk)=32:=by simp[kl]
 obtain⟨ho,T,e3,s3,g3,a3,n3⟩:=Iq P (zs:=(List.replicate 32 0).map dk) (l:=(Bl.keyed1 [] l).map dk) (by grind);have hp:jd (E b).tojo 62 P=U (pO P.Q 0,ho):=by rw[e3];exact Jx b P
 have sk:SB T (M (U ⟨P.Q,0,O⟩) 32 32) (kI (Bl.keyed1 [] l)):=by have:=IV g3 iA;grind
 obtain⟨v4,h4,k1,k2,k3⟩:=yE (b:=b) (h:=T) (n0:=T.Q) (v:=M O 0 0) (xs:=[]) ij.nil (ai _) sk (by simp[kI];omega);have a4:a_ T h4:=⟨k3.1,fun c hc=>k3.2 c hc (by simp[J7])⟩;have hr:=aA.trans (aB.trans (a2.trans (a3.trans a4)));obtain⟨v5,h5,j1,j2,j3⟩:=yE (b:=b) k2 a4.1 (U3f (sv.R hr)) (by simp[kI];omega);have a5:a_ T h5:=j3.R a4 k2;rw[bX,<- U13]at j2;simp[HK,MA,Av,Jx,zF,K_,Vx,Vw,uG,-Jx,hp,e1,s3,Uma,k1,j1];refine OD b (U3a j2.sl) (by grind) (fun x hx => ?_) _ fun h6 a6 => ?_
 ·rcases ah.1 hx with hx | hx
  ·exact BQ _ x hx
  grind
 have tl:L ((wV l d).map dk)=32:=by simp[Cc]
 have C:a_ j h6:=aB.trans (a2.trans (a3.trans (a5.trans a6)));have g6:=C.A gA;have l6:=N.D g6;obtain⟨h7,e7⟩:∃ h7,h7=h6.set h.Q (U (S Y 1 ((wV l d).map dk))):=⟨_,rfl⟩;have hu:iN h6 h.Q 0 ((wV l d).map dk)=U h7:=by rw[jQ g6 (by grind),e7];grind
 have hn:iy h7 h.Q 0 32=U (.agg ⟨(wV l d).map dk⟩):=by
  rw[V9 (h:=h7) (bk:=h.Q) (by rw[e7,gY l6,if_pos rfl]) iA,ba,aj iA]
 have te:Bl.keyed1 [] (Bl.keyed1 [] l++d)=wV l d:=rfl;rw[te];simp[HK,MA,Av,Jx,zF,K_,Vx,Vw,uG,mZ,tl,hu,hn];exact hk _ (by rw[e7];exact(aA.trans C).set _ (ai _) l6)
end
def OT{x:g_}(j:l[i]? = U x):(l.take (i+1)).map (·.pt)=(l.take i).map (·.pt) ++ [x.pt]:=by rw[aT,j];simp
def U9d{y:g_}(j:l[k]? = U y)(h:k < i):y.pt ∈ (l.take i).map (·.pt) :=
 am.2 ⟨y,ae (i:=k) (by grind),rfl⟩
def Uzg{x y:g_}(C:l[i]? = U x)(P:l[k]? = U y)(h:k < i)(e:x.pt=y.pt):¬ (l.map (·.pt)).Nodup:=fun q=>by
 have j:((l.take (i+1)).map (·.pt)).Nodup:=by
  grind
 rw[OT C]at j;exact(Vph.1 j).2 (by rw[e];exact U9d P h)
def TWO(v:V)(l:List g_)(h:N)(k:Nat)(s:St):Prop:=∃ (t:Tr V) (i:Nat),s=⟨⟨27,t⟩,[],h⟩/\t.A 0=U v/\t.A 3=U (I X (i:Int))/\i<=L l/\k=L l-i/\((l.take i).map (·.pt)).Nodup
def TWI(v:V)(l:List g_)(i:Nat)(x:g_)(h:N)(m:Nat)(s:St):Prop:=∃ (t:Tr V) (k:Nat),s=⟨⟨27,t⟩,[],h⟩/\t.A 0=U v/\t.A 3=U (I X (i:Int))/\t.A 4=U (I X (k:Int))/\k<=i/\m=i-k/\x.pt ∉ (l.take k).map (·.pt)
section
attribute [local simp] Qpk Qxp Q3 qu yU lN Jt ph BM qu
def Urf{v:V}{l:List g_}(s:Sl h 34 v (L l) (my l))(hn:L l < 2199023255552)(K:KP)(hk:K (.ret (.bool (!decide (l.map (·.pt)).Nodup))) h):FK b 129 [v] h K:=by
 refine ip b (Q3 b) Jmv rfl ?_;have len:∀ P,iC (E b).tojo 45 v P=U (I X (L l:Int)):=fun P=>iT (kK b) s;simp;refine iV (TWO v l h) (L l) ⟨_,0,rfl,jA,jA,iA,rfl,jA⟩ ?_;rintro k s' ⟨t,i,rfl,t0,t3,hi,rfl,hd⟩ _;by_cases hc:i < L l
 ·have C:(i:Int) < (L l:Int):=iA
  obtain⟨x,P⟩:∃ x,l[i]? = U x:=⟨_,ac hc⟩;obtain⟨B1,O1, -,a1, -, -⟩:=qF (b:=b) (kK b) nI s P;have p1:=CK s P a1;have hw:=wS (i:=i) iA;simp[t0,t3,len,C];refine iV (TWI v l i x h) i ⟨_,0,rfl,by simp[t0],by simp[t3],jA,iA,rfl,jA⟩ ?_;rintro m s' ⟨t,k,rfl,t0,t3,t4,hl,rfl,hq⟩ _;by_cases T:k < i
  ·have j:(k:Int) < (i:Int):=iA
   obtain⟨y,hy⟩:∃ y,l[k]? = U y:=⟨_,ac iA⟩;obtain⟨B2,O2, -,a2, -, -⟩:=qF (b:=b) (kK b) nI s hy;have p2:=CK s hy a2;have h2:=wS (i:=k) iA;have pq:=DR b x.pt y.pt;have pe:=Ff x.pt y.pt;simp[t0,t3,t4,T,j];refine jf [] jA Ts.1 (by simp[Ts.2,t0,t3,t4,a1,a2,p1,p2,pq,pe];first | exact⟨rfl,rfl⟩ | rfl) ?_ ?_
   ·simp[Q93]
   by_cases he:x.pt=y.pt
   ·simp[he];have:=Uzg P hy T he
    grind
   ·simp[he,t0,t3,t4,h2];refine⟨i-(k+1),iA,_,k+1,rfl,by simp[t0],by simp[t3],jA,iA,rfl,?_⟩;rw[OT hy]
    grind
  ·have j:¬ (k:Int) < (i:Int):=iA
   have : k=i:=iA
   subst this;simp[t0,t3,t4,hw];refine⟨L l-(k+1),iA,_,k+1,rfl,by simp[t0],jA,iA,rfl,?_⟩;rw[OT P]
   grind
 ·have C:¬ (i:Int) < (L l:Int):=iA
  have : i=L l:=iA
  subst this;rw[bH]at hd;rw[decide_eq_true hd]at hk;simp[t0,t3,len];exact hk
end
def nO(l:List jx):Int:=(l.map (·.value)).sum
def Ua4:∀ (l:List jx) (left:Int),0<=left->(qI l left=Y↔(∀ o ∈ l,1<=o.value)/\nO l<=left)
 | [],left,h=>by simp[qI,nO,h]
 | o::l,left,h=>by
  simp only[qI];by_cases h1:o.value < 1∨left < o.value
  ·rw[if_pos h1];simp only[az,false_iff,not_and];intro j hs;have h0:=j o jA;have T:0<=nO l:=by
    have : ∀ (m:List jx),(∀ q ∈ m,1<=q.value)->0<=nO m:=fun m=>by
     induction m with
     | nil=>simp[nO]
     | cons q m ih =>
      intro C;have:=ih fun r P=>C r (by simp[P]);have:=C q jA;simp only[nO,aH,eh]at *;omega
    grind
   simp only[nO,aH,eh]at hs T;omega
  ·rw[if_neg h1,Ua4 l (left-o.value) iA];simp only[ar,forall_eq_or_imp,nO,aH,eh]
   grind
def Ucr{l:List jx}{i:Nat}{o:jx}(j:l[i]? = U o):nO (l.take (i+1))=nO (l.take i)+o.value:=by
 rw[aT,j];simp[nO]
def Ox:∀ (l:List jx),(∀ o ∈ l,1<=o.value/\o.value<=1125899906842624)->0<=nO l/\nO l<=L l*1125899906842624
 | [],_=>by simp[nO]
 | o::l,h=>by
  have ih:=Ox l fun q j=>h q (by simp[j]);have:=h o jA;simp only[nO,aH,eh,bI]at *;omega
def Uwv{l:List jx}(h:∀ o ∈ l,1<=o.value)(i:Nat):nO (l.take i)<=nO l:=by
 have e:nO l=nO (l.take i)+nO (l.drop i):=by
  simp only[nO,dJ,fW];rw[<- List.sum_append,bz]
 have P:∀ (m:List jx),(∀ q ∈ m,1<=q.value)->0<=nO m:=fun m=>by
  induction m with
  | nil=>simp[nO]
  | cons q m ih =>
   intro j;have:=ih fun r C=>j r (by simp[C]);have:=j q jA;simp only[nO,aH,eh]at *;omega
 grind
def RGI(v:V)(l:List bN)(h:N)(k:Nat)(s:St):Prop:=∃ (t:Tr V) (i:Nat),s=⟨⟨34,t⟩,[],h⟩/\t.A 0=U v/\t.A 3=U (I X (nO ((l.map bN.p).take i)))/\t.A 4=U (I X (i:Int))/\i<=L l/\k=L l-i/\∀ o ∈ (l.map bN.p).take i,1<=o.value/\o.value<=1125899906842624
section
attribute [local simp] Q14 Xcs QX qu yU lN Q6h Jy V0 Q3o Q1d qu G' 
def Ups{v:V}{l:List bN}(s:Sl h 2 v (L l) (qK l))(hn:L l<=8)(K:KP)(T:K (.ret (.bool (qI (l.map bN.p) 1125899906842624))) h):FK b 130 [v] h K:=by
 refine ip b (QX b) Jap rfl ?_;have vs:=Ua4 (l.map bN.p) 1125899906842624 iA;have len:∀ hx,iC (E b).tojo 22 v hx=U (I X (L l:Int)):=fun hx=>iT (kD b) s;simp;refine iV (RGI v l h) (L l) ⟨_,0,rfl,jA,by simp[nO],jA,iA,rfl,jA⟩ ?_;rintro k s' ⟨t,i,rfl,t0,t3,t4,hi,rfl,hd⟩ _;by_cases hc:i < L l
 ·have j:(i:Int) < (L l:Int):=iA
  obtain⟨x,hx⟩:∃ x,l[i]? = U x:=⟨_,ac hc⟩;have P:(l.map bN.p)[i]? = U x.p:=by grind
  have hl:x.p ∈ l.map bN.p:=ae P;obtain⟨B1,O1, -,a1, -,c1, -⟩:=qO (b:=b) (kD b) mR s hx;have hw:=wS (i:=i) iA;by_cases q1:x.value < 1
  ·have : qI (l.map bN.p) 1125899906842624=J:=by
    rw[bM];intro q;have:=(vs.1 q).1 _ hl;simp only[bN.p]at this;omega
   rw[this]at T;simp[t0,t3,t4,len,j,a1,c1,q1];exact T
  by_cases q2:1125899906842624 < x.value
  ·have : qI (l.map bN.p) 1125899906842624=J:=by
    rw[bM];intro q;have h1:=(vs.1 q).1;have h2:=(vs.1 q).2;have h3:=Uwv h1 (i+1);rw[Ucr P]at h3;have h4:=(Ox _ hd).1;simp only[bN.p]at h3 h4;omega
   rw[this]at T;simp[t0,t3,t4,len,j,a1,c1,q1,q2];exact T
  have hs:=Ox _ hd;have hb:L ((l.map bN.p).take i)<=8:=by grind
  have ws:IntKind.i64.wrap (nO ((l.map bN.p).take i)+x.value)=nO ((l.map bN.p).take (i+1)):=by
   rw[Ucr P];exact Jr iA iA
  simp[t0,t3,t4,len,j,a1,c1,q1,q2,ws,hw];refine⟨L l-(i+1),iA,_,i+1,rfl,by simp[t0],jA,jA,iA,rfl,?_⟩;intro o C;rw[aT,P]at C;rcases ah.1 C with C | C
  ·exact hd o C
  ·simp at C;subst C;simp only[bN.p];omega
 ·have j:¬ (i:Int) < (L l:Int):=iA
  have : i=L l:=iA
  subst this;rw[aj jA]at hd t3;have e:qI (l.map bN.p) 1125899906842624=decide (nO (l.map bN.p)<=1125899906842624):=by
   rw[Bool.eq_iff_iff,vs,decide_eq_true_eq];exact⟨fun q=>q.2,fun q=>⟨fun o C=>(hd o C).1,q⟩⟩
  rw[e]at T;simp[t0,t3,t4,len];exact T
end
def K4{A:Type}{q:A->Bool}{l:List A}{i:Nat}{x:A}(C:l[i]? = U x)(h0:(l.take i).any q=J)(j:q x=J):(l.take (i+1)).any q=J:=by rw[KU C h0,j]
def LG1(A:Nat)(l:List bN)(h:N)(k:Nat)(s:St):Prop:=∃ (t:Tr V) (i:Nat),s=⟨⟨58,t⟩,[],h⟩/\t.A 1=U (pO A 0)/\t.A 3=U (I X (i:Int))/\i<=L l/\k=L l-i/\((l.map bN.p).take i).any wC=J
def LG2(A:Nat)(l:List g_)(h:N)(k:Nat)(s:St):Prop:=∃ (t:Tr V) (i:Nat),s=⟨⟨58,t⟩,[],h⟩/\t.A 1=U (pO A 0)/\t.A 4=U (I X (i:Int))/\i<=L l/\k=L l-i/\((l.map g_.p).take i).any tF=J
def LG3(A:Nat)(i:Nat)(x:g_)(h:N)(m:Nat)(s:St):Prop:=∃ (t:Tr V) (k:Nat),s=⟨⟨58,t⟩,[],h⟩/\t.A 1=U (pO A 0)/\t.A 4=U (I X (i:Int))/\t.A 5=U (I X (k:Int))/\k<=L x.its/\m=L x.its-k/\((x.its.map (·.2)).take k).any (fun w=>decide (64 < L w))=J
section
attribute [local simp] Qon Qxt QZ yU Jc uK J0 Z8 BM lN J4 tY Wc U1 BM v_ BM qu
def Uz1{ins:List g_}{outs:List bN}{lock:Int}(si:Ins h iv ins)(so:jg h ov outs)(K:KP)(hk:∀ h',a_ h h'->K (.ret (.bool ((outs.map bN.p).any wC || (ins.map g_.p).any tF))) h') :
  FK b 131 [.agg ⟨iz iv ov lock⟩] h K:=by
 refine ip b (QZ b) J3n rfl ?_;have ni:=si.n;have no:=so.n;obtain⟨hA,eA,aA,gA⟩:=kQ h ((iz iv ov lock));have bx:=kE eA;have c0:Zq hA h.Q 0=U iv:=by rw[Z2 gA];rfl
 have c1:Zq hA h.Q 1=U ov:=by rw[Z2 gA];rfl
 have li:∀ C,iC (E b).tojo 45 iv C=U (I X (L ins:Int)):=fun C=>iT (kK b) si.s;have lo:∀ C,iC (E b).tojo 22 ov C=U (I X (L outs:Int)):=fun C=>iT (kD b) so.s;have hk:=hk hA aA;simp[bx];refine iV (LG1 h.Q outs hA) (L outs) ⟨_,0,rfl,jA,jA,iA,rfl,jA⟩ ?_;rintro k s' ⟨t,i,rfl,t1,t3,hi,rfl,hd⟩ _;by_cases P:i < L outs
 ·have j:(i:Int) < (L outs:Int):=iA
  obtain⟨x,C⟩:∃ x,outs[i]? = U x:=⟨_,ac P⟩;have T:(outs.map bN.p)[i]? = U x.p:=by rw[b7,C];rfl
  obtain⟨B1,O1, -,a1, -, -,d1⟩:=qO (b:=b) (kD b) mR (so.s.R aA) C;have ls:=fun C=>j_ (b:=b) (h1:=C) (so.a x (ae ‹outs[i]? = U x›)).s;have hw:=wS (i:=i) iA;by_cases q:256 < L x.script
  ·have q':(256:Int) < (L x.script:Int):=iA
   have e:(outs.map bN.p).any wC=Y:=AH T (by simp[wC,bN.p,q]);rw[e,eR]at hk;simp[t1,t3,c1,lo,P,j,a1,d1,ls,q,q'];exact hk
  ·have q':¬ (256:Int) < (L x.script:Int):=iA
   simp[t1,t3,c1,lo,P,j,a1,d1,ls,q,q',hw];exact⟨L outs-(i+1),iA,_,i+1,rfl,by simp[t1],jA,iA,rfl,K4 T hd (by show decide (256 < L x.script)=J;exact decide_eq_false q)⟩
 have j:¬ (i:Int) < (L outs:Int):=iA
 have : i=L outs:=iA
 subst this;rw[aj jA]at hd;rw[hd,gc]at hk;simp[t1,t3,c1,lo];refine iV (LG2 h.Q ins hA) (L ins) ⟨_,0,rfl,by simp[t1],jA,iA,rfl,jA⟩ ?_;rintro k s' ⟨t,i,rfl,t1,t4,hi,rfl,hd⟩ _;by_cases P:i < L ins
 ·have j:(i:Int) < (L ins:Int):=iA
  obtain⟨x,C⟩:∃ x,ins[i]? = U x:=⟨_,ac P⟩;have T:(ins.map g_.p)[i]? = U x.p:=by rw[b7,C];rfl
  have ia:=si.a x (ae C);have iw:=ia.n;obtain⟨B1,O1, -,a1, -,d1⟩:=qF (b:=b) (kK b) nI (si.s.R aA) C;have h2:Zq hA B1 (O1+33)=U x.wv:=by rw[d1 33 iA,Bu]
  have lw:∀ C,iC (E b).tojo 94 x.wv C=U (I X (L x.its:Int)):=fun C=>iT (kB b) ia.w;have hw:=wS (i:=i) iA;by_cases q:16 < L x.its
  ·have q':(16:Int) < (L x.its:Int):=iA
   have e:(ins.map g_.p).any tF=Y:=AH T (by simp[tF,g_.p,q]);rw[e]at hk;simp[t1,t4,c0,li,P,j,a1,h2,lw,q,q'];exact hk
  have q':¬ (16:Int) < (L x.its:Int):=iA
  simp[t1,t4,c0,li,P,j,a1,h2,lw,q,q'];refine iV (LG3 h.Q i x hA) (L x.its) ⟨_,0,rfl,by simp[t1],by simp[t4],jA,iA,rfl,jA⟩ ?_;rintro m s' ⟨t,k,rfl,t1,t4,t5,hp,rfl,hq⟩ _;by_cases hl:k < L x.its
  ·have hc:(k:Int) < (L x.its:Int):=iA
   obtain⟨⟨w,ws⟩,hy⟩:∃ y,x.its[k]? = U y:=⟨_,ac hl⟩;have hyp:(x.its.map (·.2))[k]? = U ws:=by rw[b7,hy];rfl
   obtain⟨B2,O2, -,a2,c2, -⟩:=mQ (kB b) oT (ia.w.R aA) (k:=.i64) (i:=(k:Int)) iA iA;have hr:Zq hA B2 O2=U w:=by have:=c2 0 iA;simpa[hy]using this
   have ls:=fun C=>j_ (b:=b) (h1:=C) (ia.i _ (ae hy)).1;simp only at ls;have h3:=wS (i:=k) iA;by_cases q2:64 < L ws
   ·have hb:(64:Int) < (L ws:Int):=iA
    have e:(ins.map g_.p).any tF=Y:=AH T (by
     have : (x.its.map (·.2)).any (fun w=>decide (64 < L w))=Y:=AH hyp (by simpa using q2);simp only[tF,g_.p,this,d8])
    rw[e]at hk;simp[t1,t4,t5,c0,li,lw,hl,hc,a1,h2,a2,hr,ls,q2,hb];exact hk
   ·have hb:¬ (64:Int) < (L ws:Int):=iA
    simp[t1,t4,t5,c0,li,lw,hl,hc,a1,h2,a2,hr,ls,q2,hb,h3];exact⟨L x.its-(k+1),iA,_,k+1,rfl,by simp[t1],by simp[t4],jA,iA,rfl,K4 hyp hq (decide_eq_false q2)⟩
  ·have hc:¬ (k:Int) < (L x.its:Int):=iA
   have : k=L x.its:=iA
   subst this;rw[aj jA]at hq;simp[t1,t4,t5,c0,li,lw,a1,h2,hw];exact⟨L ins-(i+1),iA,_,i+1,rfl,by simp[t1],jA,iA,rfl,K4 T hd (by simp only[tF,g_.p,hq,fZ];simp;omega)⟩
 have j:¬ (i:Int) < (L ins:Int):=iA
 have : i=L ins:=iA
 subst this;rw[aj jA]at hd;rw[hd]at hk;simp[t1,t4,c0,li];exact hk
end
def LCK(A:Nat)(l:List g_)(h:N)(k:Nat)(s:St):Prop:=∃ (t:Tr V) (i:Nat),s=⟨⟨68,t⟩,[],h⟩/\t.A 1=U (pO A 0)/\t.A 3=U (I X (i:Int))/\i<=L l/\k=L l-i/\((l.map g_.p).take i).any Aq=J
section
attribute [local simp] Qef Qhj Js Qf5 J4 tY Jc uK Qf1 Qe1 Qdd Qdi Qf6 yU Jt vu V0 Qeb Qde Cx Ux Qe3 Qdc Cx Q3 Qdy QX Qea Uf QZ Qe4 mW
def Uf4{ins:List g_}{outs:List bN}{lock:Int}(si:Ins h iv ins)(so:jg h ov outs)(K:KP)(j:∀ h',a_ h h'->K (.ret (I X (pB (iX ins outs lock)))) h') :
  FK b 89 [.agg ⟨iz iv ov lock⟩] h K:=by
 refine ip b (Js b) Jo2 rfl ?_;have ni:=si.n;have no:=so.n;obtain⟨hA,eA,aA,gA⟩:=kQ h ((iz iv ov lock));have bx:=kE eA;have c0:Zq hA h.Q 0=U iv:=by rw[Z2 gA];rfl
 have c1:Zq hA h.Q 1=U ov:=by rw[Z2 gA];rfl
 have c2:Zq hA h.Q 2=U (I X lock):=by rw[Z2 gA];rfl
 have hn:iy hA h.Q 0 3=U (.agg ⟨iz iv ov lock⟩):=by rw[V9 gA (by simp[iz])];rfl
 have li:∀ hx,iC (E b).tojo 45 iv hx=U (I X (L ins:Int)):=fun hx=>iT (kK b) si.s;have lo:∀ hx,iC (E b).tojo 22 ov hx=U (I X (L outs:Int)):=fun hx=>iT (kD b) so.s;unfold pB iX at j;simp only[bo]at j;by_cases q1:L ins < 1
 ·have hc:(L ins:Int) < 1:=iA
  have C:L ins=0:=iA
  have e:nY (L ins:Int) 1 8=J:=by simp[nY];omega
  rw[e]at j;simp[bx,c0,li,q1,hc,C]
  grind
 have hc:¬ (L ins:Int) < 1:=iA
 have C:¬ L ins=0:=iA
 have hr:¬ ins=[]:=fun e=>C (by rw[e];rfl);by_cases q2:8 < L ins
 ·have hl:(8:Int) < (L ins:Int):=iA
  have e:nY (L ins:Int) 1 8=J:=by simp[nY];omega
  rw[e]at j;simp[bx,c0,li,q1,hc,C,hr,q2,hl]
  grind
 have hl:¬ (8:Int) < (L ins:Int):=iA
 have e1:nY (L ins:Int) 1 8=Y:=by simp[nY];omega
 rw[e1]at j;by_cases q3:L outs < 1
 ·have h3:(L outs:Int) < 1:=iA
  have P:L outs=0:=iA
  have e:nY (L outs:Int) 1 8=J:=by simp[nY];omega
  rw[e]at j;simp[bx,c0,c1,li,lo,q1,hc,C,hr,q2,hl,q3,h3,P]
  grind
 have h3:¬ (L outs:Int) < 1:=iA
 have P:¬ L outs=0:=iA
 have hB:¬ outs=[]:=fun e=>P (by rw[e];rfl);by_cases q4:8 < L outs
 ·have hy:(8:Int) < (L outs:Int):=iA
  have e:nY (L outs:Int) 1 8=J:=by simp[nY];omega
  rw[e]at j;simp[bx,c0,c1,li,lo,q1,hc,C,hr,q2,hl,q3,h3,P,hB,q4,hy]
  grind
 have hy:¬ (8:Int) < (L outs:Int):=iA
 have e2:nY (L outs:Int) 1 8=Y:=by simp[nY];omega
 rw[e2]at j;simp only[bZ,Bool.or_self,az,if_false]at j;simp[bx,c0,c1,li,lo,q1,hc,C,hr,q2,hl,q3,h3,P,hB,q4,hy];refine iV (LCK h.Q ins hA) (L ins) ⟨_,0,rfl,jA,jA,iA,rfl,jA⟩ ?_;rintro k s' ⟨t,i,rfl,t1,t3,hi,rfl,hd⟩ _;by_cases hb:i < L ins
 ·have T:(i:Int) < (L ins:Int):=iA
  obtain⟨x,hx⟩:∃ x,ins[i]? = U x:=⟨_,ac hb⟩;have ho:(ins.map g_.p)[i]? = U x.p:=by grind
  obtain⟨B1,O1, -,a1, -,d1⟩:=qF (b:=b) (kK b) nI (si.s.R aA) hx;have hp:Zq hA B1 (O1+32)=U (I X x.pt.n):=by rw[d1 32 iA,H_]
  have hw:=wS (i:=i) iA;by_cases q:x.pt.n < 0∨8 < x.pt.n
  ·have e:(ins.map g_.p).any Aq=Y:=AH ho (by
    show(!decide (0<=x.pt.n/\x.pt.n<=8))=Y
    grind)
   rw[e]at j;simp only[eR,if_true]at j;rcases q with q | q
   ·simp[t1,t3,c0,li,hb,T,a1,hp,q]
    grind
   ·have q0:¬ x.pt.n < 0:=iA;simp[t1,t3,c0,li,hb,T,a1,hp,q0,q]
    grind
  ·have qa:¬ x.pt.n < 0:=iA
   have qb:¬ 8 < x.pt.n:=iA
   simp[t1,t3,c0,li,hb,T,a1,hp,qa,qb,hw];exact⟨L ins-(i+1),iA,_,i+1,rfl,by simp[t1],jA,iA,rfl,K4 ho hd (by
    show(!decide (0<=x.pt.n/\x.pt.n<=8))=J
    grind)⟩
 have T:¬ (i:Int) < (L ins:Int):=iA
 have : i=L ins:=iA
 subst this;rw[aj jA]at hd;rw[hd,gc]at j;by_cases q5:lock < 0∨1073741824 < lock
 ·have e:nY lock 0 1073741824=J:=by unfold nY;grind
  rw[e]at j;simp only[dw,if_true]at j;rcases q5 with q | q
  ·simp[t1,t3,c0,c2,li,q]
   grind
  ·have q0:¬ lock < 0:=iA
   simp[t1,t3,c0,c2,li,q0,q]
   grind
 have h4:¬ lock < 0:=iA
 have hu:¬ 1073741824 < lock:=iA
 have e5:nY lock 0 1073741824=Y:=by unfold nY;grind
 rw[e5,Of]at j;simp only[bZ,az,if_false]at j;simp[t1,t3,c0,c2,li,h4,hu];refine Urf b (si.s.R aA) si.n _ ?_;by_cases q6:(ins.map (·.pt)).Nodup
 case neg =>
  rw[decide_eq_false q6]at j ⊢;simp
  grind
 rw[decide_eq_true q6]at j ⊢;simp only[bZ,az,if_false]at j;simp[t1,c1];refine Ups b (so.s.R aA) iA _ ?_;cases q7:qI (outs.map bN.p) 1125899906842624 with
 | false =>
  rw[q7]at j;simp
  grind
 | true =>
  rw[q7]at j;simp only[bZ,az,if_false]at j;simp[t1,hn];refine Uz1 b (si.R aA) (so.R aA) _ fun h2 a2 => ?_;cases q8:((outs.map bN.p).any wC || (ins.map g_.p).any tF)with
  | false =>
   rw[q8]at j;simp;exact j h2 (aA.trans a2)
  | true =>
   rw[q8]at j;simp;exact j h2 (aA.trans a2)
end
def Uxl{bk o z m:Nat}{l:List V}(g:iy h bk o z=U (.agg ⟨l⟩))(hm:m<=z):iy h bk o m=U (.agg ⟨l.take m⟩):=by
 unfold iy at g ⊢;cases T:h.A bk with
 | none=>grind
 | some y =>
  rw[T]at g;cases y with
  | cells ow z' c =>
   simp only at g ⊢;rw[au]at g;obtain⟨r,C,e⟩:=g;simp only[fJ,fR]at e;have j:z<=L (c.drop o):=by
    rcases cf (L (c.drop o)) z with q | q
    ·rw[Lj q]at C;cases C
    ·exact q
   rw[th j]at C;have P:(c.drop o).take z=l:=by grind
   rw[th iA,<- P,fN,dN hm];rfl
  | _=>cases g
def Uzu(x:g_):x.cells.take 32=x.pt.id.map dk:=by
 have l:L (x.pt.id.map dk)=32:=by simp[x.pt.hd]
 rw[g_.cells,Pt.cells,b9,bm iA,aj iA]
def RB1(A:Nat)(pre:List Int)(l:List g_)(h:N)(k:Nat)(s:St):Prop:=∃ (t:Tr V) (h1:N) (o:V) (i:Nat),s=⟨⟨74,t⟩,[],h1⟩/\t.A 1=U (pO A 0)/\t.A 5=U o/\t.A 6=U (I X (i:Int))/\i<=L l/\k=L l-i/\OB h1 h.Q o (pre++(l.take i).flatMap fun x=>sK x.p)/\a_ h h1
def RB2(A:Nat)(pre:List Int)(l:List bN)(h:N)(k:Nat)(s:St):Prop:=∃ (t:Tr V) (h1:N) (o:V) (i:Nat),s=⟨⟨74,t⟩,[],h1⟩/\t.A 1=U (pO A 0)/\t.A 5=U o/\t.A 7=U (I X (i:Int))/\i<=L l/\k=L l-i/\OB h1 h.Q o (pre++(l.take i).flatMap fun x=>sZ x.p)/\a_ h h1
section
attribute [local simp] Qi1 Qnt Da Qiw Uf Js Jg J4 tY zE BO Jt yh mZ C_ vu V0 Jc uK Kq Jy J0 Z8 Kf Ux
def Uxy{ins:List g_}{outs:List bN}{lock:Int}(si:Ins h iv ins)(so:jg h ov outs)(K:KP)(e1:∀ h',pB (iX ins outs lock)≠0->a_ h h'->K (.ret (.tuple #[M O 0 0,I X (pB (iX ins outs lock))])) h')(hk:∀ v h',pB (iX ins outs lock)=0->OB h' h.Q v (ui (iX ins outs lock))->a_ h h'->K (.ret (.tuple #[v,I X 0])) h') :
  FK b 173 [.agg ⟨iz iv ov lock⟩] h K:=by
 refine ip b (Da b) Jwo rfl ?_;obtain⟨hA,eA,aA,gA⟩:=kQ h ((iz iv ov lock));have bx:=kE eA;have g2:iy hA h.Q 0 3=U (.agg ⟨iz iv ov lock⟩):=by rw[V9 gA (by simp[iz])];rfl
 have li:∀ j,iC (E b).tojo 45 iv j=U (I X (L ins:Int)):=fun j=>iT (kK b) si.s;have lo:∀ j,iC (E b).tojo 22 ov j=U (I X (L outs:Int)):=fun j=>iT (kD b) so.s;simp[bx,g2];refine Uf4 b (si.R aA) (so.R aA) _ fun hC aC => ?_;by_cases hc:pB (iX ins outs lock)=0
 case neg =>
  simp[hc];exact e1 hC hc (aA.trans aC)
 have tk:=zX hc;have n1:L ins<=8:=by have:=tk.insN.2;simpa[iX]using this
 have n2:L outs<=8:=by have:=tk.outsN.2;simpa[iX]using this
 have a2:=aA.trans aC;have c0:∀ {j},a_ hA j->Zq j h.Q 0=U iv:=fun a=>by rw[Z2 (a.A gA)];rfl
 have c1:∀ {j},a_ hA j->Zq j h.Q 1=U ov:=fun a=>by rw[Z2 (a.A gA)];rfl
 have c2:∀ {j},a_ hA j->Zq j h.Q 2=U (I X lock):=fun a=>by rw[Z2 (a.A gA)];rfl
 have hg:=c0 aC;simp[hc,hg,li];refine B_ b (xs:=[]) Sl.nil (n:=L ins) iA jA _ fun v1 h1 o1 a1 => ?_;rw[bX]at o1;simp;have i1:=uw (L ins);refine iV (RB1 h.Q (kJ (L ins)) ins hC) (L ins) ⟨_,h1,v1,0,rfl,jA,jA,jA,iA,rfl,by grind,a1⟩ ?_;rintro k s' ⟨t,h2,o,i,rfl,t1,t5,t6,hi,rfl,ho,T⟩ _;have hp:=aC.trans T;have e2:=c0 hp;have fl:L ((ins.take i).flatMap fun x=>sK x.p)<=328:=by
  have:=Eu (g:=fun x:g_=>sK x.p) (m:=41) (l:=ins.take i) fun x _=>Uu9 x.p
  grind
 by_cases hr:i < L ins
 ·have P:(i:Int) < (L ins:Int):=iA
  obtain⟨x,j⟩:∃ x,ins[i]? = U x:=⟨_,ac hr⟩;have hy:=ae j;have xf:=tk.far x.p (am.2 ⟨x,hy,rfl⟩);simp only[g_.p]at xf;have hw:=wS (i:=i) iA;obtain⟨B1,O1, -,x1,g1, -⟩:=qF (b:=b) (kK b) nI (si.s.R (aA.trans hp)) j;have v':=Uxl g1 (m:=32) iA;rw[Uzu]at v';simp[t1,t5,t6,e2,li,hr,P,x1,v'];refine Uyu b ho.sl x.pt.hd (by grind) _ fun v3 h3 o3 a3 => ?_;have hu:=hp.trans a3;have hz:=c0 hu;obtain⟨B2,O2, -,x2, -,d2⟩:=qF (b:=b) (kK b) nI (si.s.R (aA.trans hu)) j;obtain⟨m,hm⟩:∃ m:Nat,x.pt.n=(m:Int):=⟨x.pt.n.toNat,iA⟩;have s1:Zq h3 B2 (O2+32)=U (I X (m:Int)):=by rw[d2 32 iA,H_,hm]
  simp[t1,t5,t6,hz,li,x2,s1];have il:L (kI x.pt.id)=32:=by simp[kI,x.pt.hd]
  refine B_ b o3.sl (n:=m) iA (by grind) _ fun v4 h4 o4 a4 => ?_;simp[t6,hw];have hl:=T.trans (a3.trans a4);refine⟨L ins-(i+1),iA,_,h4,v4,i+1,rfl,by simp[t1],jA,jA,iA,rfl,?_,hl⟩;rw[GS j];have e:sK x.p=kI x.pt.id++kJ m:=by
   show x.pt.id.map Int.ofNat++kJ x.pt.n.toNat=_;rw[hm];rfl
  rw[e];simp only[b9]at o4 ⊢;exact o4.low (T.trans a3).1
 have P:¬ (i:Int) < (L ins:Int):=iA
 have : i=L ins:=iA
 subst this;rw[bH]at ho fl;have q1:=c1 hp;simp[t1,t5,t6,e2,q1,li,lo];refine B_ b ho.sl (n:=L outs) iA (by grind) _ fun v3 h3 o3 a3 => ?_;simp[t1];obtain⟨pre,hb⟩:∃ pre,pre=kJ (L ins)++(ins.flatMap fun x=>sK x.p)++kJ (L outs):=⟨_,rfl⟩;have i2:=uw (L outs);have hf:L pre<=346:=by grind
 rw[<- hb]at o3;refine iV (RB2 h.Q pre outs hC) (L outs) ⟨_,h3,v3,0,rfl,by simp[t1],jA,jA,iA,rfl,by simpa using o3.low T.1,T.trans a3⟩ ?_;rintro k s' ⟨t,h4,o4,i,rfl,t1,t5,t7,hi,rfl,hn,C⟩ _;have hl:=aC.trans C;have M':=c1 hl;have he:=AR tk.vals (Int.le_refl _);have ml:∀ x ∈ outs,x.value<=1125899906842624/\1<=x.value/\L x.script<=256:=fun x j=>by
  have h1:=he x.p (am.2 ⟨x,j,rfl⟩);have h2:=tk.script x.p (am.2 ⟨x,j,rfl⟩);simp only[bN.p]at h1 h2;omega
 have fo:L ((outs.take i).flatMap fun x=>sZ x.p)<=2192:=by
  have:=Eu (g:=fun x:bN=>sZ x.p) (m:=274) (l:=outs.take i) fun x j=>Umh (o:=x.p) (ml x (cO j)).2.2
  grind
 by_cases hr:i < L outs
 ·have P:(i:Int) < (L outs:Int):=iA
  obtain⟨x,j⟩:∃ x,outs[i]? = U x:=⟨_,ac hr⟩;have hy:=ae j;obtain⟨m1,m2,m3⟩:=ml x hy;have hw:=wS (i:=i) iA;obtain⟨m,hm⟩:∃ m:Nat,x.value=(m:Int):=⟨x.value.toNat,iA⟩;obtain⟨B1,O1, -,x1, -,d1, -⟩:=qO (b:=b) (kD b) mR (so.s.R (aA.trans hl)) j;rw[hm]at d1;simp[t1,t5,t7,M',lo,hr,P,x1,d1];refine B_ b hn.sl (n:=m) iA (by grind) _ fun v5 h5 o5 a5 => ?_;have hB:=hl.trans a5;have es:=c1 hB;obtain⟨B2,O2, -,x2, -, -,d2⟩:=qO (b:=b) (kD b) mR (so.s.R (aA.trans hB)) j;simp[t1,t5,t7,es,lo,x2,d2];have im:=uw m;refine U15 b o5.sl ((so.a x hy).s.R (aA.trans hB)) (by grind) iA _ fun v6 h6 o6 a6 => ?_;simp[t7,hw];have q2:=C.trans (a5.trans a6);refine⟨L outs-(i+1),iA,_,h6,v6,i+1,rfl,by simp[t1],jA,jA,iA,rfl,?_,q2⟩;rw[GS j];have e:sZ x.p=kJ m++xD x.script:=by
   show kJ x.value.toNat++xD x.script=_
   grind
  rw[e];simp only[b9]at o6 ⊢;exact o6.low (C.trans a5).1
 have P:¬ (i:Int) < (L outs:Int):=iA
 have : i=L outs:=iA
 subst this;rw[bH]at hn fo;have hq:=c2 hl;obtain⟨m,hm⟩:∃ m:Nat,lock=(m:Int):=⟨lock.toNat,by have:=tk.lock.1;simp only[iX]at this;omega⟩;have re:=tk.lock.2;simp only[iX]at re;rw[hm]at hq;simp[t1,t5,t7,M',hq,lo];refine B_ b hn.sl (n:=m) iA (by grind) _ fun v5 h5 o5 a5 => ?_;simp;refine hk v5 h5 hc ?_ (a2.trans (C.trans a5));have e:ui (iX ins outs lock)=pre++(outs.flatMap fun x=>sZ x.p)++kJ m:=by
  show kJ (L (ins.map g_.p))++(ins.map g_.p).flatMap sK++(kJ (L (outs.map bN.p))++(outs.map bN.p).flatMap sZ)++kJ lock.toNat=_;rw[mI,mI,bo,bo,hm,hb];simp
 rw[e];exact o5.low (a2.trans C).1
end
section
attribute [local simp] JT Uf Vw
def Uep{s:ByteArray}{l:List Nat}(hs:uS s=l.map dk)(hl:L l < 1000)(hb:∀ x ∈ l,x < 256){iv ov:V}{ins:List g_}{outs:List bN}{lock:Int}(si:Ins h iv ins)(so:jg h ov outs)(hp:∀ x ∈ ins,mq x.pt)(K:KP)(hk:∀ h',a_ h h'->K (.ret (.agg ⟨(mS l (iX ins outs lock)).map dk⟩)) h'):FK b 139 [.string s,.agg ⟨iz iv ov lock⟩] h K:=by
 refine ip b (JT b) Ja7 rfl ?_;obtain⟨P,eA,aA,gA⟩:=kQ h ((iz iv ov lock));have nA:=lT eA;have bx:=kE eA;obtain⟨hB,eB,aB,gB⟩:=kQ P jn;have e1:jd (E b).tojo 62 P=U (pO P.Q 0,hB):=by rw[eB];exact Jx b P
 have j:=aA.trans aB;have h4:iy hB h.Q 0 3=U (.agg ⟨iz iv ov lock⟩):=by rw[V9 (aB.A gA) (by simp[iz])];rfl
 simp[Gp,HB,Jx,HJ,Da,Jg,Av,bx,-Jx,e1,h4];have hr:∀ (h1:N) (dt:List Nat),a_ hB h1->L dt=32->∃ C,iN h1 P.Q 0 (dt.map dk)=U C/\iy C P.Q 0 32=U (.agg ⟨dt.map dk⟩)/\a_ h C:=by
  intro h1 dt T tl;have g3:=T.A gB;have l3:=N.D g3;refine⟨h1.set P.Q (U (S Y 1 (dt.map dk))),?_,?_,(j.trans T).set _ iA l3⟩
  ·rw[jQ g3 (by simp[jn,tl])];congr 4;simp[jn,tl]
  ·rw[V9 (by rw[gY l3,if_pos rfl]) (by simp[tl]),ba,aj (by simp[tl])]
 refine Uxy b (si.R j) (so.R j) _ (fun h1 hc T => ?_) (fun v h1 hc o1 T => ?_)
 ·obtain⟨zd,hn⟩:∃ zd:List Nat,zd=List.replicate 32 0:=⟨_,rfl⟩;obtain⟨C,k1,k2,k3⟩:=hr h1 zd T (by grind);have zh:jP (E b).tojo 62 []=U (.agg ⟨zd.map dk⟩):=by rw[hn];kernel_rfl
  have rl:L zd=32:=by grind
  simp[Gp,HB,Jx,HJ,Da,Jg,Av,hc,zh,rl,k1,mZ,k2];have:=hk C k3;unfold mS at this
  grind
 ·have k:=zX hc;have kl:=SJ k;have kb:Bytes (ui (iX ins outs lock)):=J1t (fun x hx=>by
   obtain⟨y,hy,rfl⟩:=am.1 hx;exact hp y hy) (fun o ho=>by
   obtain⟨y,hy,rfl⟩:=am.1 ho;exact(so.a y hy).b)
  simp[Gp,HB,Jx,HJ,Da,Jg,Av];refine Uok b hs hl hb (SN.of o1.sl kb) (by simp;omega) (fun x hx=>by obtain⟨y,hy,rfl⟩:=am.1 hx;have:=kb y hy;omega) _ fun C a2 => ?_;obtain⟨h3,k1,k2,k3⟩:=hr C _ (T.trans a2) (Cc l ((ui (iX ins outs lock)).map Int.toNat));simp[Gp,HB,Jx,HJ,Da,Jg,Av,mZ,Cc,k1,k2];have:=hk h3 k3;unfold mS at this;rw[if_pos hc]at this;exact this
def Uo7{ins:List g_}{outs:List bN}{lock:Int}(si:Ins h iv ins)(so:jg h ov outs)(hp:∀ x ∈ ins,mq x.pt)(K:KP)(hk:∀ h',a_ h h'->K (.ret (.agg ⟨(mS tD (iX ins outs lock)).map dk⟩)) h'):FK b 92 [.agg ⟨iz iv ov lock⟩] h K:=by
 refine ip b (Ks b) Jd4 rfl ?_;obtain⟨j,eA,aA,gA⟩:=kQ h ((iz iv ov lock));have nA:=lT eA;have bx:=kE eA;obtain⟨hB,eB,aB,gB⟩:=kQ j jn;have hc:jd (E b).tojo 62 j=U (pO j.Q 0,hB):=by rw[eB];exact Jx b j
 have C:=aA.trans aB;have h2:iy hB h.Q 0 3=U (.agg ⟨iz iv ov lock⟩):=by rw[V9 (aB.A gA) (by simp[iz])];rfl
 simp[Md,Vk,Ks,Jx,CA,bx,-Jx,hc,h2];refine Uep b (l:=tD) rfl (by simp[tD]) kA (si.R C) (so.R C) hp _ fun h1 a1 => ?_;obtain⟨P,T⟩:∃ P,P=mS tD (iX ins outs lock):=⟨_,rfl⟩;have tl:L P=32:=by rw[T];exact tI _ _
 rw[<- T]at hk ⊢;have g3:=a1.A gB;have l3:=N.D g3;have hl:iN h1 j.Q 0 (P.map dk)=U (h1.set j.Q (U (S Y 1 (P.map dk)))):=by
  rw[jQ g3 (by simp[jn,tl])];congr 4;simp[jn,tl]
 have hx:iy (h1.set j.Q (U (S Y 1 (P.map dk)))) j.Q 0 32=U (.agg ⟨P.map dk⟩):=by
  rw[V9 (by rw[gY l3,if_pos rfl]) (by simp[tl]),ba,aj (by simp[tl])]
 simp[Md,Vk,Ks,Jx,CA,mZ,tl,hl,hx];exact hk _ ((C.trans a1).set _ iA l3)
end
end Go.Proofs.YtmgonkaadhbnpaaGreatDoor
end
