import Derived.Test.YtbhojjejgmfgmaaGreatDoorCcA
import Derived.Test.YtbhojjejgmfgmaaGreatDoorAbH
set_option linter.all false
set_option maxHeartbeats 8000000
open List renaming length→L
open Option renaming some→U,none→O
open Bool renaming true→Y,false→J
open Go renaming Value→V
open Go.Value renaming int→I,slice→M
open Go.IntKind renaming i64→X
open Go.Ab.Blk renaming cells→S
noncomputable section
namespace Go.Proofs.YtbhojjejgmfgmaaGreatDoor
open Go Go.Ab
set_option maxRecDepth 100000
def STX(h:N)(v1 v2:V)(n:Nat)(k:Nat)(s:St):Prop:=∃ (t:Tr V) (g:N) (i:Nat),s=⟨⟨27,t⟩,[],g⟩/\t.A 0=U v1/\t.A 1=U v2/\t.A 5=U (I X (i:Int))/\i<=n/\k=n-i/\a_ h g
attribute [local simp] Xd qS qT Xu qV qU qR qX qW Q6 Qv Zk Z6 iN Qg gS Ab.g0 gv gs Q7 Qd g_ kH kU Qh Tr.H St.put Tm.put flat i5 Xa Yx Qm Qp Qn Qo Qk Ql Qj Qq Qi Q9 Q8 qQ qO qN qP ri rh rc qY qZ q_ rj Xs.putAll Qr Q0 Qb Qa Zj Zo kT mX U9 J0 J4 Nat.testBit loadAt Ab.runT Je Ym uM
section
attribute [local simp] Qt3 Q2i VG Qvy Wi Qw9 rK VY Quj Qul
def Jym(b:Nat){h:N}{v1 v2:V}{l m:List iq}(A:i9 h v1 l)(B:i9 h v2 m)(e:l.map iq.p=m.map iq.p)(K:KP)(hk:∀ h',a_ h h'->K (.ret (.bool Y)) h') :
  FK b 65 [v1,v2] h K:=by
 refine iI b (VG b) Zhv rfl ?_;have hl:L l=L m:=by have:=congrArg List.length e;simpa using this
 have hn:=A.n;have kP:∀ P,iP (E b).toiS 42 v1 P=U (I X (L l:Int)):=fun P=>ja (rZ b) A.s;have h2:∀ P,iP (E b).toiS 42 v2 P=U (I X (L l:Int)):=fun P=>by rw[hl];exact ja (rZ b) B.s
 simp[kP,h2];refine jE (STX h v1 v2 (L l)) (L l) ⟨_,h,0,rfl,kA,kA,kA,jA,rfl,a_.refl _⟩ ?_;rintro k s' ⟨t,g,i,rfl,t0,t1,t5,hi,rfl,ag⟩ -;by_cases hr:i < L l
 ·have C:(i:Int) < (L l:Int):=jA
  obtain⟨x,P⟩:∃ x,l[i]? = U x:=⟨_,List.getElem?_eq_getElem hr⟩;obtain⟨y,hy⟩:∃ y,m[i]? = U y:=⟨_,List.getElem?_eq_getElem jA⟩;have xy:x.p=y.p:=by
   have:=congrArg (fun l=>l[i]?) e;simpa[P,hy]using this
  have A1:=A.R ag;have B1:=B.R ag;obtain⟨b1,o1,x1,x2⟩:=zk (b:=b) (rZ b) sW A1.s P;obtain⟨b2,o2,y1,y2⟩:=zk (b:=b) (rZ b) sW B1.s hy;have x2:iz g b1 o1 3=U (.agg ⟨iT x.iv x.ov x.lock⟩):=x2;have y2:iz g b2 o2 3=U (.agg ⟨iT y.iv y.ov y.lock⟩):=y2;have xa:=A1.a x (List.mem_of_getElem? P);have ya:=B1.a y (List.mem_of_getElem? hy);have hw:=wS (i:=i) jA;obtain⟨_,g2,c1,n1,rfl,a2⟩:=J4s b (lock:=x.lock) (lock2:=y.lock) xa.i xa.o ya.i ya.o (fun r h'=>r=.ret (.bool Y)/\a_ g h') (fun h' a=>⟨by
   have : jN x.ins x.outs x.lock=jN y.ins y.outs y.lock:=xy;rw[decide_eq_true this],a⟩)
  obtain⟨_,_,z1,z2⟩:=zk (b:=b) (rZ b) sW (A1.R a2).s P;rw[x1]at z1;cases z1;obtain⟨_,_,w1,w2⟩:=zk (b:=b) (rZ b) sW (B1.R a2).s hy;rw[y1]at w1;cases w1;have z2:iz g2 b1 o1 3=U (.agg ⟨iT x.iv x.ov x.lock⟩):=z2;have w2:iz g2 b2 o2 3=U (.agg ⟨iT y.iv y.ov y.lock⟩):=w2;simp[t0,t1,t5,kP,hr,C];refine ju [⟨102,[.agg ⟨iT x.iv x.ov x.lock⟩,.agg ⟨iT y.iv y.ov y.lock⟩],g,.bool Y,g2,Y⟩] ?_ Yus Y1d Yrb (by simp[Y2g,Zad,t0,t1,t5,x1,x2,y1,y2];first | exact⟨rfl,rfl⟩ | rfl) ?_ ?_
  ·exact pS ⟨c1,n1,fun _ c hc=>a2.2 c hc⟩
  ·simp[Cu,t0,t1,t5,x1,x2,y1,y2,z2,w2]
  simp[t0,t1,t5,hw];exact⟨L l-(i+1),jA,_,g2,i+1,rfl,by simp[t0],by simp[t1],kA,jA,rfl,ag.trans a2⟩
 ·have C:¬ (i:Int) < (L l:Int):=jA
  simp[t0,t1,t5,kP,C];exact hk g ag
end
structure jK (h:N) (v:V) (l:List hY):Prop where
 s:Sl h 66 v (L l) (pW l)
 n:L l < 1000000
 t:∀ x ∈ l,i9 h x.tv x.m
 w:∀ x ∈ l,L x.prev=32/\L x.root=32
def jK.R{h h':N}{v:V}{l:List hY}(a:jK h v l)(o:a_ h h'):jK h' v l:=⟨a.s.R o,a.n,fun x C=>(a.t x C).R o,a.w⟩
def jd.at{n0:Nat}{g:N}{v:V}{l:List hY}(R:jd n0 g v l)(P:L l < 1000000):jK g v l:=⟨R.o.sl,P,fun x C=>(R.s x C).txs (by have:=(R.w x C).2.2;omega),fun x C=>⟨(R.w x C).1,(R.w x C).2.1⟩⟩
def HV:∀ (l:List hY) (_:∀ x ∈ l,L x.prev=32/\L x.root=32) {i:Nat} {x:hY},l[i]? = U x->((pW l).drop (i*66)).take 66=x.cells
 | [],_,i,x,h=>by simp at h
 | y::l,C,i,x,h=>by
  have ly:L y.cells=66:=by have:=C y kA;simp[hY.cells,p_ this.1 this.2]
  have e:pW (y::l)=y.cells++pW l:=by simp[pW]
  rw[e];cases i with
  | zero =>
   simp only[List.getElem?_cons_zero,av]at h;subst h;rw[dN,bw,aP jA,ai jA]
  | succ i =>
   rw[show(i+1)*66=L y.cells+i*66 by omega,ej,bW jA,bU,df];exact HV l (fun z P=>C z (by simp[P])) (by simpa using h)
def BQ(b:Nat){h:N}{v:V}{l:List hY}(A:jK h v l){i:Nat}{x:hY}(hx:l[i]? = U x):∃ bk off,Ug (E b).toiS 22 v (I X (i:Int))=U (pO bk off)/\iz h bk off 66=U (.agg ⟨x.cells⟩)/\iz h bk off 32=U (.agg ⟨x.prev.map ax⟩)/\Jr h bk (off+65)=U x.tv:=by
 have hi:=(List.getElem?_eq_some_iff.1 hx).1;obtain⟨bk,off, -,x1,x2,C⟩:=o_ (us b) (z:=66) B6 A.s (k:=.i64) (i:=(i:Int)) jA jA;rw[bb,HV l A.w hx]at C;have w:=A.w x (List.mem_of_getElem? hx);have lc:L (jZ x.prev x.root x.nonce)=65:=p_ w.1 w.2 x.nonce;refine⟨bk,off,x1,C,?_,?_⟩
 ·unfold iz at C ⊢;split at C
  ·rename_i ow z c g;obtain⟨q,P,e⟩:=aj.1 C;have le:66<=L (c.drop off):=by
    by_cases hh:66<=L (c.drop off)
    ·exact hh
    ·exfalso;have : ∀ (n:Nat) (l:List V),L l < n->nF n l=O:=by
      intro n;induction n with
      | zero=>intro l hl;omega
      | succ n ih =>
       intro l hl;cases l with
       | nil=>rfl
       | cons a l=>simp only[nF,ih l (by simpa using hl)];rfl
     rw[this 66 _ jA]at P;cases P
   rw[uD le]at P;rw[uD jA];cases P;have e:(c.drop off).take 66=x.cells:=by simpa using e
   have : (c.drop off).take 32=x.prev.map ax:=by
    rw[show(32:Nat)=min 32 66 by rfl,<- List.take_take,e,hY.cells,aP jA,jZ,aP (by simp[w.1]),ai (by simp[w.1])]
   simp[this]
  ·cases C
 ·rw[x2 65 jA,bb];have:=congrArg (fun l=>l[65]?) (HV l A.w hx);simp only[List.getElem?_take,List.getElem?_drop]at this;rw[if_pos jA]at this;rw[this,hY.cells,List.getElem?_append_right jA,lc];rfl
def Vly{p r:List Nat}(hp:L p=32)(hr:L r=32)(n:Int):jz YY (jZ p r n) (jZ p r n)=U Y:=by
 have e:YY=List.replicate 32 1++(List.replicate 32 1 ++ [1]):=kR
 have h1:=H7 p p (List.replicate 32 1 ++ [1]) (r.map ax ++ [I X n]) (r.map ax ++ [I X n]) rfl;have C:=H7 r r [1] [I X n] [I X n] rfl;have P:jz [1] [I X n] [I X n]=U Y:=by
  show(match U (n == n),U Y with | some a,U b=>U (a && b) | _,_=>O)=_;simp
 rw[hp]at h1;rw[hr,P]at C;rw[e,jZ,h1,C];simp
def Vkt(b:Nat){p r:List Nat}(C:L p=32)(P:L r=32)(n:Int):kh (E b).toiS .eql 41 (.agg ⟨jZ p r n⟩) (.agg ⟨jZ p r n⟩)=U (.bool Y):=by
 have e:∀ x y,kh (E b).toiS .eql 41 (.agg ⟨x⟩) (.agg ⟨y⟩)=(jz YY x y).map .bool:=fun x y=>by kernel_rfl
 rw[e,Vly C P];rfl
section
attribute [local simp] Xds Yd4 VU Ae C9 Vs sZ VG Xxe Xqd
def Jx9(b:Nat){h:N}{x y:hY}(wx:L x.prev=32/\L x.root=32)(A:i9 h x.tv x.m)(B:i9 h y.tv y.m)(e:x.p=y.p)(K:KP)(hk:∀ h',a_ h h'->K (.ret (.bool Y)) h') :
  FK b 38 [.agg ⟨x.cells⟩,.agg ⟨y.cells⟩] h K:=by
 refine iI b (VU b) Y5u rfl ?_;have e1:x.prev=y.prev:=congrArg kJ.prev e;have e2:x.root=y.root:=congrArg kJ.root e;have e3:x.nonce=y.nonce:=congrArg kJ.nonce e;have e4:x.m.map iq.p=y.m.map iq.p:=congrArg kJ.txs e;obtain⟨hd,C⟩:∃ hd,hd=jZ x.prev x.root x.nonce:=⟨_,rfl⟩;have hx:L hd=65:=by rw[C];exact p_ wx.1 wx.2 _
 have xc:x.cells=hd ++ [x.tv]:=by rw[C];rfl
 have yc:y.cells=hd ++ [y.tv]:=by rw[C,e1,e2,e3];rfl
 obtain⟨hA,eA⟩:∃ hA,hA=h.push (S Y 1 (hd ++ [x.tv])):=⟨_,rfl⟩;obtain⟨hB,eB⟩:∃ hB,hB=hA.push (S Y 1 (hd ++ [y.tv])):=⟨_,rfl⟩;have h2:jP (.agg ⟨hd ++ [x.tv]⟩) h=U (pO h.Q 0,hA):=by rw[eA];exact pk (by simp[hx])
 have hr:jP (.agg ⟨hd ++ [y.tv]⟩) hA=U (pO hA.Q 0,hB):=by rw[eB];exact pk (by simp[hx])
 have aA:=jt eA;have aB:=jt eB;have gA:hB.A h.Q=U (S Y 1 (hd ++ [x.tv])):=aB.A (by rw[eA,N.F,if_pos rfl]);have gB:hB.A hA.Q=U (S Y 1 (hd ++ [y.tv])):=by rw[eB,N.F,if_pos rfl]
 have ld:∀ {P:Nat} {w:V},hB.A P=U (S Y 1 (hd ++ [w]))->iz hB P 0 65=U (.agg ⟨hd⟩)/\Jr hB P 65=U w:=fun g=>by
  refine⟨?_,?_⟩
  ·rw[Uh g (by simp[hx]),bw,aP jA,ai jA]
  ·rw[Zy g,List.getElem?_append_right jA,hx];rfl
 have eq:=Vkt b wx.1 wx.2 x.nonce;rw[<- C]at eq;have hc:=aA.trans aB;rw[xc,yc];simp[h2,hr,ld gA,ld gB,eq];refine Jym b (A.R hc) (B.R hc) e4 _ fun h3 a3 => ?_;simp;exact hk h3 (hc.trans a3)
end
def Vm1(h:N)(v1 v2:V)(n:Nat)(k:Nat)(s:St):Prop:=∃ (t:Tr V) (g:N) (i:Nat),s=⟨⟨27,t⟩,[],g⟩/\t.A 0=U v1/\t.A 1=U v2/\t.A 5=U (I X (i:Int))/\i<=n/\k=n-i/\a_ h g
section
attribute [local simp] Qmg Qum Zw Qr5 Wi Qqw xx VU Qoo Qop
def Zvw(b:Nat){h:N}{v1 v2:V}{l m:List hY}(A:jK h v1 l)(B:jK h v2 m)(e:l.map hY.p=m.map hY.p)(K:KP)(hk:∀ h',a_ h h'->K (.ret (.bool Y)) h') :
  FK b 16 [v1,v2] h K:=by
 refine iI b (Zw b) Y0t rfl ?_;have hl:L l=L m:=by have:=congrArg List.length e;simpa using this
 have hn:=A.n;have kP:∀ P,iP (E b).toiS 22 v1 P=U (I X (L l:Int)):=fun P=>ja (us b) A.s;have h2:∀ P,iP (E b).toiS 22 v2 P=U (I X (L l:Int)):=fun P=>by rw[hl];exact ja (us b) B.s
 simp[kP,h2];refine jE (Vm1 h v1 v2 (L l)) (L l) ⟨_,h,0,rfl,kA,kA,kA,jA,rfl,a_.refl _⟩ ?_;rintro k s' ⟨t,g,i,rfl,t0,t1,t5,hi,rfl,ag⟩ -;by_cases hr:i < L l
 ·have C:(i:Int) < (L l:Int):=jA
  obtain⟨x,P⟩:∃ x,l[i]? = U x:=⟨_,List.getElem?_eq_getElem hr⟩;obtain⟨y,hy⟩:∃ y,m[i]? = U y:=⟨_,List.getElem?_eq_getElem jA⟩;have xy:x.p=y.p:=by
   have:=congrArg (fun l=>l[i]?) e;simpa[P,hy]using this
  have A1:=A.R ag;have B1:=B.R ag;obtain⟨b1,o1,x1,x2, -⟩:=BQ b A1 P;obtain⟨b2,o2,y1,y2, -⟩:=BQ b B1 hy;have mx:=List.mem_of_getElem? P;have my:=List.mem_of_getElem? hy;have hw:=wS (i:=i) jA;obtain⟨_,g2,c1,n1,rfl,a2⟩:=Jx9 b (A.w x mx) (A1.t x mx) (B1.t y my) xy (fun r h'=>r=.ret (.bool Y)/\a_ g h') (fun h' a=>⟨rfl,a⟩);obtain⟨_,_,z1,z2, -⟩:=BQ b (A1.R a2) P;rw[x1]at z1;cases z1;obtain⟨_,_,w1,w2, -⟩:=BQ b (B1.R a2) hy;rw[y1]at w1;cases w1;simp[t0,t1,t5,kP,hr,C];refine ju [⟨38,[.agg ⟨x.cells⟩,.agg ⟨y.cells⟩],g,.bool Y,g2,Y⟩] ?_ X7g Ygt Ycn (by simp[Ykf,Yuy,t0,t1,t5,x1,x2,y1,y2];first | exact⟨rfl,rfl⟩ | rfl) ?_ ?_
  ·exact pS ⟨c1,n1,fun _ c hc=>a2.2 c hc⟩
  ·simp[CC,t0,t1,t5,x1,x2,y1,y2,z2,w2]
  simp[t0,t1,t5,hw];exact⟨L l-(i+1),jA,_,g2,i+1,rfl,by simp[t0],by simp[t1],kA,jA,rfl,ag.trans a2⟩
 ·have C:¬ (i:Int) < (L l:Int):=jA
  simp[t0,t1,t5,kP,C];exact hk g ag
end
def Jms:∀ {l:List (List Nat)},(∀ x ∈ l,∀ n ∈ x,n < 256)->∀ x ∈ mN l,∀ n ∈ x,n < 256
 | [],_,x,h=>by simp[mN]at h
 | [a],C,x,h=>by
  simp[mN]at h;rw[h];exact C a kA
 | a::c::l,C,x,h=>by
  rcases ao.1 h with rfl | h
  ·exact LA _ _
  ·exact Jms (fun y P=>C y (by simp[P])) x h
def AX:∀ n ∈ zH,n < 256:=fun n C=>by rw[dY C];omega
def Zua:∀ (n:Nat) {l:List (List Nat)},(∀ x ∈ l,∀ n ∈ x,n < 256)->∀ k ∈ xZ n l,k < 256
 | 0,_,_=>AX
 | n+1,[],_=>AX
 | n+1,[a],h=>h a kA
 | n+1,a::c::l,h=>Zua n (Jms h)
def Jtc(l:List k_):∀ n ∈ ug l,n < 256:=Zua 21 fun x C=>by
 obtain⟨t, -,rfl⟩:=am.1 C;exact Jkj _ _
def Ar(l:List kJ)(i:Nat):List Nat:=if i=0 then zH else((l[i-1]?).map j8).getD zH
def J7g(l:List kJ)(i:Nat):L (Ar l i)=32:=by
 unfold Ar;split
 ·exact AK
 ·cases l[i-1]? with
  | none=>exact AK
  | some x=>exact vo _ _
def Jyp(l:List kJ)(i:Nat):∀ n ∈ Ar l i,n < 256:=by
 unfold Ar;split
 ·exact AX
 ·cases l[i-1]? with
  | none=>exact AX
  | some x=>exact LA _ _
section
attribute [local simp] Ya5 Zot U8 Ae C9 C4 Vy
def Z4q(b:Nat){h:N}(la:Ab.LaidIn h laidAll){x:hY}(w:L x.prev=32/\L x.root=32)(hn:0<=x.nonce/\x.nonce<=1073741824)(bp:∀ n ∈ x.prev,n < 256)(br:∀ n ∈ x.root,n < 256)(K:KP)
  (hk:∀ h',a_ h h'->K (.ret (.agg ⟨(j8 x.p).map ax⟩)) h'):FK b 24 [.agg ⟨x.cells⟩] h K:=by
 refine iI b (U8 b) Z5v rfl ?_;have hx:=p_ w.1 w.2 x.nonce;obtain⟨hd,P⟩:∃ hd,hd=jZ x.prev x.root x.nonce:=⟨_,rfl⟩;rw[<- P]at hx;have xc:x.cells=hd ++ [x.tv]:=by rw[P];rfl
 obtain⟨hA,eA⟩:∃ hA,hA=h.push (S Y 1 (hd ++ [x.tv])):=⟨_,rfl⟩;have bx:jP (.agg ⟨hd ++ [x.tv]⟩) h=U (pO h.Q 0,hA):=by rw[eA];exact pk (by simp[hx])
 have aA:=jt eA;have gA:hA.A h.Q=U (S Y 1 (hd ++ [x.tv])):=by rw[eA,N.F,if_pos rfl]
 obtain⟨hR, -,aR,nR,hr,hb⟩:=BU b hA;have ld:iz hR h.Q 0 65=U (.agg ⟨hd⟩):=by rw[Uh (aR.A gA) (by simp[hx]),bw,aP jA,ai jA]
 have bi:=J9x b (txs:=x.m.map iq.p) (Laid.R la (aA.trans aR)) w.1 w.2 hn bp br;rw[<- P]at bi;rw[xc];simp[Vj,-Vj,bx,hr,ld];refine bi _ fun h2 a2 => ?_;obtain⟨dt,C⟩:∃ dt,dt=j8 x.p:=⟨_,rfl⟩;have hc:L dt=32:=by rw[C];exact vo _ _
 obtain⟨h3,k1,k2,k3⟩:=hb h2 dt a2 hc;have e:j8 ⟨x.prev,x.root,x.nonce,x.m.map iq.p⟩=dt:=by rw[C];rfl
 rw[<- C]at hk;rw[e];simp[Vj,hc,k1,Ua,k2];exact hk h3 (aA.trans k3)
end
section
variable{lo:Nat}{h:N}{cb nb:Nat}{d:Int}{ks:List Nat}{hks:L ks=1024}{m0:iR}{T:List Nd}{nbs A:List Nat}{lb mb ν clk:Nat}{un:V}{ls:List LC}{ud:List (List BK)}
structure LkT (t:Tr V) (cb U_:Nat) (v:V) (i:Nat):Prop where
 t0:t.A 0=U (pO cb 0)
 t1:t.A 1=U v
 t5:t.A 5=U (pO U_ 0)
 t6:t.A 6=U (I X (i:Int))
def LkI(h:N)(cb C:Nat)(v:V)(n:Nat)(bs:List kJ)(k:Nat)(s:St):Prop:=∃ (t:Tr V) (g:N) (i:Nat),s=⟨⟨50,t⟩,[],g⟩/\LkT t cb C v i/\i<=n/\k=n-i/\a_ h g/\h.Q<=C/\g.A C=U (S Y 1 ((Ar bs i).map ax))
section
attribute [local simp] Qfl Qkh J2 Qgv Vy Ae Bo Ua xx Jd Vd U8 Af Zq Z7 Z9
def J54(b:Nat)(F:qI lo h cb nb d ks hks m0 T nbs A lb mb ν clk un ls ud){v:V}{l:List hY}(R:jK h v l)(e:l.map hY.p=mg T A)(K:KP)(hk:∀ h',a_ h h'->K (.ret (.bool Y)) h') :
  FK b 15 [pO cb 0,v] h K:=by
 refine iI b (J2 b) Zd7 rfl ?_;have W:=F.k.W;have LK:=Z4d W F.k.pA;have ll:L l=L A:=by
  have:=congrArg List.length e;rw[aM,Ib W F.k.pA]at this;exact this
 have lA:=W.leng F.k.pA;have hT:=F.k.n;obtain⟨hR,eR,aR,nR,hB, -⟩:=BU b h;have gR:hR.A h.Q=U (S Y 1 js):=by rw[eR,N.F,if_pos rfl]
 have lR:=N.D gR;obtain⟨h2,e2⟩:∃ h2,h2=hR.set h.Q (U (S Y 1 (zH.map ax))):=⟨_,rfl⟩;have vz:Wp hR h.Q 0 (zH.map ax)=U h2:=by
  rw[e2,kI gR (by simp[js,AK])];congr 4
 have a2:a_ h h2:=by rw[e2];exact aR.set _ (ac _) lR
 have g2:h2.A h.Q=U (S Y 1 (zH.map ax)):=by rw[e2,gY lR,if_pos rfl]
 have bz:lK (E b).toiS 39 []=U (.agg ⟨zH.map ax⟩):=nM b;have len:∀ hx,iP (E b).toiS 22 v hx=U (I X (L l:Int)):=fun hx=>ja (us b) R.s;obtain⟨zz,ez⟩:∃ zz,zz=zH:=⟨_,rfl⟩;have lz:L zz=32:=by rw[ez];exact AK
 rw[<- ez]at vz bz;simp[Vj,vY,vX,sY,-Vj,hB,bz,lz,vz,-sY];refine jE (LkI h cb h.Q v (L l) (mg T A)) (L l) ⟨_,h2,0,rfl,⟨kA,kA,kA,kA⟩,jA,rfl,a2,ac _,g2⟩ ?_;rintro k s' ⟨t,g,i,rfl,⟨t0,t1,t5,t6⟩,hi,rfl,ag,hU,gU⟩ -;have Fg:=F.R ag;have Rg:=R.R ag;have P:=J7g (mg T A) i;obtain⟨C,hA⟩:∃ C,C=Ar (mg T A) i:=⟨_,rfl⟩;rw[<- hA]at gU P;have hb:∀ {hx:N},a_ g hx->iz hx h.Q 0 32=U (.agg ⟨C.map ax⟩):=fun a=>oJ (a.A gU) (by simp[P]) (by simp[P]);by_cases Z':i < L l
 ·have hr:(i:Int) < (L l:Int):=jA
  have hw:=wS (i:=i) jA;obtain⟨x,hx⟩:∃ x,l[i]? = U x:=⟨_,List.getElem?_eq_getElem Z'⟩;have mx:=List.mem_of_getElem? hx;have bx:(mg T A)[i]? = U x.p:=by rw[<- e,List.getElem?_map,hx];rfl
  obtain⟨p1,p2,p3⟩:=LK.p i x.p bx;have p1:x.prev=C:=by rw[hA];exact p1
  obtain⟨bk,off,x1,x2,x3, -⟩:=BQ b Rg hx;have wx:=Rg.w x mx;obtain⟨_,g3,k3,hy,rfl,a3⟩:=Jlq b (nonce:=x.nonce) Fg.k.z.q.la wx.1 wx.2 (Rg.t x mx) (fun r h'=>r=.ret (I X 0)/\a_ g h') (fun e' h' a he=>⟨by rw[he.2 p2],a⟩);have xc:jZ x.prev x.root x.nonce ++ [x.tv]=x.cells:=rfl;rw[xc]at k3;obtain⟨_,_,y1,y2,y3, -⟩:=BQ b (Rg.R a3) hx;rw[x1]at y1;cases y1;rw[p1]at x3 y3;have eq:jz yQ (C.map ax) (C.map ax)=U Y:=by
   have q:=Ip ⟨C,P⟩ ⟨C,P⟩;rw[decide_eq_true rfl]at q;exact q
  simp[Vj,vY,vX,sY,-sY,-vX,t0,t1,t5,t6,len,Z',hr];refine ju [⟨30,[.agg ⟨x.cells⟩],g,I X 0,g3,Y⟩] ?_ Yk3 Yuq Yof (by simp[Yzr,Yyd,Yxd,Vj,vY,vX,sY,t0,t1,t5,t6,x1,x2,x3,hb (a_.refl _),Vll,eq];first | exact⟨rfl,rfl⟩ | rfl) ?_ ?_
  ·exact pS ⟨k3,hy,fun _ c hc=>a3.2 c hc⟩
  ·simp[Cx,Vj,vY,vX,sY,t0,t1,t5,t6,x1,x2,x3,y2,y3,hb (a_.refl _),hb a3]
  simp[Vj,vY,vX,sY,-sY,-vY,t0,t1,t5,t6,x1,y2];refine Z4q b (Laid.R Fg.k.z.q.la a3) wx p2.n (by rw[p1,hA];exact Jyp _ _) (by have:=p2.r;rw[show x.root=x.p.root from rfl,<- this];exact Jtc _) _ fun g4 a4 => ?_;have hg:=a3.trans a4;obtain⟨id,hp⟩:∃ id,id=j8 x.p:=⟨_,rfl⟩;have h3:L id=32:=by rw[hp];exact vo _ _
  rw[<- hp];have s1:=hg.A gU;have lU:=N.D s1;obtain⟨g5,e5⟩:∃ g5,g5=g4.set h.Q (U (S Y 1 (id.map ax))):=⟨_,rfl⟩;have xT:Wp g4 h.Q 0 (id.map ax)=U g5:=by
   rw[e5,kI s1 (by simp[h3,P])];congr 4;simp[h3,P]
  have hn:g5.A h.Q=U (S Y 1 (id.map ax)):=by rw[e5,gY lU,if_pos rfl]
  have e1:a_ h g5:=by rw[e5];exact(ag.trans hg).set _ (ac _) lU
  have es:iz g5 h.Q 0 32=U (.agg ⟨id.map ax⟩):=oJ hn (by simp[h3]) (by simp[h3]);simp[Vj,vY,vX,sY,-sY,t0,t1,t5,t6,h3,xT,es];have hk:id ∈ T.map Nd.id:=by rw[hp];exact p3
  refine J8l b (F.R e1) ⟨id,h3⟩ _ fun q g6 a6 hq _ => ?_;have hq:=hq hk;subst hq;simp[Vj,vY,vX,sY,-sY,t0,t1,t5,t6,hw];refine⟨L l-(i+1),jA,_,g6,i+1,rfl,⟨by simp[t0],by simp[t1],by simp[t5],kA⟩,jA,rfl,e1.trans a6,ac _,?_⟩;have : Ar (mg T A) (i+1)=id:=by simp[Ar,bx,hp]
  rw[this];exact a6.A hn
 ·have hr:¬ (i:Int) < (L l:Int):=jA
  have : i=L l:=jA
  subst this;have eh:mG T A=C:=by
   rw[hA,LK.e,Ar,List.getLast?_eq_getElem?,<- e,aM];by_cases z:L l=0
   ·rw[if_pos z];have : l=[]:=bS.1 z;rw[this];rfl
   ·rw[if_neg z]
  obtain⟨_,g3,k3,hy,rfl,a3⟩:=Jv4 b Fg.k (fun r h'=>r=.ret (.agg ⟨C.map ax⟩)/\a_ g h') (fun h' a=>⟨by rw[eh],a⟩);obtain⟨_,_,k4,q2,rfl,rfl⟩:=Zsq b (Fg.k.R a3) (fun r h'=>r=.ret (I X (L A:Int))/\g3=h') ⟨rfl,rfl⟩;have eq:kh (E b).toiS .eql 39 (.agg ⟨C.map ax⟩) (.agg ⟨C.map ax⟩)=U (.bool Y):=by
   have q:=Ip ⟨C,P⟩ ⟨C,P⟩;rw[decide_eq_true rfl]at q;have e:∀ x y,kh (E b).toiS .eql 39 (.agg ⟨x⟩) (.agg ⟨y⟩)=(jz yQ x y).map .bool:=fun x y=>by kernel_rfl
   rw[e];exact congrArg (Option.map Value.bool) q
  rw[<- ll]at k4;simp[Vj,vY,vX,sY,t0,t1,t5,t6,len,Z',hr];refine ju [⟨25,[pO cb 0],g,.agg ⟨C.map ax⟩,g3,Y⟩,⟨26,[pO cb 0],g3,I X (L l:Int),g3,Y⟩] ?_ Yfv Ymh Ygw (by simp[Yuv,Ytr,Yxp,Vj,vY,vX,sY,t0,t1,t5,len,hb a3,eq,r_];first | exact⟨rfl,rfl⟩ | rfl) ?_ ?_
  ·exact wm ⟨k3,hy,fun _ c hc=>a3.2 c hc⟩ ⟨k4,q2,fun _ c hc=>rfl⟩
  ·simp[Cy,Vj,vY,vX,sY,t0,t1,t5,len,hb (a_.refl _),hb a3]
  simp[Vj,vY,vX,sY];exact hk g3 (ag.trans a3)
end
end
def lQ(ls:List LC):Int:=(ls.map fun x=>x.c.value).sum
def HF(x:LC)(l:List LC):lQ (x::l)=x.c.value+lQ l:=by simp[lQ]
def J4d(l m:List LC):lQ (l++m)=lQ l+lQ m:=by simp[lQ]
def J46:∀ {l:List LC} (_:∀ x ∈ l,0<=x.c.value),0<=lQ l
 | [],_=>by simp[lQ]
 | x::l,h=>by
  rw[HF];have:=h x kA;have:=J46 fun y C=>h y (aY x C);omega
def Jw1{l m:List LC}(p:l.Perm m):lQ l=lQ m:=by
 induction p with
 | nil=>rfl
 | cons x _ ih=>rw[HF,HF,ih]
 | swap x y l=>simp only[HF];omega
 | trans _ _ h1 C=>exact h1.trans C
def Ju2:∀ {xs ls:List LC},(xs.map (·.key)).Nodup->(∀ x ∈ xs,x ∈ ls)->∃ ys,(xs++ys).Perm ls/\∀ y ∈ ys,y ∈ ls
 | [],ls,_,_=>⟨ls,List.Perm.refl _,fun y C=>C⟩
 | x::xs,ls,nd,hs=>by
  rw[aK,cR]at nd;obtain⟨ys,p,C⟩:=Ju2 nd.2 fun y C=>hs y (aY x C);have P:x ∈ ys:=by
   have:=p.mem_iff.2 (hs x kA);rcases ab.1 this with q | q
   ·exact absurd (am.2 ⟨x,q,rfl⟩) nd.1
   ·exact q
  obtain⟨a,c,rfl⟩:=List.append_of_mem P;refine⟨a++c,?_,fun y h=>C y ?_⟩
  ·refine List.Perm.trans ?_ p;have : (xs++(a++x::c)).Perm (x::(xs++(a++c))):=by
    rw[<- aQ,<- aQ];exact List.perm_middle
   exact this.symm
  ·rcases ab.1 h with q | q
   ·simp[q]
   ·simp[q]
def Vgd{xs ls:List LC}(nd:(xs.map (·.key)).Nodup)(hs:∀ x ∈ xs,x ∈ ls)(hv:∀ x ∈ ls,0<=x.c.value):lQ xs<=lQ ls:=by
 obtain⟨P,p,C⟩:=Ju2 nd hs;rw[<- Jw1 p,J4d];have:=J46 fun y h=>hv y (C y h);omega
def Lo{ls:List LC}(nd:(ls.map (·.key)).Nodup):lQ ls=kj (jx ls) (ls.map (·.key)):=by
 unfold lQ kj;rw[cE];congr 1;refine bV fun x C => ?_;show x.c.value=(sI (jx ls) x.key).value;unfold sI jx;rw[Jkv nd C];rfl
def Ol{ls:List LC}(nd:(ls.map (·.key)).Nodup):om (jx ls) (ls.map (·.key)):=⟨nd,fun p=>by
 rw[<- ME];unfold jx;cases jG ls p <;> simp⟩
def O3{A B:Type}{f:A->B}:∀ {l:List A},(l.map f).Nodup->∀ {x y:A},x ∈ l->y ∈ l->f x=f y->x=y
 | [],_,x,_,P,_,_=>by cases P
 | a::l,nd,x,y,P,hy,e=>by
  rw[aK,cR]at nd;obtain⟨n1,n2⟩:=nd;rcases ao.1 P with h1 | h1
  ·rcases ao.1 hy with C | C
   ·rw[h1,C]
   ·exact absurd (am.2 ⟨y,C,by rw[<- e,h1]⟩) n1
  ·rcases ao.1 hy with C | C
   ·exact absurd (am.2 ⟨x,h1,by rw[e,C]⟩) n1
   ·exact O3 n2 h1 C e
def Tv{A B:Type}{f:A->B}{l:List A}(h:(l.map f).Nodup):l.Nodup:=(fe.1 h).imp fun h e=>h (by rw[e])
structure ToT (t:Tr V) (IB:Nat) (z:Int):Prop where
 t3:t.A 3=U (I X z)
 t10:t.A 10=U (pO IB 0)
def ToI(h:N)(mb P clk:Nat)(ls:List LC)(k:Nat)(s:St):Prop:=∃ (t:Tr V) (g:N) (C:List LC),s=⟨⟨21,t⟩,[],g⟩/\ToT t P (lQ C)/\k=L ls-L C/\a_ h g/\g.A P=U (.obj (.mapIter (U mb) clk ⟨C.map (·.born)⟩ clk))/\(C.map (·.born)).Nodup/\∀ x ∈ C,x ∈ ls
section
attribute [local simp] Qmu Qvg Yl Qsm v_ vh Qsx vZ kQ 
def Li(b:Nat){h:N}{lb mb z ν clk:Nat}{ks:List Nat}{un:V}{ls:List LC}{ud:List (List BK)}(S_:jw h lb mb z ν clk ks un ls ud)(ht:lQ ls<=1152921504606846976)(K:KP)(hk:∀ h',a_ h h'->K (.ret (I X (lQ ls))) h') :
  fx Tryz.prog (E b).G 11 [pO lb 0] h K:=by
 refine kW (E b) (kE _ _) (Wh b) (Vm b) ie (Ws b) (Yl b) Tj.1 Tj.2.1 Tj.2.2 rfl ?_;have c1:Jr h lb 1=U (.map (U mb)):=by rw[Zy S_.gl];rfl
 have co:=S_.co;have gm:=co.gm;obtain⟨hI,eI⟩:∃ hI,hI=h.push (.obj (.mapIter (U mb) clk #[] clk)):=⟨_,rfl⟩;have aI:=jt eI;have gI:hI.A h.Q=U (.obj (.mapIter (U mb) clk ⟨[]⟩ clk)):=by rw[eI,N.F,if_pos rfl]
 have rg:ym (E b).toiS 69 (.map (U mb)) h=U (pO h.Q 0,hI):=by
  rw[eI];simp only[ym,Bv,DC,gm]
 have hv:∀ x ∈ ls,0<=x.c.value:=fun x hx=>(co.hs x hx).v.1;have bk:∀ {C:List LC},(C.map (·.born)).Nodup->(∀ x ∈ C,x ∈ ls)->(C.map (·.key)).Nodup:=fun {C} nb hs=>fe.2 ((fe.1 nb).imp_of_mem fun {x y} hx hy h e=>h (by rw[O3 co.nd (hs x hx) (hs y hy) e]));have hp:(ls.map (·.born)).Nodup:=by
  have:=co.B.nd;rw[km,cE,cE]at this;exact this
 simp[yO,jg,c1,rg];refine jE (ToI h mb h.Q clk ls) (L ls) ⟨_,hI,[],rfl,⟨by simp[lQ],kA⟩,kA,aI,by simpa using gI,kA,kA⟩ ?_;rintro k s' ⟨t,g,C,rfl,⟨t3,t10⟩,rfl,ag,gi,nd,hs⟩ -;have hq:=ag.A gm;obtain⟨ne,nx⟩:=Juo co.B gi hq;simp[yO];refine J9k (it:=pO h.Q 0) (by simp[t10]) rfl ne fun y hy => ?_;have hn:=bk nd hs;rcases nx y hy with⟨h2,rfl⟩ | ⟨e,he,e1,rfl⟩
 ·have pm:C.Perm ls:=(d7 (Tv nd) (Tv hp)).2 fun x=>⟨hs x,fun hx=>by
   obtain⟨y,hy,e⟩:=am.1 (h2 x.pe.e (am.2 ⟨x.pe,am.2 ⟨x,hx,rfl⟩,rfl⟩));rw[<- O3 hp (hs y hy) hx e];exact hy⟩
  rw[Jw1 pm]at t3;simp[yO,t3,t10];exact hk g ag
 ·obtain⟨pe,hg,rfl⟩:=am.1 he;obtain⟨x,hx,rfl⟩:=am.1 hg;obtain⟨g2,e2⟩:∃ g2,g2=g.set h.Q (U (.obj (.mapIter (U mb) clk ⟨C.map (·.born) ++ [x.pe.e.born]⟩ clk))):=⟨_,rfl⟩;have lI:=N.D gi;have hA:g2.A h.Q=U (.obj (.mapIter (U mb) clk ⟨C.map (·.born) ++ [x.pe.e.born]⟩ clk)):=by rw[e2,gY lI,if_pos rfl]
  have a2:a_ h g2:=by rw[e2];exact ag.set _ (ac _) lI
  have en:=Jh5 co.B hA (a2.A gm) he;obtain⟨gA,g3,Z',s1,h3,gX,a3,n3⟩:=s6 b (Kt b) (l:=x.c.cells) (by rw[LX];rfl) (by kernel_rfl) g2;have cX:Jr g3 g2.Q 0=U (I X x.c.value):=by rw[Zy gX];rfl
  have hb:((C ++ [x]).map (·.born)).Nodup:=by
   rw[bg,cG];exact⟨nd,kA,fun a ha c hc q=>by simp at hc;rw[hc]at q;rw[q]at ha;exact e1 ha⟩
  have P:∀ y ∈ C ++ [x],y ∈ ls:=fun y hy=>by
   rcases ab.1 hy with q | q
   ·exact hs y q
   ·rw[aU.1 q];exact hx
  have le:=Vgd (bk hb P) P hv;have n0:=J46 fun y hy=>hv y (P y hy);have et:lQ (C ++ [x])=lQ C+x.c.value:=by rw[J4d,HF];simp[lQ]
  have hw:IntKind.i64.wrap (lQ C+x.c.value)=lQ (C ++ [x]):=by rw[<- et,jW jA jA]
  have hr:=ft (Tv hb) P;simp at hr;have en:BN (pO h.Q 0) g2=U (.tuple #[.agg ⟨x.key.cells⟩,.agg ⟨x.c.cells⟩]):=en;rw[<- e2];simp[yO,t3,t10,en,-yO,Z',s1,h3,cX,hw];refine⟨L ls-L (C ++ [x]),by simp;omega,_,g3,C ++ [x],rfl,⟨kA,by simp[t10]⟩,rfl,a2.trans a3,?_,hb,P⟩;rw[a3.A hA,bg];rfl
end
def RB:Nat:=0x7ffffffff000
structure xO (h:N) (x:ik):Prop where
 w:Sl h 1 x.wv (L x.its) (x.its.map (·.1))
 i:mj h x.its
 n:L x.its<=RB
 l:∀ p ∈ x.its,L p.2<=RB
 p:oR x.pt
structure sq (h:N) (x:fm):Prop where
 s:SB h x.sv x.script
 b:Bytes x.script
 l:L x.script<=RB
structure u_ (h:N) (x:iq):Prop where
 is:Sl h 34 x.iv (L x.ins) (mT x.ins)
 ia:∀ y ∈ x.ins,xO h y
 os:Sl h 2 x.ov (L x.outs) (pg x.outs)
 oa:∀ y ∈ x.outs,sq h y
def xO.R{h h':N}{x:ik}(a:xO h x)(o:a_ h h'):xO h' x:=⟨a.w.R o,a.i.R o,a.n,a.l,a.p⟩
def sq.R{h h':N}{x:fm}(a:sq h x)(o:a_ h h'):sq h' x:=⟨a.s.R o,a.b,a.l⟩
def u_.R{h h':N}{x:iq}(a:u_ h x)(o:a_ h h'):u_ h' x:=⟨a.is.R o,fun y C=>(a.ia y C).R o,a.os.R o,fun y C=>(a.oa y C).R o⟩
structure BgT (t:Tr V) (P:Nat) (n:Int):Prop where
 t1:t.A 1=U (I X 20)
 t2:t.A 2=U (I X 2048)
 t3:t.A 3=U (pO P 0)
 t7:t.A 7=U (I X n)
def BgI(h:N)(P:Nat)(ins:List ik)(k:Nat)(s:St):Prop:=∃ (t:Tr V) (i:Nat) (n:Int),s=⟨⟨59,t⟩,[],h⟩/\BgT t P n/\t.A 8=U (I X (i:Int))/\i<=L ins/\k=L ins-i/\0<=n/\n<=1099511627776/\(n<=2048->∀ y ∈ ins.take i,lw h y)
def BgO(h:N)(P:Nat)(ins:List ik)(outs:List fm)(k:Nat)(s:St):Prop:=∃ (t:Tr V) (i:Nat) (n:Int),s=⟨⟨59,t⟩,[],h⟩/\BgT t P n/\t.A 9=U (I X (i:Int))/\i<=L outs/\k=L outs-i/\0<=n/\n<=1099511627776/\(n<=2048->(∀ y ∈ ins,lw h y)/\∀ y ∈ outs.take i,mi h y)
def Z4a{z:Int}(h:tM z<=2048):z<=2048:=by unfold tM at h;split at h <;> omega
def Jvf:∀ {l:List (List Int)} {n:Int},0<=n->n<=1099511627776->0<=wk l n/\wk l n<=1099511627776
 | [],n,h0,h1=>⟨h0,h1⟩
 | x::l,n,h0,h1=>by
  have:=DM (z:=n+L x+1) jA;exact Jvf (l:=l) (n:=tM (n+L x+1)) this.1 this.2
section
attribute [local simp] Qrn Qzw WA Ur Aa Us z_ Qu3 Qsd Qs4 Wn ph UW tK U7 
def J6c(b:Nat){h:N}{x:iq}(R:u_ h x)(K:KP)(hk:∀ q h',a_ h h'->(q=J->lh h' x)->K (.ret (.bool q)) h'):FK b 49 [.agg ⟨iT x.iv x.ov x.lock⟩,I X 20,I X 2048] h K:=by
 refine iI b (WA b) Z26 rfl ?_;obtain⟨P,eA⟩:∃ P,P=h.push (S Y 1 (iT x.iv x.ov x.lock)):=⟨_,rfl⟩;have bx:=sN eA;have aA:=jt eA;have gA:P.A h.Q=U (S Y 1 (iT x.iv x.ov x.lock)):=by rw[eA,N.F,if_pos rfl]
 have c0:Jr P h.Q 0=U x.iv:=by rw[Zy gA];rfl
 have c1:Jr P h.Q 1=U x.ov:=by rw[Zy gA];rfl
 have RA:=R.R aA;have li:∀ hx,iP (E b).toiS 90 x.iv hx=U (I X (L x.ins:Int)):=fun hx=>ja (nT b) R.is;have lo:∀ hx,iP (E b).toiS 31 x.ov hx=U (I X (L x.outs:Int)):=fun hx=>ja (nU b) R.os;by_cases h1:20 < L x.ins
 ·have hc:(20:Int) < (L x.ins:Int):=jA
  simp[bx,c0,c1,li,lo,h1,hc];exact hk Y P aA fun q=>by cases q
 have hc:¬ (20:Int) < (L x.ins:Int):=jA
 by_cases h2:20 < L x.outs
 ·have hb:(20:Int) < (L x.outs:Int):=jA
  simp[bx,c0,c1,li,lo,h1,hc,h2,hb];exact hk Y P aA fun q=>by cases q
 have hb:¬ (20:Int) < (L x.outs:Int):=jA
 simp[bx,c0,c1,li,lo,h1,hc,h2,hb];refine jE (BgI P h.Q x.ins) (L x.ins) ⟨_,0,0,rfl,⟨kA,kA,kA,kA⟩,kA,jA,rfl,jA,jA,kA⟩ ?_;rintro k s' ⟨t,i,n,rfl,⟨t1,t2,t3,t7⟩,t8,hi,rfl,n0,n1,hF⟩ -;by_cases hr:i < L x.ins
 ·have C:(i:Int) < (L x.ins:Int):=jA
  obtain⟨y,hy⟩:∃ y,x.ins[i]? = U y:=⟨_,List.getElem?_eq_getElem hr⟩;have ya:=RA.ia y (List.mem_of_getElem? hy);obtain⟨bk,off, -,q1,q2,q3⟩:=wI (b:=b) (nT b) rp RA.is hy;have q4:Jr P bk (off+33)=U y.wv:=by rw[q3 33 jA];exact EP y
  have hw:=wS (i:=i) jA;simp[t1,t2,t3,t7,t8,c0,li,C,q1,q4];refine Vgv b ya.w ya.n ya.i ya.l _ ?_;obtain⟨al,h3⟩:∃ al,al=wk (y.its.map (·.2)) 0:=⟨_,rfl⟩;rw[<- h3];obtain⟨e2,hg⟩:0<=al/\al<=1099511627776:=by rw[h3];exact Jvf jA jA
  have w1:IntKind.i64.wrap (n+al)=n+al:=jW jA jA;simp[t1,t2,t3,t7,t8,w1,hw,nh];have mm:=DM (z:=n+al) jA;refine⟨L x.ins-(i+1),jA,_,i+1,tM (n+al),rfl,⟨by simp[t1],by simp[t2],by simp[t3],by simp[tM]⟩,kA,jA,rfl,mm.1,mm.2,fun hs z hz => ?_⟩;have Z':=Z4a hs;rw[bH,hy]at hz;rcases ab.1 hz with q | q
  ·exact hF jA z q
  ·have : z=y:=by simpa using q
   rw[this];obtain⟨b1,b2⟩:=Jty (l:=y.its.map (·.2)) (n:=0) jA jA;simp only[aM]at b1;refine⟨ya.w,ya.i,jA,fun p hp => ?_⟩;have:=b2 p.2 (am.2 ⟨p,hp,rfl⟩);omega
 ·have C:¬ (i:Int) < (L x.ins:Int):=jA
  have : i=L x.ins:=jA
  subst this;rw[bO]at hF;simp[t1,t2,t3,t7,t8,c0,li,C];refine jE (BgO P h.Q x.ins x.outs) (L x.outs) ⟨_,0,n,rfl,⟨by simp[t1],by simp[t2],by simp[t3],by simp[t7]⟩,kA,jA,rfl,n0,n1,fun q=>⟨hF q,kA⟩⟩ ?_;clear t1 t2 t3 t7 t8 hF hi hr C n0 n1;rintro k s' ⟨t,i,n,rfl,⟨t1,t2,t3,t7⟩,t9,hi,rfl,n0,n1,hF⟩ -;by_cases hr:i < L x.outs
  ·have C:(i:Int) < (L x.outs:Int):=jA
   obtain⟨y,hy⟩:∃ y,x.outs[i]? = U y:=⟨_,List.getElem?_eq_getElem hr⟩;have ya:=RA.oa y (List.mem_of_getElem? hy);obtain⟨bk,off, -,q1, -, -,q4⟩:=yp (b:=b) (nU b) qF RA.os hy;have hw:=wS (i:=i) jA;have len:=fun hx=>m_ (b:=b) (h1:=hx) ya.s;have ly:=ya.l;unfold RB at ly;have w1:IntKind.i64.wrap (n+(L y.script:Int))=n+(L y.script:Int):=jW jA jA;have mm:=DM (z:=n+(L y.script:Int)) jA;simp[t1,t2,t3,t7,t9,c1,lo,C,q1,q4,len,w1,hw,nh];refine⟨L x.outs-(i+1),jA,_,i+1,tM (n+(L y.script:Int)),rfl,⟨by simp[t1],by simp[t2],by simp[t3],by simp[tM]⟩,kA,jA,rfl,mm.1,mm.2,fun hs => ?_⟩;have Z':=Z4a hs;refine⟨(hF jA).1,fun z hz => ?_⟩;rw[bH,hy]at hz;rcases ab.1 hz with q | q
   ·exact(hF jA).2 z q
   ·have : z=y:=(by simpa using q);rw[this];exact⟨ya.s,ya.b,jA⟩
  ·have C:¬ (i:Int) < (L x.outs:Int):=jA
   have : i=L x.outs:=jA
   subst this;rw[bO]at hF;simp[t1,t2,t3,t7,t9,c1,lo,C];by_cases hq:2048 < n
   ·simp[hq];exact hk Y P aA fun q=>by cases q
   ·simp[hq];obtain⟨f1,f2⟩:=hF jA;exact hk J P aA fun _=>⟨⟨RA.is,jA,f1⟩,⟨RA.os,jA,f2⟩,fun y hy=>(RA.ia y hy).p⟩
end
structure qJ (h:N) (x:hY):Prop where
 s:Sl h 3 x.tv (L x.m) (xz x.m)
 a:∀ y ∈ x.m,u_ h y
 n:L x.m<=RB
 w:L x.prev=32/\L x.root=32
 b:(∀ n ∈ x.prev,n < 256)/\∀ n ∈ x.root,n < 256
structure n_ (h:N) (v:V) (l:List hY):Prop where
 s:Sl h 66 v (L l) (pW l)
 n:L l<=RB
 a:∀ x ∈ l,qJ h x
def qJ.R{h h':N}{x:hY}(a:qJ h x)(o:a_ h h'):qJ h' x:=⟨a.s.R o,fun y C=>(a.a y C).R o,a.n,a.w,a.b⟩
def n_.R{h h':N}{v:V}{l:List hY}(a:n_ h v l)(o:a_ h h'):n_ h' v l:=⟨a.s.R o,a.n,fun x C=>(a.a x C).R o⟩
structure qK (h:N) (x:hY):Prop where
 t:i9 h x.tv x.m
 w:L x.prev=32/\L x.root=32
 b:(∀ n ∈ x.prev,n < 256)/\∀ n ∈ x.root,n < 256
def qK.R{h h':N}{x:hY}(a:qK h x)(o:a_ h h'):qK h' x:=⟨a.t.R o,a.w,a.b⟩
def B9I(h:N)(v:V)(m:List iq)(k:Nat)(s:St):Prop:=∃ (t:Tr V) (g:N) (i:Nat),s=⟨⟨18,t⟩,[],g⟩/\t.A 0=U v/\t.A 3=U (I X (i:Int))/\i<=L m/\k=L m-i/\a_ h g/\∀ y ∈ m.take i,lh g y
section
attribute [local simp] Qxh Xcg VS Q2t Q2g Q2l rK WA Qyu Qyg Qzg
def J8q(b:Nat){h:N}{x:hY}(R:qJ h x)(K:KP)(hk:∀ q h',a_ h h'->(q=J->qK h' x)->K (.ret (.bool q)) h'):FK b 22 [x.tv] h K:=by
 refine iI b (VS b) Z27 rfl ?_;have len:∀ hx,iP (E b).toiS 42 x.tv hx=U (I X (L x.m:Int)):=fun hx=>ja (rZ b) R.s;by_cases h1:20 < L x.m
 ·have P:(20:Int) < (L x.m:Int):=jA
  simp[len,h1,P];exact hk Y h (a_.refl _) fun q=>by cases q
 have P:¬ (20:Int) < (L x.m:Int):=jA
 simp[len,h1,P];refine jE (B9I h x.tv x.m) (L x.m) ⟨_,h,0,rfl,kA,kA,jA,rfl,a_.refl _,kA⟩ ?_;rintro k s' ⟨t,g,i,rfl,t0,t3,hi,rfl,ag,hF⟩ -;have Rg:=R.R ag;by_cases hc:i < L x.m
 ·have C:(i:Int) < (L x.m:Int):=jA
  obtain⟨y,hy⟩:∃ y,x.m[i]? = U y:=⟨_,List.getElem?_eq_getElem hc⟩;have ya:=Rg.a y (List.mem_of_getElem? hy);obtain⟨bk,off,q1,q2⟩:=zk (b:=b) (rZ b) sW Rg.s hy;have q2:iz g bk off 3=U (.agg ⟨iT y.iv y.ov y.lock⟩):=q2;have hw:=wS (i:=i) jA;simp[t0,t3,len,C,q1,q2];refine J6c b ya _ fun q g1 a1 hq => ?_;cases q with
  | true =>
   simp[t0,t3];exact hk Y g1 (ag.trans a1) fun q=>by cases q
  | false =>
   simp[t0,t3,hw];refine⟨L x.m-(i+1),jA,_,g1,i+1,rfl,by simp[t0],kA,jA,rfl,ag.trans a1,fun z hz => ?_⟩;rw[bH,hy]at hz;rcases ab.1 hz with q | q
   ·exact(hF z q).R a1
   ·have : z=y:=(by simpa using q);rw[this];exact hq rfl
 ·have C:¬ (i:Int) < (L x.m:Int):=jA
  have : i=L x.m:=jA
  subst this;rw[bO]at hF;simp[t0,t3,len,C];exact hk J g ag fun _=>⟨⟨Rg.s,jA,hF⟩,R.w,R.b⟩
end
def J4f(b:Nat){h:N}{v:V}{l:List hY}(s:Sl h 66 v (L l) (pW l))(w:∀ x ∈ l,L x.prev=32/\L x.root=32){i:Nat}{x:hY}(C:l[i]? = U x):∃ bk off,Ug (E b).toiS 22 v (I X (i:Int))=U (pO bk off)/\iz h bk off 66=U (.agg ⟨x.cells⟩)/\Jr h bk (off+65)=U x.tv:=by
 have hi:=(List.getElem?_eq_some_iff.1 C).1;obtain⟨bk,off, -,x1,x2,P⟩:=o_ (us b) (z:=66) B6 s (k:=.i64) (i:=(i:Int)) jA jA;rw[bb,HV l w C]at P;have w:=w x (List.mem_of_getElem? C);refine⟨bk,off,x1,P,?_⟩;rw[x2 65 jA,bb];have:=congrArg (fun l=>l[65]?) (HV l (by assumption) C);simp only[List.getElem?_take,List.getElem?_drop]at this;rw[if_pos jA]at this;rw[this,hY.cells,List.getElem?_append_right (by rw[p_ w.1 w.2];omega),p_ w.1 w.2];rfl
def Vls(h:N)(v:V)(l:List hY)(k:Nat)(s:St):Prop:=∃ (t:Tr V) (g:N) (i:Nat),s=⟨⟨19,t⟩,[],g⟩/\t.A 0=U v/\t.A 3=U (I X (i:Int))/\i<=L l/\k=L l-i/\a_ h g/\∀ y ∈ l.take i,qK g y
section
attribute [local simp] Qxd Xce Vr Q2x Q2u Q2o Vs sZ VS Qz2 Qyo
def J63(b:Nat){h:N}{v:V}{l:List hY}(R:n_ h v l)(K:KP)(hk:∀ q h',a_ h h'->(q=J->L l<=16/\∀ x ∈ l,qK h' x)->K (.ret (.bool q)) h'):FK b 4 [v] h K:=by
 refine iI b (Vr b) Zxf rfl ?_;have len:∀ hx,iP (E b).toiS 22 v hx=U (I X (L l:Int)):=fun hx=>ja (us b) R.s;by_cases h1:16 < L l
 ·have P:(16:Int) < (L l:Int):=jA
  simp[len,h1,P];exact hk Y h (a_.refl _) fun q=>by cases q
 have P:¬ (16:Int) < (L l:Int):=jA
 simp[len,h1,P];refine jE (Vls h v l) (L l) ⟨_,h,0,rfl,kA,kA,jA,rfl,a_.refl _,kA⟩ ?_;rintro k s' ⟨t,g,i,rfl,t0,t3,hi,rfl,ag,hF⟩ -;have Rg:=R.R ag;by_cases hc:i < L l
 ·have C:(i:Int) < (L l:Int):=jA
  obtain⟨y,hy⟩:∃ y,l[i]? = U y:=⟨_,List.getElem?_eq_getElem hc⟩;have ya:=Rg.a y (List.mem_of_getElem? hy);obtain⟨bk,off,q1, -,q2⟩:=J4f b Rg.s (fun x hx=>(Rg.a x hx).w) hy;have hw:=wS (i:=i) jA;simp[t0,t3,len,C,q1,q2];refine J8q b ya _ fun q g1 a1 hq => ?_;cases q with
  | true =>
   simp[t0,t3];exact hk Y g1 (ag.trans a1) fun q=>by cases q
  | false =>
   simp[t0,t3,hw];refine⟨L l-(i+1),jA,_,g1,i+1,rfl,by simp[t0],kA,jA,rfl,ag.trans a1,fun z hz => ?_⟩;rw[bH,hy]at hz;rcases ab.1 hz with q | q
   ·exact(hF z q).R a1
   ·have : z=y:=(by simpa using q);rw[this];exact hq rfl
 ·have C:¬ (i:Int) < (L l:Int):=jA
  have : i=L l:=jA
  subst this;rw[bO]at hF;simp[t0,t3,len,C];exact hk J g ag fun _=>⟨jA,hF⟩
end
def rU:List jB:=[⟨100,[1,1]⟩,⟨50,[1,1]⟩,⟨7,[1,1]⟩,⟨1099511627776,[1,1]⟩,⟨9,[1,1,134]⟩]
def Hc(b:Nat)(h:N):Wc (E b).toiS 28 2 [(0,I .u8 1),(1,I .u8 1)] h=U (M (U ⟨h.Q,0,O⟩) 2 2,h.push (S Y 1 [I .u8 1,I .u8 1])):=kR
def bl3(b:Nat)(h:N):Wc (E b).toiS 28 3 [(0,I .u8 1),(1,I .u8 1),(2,I .u8 134)] h=U (M (U ⟨h.Q,0,O⟩) 3 3,h.push (S Y 1 [I .u8 1,I .u8 1,I .u8 134])):=kR
def bo(b:Nat)(z:Int)(B n:Nat):lK (E b).toiS 68 [(0,I X z),(1,M (U ⟨B,0,O⟩) n n)]=U (.agg ⟨[I X z,M (U ⟨B,0,O⟩) n n]⟩):=kR
def bl5(b B C:Nat)(h:N):Wc (E b).toiS 31 5 [(0,.agg ⟨[I X 100,M (U ⟨B,0,O⟩) 2 2]⟩),(1,.agg ⟨[I X 50,M (U ⟨B,0,O⟩) 2 2]⟩),(2,.agg ⟨[I X 7,M (U ⟨B,0,O⟩) 2 2]⟩),(3,.agg ⟨[I X 1099511627776,M (U ⟨B,0,O⟩) 2 2]⟩),(4,.agg ⟨[I X 9,M (U ⟨C,0,O⟩) 3 3]⟩)] h=U (M (U ⟨h.Q,0,O⟩) 5 5,h.push (S Y 1 [I X 100,M (U ⟨B,0,O⟩) 2 2,I X 50,M (U ⟨B,0,O⟩) 2 2,I X 7,M (U ⟨B,0,O⟩) 2 2,I X 1099511627776,M (U ⟨B,0,O⟩) 2 2,I X 9,M (U ⟨C,0,O⟩) 3 3])):=kR
def Mb(b:Nat)(h:N)(K:KP)(hk:∀ v outs h',jC h' v outs->outs.map fm.p=rU->a_ h h'->K (.ret v) h'):FK b 9 [] h K:=by
 refine iI b (Zg b) Zqa rfl ?_;obtain⟨h1,e1⟩:∃ h1,h1=h.push (S Y 1 [I .u8 1,I .u8 1]):=⟨_,rfl⟩;obtain⟨P,e2⟩:∃ P,P=h1.push (S Y 1 [I .u8 1,I .u8 1,I .u8 134]):=⟨_,rfl⟩;have k1:=Hc b h;have k2:=bl3 b h1;have k3:=bl5 b h.Q h1.Q P;rw[<- e1]at k1;rw[<- e2]at k2;obtain⟨C,e3⟩:∃ C,C=P.push (S Y 1 [I X 100,M (U ⟨h.Q,0,O⟩) 2 2,I X 50,M (U ⟨h.Q,0,O⟩) 2 2,I X 7,M (U ⟨h.Q,0,O⟩) 2 2,I X 1099511627776,M (U ⟨h.Q,0,O⟩) 2 2,I X 9,M (U ⟨h1.Q,0,O⟩) 3 3]):=⟨_,rfl⟩;rw[<- e3]at k3;have a1:=jt e1;have a2:=jt e2;have a3:=jt e3;have g1:C.A h.Q=U (S Y 1 ([1,1].map i8)):=(a2.trans a3).A (by rw[e1,N.F,if_pos rfl];rfl);have g2:C.A h1.Q=U (S Y 1 ([1,1,134].map i8)):=a3.A (by rw[e2,N.F,if_pos rfl];rfl);have g3:C.A P.Q=U (S Y 1 (pg [⟨100,M (U ⟨h.Q,0,O⟩) 2 2,[1,1]⟩,⟨50,M (U ⟨h.Q,0,O⟩) 2 2,[1,1]⟩,⟨7,M (U ⟨h.Q,0,O⟩) 2 2,[1,1]⟩,⟨1099511627776,M (U ⟨h.Q,0,O⟩) 2 2,[1,1]⟩,⟨9,M (U ⟨h1.Q,0,O⟩) 3 3,[1,1,134]⟩])):=by rw[e3,N.F,if_pos rfl];rfl
 simp[Ylk,Z78,Zg,k1,k2,bo,k3];have s1:SB C (M (U ⟨h.Q,0,O⟩) 2 2) [1,1]:=(ig.new (n0:=0) (n:=2) (z:=1) (bQ _) g1 rfl qA (.inr rfl)).sl;have s2:SB C (M (U ⟨h1.Q,0,O⟩) 3 3) [1,1,134]:=(ig.new (n0:=0) (n:=3) (z:=1) (bQ _) g2 rfl qA (.inr rfl)).sl;have b1:Bytes [1,1]:=fun z hz=>by simp at hz;omega
 have b2:Bytes [1,1,134]:=fun z hz=>by simp at hz;omega
 refine hk _ [⟨100,M (U ⟨h.Q,0,O⟩) 2 2,[1,1]⟩,⟨50,M (U ⟨h.Q,0,O⟩) 2 2,[1,1]⟩,⟨7,M (U ⟨h.Q,0,O⟩) 2 2,[1,1]⟩,⟨1099511627776,M (U ⟨h.Q,0,O⟩) 2 2,[1,1]⟩,⟨9,M (U ⟨h1.Q,0,O⟩) 3 3,[1,1,134]⟩] C ⟨(ig.new (n0:=0) (n:=5) (z:=2) (bQ _) g3 rfl qA (.inr rfl)).sl,kA,fun x hx => ?_⟩ rfl (a1.trans (a2.trans a3));simp only[ao,cy,or_false]at hx;rcases hx with rfl | rfl | rfl | rfl | rfl
 ·exact⟨s1,b1,kA⟩
 ·exact⟨s1,b1,kA⟩
 ·exact⟨s1,b1,kA⟩
 ·exact⟨s1,b1,kA⟩
 ·exact⟨s2,b2,kA⟩
def NY{ks:List Nat}{hks:L ks=1024}{m0:iR}{T:List Nd}(W:iL ks hks m0 T){A B:List Nat}(hA:jq T A)(hB:jq T B)(e:mG T A=mG T B):A=B:=by
 cases A with
 | nil =>
  cases B with
  | nil=>rfl
  | cons j s =>
   obtain⟨y,C, -⟩:=W.cons hB;exact absurd (am.2 ⟨y,List.mem_of_getElem? C,by simpa[mG,C]using e.symm⟩) W.z
 | cons i r =>
  obtain⟨x,P, -⟩:=W.cons hA;cases B with
  | nil=>exact absurd (am.2 ⟨x,List.mem_of_getElem? P,by simpa[mG,P]using e⟩) W.z
  | cons j s =>
   obtain⟨y,C, -⟩:=W.cons hB;have e:x.id=y.id:=by simpa[mG,P,C]using e
   have li:=(List.getElem?_eq_some_iff.1 P).1;have lj:=(List.getElem?_eq_some_iff.1 C).1;have hc:i=j:=by
    have h1:(T.map Nd.id)[i]'(by simpa using li)=(T.map Nd.id)[j]'(by simpa using lj):=by
     rw[fp,fp,(List.getElem?_eq_some_iff.1 P).2,(List.getElem?_eq_some_iff.1 C).2];exact e
    exact(List.getElem_inj W.d).1 h1
   subst hc;rw[W.same hA hB]
structure Sh (T:List Nd) (ids pas:List (List Nat)):Prop where
 i:T.map Nd.id=ids
 p:T.map Nd.pa=pas
def Sh.at{T:List Nd}{C P:List (List Nat)}(S_:Sh T C P){k:Nat}{r id:List Nat}(h1:P[k]? = U (k::r))(h2:C[k]? = U id):jq T (k::r)/\mG T (k::r)=id:=by
 rw[<- S_.p,List.getElem?_map]at h1;rw[<- S_.i,List.getElem?_map]at h2;obtain⟨x,hx,e1⟩:=aj.1 h1;rw[hx]at h2;exact⟨.inr ⟨k,x,hx,e1.symm⟩,by simp only[mG,hx];simpa using h2⟩
structure kB (lo:Nat) (g:N) (x:hY):Prop where
 t:jr lo g x.tv x.m
 m:x.m=[]
 r:x.root=zH
 p:L x.prev=32
 b:∀ n ∈ x.prev,n < 256
 n:0<=x.nonce/\x.nonce<=1073741824
def kB.keep{lo:Nat}{g g':N}{x:hY}(B:kB lo g x)(k:∀ c,lo<=c->c < g.Q->g'.A c=g.A c):kB lo g' x:=⟨B.t.keep k,B.m,B.r,B.p,B.b,B.n⟩
def kB.ok{lo:Nat}{g:N}{x:hY}(B:kB lo g x):C_ x.p:=by
 have e:x.p=⟨x.prev,zH,x.nonce,[]⟩:=by
  show kJ.mk _ _ _ _=_;rw[B.m,B.r];rfl
 rw[e];exact⟨B.n,kA,kA,by simp[pq],rfl⟩
def kB.w{lo:Nat}{g:N}{x:hY}(B:kB lo g x):L x.prev=32/\L x.root=32:=⟨B.p,by rw[B.r];exact AK⟩
section
attribute [local simp] Xqn Y80 Uc Ua Vl VJ
def Ek(b:Nat){h:N}(la:Ab.LaidIn h laidAll){prev:List Nat}{nonce:Int}(hp:L prev=32)(bp:∀ n ∈ prev,n < 256)(hn:0<=nonce/\nonce<=1073741824)(K:KP)(hk:∀ x g,x.prev=prev->x.nonce=nonce->kB h.Q g x->a_ h g->K (.ret (.agg ⟨x.cells⟩)) g) :
  FK b 23 [.agg ⟨prev.map ax⟩,I X nonce] h K:=by
 refine iI b (Uc b) Zw4 rfl ?_;obtain⟨C,eA⟩:∃ C,C=h.push (S Y 1 (prev.map ax)):=⟨_,rfl⟩;have bx:jP (.agg ⟨prev.map ax⟩) h=U (pO h.Q 0,C):=by rw[eA];exact pk (by simp[hp])
 have aA:=jt eA;have gA:C.A h.Q=U (S Y 1 (prev.map ax)):=by rw[eA,N.F,if_pos rfl]
 obtain⟨zb,hx⟩:∃ zb,zb=Bz:=⟨_,rfl⟩;have hb:L zb=66:=by rw[hx];kernel_rfl
 obtain⟨hB,eB⟩:∃ hB,hB=C.push (S Y 1 zb):=⟨_,rfl⟩;have al:jh (E b).toiS 44 C=U (pO C.Q 0,hB):=by rw[eB,hx];exact Oa b C
 have aB:=jt eB;have gB:hB.A C.Q=U (S Y 1 zb):=by rw[eB,N.F,if_pos rfl]
 have ld:iz hB h.Q 0 32=U (.agg ⟨prev.map ax⟩):=oJ (aB.A gA) (by simp[hp]) (by simp[hp]);simp[bx,al,ld];refine ZF b (nonce:=nonce) (l:=[]) (Laid.R la (aA.trans aB)) hp ⟨Sl.nil,kA,kA⟩ kA _ fun tv m g1 a1 R e => ?_;have em:m=[]:=by simpa using e
 subst em;have er:ug (([]:List iq).map iq.p)=zH:=rfl;rw[er];obtain⟨x,ex⟩:∃ x:hY,x=⟨prev,zH,nonce,tv,[]⟩:=⟨_,rfl⟩;have xc:jZ prev zH nonce ++ [tv]=x.cells:=by rw[ex];rfl
 rw[xc];have lx:L x.cells=66:=by rw[ex];simp[hY.cells,p_ hp AK]
 have h2:=a1.A gB;have l1:=N.D h2;obtain⟨P,e2⟩:∃ P,P=g1.set C.Q (U (S Y 1 x.cells)):=⟨_,rfl⟩;have st:Wp g1 C.Q 0 x.cells=U P:=by
  rw[e2,kI h2 jA];congr 4;rw[eU,bU,cF jA,ct]
 have k2:∀ c,c≠C.Q->P.A c=g1.A c:=fun c hc=>by rw[e2,gY l1,if_neg (Ne.symm hc)]
 have hr:iz P C.Q 0 66=U (.agg ⟨x.cells⟩):=oJ (by rw[e2,gY l1,if_pos rfl]) jA jA;simp[lx,st,xx,hr];have nB:=nQ eB;refine hk x P (by rw[ex]) (by rw[ex]) ⟨?_,by rw[ex],by rw[ex],by rw[ex];exact hp,by rw[ex];exact bp,by rw[ex];exact hn⟩ ?_
 ·rw[ex];exact(R.keep fun c h1 _=>k2 c jA).low (by have:=aA.1;omega)
 ·rw[e2];exact(aA.trans (aB.trans a1)).set _ aA.1 l1
end
section
variable{lo:Nat}{h:N}{cb nb:Nat}{d:Int}{ks:List Nat}{hks:L ks=1024}{m0:iR}{T:List Nd}{nbs A:List Nat}{lb mb ν clk:Nat}{un:V}{ls:List LC}{ud:List (List BK)}
def Hf(b:Nat)(F:qI lo h cb nb d ks hks m0 T nbs A lb mb ν clk un ls ud){C hg:List (List Nat)}(S_:Sh T C hg)(hT:L T < 99){x:hY}(X_:kB lo h x){r:List Nat}(hr:jq T r)(er:mG T r=x.prev)(h3:j8 x.p≠zH)(h4:j8 x.p ∉ C)(h5:(L A:Int)-(L (uc A r):Int)<=d)(K:KP)
  (hk:∀ T' Z' hb hA clk' hq hp hy g,qI lo g cb nb d ks hks m0 T' Z' (if L A < L r+1 then L T::r else A) hb hA ν clk' hq hp hy->Sh T' (C ++ [j8 x.p]) (hg ++ [L T::r])->L T'=L T+1->h.Q<=g.Q->(∀ c,lo<=c->c < h.Q->g.A c=h.A c)->K (.ret (I X 0)) g) :
  fx Tryz.prog (E b).G 13 [pO cb 0,.agg ⟨x.cells⟩] h K:=by
 have W:=F.k.W;have hx:=X_.ok;refine J1o b F hT X_.w.1 X_.w.2 X_.b (by rw[X_.r];exact AX) (X_.t.txs (by rw[X_.m];simp)) K (fun y r' g eb P ep _ ⟨B,hb,hA,clk',hq,hp,hy,F',_,n1,fr⟩ => ?_) fun e g he wh _ => ?_
 ·have s1:L T < L (T ++ [y]):=kA
  have ey:(T ++ [y])[L T]? = U y:=kA
  have hc:=(F'.k.W.o y (List.mem_of_getElem? ey)).2;obtain⟨r2,e2,hn, -,hv, -⟩:=F'.k.W.p _ y ey;rw[ep]at e2;cases e2;rw[LM W y P,eb]at hv;have : r'=r:=NY W P hr (by rw[er];exact hv.symm);subst this;have hc:y.id=j8 x.p:=by rw[hc,eb];rfl
  exact hk (T ++ [y]) _ hb hA clk' hq hp hy g F' ⟨by simp[S_.i,hc],by simp[S_.p,ep]⟩ kA n1 fun c h1 h2=>fr c h2 (by have:=F.cl;omega) (by have:=F.nl;omega)
 ·exfalso;have C:T.map Nd.id=C:=S_.i;rcases wh with q | ⟨-,q | q⟩ | ⟨-,q1,q2⟩ | ⟨r',P,e1,⟨-,q⟩ | q⟩
  ·exact q hx
  ·exact h3 q
  ·rw[C]at q;exact h4 q
  ·rcases BX W hr with z | z
   ·exact q1 (er.symm.trans z)
   ·exact q2 (by show x.prev ∈ _;rw[<- er];exact z)
  ·have : r'=r:=NY W P hr (by rw[er];exact e1);subst this;omega
  ·have : rD ks hks (L r':Int) (oZ m0 T r') (x.m.map iq.p)=.error e:=q;rw[X_.m]at this;cases this
def YZ(b:Nat)(F:qI lo h cb nb d ks hks m0 T nbs A lb mb ν clk un ls ud){C h3:List (List Nat)}(S_:Sh T C h3)(hT:L T < 99){x:hY}(X_:kB lo h x){e:Int}(h1:e=13/\j8 x.p ∈ C/\(∃ r,jq T r/\mG T r=x.prev/\(L A:Int)-(L (uc A r):Int)<=d)∨(j8 x.p≠zH/\j8 x.p ∉ C/\((e=12/\x.prev≠zH/\x.prev ∉ C)∨e=21/\∃ r,jq T r/\mG T r=x.prev/\d < (L A:Int)-(L (uc A r):Int))))(K:KP)
  (hk:∀ g,a_ h g->K (.ret (I X e)) g) :
  fx Tryz.prog (E b).G 13 [pO cb 0,.agg ⟨x.cells⟩] h K:=by
 have W:=F.k.W;have hx:=X_.ok;have C:T.map Nd.id=C:=S_.i;refine J1o b F hT X_.w.1 X_.w.2 X_.b (by rw[X_.r];exact AX) (X_.t.txs (by rw[X_.m];simp)) K (fun y r' g eb P ep dp ⟨B,hA,hy,hb,hg,Z',hq,F',_,n1,fr⟩ => ?_) fun e' g he wh a => ?_
 ·exfalso;have ey:(T ++ [y])[L T]? = U y:=kA
  have h2:=(F'.k.W.o y (List.mem_of_getElem? ey)).2;have h2:y.id=j8 x.p:=by rw[h2,eb];rfl
  obtain⟨r2,e2,hp, -,hv, -⟩:=F'.k.W.p _ y ey;rw[ep]at e2;cases e2;rw[LM W y P,eb]at hv;have hv:x.prev=mG T r':=hv;rcases h1 with⟨-,q, -⟩ | ⟨-, -,⟨-,q1,q2⟩ | ⟨-,r,hr,er,q⟩⟩
  ·have:=F'.k.W.d;rw[bg,cG]at this;exact this.2.2 _ (by rw[C];exact q) _ kA h2.symm
  ·rcases BX W P with z | z
   ·exact q1 (hv.trans z)
   ·rw[C]at z;exact q2 (by rw[hv];exact z)
  ·have : r'=r:=NY W P hr (by rw[er];exact hv.symm);subst this;omega
 ·have : e'=e:=by
   rcases wh with q | ⟨q0,q⟩ | ⟨q0,q1,q2⟩ | ⟨r',P,hc,⟨q0,q⟩ | q⟩
   ·exact absurd hx q
   ·rcases h1 with⟨z, -⟩ | ⟨z1,z2, -⟩
    ·rw[q0,z]
    ·rcases q with q | q
     ·exact absurd q z1
     ·rw[C]at q;exact absurd q z2
   ·rcases h1 with⟨-, -,r,hr,er, -⟩ | ⟨-, -,⟨z, -⟩ | ⟨-,r,hr,er, -⟩⟩
    ·rcases BX W hr with z | z
     ·exact absurd (er.symm.trans z) q1
     ·rw[er]at z;exact absurd z q2
    ·rw[q0,z]
    ·rcases BX W hr with z | z
     ·exact absurd (er.symm.trans z) q1
     ·rw[er]at z;exact absurd z q2
   ·rcases h1 with⟨-, -,r,hr,er,z⟩ | ⟨-, -,⟨-,z1,z2⟩ | ⟨z, -⟩⟩
    ·have : r'=r:=NY W P hr (by rw[er];exact hc);subst this;omega
    ·have hc:mG T r'=x.prev:=hc;rcases BX W P with z | z
     ·exact absurd (hc.symm.trans z) z1
     ·rw[C,hc]at z;exact absurd z z2
    ·rw[q0,z]
   ·have : rD ks hks (L r':Int) (oZ m0 T r') (x.m.map iq.p)=.error e':=q;rw[X_.m]at this;cases this
  rw[this];exact hk g a
end
set_option maxRecDepth 1000000
def iA:List Nat:=j8 ⟨zH,zH,0,[]⟩
def iB:List Nat:=j8 ⟨iA,zH,0,[]⟩
def iD:List Nat:=j8 ⟨iA,zH,1,[]⟩
def iE:List Nat:=j8 ⟨iD,zH,0,[]⟩
def iF:List Nat:=j8 ⟨iE,zH,0,[]⟩
def iG:List Nat:=j8 ⟨iA,zH,9,[]⟩
def J9a:decide ([zH,iA,iB,iD,iE,iF,iG].Nodup)=Y:=kR
def Vm3 : [zH,iA,iB,iD,iE,iF,iG].Nodup:=of_decide_eq_true J9a
set_option maxRecDepth 100000
def Vlc(b:Nat)(a:Option Addr):kh (E b).toiS .eql 29 (.pointer a) (.pointer O)=U (.bool a.isNone):=by cases a <;> kernel_rfl
def Oe(b:Nat)(g:N){c:List V}(lx:L c=66):∃ hA g',jh (E b).toiS 44 g=U (pO g.Q 0,hA)/\Wp hA g.Q 0 c=U g'/\g'.A g.Q=U (S Y 1 c)/\a_ g g':=by
 obtain⟨C,P⟩:∃ C,C=Bz:=⟨_,rfl⟩;have hx:L C=66:=by rw[P];kernel_rfl
 have gA:(g.push (S Y 1 C)).A g.Q=U (S Y 1 C):=by rw[N.F,if_pos rfl]
 refine⟨g.push (S Y 1 C),(g.push (S Y 1 C)).set g.Q (U (S Y 1 c)),by rw[P];exact Oa b g,?_,by rw[gY (N.D gA),if_pos rfl],(a_.push _ _).set _ (ac _) (N.D gA)⟩;rw[kI gA jA];congr 4;rw[eU,bU,cF jA,ct]
def Vcq(b:Nat)(g:N){c:List Nat}(lx:L c=32):∃ hA g',jh (E b).toiS 39 g=U (pO g.Q 0,hA)/\Wp hA g.Q 0 (c.map ax)=U g'/\g'.A g.Q=U (S Y 1 (c.map ax))/\a_ g g':=by
 obtain⟨P,eR,aR, -,C, -⟩:=BU b g;have gA:P.A g.Q=U (S Y 1 js):=by rw[eR,N.F,if_pos rfl]
 have lR:=N.D gA;refine⟨P,P.set g.Q (U (S Y 1 (c.map ax))),C,?_,by rw[gY lR,if_pos rfl],aR.set _ (ac _) lR⟩;rw[kI gA (by simp[js,lx])];congr 4;simp[js,lx]
def uS{g:N}{p n:Nat}{c:List V}(C:g.A p=U (S Y 1 c))(P:L c=n):iz g p 0 n=U (.agg ⟨c⟩):=by
 rw[Uh C jA,bw,ai jA]
def Lt(x:kJ):L (j8 x)=32:=vo _ _
def J53(x:kJ):∀ n ∈ j8 x,n < 256:=LA _ _
def kB.R{lo:Nat}{g g':N}{x:hY}(B:kB lo g x)(o:a_ g g'):kB lo g' x:=B.keep fun c _ C=>o.2 c C
def kB.len{lo:Nat}{g:N}{x:hY}(B:kB lo g x):L x.cells=66:=by simp[hY.cells,p_ B.w.1 B.w.2]
def kB.e{lo:Nat}{g:N}{x:hY}(B:kB lo g x){p:List Nat}{n:Int}(h1:x.prev=p)(C:x.nonce=n):j8 x.p=j8 ⟨p,zH,n,[]⟩:=by
 have e:x.p=⟨p,zH,n,[]⟩:=by
  show kJ.mk _ _ _ _=_;rw[B.m,B.r,h1,C];rfl
 rw[e]
def kB.low{lo C:Nat}{g:N}{x:hY}(B:kB lo g x)(q:C<=lo):kB C g x:=⟨B.t.low q,B.m,B.r,B.p,B.b,B.n⟩
def EI(b:Nat){h:N}(la:Ab.LaidIn h laidAll){lo:Nat}{g:N}{x:hY}(B:kB lo g x){id:List Nat}(e:j8 x.p=id)(K:KP)(C:∀ h',a_ h h'->K (.ret (.agg ⟨id.map ax⟩)) h'):FK b 24 [.agg ⟨x.cells⟩] h K:=by
 subst e;exact Z4q b la B.w B.n B.b (by rw[B.r];exact AX) K C
def K1{outs:List fm}(e:outs.map fm.p=rU):∀ o ∈ outs,0<=o.value/\o.value<=1125899906842624:=fun o ho=>by
 have : o.p ∈ rU:=by rw[<- e];exact List.mem_map_of_mem ho
 have q:∀ x ∈ rU,0<=x.value/\x.value<=1125899906842624:=qA
 exact q _ this
section
attribute [local simp] Vk U5 Z5 Zg Zz Zl Uc VJ xx U8 Xl Zq Vy U2 Ua Z7 Z9 Xf
def Jtz(b:Nat){h:N}(la:Ab.LaidIn h laidAll)(K:KP)(hk:∀ h',K (.ret (.bool Y)) h'):fx Tryz.prog (E b).G 5 [] h K:=by
 refine kW (E b) (kE _ _) (Wh b) (Vm b) ie (Ws b) (Z5 b) PM.1 PM.2.1 PM.2.2 rfl ?_;have dg:=Vm3;obtain⟨hy,eA⟩:∃ x,x=iA:=⟨_,rfl⟩;obtain⟨e2,eB⟩:∃ x,x=iB:=⟨_,rfl⟩;obtain⟨q1,eD⟩:∃ x,x=iD:=⟨_,rfl⟩;obtain⟨hf,eE⟩:∃ x,x=iE:=⟨_,rfl⟩;obtain⟨z',eF⟩:∃ x,x=iF:=⟨_,rfl⟩;obtain⟨pC,eG⟩:∃ x,x=iG:=⟨_,rfl⟩;rw[<- eA,<- eB,<- eD,<- eE,<- eF,<- eG]at dg;have bA:j8 ⟨zH,zH,0,[]⟩=hy:=eA.symm;have bB:j8 ⟨hy,zH,0,[]⟩=e2:=by rw[eA];exact eB.symm
 have bD:j8 ⟨hy,zH,1,[]⟩=q1:=by rw[eA];exact eD.symm
 have bE:j8 ⟨q1,zH,0,[]⟩=hf:=by rw[eD];exact eE.symm
 have bF:j8 ⟨hf,zH,0,[]⟩=z':=by rw[eE];exact eF.symm
 have bG:j8 ⟨hy,zH,9,[]⟩=pC:=by rw[eA];exact eG.symm
 have lA:L hy=32:=by rw[<- bA];exact Lt _
 have lB:L e2=32:=by rw[<- bB];exact Lt _
 have lD:L q1=32:=by rw[<- bD];exact Lt _
 have lE:L hf=32:=by rw[<- bE];exact Lt _
 have yA:∀ n ∈ hy,n < 256:=by rw[<- bA];exact J53 _
 have yD:∀ n ∈ q1,n < 256:=by rw[<- bD];exact J53 _
 have yE:∀ n ∈ hf,n < 256:=by rw[<- bE];exact J53 _
 clear eA eB eD eE eF eG;obtain⟨zz,ez⟩:∃ x,x=zH:=⟨_,rfl⟩;have lz:L zz=32:=by rw[ez];exact AK
 have yz:∀ n ∈ zz,n < 256:=by rw[ez];exact AX
 have bz:lK (E b).toiS 39 []=U (.agg ⟨zz.map ax⟩):=by rw[ez];exact nM b
 rw[<- ez]at dg;simp only[cR,ao,not_or,cy,or_false]at dg;obtain⟨⟨zA,zB,zD,zE,zF,zG⟩,⟨AB,AD,AE,AF,AG⟩,⟨BD,BE,BF,BG⟩,⟨DE,DF,DG⟩,⟨EF,EG⟩,hD, -⟩:=dg;simp[Vj,V2,Jv,V3,Vb,V9,V8,Va,V7,V4,V5,V0,Vf,Ve,Vh,-Vh];refine(Mb b h _ fun ov outs h1 O_ eo a1 => ?_).ok;simp[Vj,V2,Jv,V3,Vb,V9,V8,Va,V7,V4,V5,V0,Vf,Ve,Vh,-Vh];refine(Vab b (Laid.R la a1) (seed:=[]) Sl.nil kA _ fun ν h2 gν k' a2 => ?_).ok;simp[Vj,V2,Jv,V3,Vb,V9,V8,Va,V7,V4,V5,V0,Vf,Ve,Vh,-Vh];refine Zp8 b (Laid.R la (a1.trans a2)) ⟨_,_,gν⟩ (by rw[Mi]) (O_.R a2) (K1 eo) ⟨jA,jA⟩ _ fun lo cb nb lb mb clk ls h3 F0 _ a3 _ _ => ?_;have S0:Sh [] [] []:=⟨rfl,rfl⟩;simp[Vj,V2,Jv,V3,Vb,V9,V8,Va,V7,V4,V5,V0,Vf,Ve,Vh,-Ve,Vlc,bz];refine(Ek b F0.k.z.q.la (prev:=zz) (nonce:=0) lz yz jA _ fun xA gA pA nA XA aA => ?_).ok;have wA:=XA.len;have XA:=XA.low F0.hl;have eA:j8 xA.p=hy:=(XA.e pA nA).trans (by rw[ez];exact bA);have s':=ak F0.hl aA.1;obtain⟨mB,m5,c1,e4,C,oA⟩:=Oe b gA wA;have vA:=aA.trans oA;have XA:=XA.R oA;have FA:=F0.R vA;simp[Vj,V2,Jv,V3,Vb,V9,V8,Va,V7,V4,V5,V0,Vf,Ve,Vh,-Vf,c1,e4,wA];simp[Vj,V2,Jv,V3,Vb,V9,V8,Va,V7,V4,V5,V0,Vf,Ve,Vh,-V0,uS C wA];refine(EI b FA.k.z.q.la XA eA _ fun g1 v1 => ?_).ok;have C:=v1.A C;have XA:=XA.R v1;have F1:=FA.R v1;simp[Vj,V2,Jv,V3,Vb,V9,V8,Va,V7,V4,V5,V0,Vf,Ve,Vh,-V0];refine(Ek b F1.k.z.q.la (prev:=hy) (nonce:=0) lA yA jA _ fun xB gB pB nB XB aB => ?_).ok;have wB:=XB.len;have XB:=XB.low F1.hl;have eB:j8 xB.p=e2:=(XB.e pB nB).trans bB;have hm:=ak F1.hl aB.1;obtain⟨mC,m6,n1,er,P,oB⟩:=Oe b gB wB;have vB:=aB.trans oB;have XB:=XB.R oB;have C:=vB.A C;have XA:=XA.R vB;have FB:=F1.R vB;simp[Vj,V2,Jv,V3,Vb,V9,V8,Va,V7,V4,V5,V0,Vf,Ve,Vh,-V0,n1,er,wB];simp[Vj,V2,Jv,V3,Vb,V9,V8,Va,V7,V4,V5,V0,Vf,Ve,Vh,-V5,uS C wA];refine(EI b FB.k.z.q.la XA eA _ fun g2 v2 => ?_).ok;have C:=v2.A C;have XA:=XA.R v2;have P:=v2.A P;have XB:=XB.R v2;have F2:=FB.R v2;simp[Vj,V2,Jv,V3,Vb,V9,V8,Va,V7,V4,V5,V0,Vf,Ve,Vh,-V5];refine(Ek b F2.k.z.q.la (prev:=hy) (nonce:=1) lA yA jA _ fun xD gD pD nD XD aD => ?_).ok;have wD:=XD.len;have XD:=XD.low F2.hl;have eD:j8 xD.p=q1:=(XD.e pD nD).trans bD;have re:=ak F2.hl aD.1;obtain⟨mD,m8,c2,m4,hr,oD⟩:=Oe b gD wD;have vD:=aD.trans oD;have XD:=XD.R oD;have C:=vD.A C;have XA:=XA.R vD;have P:=vD.A P;have XB:=XB.R vD;have FD:=F2.R vD;simp[Vj,V2,Jv,V3,Vb,V9,V8,Va,V7,V4,V5,V0,Vf,Ve,Vh,-V5,c2,m4,wD];simp[Vj,V2,Jv,V3,Vb,V9,V8,Va,V7,V4,V5,V0,Vf,Ve,Vh,-V4,uS hr wD];refine(EI b FD.k.z.q.la XD eD _ fun g3 v3 => ?_).ok;have C:=v3.A C;have XA:=XA.R v3;have P:=v3.A P;have XB:=XB.R v3;have hr:=v3.A hr;have XD:=XD.R v3;have F3:=FD.R v3;simp[Vj,V2,Jv,V3,Vb,V9,V8,Va,V7,V4,V5,V0,Vf,Ve,Vh,-V4];refine(Ek b F3.k.z.q.la (prev:=q1) (nonce:=0) lD yD jA _ fun xE gE pE nE XE aE => ?_).ok;have wE:=XE.len;have XE:=XE.low F3.hl;have eE:j8 xE.p=hf:=(XE.e pE nE).trans bE;have hu:=ak F3.hl aE.1;obtain⟨mE,m9,s2,eC,hb,oE⟩:=Oe b gE wE;have vE:=aE.trans oE;have XE:=XE.R oE;have C:=vE.A C;have XA:=XA.R vE;have P:=vE.A P;have XB:=XB.R vE;have hr:=vE.A hr;have XD:=XD.R vE;have FE:=F3.R vE;simp[Vj,V2,Jv,V3,Vb,V9,V8,Va,V7,V4,V5,V0,Vf,Ve,Vh,-V4,s2,eC,wE];simp[Vj,V2,Jv,V3,Vb,V9,V8,Va,V7,V4,V5,V0,Vf,Ve,Vh,-V7,uS P wB];refine YZ b FE S0 (by first | omega | simp) XB (e:=12) (.inr ⟨by rw[eB,<- ez];exact Ne.symm zB,kA,.inl ⟨rfl,by rw[pB,<- ez];exact Ne.symm zA,kA⟩⟩) _ fun g4 v4 => ?_;have C:=v4.A C;have XA:=XA.R v4;have P:=v4.A P;have XB:=XB.R v4;have hr:=v4.A hr;have XD:=XD.R v4;have hb:=v4.A hb;have XE:=XE.R v4;have F4:=FE.R v4;have h6:L ([]:List Nd)=0:=rfl;simp[Vj,V2,Jv,V3,Vb,V9,V8,Va,V7,V4,V5,V0,Vf,Ve,Vh,-V7];simp[Vj,V2,Jv,V3,Vb,V9,V8,Va,V7,V4,V5,V0,Vf,Ve,Vh,-Va,uS C wA];refine Hf b F4 S0 (by first | omega | simp) XA (.inl rfl) (by rw[pA,ez];rfl) (by rw[eA,<- ez];exact Ne.symm zA) kA qA _ fun T5 w1 f1 i1 ch so r' c' g5 F5 S5 hz hQ hB => ?_;simp[h6]at F5;simp[h6,eA]at S5;have hz:=hz.trans (congrArg (· + 1) h6);simp at hz;have C:=(hB _ s' (N.D C)).trans C;have XA:=XA.keep hB;have P:=(hB _ hm (N.D P)).trans P;have XB:=XB.keep hB;have hr:=(hB _ re (N.D hr)).trans hr;have XD:=XD.keep hB;have hb:=(hB _ hu (N.D hb)).trans hb;have XE:=XE.keep hB;simp[Vj,V2,Jv,V3,Vb,V9,V8,Va,V7,V4,V5,V0,Vf,Ve,Vh,-Va];simp[Vj,V2,Jv,V3,Vb,V9,V8,Va,V7,V4,V5,V0,Vf,Ve,Vh,-V8,uS C wA];refine YZ b F5 S5 (by first | omega | simp) XA (e:=13) (.inl ⟨rfl,by rw[eA];simp,[],.inl rfl,by rw[pA,ez];rfl,qA⟩) _ fun g6 v6 => ?_;have C:=v6.A C;have XA:=XA.R v6;have P:=v6.A P;have XB:=XB.R v6;have hr:=v6.A hr;have XD:=XD.R v6;have hb:=v6.A hb;have XE:=XE.R v6;have F6:=F5.R v6;simp[Vj,V2,Jv,V3,Vb,V9,V8,Va,V7,V4,V5,V0,Vf,Ve,Vh,-V8];simp[Vj,V2,Jv,V3,Vb,V9,V8,Va,V7,V4,V5,V0,Vf,Ve,Vh,-V9,uS P wB];obtain⟨p0,d0⟩:=S5.at (k:=0) (r:=[]) (id:=hy) rfl rfl;refine Hf b F6 S5 (by first | omega | simp) XB p0 (by rw[pB];exact d0) (by rw[eB,<- ez];exact Ne.symm zB) (by rw[eB];simp[Ne.symm AB]) qA _ fun T7 c0 f2 e5 hR K' fv n' g7 F7 S7 he a5 es => ?_;simp[hz]at F7;simp[hz,eB]at S7;have he:=he.trans (congrArg (· + 1) hz);simp at he;have C:=(es _ s' (N.D C)).trans C;have XA:=XA.keep es;have P:=(es _ hm (N.D P)).trans P;have XB:=XB.keep es;have hr:=(es _ re (N.D hr)).trans hr;have XD:=XD.keep es;have hb:=(es _ hu (N.D hb)).trans hb;have XE:=XE.keep es;simp[Vj,V2,Jv,V3,Vb,V9,V8,Va,V7,V4,V5,V0,Vf,Ve,Vh,-V9];simp[Vj,V2,Jv,V3,Vb,V9,V8,Va,V7,V4,V5,V0,Vf,Ve,Vh,-Vb,uS hr wD];obtain⟨p0,d0⟩:=S7.at (k:=0) (r:=[]) (id:=hy) rfl rfl;refine Hf b F7 S7 (by first | omega | simp) XD p0 (by rw[pD];exact d0) (by rw[eD,<- ez];exact Ne.symm zD) (by rw[eD];simp[Ne.symm AD,Ne.symm BD]) qA _ fun T8 m3 ev q5 hV rs w2 lv g8 F8 S8 hC k4 q2 => ?_;simp[he]at F8;simp[he,eD]at S8;have hC:=hC.trans (congrArg (· + 1) he);simp at hC;have C:=(q2 _ s' (N.D C)).trans C;have XA:=XA.keep q2;have P:=(q2 _ hm (N.D P)).trans P;have XB:=XB.keep q2;have hr:=(q2 _ re (N.D hr)).trans hr;have XD:=XD.keep q2;have hb:=(q2 _ hu (N.D hb)).trans hb;have XE:=XE.keep q2;simp[Vj,V2,Jv,V3,Vb,V9,V8,Va,V7,V4,V5,V0,Vf,Ve,Vh,-Vb];obtain⟨p1,d1⟩:=S8.at (k:=1) (r:=[0]) (id:=e2) rfl rfl;refine(Jv4 b F8.k _ fun g9 v9 => ?_).ok;rw[d1];have C:=v9.A C;have XA:=XA.R v9;have P:=v9.A P;have XB:=XB.R v9;have hr:=v9.A hr;have XD:=XD.R v9;have hb:=v9.A hb;have XE:=XE.R v9;have F9:=F8.R v9;obtain⟨mF,mA,m2,dt,Z',vQ⟩:=Vcq b g9 lB;have p6:=F9.hl;have C:=vQ.A C;have XA:=XA.R vQ;have P:=vQ.A P;have XB:=XB.R vQ;have hr:=vQ.A hr;have XD:=XD.R vQ;have hb:=vQ.A hb;have XE:=XE.R vQ;have pF:=F9.R vQ;simp[Vj,V2,Jv,V3,Vb,V9,V8,Va,V7,V4,V5,V0,Vf,Ve,Vh,-V3,-Vj,m2,dt,lB];simp[Vj,V2,Jv,V3,Vb,V9,V8,Va,V7,V4,V5,V0,Vf,Ve,Vh,-V3,uS hb wE];obtain⟨p2,d2⟩:=S8.at (k:=2) (r:=[0]) (id:=q1) rfl rfl;refine Hf b pF S8 (by first | omega | simp) XE p2 (by rw[pE];exact d2) (by rw[eE,<- ez];exact Ne.symm zE) (by rw[eE];simp[Ne.symm AE,Ne.symm BE,Ne.symm DE]) qA _ fun m7 p7 m1 hF x2 u1 bx em dv hw r1 hq a4 hp => ?_;simp[hC]at hw;simp[hC,eE]at r1;have hq:=hq.trans (congrArg (· + 1) hC);simp at hq;have C:=(hp _ s' (N.D C)).trans C;have XA:=XA.keep hp;have P:=(hp _ hm (N.D P)).trans P;have XB:=XB.keep hp;have hr:=(hp _ re (N.D hr)).trans hr;have XD:=XD.keep hp;have hb:=(hp _ hu (N.D hb)).trans hb;have XE:=XE.keep hp;have Z':=(hp _ p6 (N.D Z')).trans Z';simp[Vj,V2,Jv,V3,Vb,V9,V8,Va,V7,V4,V5,V0,Vf,Ve,Vh,-V3];simp[Vj,V2,Jv,V3,Vb,V9,V8,Va,V7,V4,V5,V0,Vf,Ve,Vh,-Jv,uS hb wE];refine(EI b hw.k.z.q.la XE eE _ fun a0 hg => ?_).ok;have C:=hg.A C;have XA:=XA.R hg;have P:=hg.A P;have XB:=XB.R hg;have hr:=hg.A hr;have XD:=XD.R hg;have hb:=hg.A hb;have XE:=XE.R hg;have hj:=hw.R hg;have Z':=hg.A Z';simp[Vj,V2,Jv,V3,Vb,V9,V8,Va,V7,V4,V5,V0,Vf,Ve,Vh,-Jv];refine(Ek b hj.k.z.q.la (prev:=hf) (nonce:=0) lE yE jA _ fun xG gG pG nG XG aG => ?_).ok;have wG:=XG.len;have XG:=XG.low hj.hl;have eG:j8 xG.p=z':=(XG.e pG nG).trans bF;have vG:=aG;have C:=vG.A C;have XA:=XA.R vG;have P:=vG.A P;have XB:=XB.R vG;have hr:=vG.A hr;have XD:=XD.R vG;have hb:=vG.A hb;have XE:=XE.R vG;have FG:=hj.R vG;have Z':=vG.A Z';obtain⟨p3,d3⟩:=r1.at (k:=3) (r:=[2,0]) (id:=hf) rfl rfl;simp[Vj,V2,Jv,V3,Vb,V9,V8,Va,V7,V4,V5,V0,Vf,Ve,Vh,-Jv];refine Hf b FG r1 (by first | omega | simp) XG p3 (by rw[pG];exact d3) (by rw[eG,<- ez];exact Ne.symm zF) (by rw[eG];simp[Ne.symm AF,Ne.symm BF,Ne.symm DF,Ne.symm EF]) qA _ fun ag p9 p5 h8 r2 sx x0 tl r3 ht ha hn fb hA => ?_;simp[hq]at ht;simp[hq,eG]at ha;have hn:=hn.trans (congrArg (· + 1) hq);simp at hn;have C:=(hA _ s' (N.D C)).trans C;have XA:=XA.keep hA;have P:=(hA _ hm (N.D P)).trans P;have XB:=XB.keep hA;have hr:=(hA _ re (N.D hr)).trans hr;have XD:=XD.keep hA;have hb:=(hA _ hu (N.D hb)).trans hb;have XE:=XE.keep hA;have Z':=(hA _ p6 (N.D Z')).trans Z';simp[Vj,V2,Jv,V3,Vb,V9,V8,Va,V7,V4,V5,V0,Vf,Ve,Vh,-Jv];simp[Vj,V2,Jv,V3,Vb,V9,V8,Va,V7,V4,V5,V0,Vf,Ve,Vh,-V2,uS C wA];refine(EI b ht.k.z.q.la XA eA _ fun t4 e1 => ?_).ok;have C:=e1.A C;have XA:=XA.R e1;have P:=e1.A P;have XB:=XB.R e1;have hr:=e1.A hr;have XD:=XD.R e1;have hb:=e1.A hb;have XE:=XE.R e1;have h5:=ht.R e1;have Z':=e1.A Z';simp[Vj,V2,Jv,V3,Vb,V9,V8,Va,V7,V4,V5,V0,Vf,Ve,Vh,-V2];refine(Ek b h5.k.z.q.la (prev:=hy) (nonce:=9) lA yA jA _ fun xH gH pH nH XH aH => ?_).ok;have wH:=XH.len;have XH:=XH.low h5.hl;have eH:j8 xH.p=pC:=(XH.e pH nH).trans bG;have vH:=aH;have C:=vH.A C;have XA:=XA.R vH;have P:=vH.A P;have XB:=XB.R vH;have hr:=vH.A hr;have XD:=XD.R vH;have hb:=vH.A hb;have XE:=XE.R vH;have FH:=h5.R vH;have Z':=vH.A Z';simp[Vj,V2,Jv,V3,Vb,V9,V8,Va,V7,V4,V5,V0,Vf,Ve,Vh,-V2];obtain⟨p4,d4⟩:=ha.at (k:=0) (r:=[]) (id:=hy) rfl rfl;refine YZ b FH ha (by first | omega | simp) XH (e:=21) (.inr ⟨by rw[eH,<- ez];exact Ne.symm zG,by rw[eH];simp[Ne.symm AG,Ne.symm BG,Ne.symm DG,Ne.symm EG,Ne.symm hD],.inr ⟨rfl,_,p4,by rw[pH];exact d4,qA⟩⟩) _ fun q3 s1 => ?_;have C:=s1.A C;have XA:=XA.R s1;have P:=s1.A P;have XB:=XB.R s1;have hr:=s1.A hr;have XD:=XD.R s1;have hb:=s1.A hb;have XE:=XE.R s1;have e0:=FH.R s1;have Z':=s1.A Z';simp[Vj,V2,Jv,V3,Vb,V9,V8,Va,V7,V4,V5,V0,Vf,Ve,Vh];obtain⟨_,h4,b2,q4,rfl,v'⟩:=EI b e0.k.z.q.la XB eB (fun r h'=>r=.ret (.agg ⟨e2.map ax⟩)/\a_ q3 h') fun h' a=>⟨rfl,a⟩;obtain⟨_,_,e',x1,rfl,rfl⟩:=Zsq b (e0.R v').k (fun r h'=>r=.ret (I X 4)/\h4=h') ⟨by rw[show(L ([4,3,2,0]:List Nat):Int)=4 from rfl],rfl⟩;obtain⟨_,_,TL,e3,rfl,rfl⟩:=HJ b (e0.R v') (fun r h'=>r=.ret (I X 5)/\h4=h') ⟨by rw[hn];rfl,rfl⟩;have b1:∀ x y:List Nat,kh (E b).toiS .eql 39 (.agg ⟨x.map ax⟩) (.agg ⟨y.map ax⟩)=(jz yQ (x.map ax) (y.map ax)).map .bool:=fun x y=>by kernel_rfl
 have eq:jz yQ (e2.map ax) (e2.map ax)=U Y:=by
  have q:=Ip ⟨e2,lB⟩ ⟨e2,lB⟩;rw[decide_eq_true rfl]at q;exact q
 have hL:∀ {hx:N},a_ q3 hx->iz hx g9.Q 0 32=U (.agg ⟨e2.map ax⟩):=fun a=>uS (a.A Z') (by simp[lB]);have h7:∀ {hx:N},a_ q3 hx->iz hx gB.Q 0 66=U (.agg ⟨xB.cells⟩):=fun a=>uS (a.A P) wB;refine ju [⟨24,[.agg ⟨xB.cells⟩],q3,.agg ⟨e2.map ax⟩,h4,Y⟩,⟨26,[pO cb 0],h4,I X 4,h4,Y⟩,⟨12,[pO cb 0],h4,I X 5,h4,Y⟩] ?_ Ynx Yra Yil (by simp[Yzp,Yx3,Y1y,Yru,Yqk,Yrn,Yt7,Yrq,Y1j,Yxk,Y04,Vj,V2,Jv,V3,Vb,V9,V8,Va,V7,V4,V5,V0,Vf,Ve,Vh,hL (a_.refl _),h7 (a_.refl _),b1,eq,r_];first | exact⟨rfl,rfl⟩ | rfl) ?_ ?_
 ·exact zk3 ⟨b2,q4,fun _ c hc=>v'.2 c hc⟩ ⟨e',x1,fun _ c hc=>rfl⟩ ⟨TL,e3,fun _ c hc=>rfl⟩
 ·simp[xd,Vj,V2,Jv,V3,Vb,V9,V8,Va,V7,V4,V5,V0,Vf,Ve,Vh,hL (a_.refl _),hL v',h7 (a_.refl _),h7 v']
 simp[Vj,V2,Jv,V3,Vb,V9,V8,Va,V7,V4,V5,V0,Vf,Ve,Vh];exact hk h4
end
def SPJ(v1 v2:V)(l m:List Pt)(h:N)(k:Nat)(s:St):Prop:=∃ (t:Tr V) (i:Nat),s=⟨⟨27,t⟩,[],h⟩/\t.A 0=U v1/\t.A 1=U v2/\t.A 5=U (I X (i:Int))/\i<=L m/\k=L m-i/\l.take i=m.take i
section
attribute [local simp] Qhx Qml Zp Qkt Wi Qku yF Qj6 
def Jxt(b:Nat){h:N}{v1 v2:V}{l m:List Pt}(s1:Sl h 33 v1 (L l) (pI l))(s2:Sl h 33 v2 (L m) (pI m))(hn:L m < 1000000)(K:KP)(hk:K (.ret (.bool (decide (l=m)))) h) :
  FK b 19 [v1,v2] h K:=by
 refine iI b (Zp b) Yye rfl ?_;have kP:∀ hx,iP (E b).toiS 51 v1 hx=U (I X (L l:Int)):=fun hx=>ja (ES b) s1;have hc:∀ hx,iP (E b).toiS 51 v2 hx=U (I X (L m:Int)):=fun hx=>ja (ES b) s2;by_cases hl:L l=L m
 ·rw[hl]at kP;simp[kP,hc];refine jE (SPJ v1 v2 l m h) (L m) ⟨_,0,rfl,kA,kA,kA,jA,rfl,kA⟩ ?_;rintro k s' ⟨t,i,rfl,t0,t1,t5,hi,rfl,he⟩ -;by_cases h2:i < L m
  ·have C:(i:Int) < (L m:Int):=jA
   obtain⟨p,hp⟩:∃ p,l[i]? = U p:=⟨_,List.getElem?_eq_getElem jA⟩;obtain⟨q,hq⟩:∃ q,m[i]? = U q:=⟨_,List.getElem?_eq_getElem h2⟩;obtain⟨b1,o1,x1,x2⟩:=Vh1 (b:=b) (ES b) B8 s1 hp;obtain⟨b2,o2,y1,y2⟩:=Vh1 (b:=b) (ES b) B8 s2 hq;have hw:=wS (i:=i) jA;simp[t0,t1,t5,kP,h2,C];refine ju [] kA Ybd Yfg Yc6 (by simp[Yn9,t0,t1,t5,x1,x2,y1,y2,OZ];first | exact⟨rfl,rfl⟩ | rfl) ?_ ?_
   ·simp[IP]
   by_cases P:p=q
   ·simp[t0,t1,t5,P,hw];refine⟨L m-(i+1),jA,_,i+1,rfl,by simp[t0],by simp[t1],kA,jA,rfl,?_⟩;rw[bH,bH,hp,hq,he,P]
   ·simp[t0,t1,t5,P];have : l≠m:=fun e=>P (by rw[e,hq]at hp;exact(bM hp).symm);simpa[this]using hk
  ·have C:¬ (i:Int) < (L m:Int):=jA
   have : i=L m:=jA
   subst this;rw[bO,<- hl,bO]at he;simp[t0,t1,t5,kP,C];simpa[he]using hk
 ·have hr:¬ (L l:Int)=(L m:Int):=jA
  simp[kP,hc,hl,hr];have : l≠m:=fun e=>hl (by rw[e]);simpa[this]using hk
end
section
variable{lo:Nat}{cb nb:Nat}{d:Int}{ks:List Nat}{hks:L ks=1024}{m0:iR}{T:List Nd}{nbs A:List Nat}{lb mb ν clk:Nat}{un:V}{ls:List LC}{ud:List (List BK)}
section
attribute [local simp] Q0z Xl0 Za Xdg sa rz Ul
def Jsl(b:Nat){h:N}(F:qI lo h cb nb d ks hks m0 T nbs A lb mb ν clk un ls ud)(K:KP)(hk:∀ C P hx h',jw h' C P 1 ν clk ks hx ls ud->a_ h h'->K (.ret (pO C 0)) h'):FK b 18 [pO cb 0] h K:=by
 refine iI b (Za b) X9u rfl ?_;obtain⟨-, -, -,c3⟩:=F.k.cells (a_.refl _);have lA:=F.k.W.leng F.k.pA;have hT:=F.k.n;simp[jg,c3];refine J1s b F.k.z.q (by have:=F.k.z.u.len;omega) _ fun C P hx h' L_ a _ _ _ _ => ?_;simp;exact hk C P hx h' L_ a
end
section
attribute [local simp] Z8 Zm Zi Zc Vr Z5 Uf Zz Zg Zl Z3 J5 Yl Z0 Xf xx Xl Ze J2 Vd Wi Zw U2 Z2 Yj Ye Yc Yd Yb Yf Z1 Y7 Yt Yi Yr Vs sZ Xn Za Yh Zp Xr Z9 Z4 Yk Y8 Ya Y9 Yg Yq Yo Yp Yn Yu Yv Yw
def J8p(b:Nat){g:N}(F:qI lo g cb nb d ks hks m0 T nbs A lb mb ν clk un ls ud){hr hb hc:Nat}{hp:V}{h2:List LC}{h3:List (List BK)}(X_:rN g hr hb ν hc ks m0 T A hp h2 h3)(hl:L ls<=200000)(hA:L h2<=200000){pv:V}{pl:List hY}(P:jd lo g pv pl)(pe:L pl=L A){z:Int}{k0:List Pt}(N0:kL m0)(S0:om m0 k0)(z0:kj m0 k0=z)(hz:z<=1152921504606846976)
  {t:Tr V} (t6:t.A 6=U (pO cb 0)) (t7:t.A 7=U (I X z)) (t8:t.A 8=U pv) (t14:t.A 14=U (pO hr 0)) (K:Exit->St->Prop) (hk:∀ t' g',t'.A 4=U (.bool Y)->K .ret ⟨⟨155,t'⟩,[],g'⟩) :
  iH (E b) (BV Tryz.prog (E b).G) (D0 b) O Nt ⟨⟨155,t⟩,[],g⟩ K:=by
 have L_:=F.k.z.q;have em:=F.k.z.m;have C:=X_.m;have len:∀ hx,iP (E b).toiS 22 pv hx=U (I X (L pl:Int)):=fun hx=>ja (us b) P.o.sl;obtain⟨N1,k1,S1,z1⟩:=Jfm F.k.W N0 S0 F.k.pA;have tz:lQ ls<=z:=by
  rw[Lo L_.co.nd,om.sum (Ol L_.co.nd) (by rw[em];exact S1),em,<- z0];exact z1
 have te:lQ h2=lQ ls:=by
  have q:=Ol X_.q.co.nd;rw[C]at q;rw[Lo X_.q.co.nd,Lo L_.co.nd,C,em];exact q.sum (by rw[<- em];exact Ol L_.co.nd)
 have lu:=F.k.z.u.len;simp[t6,t7,t8,t14];refine(Jsl b F _ fun Z' hy hq g1 L3 a1 => ?_).ok;have X1:=X_.q.R a1;simp[t6,t7,t8,t14];refine Jm4 b X1.la X1.gl X1.co jA _ fun v1 g2 l1 p1 _ n1 o1 a2 => ?_;have L4:=L3.R a2;simp[t6,t7,t8,t14];refine Jm4 b L4.la L4.gl L4.co jA _ fun v2 g3 l2 p2 _ n2 o2 a3 => ?_;have L5:=L4.R a3;have X5:=X1.R (a2.trans a3);have el:l1=l2:=by
  rw[C]at p1;rw[em]at p2;exact p1.one p2
 simp[t6,t7,t8,t14];refine(Jxt b (o1.sl.R a3) o2.sl jA _ ?_).ok;rw[decide_eq_true el];simp[t6,t7,t8,t14];refine(O8 b L5.gl L5.ur.len _ ?_).ok;have eu:L ud=L pl:=by rw[lu,pe]
 rw[eu];simp[t6,t7,t8,t14,len];refine Li b L5 jA _ fun g4 a4 => ?_;simp[t6,t7,t8,t14,len];refine Li b (X5.R a4) jA _ fun g5 a5 => ?_;rw[te];simp[t6,t7,t8,t14,len];refine Li b (L5.R (a4.trans a5)) jA _ fun g6 a6 => ?_;simp[t6,t7,t8,t14,len,tz];refine Jtz b ((L5.R (a4.trans a5)).R a6).la _ fun g7 => ?_;simp[t6,t7,t8,t14,len,tz];exact hk _ g7 kA
end
end
def Zfk:∀ (l:List hY) (_:∀ x ∈ l,L x.prev=32/\L x.root=32) (n:Nat),(pW l).take (n*66)=pW (l.take n)
 | [],_,n=>by simp[pW]
 | y::l,C,n=>by
  have ly:L y.cells=66:=by have:=C y kA;simp[hY.cells,p_ this.1 this.2]
  have e:pW (y::l)=y.cells++pW l:=by simp[pW]
  cases n with
  | zero=>simp[pW]
  | succ n =>
   rw[e,show(n+1)*66=L y.cells+n*66 by omega,List.take_length_add_append,Zfk l (fun z P=>C z (by simp[P])) n];simp[pW]
def jK.to(b:Nat){h:N}{v:V}{l:List hY}(A:jK h v l){n:Nat}(hn:n<=L l):∃ C,ka (E b).toiS 22 v O (U (I X (n:Int))) O h=U (C,h)/\jK h C (l.take n):=by
 obtain⟨C,k,s, -⟩:=Vff (us b) (z:=66) B6 jA A.s (k:=.i64) (i:=(n:Int)) jA jA;rw[bb,Zfk l A.w]at s;exact⟨C,k,by rw[bh,eQ hn];exact s,by have:=A.n;simp;omega,fun x P=>A.t x (cI P),fun x P=>A.w x (cI P)⟩
section
variable{lo:Nat}{cb nb:Nat}{d:Int}{ks:List Nat}{hks:L ks=1024}{T:List Nd}{nbs A:List Nat}{lb mb ν clk:Nat}{un:V}{ls:List LC}{ud:List (List BK)}
structure BuT (t:Tr V) (cb lb2:Nat) (z:Int) (pv:V) (j:Nat):Prop where
 t6:t.A 6=U (pO cb 0)
 t7:t.A 7=U (I X z)
 t8:t.A 8=U pv
 t14:t.A 14=U (pO lb2 0)
 t15:t.A 15=U (I X (j:Int))
def BuI(g2:N)(cb C P ν:Nat)(z:Int)(pv:V)(ks:List Nat)(m0:iR)(T:List Nd)(A:List Nat)(hx:List LC)(k:Nat)(s:St):Prop :=
 ∃ (t:Tr V) (g:N) (j clk:Nat) (un:V) (ls:List LC) (ud:List (List BK)),s=⟨⟨155,t⟩,[],g⟩/\BuT t cb C z pv j/\j<=L A/\k=L A-j/\rN g C P ν clk ks m0 T (A.drop (L A-j)) un ls ud/\j7 C g2 g C P (M O 0 0) un hx ls [] ud (256*j)
section
attribute [local simp] Z8 Zm Zi Zc Vr Z5 Uf Zz Zg Zl Z3 J5 Yl Z0 Xf xx Xl Ze J2 Vd Wi Zw U2 Z2 Yj Ye Yc Yd Yb Yf Z1 Y7 Yt Yi Yr Vs sZ Xn Za Yh Zp Xr Z9 Z4 Yk Y8 Ya Y9 Yo Yp Yn Yu Yv Yw
def J5y(b:Nat){g:N}(F:qI lo g cb nb d ks hks (sD rU) T nbs A lb mb ν clk un ls ud)(hl:L ls<=200000){pv:V}{pl:List hY}(P:jd lo g pv pl)(pe:pl.map hY.p=mg T A){z:Int}{k0:List Pt}(N0:kL (sD rU))(S0:om (sD rU) k0)(z0:kj (sD rU) k0=z)(hz:z<=1152921504606846976)
  {t:Tr V} (t5:t.A 5=U (pO ν 0)) (t6:t.A 6=U (pO cb 0)) (t7:t.A 7=U (I X z)) (t8:t.A 8=U pv) (K:Exit->St->Prop) (hk:∀ t' g',t'.A 4=U (.bool Y)->K .ret ⟨⟨155,t'⟩,[],g'⟩) :
  iH (E b) (BV Tryz.prog (E b).G) (D0 b) O XR ⟨⟨155,t⟩,[],g⟩ K:=by
 have W:=F.k.W;have hT:=F.k.n;have lA:=W.leng F.k.pA;have ple:L pl=L A:=by
  have:=congrArg List.length pe;rw[aM,Ib W F.k.pA]at this;exact this
 have len:∀ hx,iP (E b).toiS 22 pv hx=U (I X (L A:Int)):=fun hx=>by rw[<- ple];exact ja (us b) P.o.sl
 simp[Yg,Yq,-Yq];refine(Mb b g _ fun ov outs g1 O_ eo a1 => ?_).ok;have F1:=F.R a1;simp[Yg,Yq,-Yq,t5];refine(HB b F1.k.z.q.la F1.k.z.q.gν hks O_ (K1 eo) _ fun e2 e1 h3 g2 hp L2 em le a2 n1 n2 => ?_).ok;rw[eo]at em;have le:L hp<=5:=by have:=congrArg List.length eo;simp[rU]at this;omega
 have Z':=a1.trans a2;simp[Yg,Yq,-Yg];refine jE (BuI g2 cb e2 e1 ν z pv ks (sD rU) T A hp) (L A) ⟨_,g2,0,h3,_,hp,[],rfl,⟨by simp[t6],by simp[t7],by simp[t8],kA,kA⟩,jA,rfl,?_,j7.refl⟩ ?_
 ·rw[dc,cK];exact⟨L2,em,rfl⟩
 rintro k s' ⟨t,g3,j,hq,q2,hB,es,rfl,⟨t6,t7,t8,t14,t15⟩,hj,rfl,X_,G⟩ -;have ag:a_ g g3:=G.to Z' (ak a1.1 n1) (ak a1.1 n1) (ak a1.1 n2) fun c hc=>by simp[Vn]at hc
 have F3:=F.R ag;have P3:=P.R ag;by_cases hA:j < L A
 ·have C:(j:Int) < (L A:Int):=jA
  have hw:=wS (i:=j) jA;obtain⟨i,hi⟩:∃ i,i=A[L A-(j+1)]' jA:=⟨_,rfl⟩;have ed:A.drop (L A-(j+1))=i::A.drop (L A-j):=by
   rw[aS jA,show L A-(j+1)+1=L A-j by omega,hi]
  have pB:=W.drop F.k.pA (L A-(j+1));rw[ed]at pB;obtain⟨y,hy, -⟩:=W.cons pB;have hr:A.reverse[j]? = U i:=by
   rw[List.getElem?_reverse hA,hi,show L A-1-j=L A-(j+1) by omega];exact List.getElem?_eq_getElem jA
  have hb:=Z56 W F.k.pA hr hy;obtain⟨x,hx⟩:∃ x,pl[j]? = U x:=⟨_,List.getElem?_eq_getElem jA⟩;have xe:x.p=y.b:=by
   rw[<- pe,List.getElem?_map,hx]at hb;simpa using hb
  have R:=P3.at jA;obtain⟨bk,off,x1, -, -,x4⟩:=BQ b R hx;simp[Yg,Yq,-Yg,t6,t7,t8,t14,t15,len,hA,C,x1,x4];refine Vac W b X_ (by rw[ba];omega) pB hy (R.t x (List.mem_of_getElem? hx)) (by rw[<- xe];rfl) _ fun g' h2 hn hg s1 X' G' => ?_;simp[Yg,Yq,-Yg,t6,t7,t8,t14,t15,hw];exact⟨L A-(j+1),jA,_,g',j+1,h2,hn,hg,s1,rfl,⟨by simp[t6],by simp[t7],by simp[t8],by simp[t14],kA⟩,jA,rfl,by rw[ed];exact X',by have:=G.trans G';rw[show 256*(j+1)=256*j+256 by omega];exact this⟩
 ·have C:¬ (j:Int) < (L A:Int):=jA
  have : j=L A:=jA
  subst this;rw[cO,bw]at X_;have:=G.le;simp[Yg,Yq,-Yg,t6,t7,t8,t14,t15,len];exact J8p b F3 X_ hl jA P3 ple N0 S0 z0 hz (by simp[t6]) (by simp[t7]) (by simp[t8]) (by simp[t14]) _ hk
end
end
section
variable{lo:Nat}{cb nb:Nat}{d:Int}{ks:List Nat}{hks:L ks=1024}{m0:iR}{T:List Nd}{nbs A A':List Nat}{lb mb ν clk:Nat}{un:V}{ls:List LC}{ud:List (List BK)}
structure NW (t:Tr V) (d:Int) (v pv:V) (ν cb:Nat) (z:Int) (i:Nat):Prop where
 t0:t.A 0=U (I X d)
 t1:t.A 1=U v
 t5:t.A 5=U (pO ν 0)
 t6:t.A 6=U (pO cb 0)
 t7:t.A 7=U (I X z)
 t8:t.A 8=U pv
 t9:t.A 9=U (I X (i:Int))
section
attribute [local simp] Z8 Zm Zi Zc Vr Z5 Uf Zz Zg Zl Z3 J5 Yl Z0 Xf xx Xl Ze J2 Vd Wi Zw U2 Z2 Yj Ye Yc Yd Yb Yf Z1 Yi Yr Vs sZ Xn Za Yh Zp Xr Z9 Z4 Yk Y8 Ya Y9 Yg Yq Yo Yp Yn Yu Yv Yw
def PH(b:Nat){g:N}(F:qI lo g cb nb d ks hks m0 T nbs A' lb mb ν clk un ls ud)(hd:0<=d/\d<=400)(hA:jq T A){M_:List Nat}(sA:M_ <:+ A)(sB:M_ <:+ A')(hl:L A<=L A')(dm:(L A:Int)-(L M_:Int)<=d){pv:V}{pl:List hY}(P:jd lo g pv pl)(pe:pl.map hY.p=mg T A){e:Int}{n:Nat}(he:(e=0/\L T=n+1)∨(e≠0/\L T=n/\A'=A))
  {t:Tr V} {v:V} {z:Int} {i:Nat} (LT:NW t d v pv ν cb z i) (t10:t.A 10=U (I X (n:Int))) (hb:t.A 11=U (I X e)) (K:Exit->St->Prop)
  (hk:∀ t' hB hn g',NW t' d v hB ν cb z i->jd lo g' hB hn->hn.map hY.p=mg T A'->a_ g g'->K .normal ⟨⟨155,t'⟩,[],g'⟩) :
  iH (E b) (BV Tryz.prog (E b).G) (D0 b) O Nu ⟨⟨155,t⟩,[],g⟩ K:=by
 obtain⟨t0,t1,t5,t6,t7,t8,t9⟩:=LT;have W:=F.k.W;have hT:=F.k.n;have lA:=W.leng hA;have h4:=W.leng F.k.pA;have hr:∀ {q:List hY} {C:List Nat},jq T C->q.map hY.p=mg T C->L q=L C:=fun hC q=>by
  have:=congrArg List.length q;rw[aM,Ib W hC]at this;exact this
 have ple:=hr hA pe;have len:∀ hx,iP (E b).toiS 22 pv hx=U (I X (L A:Int)):=fun hx=>by rw[<- ple];exact ja (us b) P.o.sl
 simp[Y7,Yt,-Yt,t6];refine(Vbs b F.k _ fun h3 hp g1 P2 e2 a1 => ?_).ok;have F1:=F.R a1;have P1:=P.R a1;have P2:=P2.low F.hl;have Z':=hr F.k.pA e2;have h2:∀ hx,iP (E b).toiS 22 h3 hx=U (I X (L A':Int)):=fun hx=>by rw[<- Z'];exact ja (us b) P2.o.sl
 simp[Y7,Yt,-Y7,t6];refine(J54 b F1 (P2.at jA) e2 _ fun g2 a2 => ?_).ok;have F2:=F1.R a2;have P1:=P1.R a2;have P2:=P2.R a2;have nl:¬ L A' < L A:=jA
 have e1:¬ (L A':Int) < (L A:Int):=jA
 have hg:∀ {t:Tr V} {g3:N},a_ g g3->jd lo g3 h3 hp->qI lo g3 cb nb d ks hks m0 T nbs A' lb mb ν clk un ls ud->jd lo g3 pv pl->NW t d v pv ν cb z i->t.A 12=U h3->iH (E b) (BV Tryz.prog (E b).G) (D0 b) O Ns ⟨⟨155,t⟩,[],g3⟩ K:=fun {t} {g3} a3 P2 F3 P1 LT hy=>by
  obtain⟨t0,t1,t5,t6,t7,t8,t9⟩:=LT;obtain⟨st,mx,es⟩:∃ st:Nat,yn Y [I X 0,I X ((L A:Int)-d)]=U (I X (st:Int))/\st<=L M_:=by
   rw[nY];split
   ·exact⟨((L A:Int)-d).toNat,by rw[dw jA],jA⟩
   ·exact⟨0,rfl,jA⟩
  have w1:IntKind.i64.wrap ((L A:Int)-d)=(L A:Int)-d:=jW jA jA;have hf:=sA.length_le;have hz:=sB.length_le;obtain⟨s1,k1,B1⟩:=jK.to b (P2.at jA) (n:=st) jA;obtain⟨s2,k2,B2⟩:=jK.to b (P1.at jA) (n:=st) jA;have eq:(hp.take st).map hY.p=(pl.take st).map hY.p:=by
   rw[dX,dX,e2,pe];exact J8z W hA F.k.pA sA sB es
  obtain⟨_,g4,q1,nx,rfl,a4⟩:=Zvw b B1 B2 eq (fun r h'=>r=.ret (.bool Y)/\a_ g3 h') fun h' a=>⟨rfl,a⟩;have ns:¬ (L A':Int) < (st:Int):=jA
  have q2:¬ L A' < st:=jA
  simp[Y7,Yt,t0,t8,len,w1,mx];refine ju [⟨16,[s1,s2],g3,.bool Y,g4,Y⟩] ?_ Xrr Xv1 Xu5 (by simp[Xyl,Xye,Xz2,Y7,Yt,t0,t8,hy,len,h2,ns,q2,k1,k2];first | exact⟨rfl,rfl⟩ | rfl) ?_ ?_
  ·exact pS ⟨q1,nx,fun _ c hc=>a4.2 c hc⟩
  ·simp[CO,Y7,Yt,t0,t8,hy,len,h2,k1,k2]
  simp[Y7,Yt,hy];exact hk _ h3 hp g4 ⟨by simp[t0],by simp[t1],by simp[t5],by simp[t6],by simp[t7],kA,by simp[t9]⟩ (P2.R a4) e2 (a3.trans a4)
 have hq:=a1.trans a2;rcases he with⟨rfl,en⟩ | ⟨he,en,rfl⟩
 ·have w:IntKind.i64.wrap ((n:Int)+1)=(n:Int)+1:=jW jA jA;simp[Y7,Yt,-Y7,t6,t8,t10,hb,len,h2,nl,e1];refine(HJ b F2 _ ?_).ok;rw[en];simp[Y7,Yt,-Y7,t6,t8,t10,hb,len,h2,nl,e1,w];exact hg hq P2 F2 P1 ⟨by simp[t0],by simp[t1],by simp[t5],by simp[t6],by simp[t7],by simp[t8],by simp[t9]⟩ kA
 ·simp[Y7,Yt,-Y7,t6,t8,t10,hb,len,h2,he];refine(HJ b F2 _ ?_).ok;rw[en];simp[Y7,Yt,-Y7,t6,t8,t10,hb,len,h2,he];refine(Zvw b (P2.at jA) (P1.at jA) (by rw[e2,pe]) _ fun g3 a3 => ?_).ok;simp[Y7,Yt,-Y7,t6,t8,t10,hb,len,h2,he];exact hg (hq.trans a3) (P2.R a3) (F2.R a3) (P1.R a3) ⟨by simp[t0],by simp[t1],by simp[t5],by simp[t6],by simp[t7],by simp[t8],by simp[t9]⟩ kA
end
end
def Vm0:kL (sD rU)/\∃ k,om (sD rU) k/\kj (sD rU) k<=1099511627942:=by
 have q:=Jd8 (id:=List.replicate 32 0) (hid:=kA) (made:=0) rU 0 (m:=fun _=>O) (k:=[]) (fun p c hc=>by cases hc) ⟨List.nodup_nil,fun p=>by simp⟩ qA;obtain⟨h1,k,C,P⟩:=q;refine⟨h1,k,C,eN P ?_⟩;decide
def bl1(b:Nat)(h:N):Wc (E b).toiS 28 1 [(0,I .u8 5)] h=U (M (U ⟨h.Q,0,O⟩) 1 1,h.push (S Y 1 [I .u8 5])):=kR
def LwI(h0:N)(n:Nat)(v:V)(lo cb nb ν:Nat)(d z:Int)(ks:List Nat)(hks:L ks=1024)(k:Nat)(s:St):Prop:=∃ (t:Tr V) (g:N) (i:Nat) (T:List Nd) (nbs A:List Nat) (lb mb clk:Nat) (un:V) (ls:List LC) (ud:List (List BK)) (P:V) (C:List hY),
 s=⟨⟨155,t⟩,[],g⟩/\NW t d v P ν cb z i/\i<=n/\k=n-i/\qI lo g cb nb d ks hks (sD rU) T nbs A lb mb ν clk un ls ud/\L T<=i/\L ls<=5+8400*i/\jd lo g P C/\C.map hY.p=mg T A/\a_ h0 g
section
attribute [local simp] Z8 Zm Zi Zc Vr Z5 Uf Zz Zg Zl Z3 J5 Yl Z0 Xf xx Xl Ze J2 Vd Wi Zw U2 Z2 Yj Ye Yc Yd Yb Yf Z1 Y7 Yt Vs sZ Xn Za Yh Zp Xr Z9 Z4 Yk Y8 Ya Y9 Yg Yq
def Vb4(b:Nat){h:N}(la:Ab.LaidIn h laidAll){v:V}{l:List hY}(R:n_ h v l)(n:Int)(K:KP)(hk:∀ h',K (.ret (.bool Y)) h'):fx Tryz.prog (E b).G 3 [I X n,v] h K:=by
 refine kW (E b) (kE _ _) (Wh b) (Vm b) ie (Ws b) (Zi b) Q1.1 Q1.2.1 Q1.2.2 rfl ?_;simp[Yi,Yr,Yo,Yp,Yn,Yu,Yv,Yw,-Yw];refine(J63 b R _ fun q h1 a1 hq => ?_).ok;cases q with
 | true =>
  simp[Yi,Yr,Yo,Yp,Yn,Yu,Yv,Yw,-Yw];refine Jtz b (Laid.R la a1) _ fun h' => ?_;simp[Yi,Yr,Yo,Yp,Yn,Yu,Yv,Yw,-Yw];exact hk h'
 | false =>
 obtain⟨hn,hO⟩:=hq rfl;have R1:=R.R a1;simp[Yi,Yr,Yo,Yp,Yn,Yu,Yv,Yw,-Yv];refine(J8r b n jA jA h1 _ ?_).ok;obtain⟨d,ed⟩:∃ d,d=G0 n 12:=⟨_,rfl⟩;have hd:0<=d/\d < 12:=by rw[ed];exact Juj n jA
 rw[<- ed];obtain⟨hA,eA⟩:∃ hA,hA=h1.push (S Y 1 [I .u8 5]):=⟨_,rfl⟩;have bl:Wc (E b).toiS 28 1 [(0,I .u8 5)] h1=U (M (U ⟨h1.Q,0,O⟩) 1 1,hA):=by rw[eA];exact bl1 b h1
 have aA:=jt eA;have gA:hA.A h1.Q=U (S Y 1 [I .u8 5]):=by rw[eA,N.F,if_pos rfl]
 have s5:SN hA (M (U ⟨h1.Q,0,O⟩) 1 1) [5]:=(ig.new (n0:=0) (z:=1) (n:=1) (c:=1) (bQ _) gA rfl qA (.inr rfl)).sl;simp[Yi,Yr,Yo,Yp,Yn,Yu,Yv,Yw,-Yu,bl];refine(Vab b (Laid.R la (a1.trans aA)) s5 kA _ fun ν h2 gν _ a2 => ?_).ok;have hu:=a1.trans (aA.trans a2);simp[Yi,Yr,Yo,Yp,Yn,Yu,Yv,Yw,-Yn];refine(Mb b h2 _ fun ov outs h3 O_ eo a3 => ?_).ok;have hg:=hu.trans a3;have lk:L (sU [5] 32 1)=1024:=by rw[Mi]
 obtain⟨ks,q3⟩:∃ ks,ks=sU [5] 32 1:=⟨_,rfl⟩;rw[<- q3]at gν lk;simp[Yi,Yr,Yo,Yp,Yn,Yu,Yv,Yw,-Yn];refine Zp8 b (Laid.R la hg) ⟨_,_,a3.A gν⟩ lk O_ (K1 eo) ⟨jA,jA⟩ _ fun lo cb nb lb mb clk ls h4 F0 le a4 n1 n2 => ?_;rw[eo]at F0;have ha:L outs=5:=by have:=congrArg List.length eo;simpa[rU]using this
 have p2:=hg.trans a4;simp[Yi,Yr,Yo,Yp,Yn,Yu,Yv,Yw,Vlc];refine(Mb b h4 _ fun p3 hC h5 O2 hB a5 => ?_).ok;simp[Yi,Yr,Yo,Yp,Yn,Yu,Yv,Yw,-Yp];refine(HB b (F0.R a5).k.z.q.la (F0.R a5).k.z.q.gν lk O2 (K1 hB) _ fun e0 hL p1 h6 hf L2 e1 r1 a6 _ _ => ?_).ok;rw[hB]at e1;obtain⟨N0,k0,S0,z0⟩:=Vm0;have tz:lQ hf=kj (sD rU) k0:=by
  have q:=Ol L2.co.nd;rw[e1]at q;rw[Lo L2.co.nd,e1];exact q.sum S0
 obtain⟨z,ez⟩:∃ z,z=lQ hf:=⟨_,rfl⟩;rw[<- ez]at tz;simp[Yi,Yr,Yo,Yp,Yn,Yu,Yv,Yw,-Yp];refine Li b L2 jA _ fun h7 a7 => ?_;rw[<- ez];have s1:=a5.trans (a6.trans a7);have F7:=F0.R s1;have len:∀ hx,iP (E b).toiS 22 v hx=U (I X (L l:Int)):=fun hx=>ja (us b) R.s;simp[Yi,Yr,Yo,Yp,Yn,Yu,Yv,Yw,-Yo];refine jE (LwI h3 (L l) v lo cb nb ν d z ks lk) (L l) ⟨_,h7,0,[],[],[],lb,mb,clk,_,ls,[],M O 0 0,[],rfl,⟨kA,kA,kA,kA,kA,kA,kA⟩,jA,rfl,F7,ac _,jA,⟨ig.nil,kA,kA,kA⟩,rfl,a4.trans s1⟩ ?_;rintro k s' ⟨t,g,i,T,nbs,A,lb,mb,clk,un,ls,ud,pv,pl,rfl,LT,hi,rfl,F,lT,g3,P,pe,ag⟩ -;have t0:=LT.t0;have t1:=LT.t1;have t6:=LT.t6;have t9:=LT.t9;have v':=hg.trans ag;by_cases hj:i < L l
 ·have hb:(i:Int) < (L l:Int):=jA
  have hw:=wS (i:=i) jA;obtain⟨x,hx⟩:∃ x,l[i]? = U x:=⟨_,List.getElem?_eq_getElem hj⟩;have mx:=List.mem_of_getElem? hx;have bo:=(hO x mx).R (aA.trans (a2.trans (a3.trans ag)));obtain⟨bk,off,x1,x2, -⟩:=J4f b (R.s.R v') (fun y hy=>(R.a y hy).w) hx;have lx:L x.cells=66:=by simp[hY.cells,p_ bo.w.1 bo.w.2]
  simp[Yi,Yr,Yo,Yp,Yn,Yu,Yv,Yw,-Yr,t6,t1,t9,len,hb];refine(HJ b F _ ?_).ok;simp[Yi,Yr,Yo,Yp,Yn,Yu,Yv,Yw,-Yi,t6,t1,t9,x1,x2];refine J1o b F jA bo.w.1 bo.w.2 bo.b.1 bo.b.2 bo.t _ (fun y r g1 eb hr ep dp ⟨B,q2,hz,hp,g2,q1,re,F',ln,ht,fr⟩ => ?_) fun e g1 he _ a => ?_
  ·have Ag:a_ h3 g1:=⟨ak ag.1 ht,fun c hc=>by rw[fr c (aw hc ag.1) jA jA];exact ag.2 c hc⟩;have P1:=P.keep (g':=g1) fun c h1 h2=>fr c h2 (by have:=F.cl;omega) (by have:=F.nl;omega);have pA:=(F.k.pA).more (y:=y);have hm:pl.map hY.p=mg (T ++ [y]) A:=by rw[pe];exact(Jta F.k.W y F.k.pA).symm
   have es:L (T ++ [y])=L T+1:=kA
   simp[Yi,Yr,Yo,Yp,Yn,Yu,Yv,Yw,-Yi];by_cases hc:L A < L r+1
   ·rw[if_pos hc]at F';refine PH b F' ⟨jA,jA⟩ pA (M_:=uc A r) (L9 A r).1 ((L9 A r).2.trans (List.suffix_cons _ _)) (by simp;omega) dp P1 hm (.inl ⟨rfl,es⟩) (v:=v) (z:=z) (i:=i) ⟨by simp[LT.t0],by simp[LT.t1],by simp[LT.t5],by simp[LT.t6],by simp[LT.t7],by simp[LT.t8],by simp[LT.t9]⟩ kA kA _ fun t' e2 Z' g' C P' e' a' => ?_;simp[Yi,Yr,Yo,Yp,Yn,Yu,Yv,Yw,C.t9,hw];exact⟨L l-(i+1),jA,_,g',i+1,_,_,_,q2,hz,hp,g2,q1,re,e2,Z',rfl,⟨by simp[C.t0],by simp[C.t1],by simp[C.t5],by simp[C.t6],by simp[C.t7],by simp[C.t8],kA⟩,jA,rfl,F'.R a',jA,jA,P',e',Ag.trans a'⟩
   ·rw[if_neg hc]at F';refine PH b F' ⟨jA,jA⟩ pA (M_:=A) (d6 _) (d6 _) (ac _) jA P1 hm (.inl ⟨rfl,es⟩) (v:=v) (z:=z) (i:=i) ⟨by simp[LT.t0],by simp[LT.t1],by simp[LT.t5],by simp[LT.t6],by simp[LT.t7],by simp[LT.t8],by simp[LT.t9]⟩ kA kA _ fun t' e2 Z' g' C P' e' a' => ?_;simp[Yi,Yr,Yo,Yp,Yn,Yu,Yv,Yw,C.t9,hw];exact⟨L l-(i+1),jA,_,g',i+1,_,_,_,q2,hz,hp,g2,q1,re,e2,Z',rfl,⟨by simp[C.t0],by simp[C.t1],by simp[C.t5],by simp[C.t6],by simp[C.t7],by simp[C.t8],kA⟩,jA,rfl,F'.R a',jA,jA,P',e',Ag.trans a'⟩
  ·simp[Yi,Yr,Yo,Yp,Yn,Yu,Yv,Yw,-Yi];refine PH b (F.R a) ⟨jA,jA⟩ F.k.pA (M_:=A) (d6 _) (d6 _) (ac _) jA (P.R a) pe (.inr ⟨he,rfl,rfl⟩) (v:=v) (z:=z) (i:=i) ⟨by simp[LT.t0],by simp[LT.t1],by simp[LT.t5],by simp[LT.t6],by simp[LT.t7],by simp[LT.t8],by simp[LT.t9]⟩ kA kA _ fun t' e2 Z' g' C P' e' a' => ?_;simp[Yi,Yr,Yo,Yp,Yn,Yu,Yv,Yw,C.t9,hw];exact⟨L l-(i+1),jA,_,g',i+1,_,_,_,lb,mb,clk,un,ls,ud,e2,Z',rfl,⟨by simp[C.t0],by simp[C.t1],by simp[C.t5],by simp[C.t6],by simp[C.t7],by simp[C.t8],kA⟩,jA,rfl,(F.R a).R a',jA,jA,P',e',(ag.trans a).trans a'⟩
 ·have hb:¬ (i:Int) < (L l:Int):=jA
  simp[Yi,Yr,Yo,Yp,Yn,Yu,Yv,Yw,-Yo,t6,t1,t9,len,hb];refine J5y b F jA P pe N0 S0 tz.symm jA (by simp[LT.t5]) (by simp[LT.t6]) (by simp[LT.t7]) (by simp[LT.t8]) _ fun t' g' t4 => ?_;simp[Yi,Yr,Yo,Yp,Yn,Yu,Yv,Yw,t4];exact hk g'
end
end Go.Proofs.YtbhojjejgmfgmaaGreatDoor
end
noncomputable section
namespace Go.Proofs.YtbhojjejgmfgmaaGreatDoor
open Go Go.Ab
open Go.ChangeShapes Go.WideShapes Go.RowKit
set_option maxRecDepth 1000000
def J1v{A:Type}{Q:List V->Prop}{cells:A->List V}{P:A->Prop}(one:∀ cs,Q cs->∃ x,cs=cells x/\P x):∀ {rows:List (List V)},(∀ r ∈ rows,Q r)->∃ l:List A,rows.flatten=l.flatMap cells/\L l=L rows/\∀ x ∈ l,P x
 | [],_=>⟨[],rfl,rfl,kA⟩
 | r::rows,h=>by
  obtain⟨x,rfl,hx⟩:=one r (h r kA);obtain⟨l,h1,h2,h3⟩:=J1v one (rows:=rows) fun q C=>h q (by simp[C]);refine⟨x::l,by simp[h1],by simp[h2],fun q C => ?_⟩;rcases List.mem_cons.1 C with rfl | C
  ·exact hx
  ·exact h3 q C
def DW{A:Type}{h:N}{z:Nat}{Q:N->List V->Prop}{cells:A->List V}{P:A->Prop}(one:∀ cs,Q h cs/\L cs=z->∃ x,cs=cells x/\P x){v:V}(q:oM z Q h [v]):∃ l:List A,Sl h z v (L l) (l.flatMap cells)/\L l<=RB/\∀ x ∈ l,P x:=by
 obtain⟨v',hx,e,s,hb,hr⟩:=q;obtain rfl:v=v':=by simpa using e
 obtain⟨l,h1,C,h3⟩:=J1v one hr;refine⟨l,?_,by rw[C];exact hb,h3⟩;rw[C,<- h1];exact s
abbrev Dz:N->List V->Prop:=oM 1 (fun _ cs=>iY [.u8] cs)
def Vhz{h:N}{v:V}(q:Dz h [v]):∃ xs,SB h v xs/\Bytes xs/\L xs<=RB:=by
 obtain⟨l,s,n,a⟩:=DW (cells:=fun z:Int=>[i8 z]) (P:=fun z=>0<=z/\z < 256) (fun cs C=>by
  obtain⟨n,r,rfl,hw,hr⟩:=C.1;obtain rfl:r=[]:=hr;exact⟨n,rfl,Vfe hw⟩) q
 rw[<- List.map_eq_flatMap]at s;exact⟨l,s,a,n⟩
def kP{cs:List V}(h:L cs=1):∃ v,cs=[v]:=by
 match cs,h with
 | [v],_=>exact⟨v,rfl⟩
def J75{h:N}{v:V}(q:oM 1 Dz h [v]):∃ its:List (V × List Int),Sl h 1 v (L its) (its.map (·.1))/\L its<=RB/\mj h its/\∀ p ∈ its,L p.2<=RB:=by
 obtain⟨l,s,n,a⟩:=DW (cells:=fun p:V × List Int=>[p.1]) (P:=fun p=>(SB h p.1 p.2/\Bytes p.2)/\L p.2<=RB) (fun cs hc=>by
  obtain⟨v,rfl⟩:=kP hc.2;obtain⟨xs,s,b,lx⟩:=Vhz hc.1;exact⟨(v,xs),rfl,⟨s,b⟩,lx⟩) q
 rw[<- List.map_eq_flatMap]at s;exact⟨l,s,n,fun p C=>(a p C).1,fun p C=>(a p C).2⟩
def K4:∀ (n:Nat) {ks:List IntKind} {cs:List V},iY (List.replicate n .u8++ks) cs->∃ (ds:List Nat) (r:List V),cs=ds.map ax++r/\L ds=n/\(∀ x ∈ ds,x < 256)/\iY ks r
 | 0,ks,cs,h=>⟨[],cs,kA,rfl,kA,by simpa using h⟩
 | n+1,ks,cs,h=>by
  rw[List.replicate_succ,List.cons_append]at h;obtain⟨z,r,rfl,hw,hr⟩:=h;obtain⟨ds,r',rfl,P,h3,h4⟩:=K4 n hr;have hz:=Vfe hw;refine⟨z.toNat::ds,r',?_,by simp[P],fun x C => ?_,h4⟩
  ·rw[List.map_cons,List.cons_append];show I .u8 z::_=I .u8 ((z.toNat:Nat):Int)::_;rw[Int.toNat_of_nonneg hz.1]
  ·rcases List.mem_cons.1 C with rfl | C
   ·omega
   ·exact h3 x C
abbrev PtQ:N->List V->Prop:=fun _ cs=>iY (List.replicate 32 .u8 ++ [.i64]) cs
abbrev HdQ:N->List V->Prop:=fun _ cs=>iY (List.replicate 32 .u8++(List.replicate 32 .u8 ++ [.i64])) cs
abbrev Vlp:N->List V->Prop:=fun _ cs=>iY [.i64] cs
abbrev KV:N->List V->Prop:=nZ [PtQ,oM 1 Dz]
abbrev Ir:N->List V->Prop:=nZ [Vlp,Dz]
abbrev Ix:N->List V->Prop:=nZ [oM 34 KV,oM 2 Ir,Vlp]
abbrev Iv:N->List V->Prop:=nZ [HdQ,oM 3 Ix]
def Vkz{h:N}{cs:List V}(q:KV h cs):∃ x:ik,cs=x.cells/\xO h x:=by
 obtain⟨c1,r1,rfl,q1,c2,r2,rfl,C,q3⟩:=q;obtain rfl:r2=[]:=q3;obtain⟨ds,r,rfl,l1,P,e⟩:=K4 32 q1;obtain⟨z,r',rfl, -,e⟩:=e;obtain rfl:r'=[]:=e;obtain⟨v,rfl⟩:∃ v,c2=[v]:=by obtain⟨v,_,e,_⟩:=C;exact⟨v,e⟩
 obtain⟨its,s,n,a,l⟩:=J75 C;exact⟨⟨⟨ds,z,l1⟩,v,its⟩,rfl,s,a,n,l,P⟩
def Vf8{h:N}{cs:List V}(q:Ir h cs):∃ x:fm,cs=x.cells/\sq h x:=by
 obtain⟨c1,r1,rfl,q1,P,r2,rfl,C,q3⟩:=q;obtain rfl:r2=[]:=q3;obtain⟨z,r',rfl, -,e⟩:=q1;obtain rfl:r'=[]:=e;obtain⟨v,rfl⟩:∃ v,P=[v]:=by obtain⟨v,_,e,_⟩:=C;exact⟨v,e⟩
 obtain⟨xs,s,b,n⟩:=Vhz C;exact⟨⟨z,v,xs⟩,rfl,s,b,n⟩
def Vj0{h:N}{cs:List V}(q:Ix h cs):∃ x:iq,cs=x.cells/\u_ h x:=by
 obtain⟨c1,r1,rfl,P,c2,r2,rfl,q2,c3,r3,rfl,q3,q4⟩:=q;obtain rfl:r3=[]:=q4;obtain⟨z,r',rfl, -,e⟩:=q3;obtain rfl:r'=[]:=e;obtain⟨v,rfl⟩:∃ v,c1=[v]:=by obtain⟨v,_,e,_⟩:=P;exact⟨v,e⟩
 obtain⟨w,rfl⟩:∃ v,c2=[v]:=by obtain⟨v,_,e,_⟩:=q2;exact⟨v,e⟩
 obtain⟨ins,s1, -,a1⟩:=DW (cells:=ik.cells) (fun cs C=>Vkz C.1) P;obtain⟨outs,s2, -,a2⟩:=DW (cells:=fm.cells) (fun cs C=>Vf8 C.1) q2;exact⟨⟨v,w,ins,outs,z⟩,rfl,s1,a1,s2,a2⟩
def Vg5{h:N}{cs:List V}(q:Iv h cs):∃ x:hY,cs=x.cells/\qJ h x:=by
 obtain⟨c1,r1,rfl,C,c2,r2,rfl,P,q3⟩:=q;obtain rfl:r2=[]:=q3;obtain⟨ds,r,rfl,l1,b1,C⟩:=K4 32 C;obtain⟨es,r,rfl,l2,b2,e⟩:=K4 32 C;obtain⟨z,r',rfl, -,e⟩:=e;obtain rfl:r'=[]:=e;obtain⟨v,rfl⟩:∃ v,c2=[v]:=by obtain⟨v,_,e,_⟩:=P;exact⟨v,e⟩
 obtain⟨txs,s,n,a⟩:=DW (cells:=iq.cells) (fun cs hc=>Vj0 hc.1) P;exact⟨⟨ds,es,z,v,txs⟩,by simp[hY.cells,jZ],s,a,n,⟨l1,l2⟩,b1,b2⟩
def Vc6{h:N}{v:V}(q:oM 66 Iv h [v]):∃ l,n_ h v l:=by
 obtain⟨l,s,n,a⟩:=DW (cells:=hY.cells) (fun cs C=>Vg5 C.1) q;exact⟨l,s,n,a⟩
def Ha:sS Dz:=oM.stable (yC _)
def Tw{C P:N->List V->Prop}(h1:sS C)(h2:sS P):sS (nZ [C,P]):=nZ.stable fun Q hQ=>by
 simp only[List.mem_cons,List.not_mem_nil,or_false]at hQ;rcases hQ with rfl | rfl
 ·exact h1
 ·exact h2
def O4:sS KV:=Tw (yC _) (oM.stable Ha)
def TA:sS Ir:=Tw (yC _) Ha
def OV:sS Ix:=nZ.stable fun Q C=>by
 simp only[List.mem_cons,List.not_mem_nil,or_false]at C;rcases C with rfl | rfl | rfl
 ·exact oM.stable O4
 ·exact oM.stable TA
 ·exact yC _
def Vm2:sS Iv:=Tw (yC _) (oM.stable OV)
def Au(t:TypeId):Array Field:=match Tryz.prog.underlying t with
 | some (.struct C)=>C
 | _ => #[]
def rP(t:TypeId)(i:Nat):Field:=((Au t)[i]?).getD default
section
variable{H:Type}{enc:TypeId × V->H}{W:World}
def Z4b:rO enc Tryz.prog ⟨nv,W.heap.size⟩ W 28 Dz:=Em (e:=5) rfl (by kernel_rfl) (by kernel_rfl) jA (by rw[show Tryz.prog.bytesOf 5=1 by kernel_rfl];omega) (yC _) (Hu (by kernel_rfl))
def J35:rO enc Tryz.prog ⟨nv,W.heap.size⟩ W 141 (oM 1 Dz):=Em (e:=28) rfl (by kernel_rfl) (by kernel_rfl) jA (by rw[show Tryz.prog.bytesOf 28=24 by kernel_rfl];omega) Ha Z4b
def Vdb:rO enc Tryz.prog ⟨nv,W.heap.size⟩ W 143 KV:=by
 refine LL (fs:=Au 143) (by kernel_rfl) ?_ (by kernel_rfl);rw[show(Au 143).toList=[rP 143 0,rP 143 1] by kernel_rfl];refine⟨by kernel_rfl,?_,yC _,by kernel_rfl,?_,oM.stable Ha,trivial⟩
 ·rw[show(rP 143 0).type=77 by kernel_rfl];exact Hu (by kernel_rfl)
 ·rw[show(rP 143 1).type=141 by kernel_rfl];exact J35
def J5o:rO enc Tryz.prog ⟨nv,W.heap.size⟩ W 68 Ir:=by
 refine LL (fs:=Au 68) (by kernel_rfl) ?_ (by kernel_rfl);rw[show(Au 68).toList=[rP 68 0,rP 68 1] by kernel_rfl];refine⟨by kernel_rfl,?_,yC _,by kernel_rfl,?_,Ha,trivial⟩
 ·rw[show(rP 68 0).type=3 by kernel_rfl];exact Hu (by kernel_rfl)
 ·rw[show(rP 68 1).type=28 by kernel_rfl];exact Z4b
def J8k:rO enc Tryz.prog ⟨nv,W.heap.size⟩ W 90 (oM 34 KV):=Em (e:=143) rfl (by kernel_rfl) (by kernel_rfl) jA (by rw[show Tryz.prog.bytesOf 143=64 by kernel_rfl];omega) O4 Vdb
def Jzc:rO enc Tryz.prog ⟨nv,W.heap.size⟩ W 31 (oM 2 Ir):=Em (e:=68) rfl (by kernel_rfl) (by kernel_rfl) jA (by rw[show Tryz.prog.bytesOf 68=32 by kernel_rfl];omega) TA J5o
def Vds:rO enc Tryz.prog ⟨nv,W.heap.size⟩ W 92 Ix:=by
 refine LL (fs:=Au 92) (by kernel_rfl) ?_ (by kernel_rfl);rw[show(Au 92).toList=[rP 92 0,rP 92 1,rP 92 2] by kernel_rfl];refine⟨by kernel_rfl,?_,oM.stable O4,by kernel_rfl,?_,oM.stable TA,by kernel_rfl,?_,yC _,trivial⟩
 ·rw[show(rP 92 0).type=90 by kernel_rfl];exact J8k
 ·rw[show(rP 92 1).type=31 by kernel_rfl];exact Jzc
 ·rw[show(rP 92 2).type=3 by kernel_rfl];exact Hu (by kernel_rfl)
def J89:rO enc Tryz.prog ⟨nv,W.heap.size⟩ W 42 (oM 3 Ix):=Em (e:=92) rfl (by kernel_rfl) (by kernel_rfl) jA (by rw[show Tryz.prog.bytesOf 92=56 by kernel_rfl];omega) OV Vds
def J6x:rO enc Tryz.prog ⟨nv,W.heap.size⟩ W 44 Iv:=by
 refine LL (fs:=Au 44) (by kernel_rfl) ?_ (by kernel_rfl);rw[show(Au 44).toList=[rP 44 0,rP 44 1] by kernel_rfl];refine⟨by kernel_rfl,?_,yC _,by kernel_rfl,?_,oM.stable OV,trivial⟩
 ·rw[show(rP 44 0).type=41 by kernel_rfl];exact Hu (by kernel_rfl)
 ·rw[show(rP 44 1).type=42 by kernel_rfl];exact J89
def J08:rO enc Tryz.prog ⟨nv,W.heap.size⟩ W 22 (oM 66 Iv):=Em (e:=44) rfl (by kernel_rfl) (by kernel_rfl) jA (by rw[show Tryz.prog.bytesOf 44=96 by kernel_rfl];omega) Vm2 J6x
end
end Go.Proofs.YtbhojjejgmfgmaaGreatDoor
end
