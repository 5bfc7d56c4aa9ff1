import Derived.Test.YtbhojjejgmfgmaaGreatDoorLgI
set_option linter.all false
set_option maxHeartbeats 1000000
open List renaming length→L
open Option renaming some→U,none→O
open Bool renaming true→Y,false→J
open Go renaming Value→V
open Go.Value renaming int→I,slice→M
open Go.IntKind renaming i64→X
open Go.Ab.Blk renaming cells→S
noncomputable section
namespace Go.Proofs.YtbhojjejgmfgmaaGreatDoor
open Go Go.Ab
set_option maxRecDepth 100000
variable(b:Nat)(x:Int){h:N}
def Jtr(h:N)(K:KP)(C:K (.ret (.bool J)) h):FK b 77 [I X x] h K:=by
 refine iI b (VL b) Yxs rfl ?_;simp[Xtb,Za0,VL,Yyj,Wi,Xd,qS,qT,Xu,qV,qU,qR,qX,qW,Q6,Qv,Zk,Z6,iN,Qg,gS,Ab.g0,gv,gs,Q7,Qd,g_,kH,kU,Qh,Tr.H,St.put,Tm.put,flat,i5,Xa,Yx,Qm,Qp,Qn,Qo,Qk,Ql,Qj,Qq,Qi,Q9,Q8,qQ,qO,qN,qP,ri,rh,rc,qY,qZ,q_,rj,Xs.putAll,Qr,Q0,Qb,Qa];exact C
def wg(x y:Int):Int:=if x < y then -1 else if y < x then 1 else 0
attribute [local simp] Xd qS qT Xu qV qU qR qX qW Q6 Qv Zk Z6 iN Qg gS Ab.g0 gv gs Q7 Qd g_ kH kU Qh Tr.H St.put Tm.put flat i5 Xa Yx Qm Qp Qn Qo Qk Ql Qj Qq Qi Q9 Q8 qQ qO qN qP ri rh rc qY qZ q_ rj Xs.putAll Qr Q0 Qb Qa
section
attribute [local simp] Qn5 Qv8 Gp Qry VL Qqh Qq9 Qq7
def Jyz(y:Int)(h:N)(K:KP)(P:K (.ret (I X (wg x y))) h):FK b 48 [I X x,I X y] h K:=by
 refine iI b (Gp b) Ykx rfl ?_;simp;refine Jtr b x h _ ?_;simp;refine Jtr b y h _ ?_;unfold wg at P;by_cases h1:x < y
 ·simp[h1];simpa[h1]using P
 ·by_cases C:y < x
  ·simp[h1,C];simpa[h1,C]using P
  ·simp[h1,C];simpa[h1,C]using P
end
def Zu5:∀ xs:List Int,yu (xs.map i8)=U xs
 | []=>rfl
 | x::xs=>by rw[aK,i8,yu,Zu5 xs]
def Aw:List Int->Int
 | []=>0
 | x::l=>if x=0 then Aw l else x
def ORI(v:V)(C:List Int)(h:N)(k:Nat)(s:St):Prop:=∃ (t:Tr V) (i:Nat),s=⟨⟨18,t⟩,[],h⟩/\t.A 3=U (I X 0)/\t.A 6=U v/\t.A 7=U (I X (L C:Int))/\t.A 8=U (I X (i:Int))/\i<=L C/\k=L C-i/\Aw C=Aw (C.drop i)
section
attribute [local simp] Q24 Xic Ft Xas Xap Xao kQ Wi 
def Vka{v:V}{C:List Int}(s:Sl h 1 v (L C) (C.map (I X)))(hn:L C < 1000)(K:KP)(hk:K (.ret (I X (Aw C))) h):FK b 46 [v] h K:=by
 refine iI b (Ft b) Zkp rfl ?_;have len:∀ hx,iP (E b).toiS 156 v hx=U (I X (L C:Int)):=fun hx=>ja (Viq b) s;simp[len];refine jE (ORI v C h) (L C) ⟨_,0,rfl,kA,kA,kA,kA,jA,rfl,rfl⟩ ?_;rintro k s' ⟨t,i,rfl,t3,t6,t7,t8,hi,rfl,ho⟩ -;by_cases T:i < L C
 ·have P:(i:Int) < (L C:Int):=jA
  have hw:=wS (i:=i) jA;obtain⟨x,hx⟩:∃ x,C[i]? = U x:=⟨_,List.getElem?_eq_getElem T⟩;obtain⟨bk,off,q1,q2,q3, -⟩:=o_ (Viq b) Jra s (k:=.i64) (i:=(i:Int)) jA jA;have c0:Jr h bk off=U (I X x):=by
   have:=q3 0 jA;simpa[hx]using this
  rw[aS T,(List.getElem?_eq_some_iff.1 hx).2,Aw]at ho;by_cases h0:x=0
  ·rw[if_pos h0]at ho;simp[t3,t6,t7,t8,P,q2,c0,h0,hw];exact⟨L C-(i+1),jA,_,i+1,rfl,by simp[t3],by simp[t6],by simp[t7],kA,jA,rfl,ho⟩
  ·rw[if_neg h0]at ho;rw[ho]at hk;simp[t3,t6,t7,t8,P,q2,c0,h0];exact hk
 ·have P:¬ (i:Int) < (L C:Int):=jA
  have : i=L C:=jA
  subst this;rw[cK]at ho;rw[ho]at hk;simp[t3,t6,t7,t8];exact hk
end
def J9r{A B:Type}{f:A->B}:∀ {l:List A},(l.map f).Nodup->∀ {x y:A},x ∈ l->y ∈ l->f x=f y->x=y
 | a::l,nd,x,y,hx,hy,e=>by
  rw[aK,cR]at nd;by_cases h1:x=a
  ·by_cases P:y=a
   ·rw[h1,P]
   ·have C:y ∈ l:=(by simpa[P]using hy);exact absurd (am.2 ⟨y,C,by rw[<- e,h1]⟩) nd.1
  ·have T:x ∈ l:=by simpa[h1]using hx
   by_cases P:y=a
   ·exact absurd (am.2 ⟨x,T,by rw[e,P]⟩) nd.1
   ·have C:y ∈ l:=(by simpa[P]using hy);exact J9r nd.2 T C e
def Pe{A B:Type}{f:A->B}{l:List A}(h:(l.map f).Nodup):l.Nodup:=by
 induction l with
 | nil=>simp
 | cons a l ih =>
  rw[aK,cR]at h;rw[cR];exact⟨fun q=>h.1 (am.2 ⟨a,q,rfl⟩),ih h.2⟩
def Vaa(h:N)(x:Pt):∃ P C,jh (E b).toiS 77 h=U (pO h.Q 0,P)/\j0 (E b).toiS 77 (pO h.Q 0) (.agg ⟨x.cells⟩) P=U C/\C.A h.Q=U (S Y 1 x.cells)/\iz C h.Q 0 33=U (.agg ⟨x.cells⟩)/\a_ h C/\C.Q=h.Q+1:=by
 obtain⟨z,T⟩:∃ z:List V,z=[I .u8 0,I .u8 0,I .u8 0,I .u8 0,I .u8 0,I .u8 0,I .u8 0,I .u8 0,I .u8 0,I .u8 0,I .u8 0,I .u8 0,I .u8 0,I .u8 0,I .u8 0,I .u8 0,I .u8 0,I .u8 0,I .u8 0,I .u8 0,I .u8 0,I .u8 0,I .u8 0,I .u8 0,I .u8 0,I .u8 0,I .u8 0,I .u8 0,I .u8 0,I .u8 0,I .u8 0,I .u8 0,I X 0]:=⟨_,rfl⟩;have lz:L z=33:=by rw[T];rfl
 have e:=pc b h;rw[<- T]at e;have g:(h.push (S Y 1 z)).A h.Q=U (S Y 1 z):=by rw[N.F,if_pos rfl]
 have lt:=N.D g;have d:(z.take 0++x.cells++z.drop (0+L x.cells))=x.cells:=by rw[bW (by rw[Pt.len,lz];omega)];simp
 refine⟨_,(h.push (S Y 1 z)).set h.Q (U (S Y 1 x.cells)),e,?_,by rw[gY lt,if_pos rfl],?_,(a_.push _ _).set _ (ac _) lt,rfl⟩
 ·rw[uU (l:=x.cells) (yd b) (by rw[Pt.len,B8]),kI g (by rw[Pt.len,lz];omega),d]
 ·rw[Uh (by rw[gY lt,if_pos rfl]) (by rw[Pt.len];omega),bw,ai (by rw[Pt.len];omega)]
def Jxr(h:N)(C:V)(hm:lN C=Y/\C.cells = #[C])(K:KP)(hk:∀ h',h'.A h.Q=U (S Y 1 [C])->a_ h h'->h'.Q=h.Q+1->K (.ret (.func (.func 75) #[] #[pO h.Q 0])) h'):FK b 44 [C] h K:=by
 refine iI b (Wf b) Qo8 rfl ?_;obtain⟨T,P⟩:∃ T,T=h.push (S Y 1 [C]):=⟨_,rfl⟩;have bx:jP C h=U (pO h.Q 0,T):=by simp[jP,P,hm.1,hm.2]
 simp[Qfq,Qpu,Wf,bx];exact hk T (by rw[P,N.F,if_pos rfl]) (by rw[P];exact a_.push _ _) (by rw[P];rfl)
def K1I(A l R mb P:Nat)(T:List PE)(I_:List PE->N->Prop)(k:Nat)(s:St):Prop:=∃ (t:Tr V) (g:N) (C:List PE),s=⟨⟨14,t⟩,[],g⟩/\t.A 0=U (.func (.yield l) #[] #[])/\t.A 5=U (pO R 0)/\k=L T-L C/\g.A R=U (.obj (.mapIter (U mb) P ⟨C.map (·.born)⟩ P))/\(∀ x ∈ C,x ∈ T)/\(C.map (·.born)).Nodup/\I_ C g
section
attribute [local simp] U6 Wa Vv vh yF
def Vji{l A mb P:Nat}{es:List PE}(h:N)(K:KP)(I_:List PE->N->Prop)(B:oT (es.map PE.e) P)(hI:I_ [] h)(h1:∀ C g,I_ C g->g.A A=U (S Y 1 [.map (U mb)])/\g.A mb=U (.map ⟨es.map PE.e⟩ P)/\∃ st pe t ps an bd d,g.A l=U (.obj (.loop st pe t ps an bd d))/\∀ p:Pt,qv t.size ps.toList [.agg ⟨p.cells⟩]=Y)(hn:∀ C g g',I_ C g->g.Q<=g'.Q->(∀ c,c < g.Q->c≠h.Q->g'.A c=g.A c)->I_ C g')(hr:∀ C g e (K:KP),I_ C g->h.Q+1<=g.Q->e ∈ es->L C < L es->(∀ g',I_ (C ++ [e]) g'->g.Q<=g'.Q->g'.A h.Q=g.A h.Q->K (.ret (.bool Y)) g')->zI Tryz.prog (E b).G l [.agg ⟨e.key.cells⟩] g K)(hk:∀ C g,C.Perm es->I_ C g->K (.ret (.tuple #[])) g):fx Tryz.prog (E b).G 75 [.func (.yield l) #[] #[],pO A 0] h K:=by
 refine kW (E b) (kE _ _) (Wh b) (Vm b) ie (Ws b) (Vv b) VQ.1 VQ.2.1 VQ.2.2 rfl ?_;obtain⟨gA,gm, -⟩:=h1 _ _ hI;have cA:Jr h A 0=U (.map (U mb)):=by rw[Zy gA];rfl
 obtain⟨T,eI⟩:∃ T,T=h.push (.obj (.mapIter (U mb) P #[] P)):=⟨_,rfl⟩;have aI:=jt eI;have gI:T.A h.Q=U (.obj (.mapIter (U mb) P ⟨[]⟩ P)):=by rw[eI,N.F,if_pos rfl]
 have md:Nl.desc=.map 77 75:=kR
 have rg:ym (E b).toiS 69 (.map (U mb)) h=U (pO h.Q 0,T):=by
  rw[eI];simp only[ym,Bv,md,gm]
 simp[pc,cA,rg];refine jE (K1I A l h.Q mb P es I_) (L es) ⟨_,T,[],rfl,kA,kA,kA,gI,kA,kA,hn _ _ _ hI aI.1 fun c hc _=>aI.2 c hc⟩ ?_;rintro k s' ⟨t,g,C,rfl,t0,t5,rfl,it,hb,s1,Z'⟩ -;obtain⟨a1,hp,st,pe,tl,ps,an,bd,d,q3,q4⟩:=h1 _ _ Z';obtain⟨ne,nx⟩:=Juo B it hp;simp[pc];refine J9k (it:=pO h.Q 0) (by simp[t5]) rfl ne fun y hy => ?_;have lI:=N.D it;rcases nx y hy with⟨ls,rfl⟩ | ⟨e,he,hv,rfl⟩
 ·simp[pc,t0,t5];refine hk C g ?_ Z';have q1:(es.map (·.born)).Nodup:=by
   have:=B.nd;rw[cE]at this;exact this
  refine(d7 (Pe s1) (Pe q1)).2 fun x=>⟨hb x,fun hx => ?_⟩;obtain⟨y,q2,hm⟩:=am.1 (ls x.e (am.2 ⟨x,hx,rfl⟩));rw[<- J9r q1 (hb y q2) hx hm];exact q2
 ·obtain⟨x,hx,rfl⟩:=am.1 he;obtain⟨h2,e2⟩:∃ h2,h2=g.set h.Q (U (.obj (.mapIter (U mb) P ⟨C.map (·.born) ++ [x.e.born]⟩ P))):=⟨_,rfl⟩;have g2:h2.A h.Q=U (.obj (.mapIter (U mb) P ⟨C.map (·.born) ++ [x.e.born]⟩ P)):=by rw[e2,gY lI,if_pos rfl]
  have k2:∀ c,c≠h.Q->h2.A c=g.A c:=fun c hc=>by rw[e2,gY lI,if_neg (Ne.symm hc)]
  have n2:h2.Q=g.Q:=by rw[e2];rfl
  have hq:h2.A mb=U (.map ⟨es.map PE.e⟩ P):=by
   rw[k2 mb fun e=>by rw[e,it]at hp;cases hp];exact hp
  have en:=Jh5 B g2 hq he;obtain⟨hA,hB,hf,re,gB,lB,oB,nB⟩:=Vaa b h2 x.key;have e1:I_ C hB:=hn C g hB Z' (by rw[<- n2];exact oB.1) fun c hc hC=>by rw[oB.2 c (by rw[n2];exact hc),k2 c hC]
  obtain⟨-, -,st,pe,tl,ps,an,bd,d,q3,q4⟩:=h1 _ _ e1;have gR:hB.A h.Q=U (.obj (.mapIter (U mb) P ⟨C.map (·.born) ++ [x.e.born]⟩ P)):=oB.A g2;have h4:((C ++ [x]).map (·.born)).Nodup:=by
   rw[bg,cG];exact⟨s1,kA,fun a ha c hc q=>by simp at hc;subst hc;exact hv (by rw[q]at ha;exact ha)⟩
  have h3:∀ y ∈ C ++ [x],y ∈ es:=fun y hy=>by
   rcases ab.1 hy with q | q
   ·exact hb y q
   ·rw[aU.1 q];exact hx
  have hg:=ft (Pe h4) h3;rw[ah,d8]at hg;rw[<- e2];simp only[PE.e]at en;have q4:=q4 x.key;simp[pc,t0,t5,PE.e,en,-pc,hf,re,lB,u6,q3,q4];refine hr C hB x _ e1 (by have:=N.D gR;omega) hx jA fun g' T g1 hz => ?_;simp[pc,t0,t5];exact⟨L es-(L C+1),jA,_,g',C ++ [x],rfl,by simp[t0],by simp[t5],kA,by rw[hz,gR];simp[PE.e],h3,h4,T⟩
end
def y8:Code:=Cj (mf (Y6 113))
def yZ:Code:=Cm (mf (Y6 113))
def Vcr:mf (Y6 113)=.rangeFunc (.tmp 6) #[7] y8 yZ:=kR
def Vjj:Uz y8=Qmn:=kR
def Vjd:Uz yZ=Qmk:=kR
structure ASI (h:N) (V_ D L_ N_:Nat) (tl:Tm) (vis:List PE) (g:N):Prop where
 gd:g.A D=U (.obj .defs)
 gl:g.A L_=U (.obj (.loop .ready O tl #[7] y8 yZ D))
 gv:∃ ov,g.A V_=U (S Y 1 [ov])/\ig g N_ 33 ov (L (vis.map (·.key))) (pI (vis.map (·.key)))
 n:N_<=g.Q+1
 R:a_ h g
section
def Vgb{A mb hq:Nat}{es:List PE}(gA:h.A A=U (S Y 1 [.map (U mb)]))(gm:h.A mb=U (.map ⟨es.map PE.e⟩ hq))(B:oT (es.map PE.e) hq)(hn:L es < 1000000)(K:KP)(hk:∀ v' h' l',l'.Perm (es.map (·.key))->ig h' h.Q 33 v' (L l') (pI l')->a_ h h'->K (.ret v') h'):fx Tryz.prog (E b).G 113 [M O 0 0,.func (.func 75) #[] #[pO A 0]] h K:=by
 refine kW (E b) (kE _ _) (Wh b) (Vm b) ie (Ws b) (Ka b) YM.1 YM.2.1 YM.2.2 rfl ?_;obtain⟨C,eV⟩:∃ C,C=h.push (S Y 1 [M O 0 0]):=⟨_,rfl⟩;have bx:jP (M O 0 0) h=U (pO h.Q 0,C):=by rw[eV];rfl
 have aV:=jt eV;have gV:C.A h.Q=U (S Y 1 [M O 0 0]):=by rw[eV,N.F,if_pos rfl]
 have nV:=nQ eV;simp[WG,Qre,Ka,Qpj,TJ,bx,Vcr];refine BP (first:=#[]) (captured:=#[pO A 0]) kA (Vv b) ?_;generalize hz:Tm.mk 13 _=TL;have e2:TL.t.A 2=U (pO h.Q 0):=by rw[<- hz];simp
 have hp:TL.size=13:=by rw[<- hz]
 have ls:TL=⟨13,TL.t⟩:=by rw[<- hp]
 obtain⟨h0,e0⟩:∃ h0,h0=(C.push (.obj .defs)).push (.obj (.loop .ready O TL #[7] y8 yZ C.Q)):=⟨_,rfl⟩;have n0:h0.Q=h.Q+3:=by rw[e0];simp only[kn,nV]
 have a0:a_ C h0:=by rw[e0];exact(a_.push _ _).trans (a_.push _ _)
 have g0:=a0.A gV;rw[<- e0];refine Vji b (l:=C.Q+1) h0 _ (ASI h h.Q C.Q (C.Q+1) (h0.Q+1) TL) B ⟨?_,?_,⟨_,g0,ig.nil⟩,jA,aV.trans a0⟩ (fun T g i=>⟨i.R.A gA,i.R.A gm,_,_,_,_,_,_,_,i.gl,fun p=>by rw[hp];rfl⟩) ?_ ?_ ?_
 ·rw[e0];simp (disch:=first | omega | (simp only[kn,nJ];done) | (simp only[kn,nJ];omega)) only[tY,tZ,ua,t_]
 ·rw[e0];simp (disch:=first | omega | (simp only[kn,nJ];done) | (simp only[kn,nJ];omega)) only[tY,tZ,ua,t_]
 ·intro T g g' i hu hg;obtain⟨ov,q1,q2⟩:=i.gv;have lD:=N.D i.gd;have lL:=N.D i.gl;have lV:=N.D q1;refine⟨by rw[hg _ lD jA];exact i.gd,by rw[hg _ lL jA];exact i.gl,⟨ov,by rw[hg _ lV jA];exact q1,q2.keep fun c P hl=>hg c hl fun e => ?_⟩,by have:=i.n;omega,⟨ak i.R.1 hu,fun c P=>by rw[hg c (aw P i.R.1) jA,i.R.2 c P]⟩⟩;have:=(q2.from P).1;omega
 ·intro T g x K' i p1 hx a2 hK;refine Lq (E b) (kE _ _) (Wh b) (Vm b) ie i.gl (by rw[hp];rfl) Vjj Vjd ?_;obtain⟨ov,q1,q2⟩:=i.gv;have lV:=N.D q1;have lL:=N.D i.gl;obtain⟨hA,hB,re,lb,gX,lX,oX,nX⟩:=Vaa b g x.key;have he:=N.D (oX.A i.gl);obtain⟨hC,eC⟩:∃ hC,hC=hB.set (C.Q+1) (U (.obj (.loop .busy O TL #[7] y8 yZ C.Q))):=⟨_,rfl⟩;have kC:∀ c,c≠C.Q+1->hC.A c=hB.A c:=fun c P=>by rw[eC,gY he,if_neg (Ne.symm P)]
  have e1:hC.A (C.Q+1)=U (.obj (.loop .busy O TL #[7] y8 yZ C.Q)):=by rw[eC,gY he,if_pos rfl]
  have nC:hC.Q=hB.Q:=by rw[eC];rfl
  have hm:ig hC (h0.Q+1) 33 ov (L (T.map (·.key))) (pI (T.map (·.key))):=q2.keep fun c P hl=>by rw[kC c (fun e=>by have:=(q2.from P).1;omega),oX.2 c hl]
  have cV:Jr hC h.Q 0=U ov:=by rw[Zy ((kC _ jA).trans (oX.A q1))];rfl
  have lC:iz hC g.Q 0 33=U (.agg ⟨x.key.cells⟩):=oJ ((kC _ jA).trans gX) (by rw[Pt.len];omega) (by rw[Pt.len];omega);have bl:Wc (E b).toiS 51 1 [(0,.agg ⟨x.key.cells⟩)] hC=U (M (U ⟨hC.Q,0,O⟩) 1 1,hC.push (S Y 1 x.key.cells)):=u7 (ES b) (z:=33) B8 jA jA (y:=.agg ⟨x.key.cells⟩) rfl (ys:=x.key.cells) rfl (Pt.len x.key);have g2:h0.Q+1<=hC.Q:=by have:=oX.1;omega
  obtain⟨v6,h6,k1,k2,k3⟩:=HM (ES b) (z:=33) B8 jA hm g2 (ys:=x.key.cells) (Pt.len x.key) (by rw[J4t];simp;omega) (by simp;omega);have m0:∀ c,Vn ov=U c->h0.Q+1<=c:=fun c P=>(hm.from P).1;have g6:∀ c,c < h0.Q+1->h6.A c=hC.A c:=fun c P=>k3.2 c jA fun e=>by have:=m0 c e;omega
  have s1:h6.A h.Q=U (S Y 1 [ov]):=by
   rw[g6 _ jA,kC _ jA];exact oX.A q1
  have s':=N.D s1;obtain⟨h7,e7⟩:∃ h7,h7=h6.set h.Q (U (S Y 1 [v6])):=⟨_,rfl⟩;have tR:Wp h6 h.Q 0 [v6]=U h7:=by rw[e7];exact oF s1 kA
  have k7:∀ c,c≠h.Q->h7.A c=h6.A c:=fun c P=>by rw[e7,gY s',if_neg (Ne.symm P)]
  have a1:h7.A h.Q=U (S Y 1 [v6]):=by rw[e7,gY s',if_pos rfl]
  have n7:h7.Q=h6.Q:=by rw[e7];rfl
  have hy:=k2.sl.one;have hf:=oX.A i.gl;have Z':h7.A (C.Q+1)=U (.obj (.loop .busy O TL #[7] y8 yZ C.Q)):=by
   rw[k7 _ jA,g6 _ jA];exact e1
  rw[ls]at eC e1 hf Z' ⊢;simp[Qmn,pc,qz,Co,-pc,re,lb,hf,<- eC];simp[Qmk,TJ,yF,e2,cV,lC,bl,k1,Vj8,hy,tR];have l7:=N.D Z';obtain⟨h8,e8⟩:∃ h8,h8=h7.set (C.Q+1) (U (.obj (.loop .ready O TL #[7] y8 yZ C.Q))):=⟨_,rfl⟩;have k8:∀ c,c≠C.Q+1->h8.A c=h7.A c:=fun c P=>by rw[e8,gY l7,if_neg (Ne.symm P)]
  have n8:h8.Q=h7.Q:=by rw[e8];rfl
  have hr:∀ c,c < h0.Q+1->c≠h.Q->c≠C.Q+1->c < g.Q->h8.A c=g.A c:=fun c h1 h2 h3 h4=>by rw[k8 c h3,k7 c h2,g6 c h1,kC c h3,oX.2 c h4]
  have nn:g.Q<=h8.Q:=by have:=oX.1;have:=k3.1;omega
  refine Cr (st:=.busy) (pe:=O) (t2:=⟨13,TL.t⟩) (ps2:=#[7]) (as2:=y8) (bd2:=yZ) (d2:=C.Q) Z' ?_;rw[<- ls,<- e8];refine hK h8 ⟨?_,?_,⟨v6,?_,?_⟩,jA,⟨ak i.R.1 nn,fun c P => ?_⟩⟩ nn ?_
  ·rw[hr _ jA jA jA (N.D i.gd)];exact i.gd
  ·rw[e8,gY l7,if_pos rfl]
  ·rw[k8 _ jA];exact a1
  ·have e:pI ((T ++ [x]).map (·.key))=pI (T.map (·.key))++x.key.cells:=by simp[pI]
   rw[e,bg,ah];exact k2.keep fun c P hl=>by
    have:=(k2.from P).1;rw[k8 c jA,k7 c jA]
  ·rw[hr c jA jA jA (aw P i.R.1)];exact i.R.2 c P
  ·exact hr _ jA jA jA jA
 ·intro T g p i;refine Ce kA i.gl ?_;obtain⟨ov,q1,q2⟩:=i.gv;have lL:=N.D i.gl;obtain⟨g1,hb⟩:∃ g1,g1=g.set (C.Q+1) O:=⟨_,rfl⟩;have k1:∀ c,c≠C.Q+1->g1.A c=g.A c:=fun c P=>by rw[hb,gY lL,if_neg (Ne.symm P)]
  have n1:g1.Q=g.Q:=by rw[hb];rfl
  have cV:Jr g1 h.Q 0=U ov:=by rw[Zy ((k1 _ jA).trans q1)];rfl
  have gd:g1.A C.Q=U (.obj .defs):=(k1 _ jA).trans i.gd;rw[ls,<- hb];simp[WG,Qre,Ka,Qpj,TJ,e2,cV,gd];have lD:=N.D gd;have k2:∀ c,c≠C.Q->c≠C.Q+1->(g1.set C.Q O).A c=g.A c:=fun c h1 h2=>by rw[gY lD,if_neg (Ne.symm h1),k1 c h2]
  exact hk ov _ (T.map (·.key)) (p.map _) ((q2.keep fun c P hl=>k2 c (fun e=>by have:=(q2.from P).1;omega) fun e=>by have:=(q2.from P).1;omega).low jA) ⟨by show h.Q<=g1.Q;rw[n1];exact i.R.1,fun c P=>by rw[k2 c jA jA];exact i.R.2 c P⟩
def Jxc{A mb C:Nat}{P:List PE}(gA:h.A A=U (S Y 1 [.map (U mb)]))(gm:h.A mb=U (.map ⟨P.map PE.e⟩ C))(B:oT (P.map PE.e) C)(hn:L P < 1000000)(K:KP)(hk:∀ T h' l',l'.Perm (P.map (·.key))->ig h' h.Q 33 T (L l') (pI l')->a_ h h'->K (.ret T) h'):fx Tryz.prog (E b).G 73 [.func (.func 75) #[] #[pO A 0]] h K:=by
 refine kW (E b) (kE _ _) (Wh b) (Vm b) ie (Ws b) (Gm b) Sr.1 Sr.2.1 Sr.2.2 rfl ?_;simp[VE,Q44,Gm,Q04,Ka];refine Vgb b gA gm B hn _ fun T h' l' p o a => ?_;simp[VE,Q44,Gm,Q04,Ka];exact hk T h' l' p o a
end
end Go.Proofs.YtbhojjejgmfgmaaGreatDoor
end
