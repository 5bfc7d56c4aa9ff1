import Derived.Test.YtmgonkaadhbnpaaGreatDoorLgI
set_option linter.all false
set_option maxHeartbeats 1000000
open List renaming length→L
open Option renaming some→U,none→O
open Bool renaming true→Y,false→J
open Go renaming Value→V
open Go.Value renaming int→I,slice→M
open Go.IntKind renaming i64→X
open Go.Ab.Blk renaming cells→S
noncomputable section
namespace Go.Proofs.YtmgonkaadhbnpaaGreatDoor
open Go Go.Ab
set_option maxRecDepth 100000
variable(b:Nat)(x:Int){h:N}
def Ulf(h:N)(K:KP)(j:K (.ret (.bool J)) h):FK b 147 [I X x] h K:=by
 refine ip b (Py b) Zwe rfl ?_;simp[Zr,Z9t,Py,qu,Uu,Qw,p6,p7,X0,p_,p9,p5,qd,qc,Q6,Qt,Yg,Y6,jm,Qg,iD,Ab.g0,gv,gs,Q8,Qd,iH,kH,lr,Qh,Tr.H,St.put,Tm.put,flat,iS,Y5,Qm,Qp,Qn,Qo,Qk,Ql,Qj,Qq,Qi,Q7,Q9,pZ,pX,pW,pY,qn,qk,qj,qf,qg,qi,qq,Qz.putAll,Qr,Q0,Qa];exact j
def vb(x y:Int):Int:=if x < y then -1 else if y < x then 1 else 0
attribute [local simp] Qw p6 p7 X0 p_ p9 p5 qd qc Q6 Qt Yg Y6 jm Qg iD Ab.g0 gv gs Q8 Qd iH kH lr Qh Tr.H St.put Tm.put flat iS Y5 Qm Qp Qn Qo Qk Ql Qj Qq Qi Q7 Q9 pZ pX pW pY qn qk qj qf qg qi qq Qz.putAll Qr Q0 Qa
section
attribute [local simp] Qsy Q1z C8 lN Py lN Qwk Qwi Qwa lN
def Uqy(y:Int)(h:N)(K:KP)(C:K (.ret (I X (vb x y))) h):FK b 107 [I X x,I X y] h K:=by
 refine ip b (C8 b) Y9d rfl ?_;simp;refine Ulf b x h _ ?_;simp;refine Ulf b y h _ ?_;unfold vb at C;by_cases h1:x < y
 ·simp[h1]
  grind
 ·by_cases j:y < x
  ·simp[h1,j]
   grind
  ·simp[h1,j]
   grind
end
def J71:∀ xs:List Int,xY (xs.map i8)=U xs
 | []=>rfl
 | x::xs=>by rw[aH,i8,xY,J71 xs]
def zK:List Int->Int
 | []=>0
 | x::l=>if x=0 then zK l else x
def ORI(v:V)(j:List Int)(h:N)(k:Nat)(s:St):Prop:=∃ (t:Tr V) (i:Nat),s=⟨⟨18,t⟩,[],h⟩/\t.A 3=U (I X 0)/\t.A 6=U v/\t.A 7=U (I X (L j:Int))/\t.A 8=U (I X (i:Int))/\i<=L j/\k=L j-i/\zK j=zK (j.drop i)
section
attribute [local simp] Q9g Xq9 C3 mW yU wh V0 Uu 
def Wcl{v:V}{j:List Int}(s:Sl h 1 v (L j) (j.map (I X)))(hn:L j < 1000)(K:KP)(hk:K (.ret (I X (zK j))) h):FK b 105 [v] h K:=by
 refine ip b (C3 b) Jpm rfl ?_;have len:∀ hx,iC (E b).tojo 225 v hx=U (I X (L j:Int)):=fun hx=>iT (Fl b) s;simp[len];refine iV (ORI v j h) (L j) ⟨_,0,rfl,jA,jA,jA,jA,iA,rfl,rfl⟩ ?_;rintro k s' ⟨t,i,rfl,t3,t6,t7,t8,hi,rfl,P⟩ -;by_cases T:i < L j
 ·have C:(i:Int) < (L j:Int):=iA
  have hw:=wS (i:=i) iA;obtain⟨x,hx⟩:∃ x,j[i]? = U x:=⟨_,ac T⟩;obtain⟨bk,off,q1,q2,q3, -⟩:=mQ (Fl b) DX s (k:=.i64) (i:=(i:Int)) iA iA;have c0:Zq h bk off=U (I X x):=by
   grind
  rw[bh T,(av.1 hx).2,zK]at P;by_cases h0:x=0
  ·rw[if_pos h0]at P;simp[t3,t6,t7,t8,C,q2,c0,h0,hw];exact⟨L j-(i+1),iA,_,i+1,rfl,by simp[t3],by simp[t6],by simp[t7],jA,iA,rfl,P⟩
  ·rw[if_neg h0]at P;rw[P]at hk;simp[t3,t6,t7,t8,C,q2,c0,h0];exact hk
 ·have C:¬ (i:Int) < (L j:Int):=iA
  have : i=L j:=iA
  subst this;rw[cL]at P;rw[P]at hk;simp[t3,t6,t7,t8];exact hk
end
def U2b{A B:Type}{f:A->B}:∀ {l:List A},(l.map f).Nodup->∀ {x y:A},x ∈ l->y ∈ l->f x=f y->x=y
 | a::l,nd,x,y,T,hy,e=>by
  rw[aH,dz]at nd;by_cases h1:x=a
  ·grind
  ·have j:x ∈ l:=by grind
   by_cases P:y=a
   ·grind
   ·have C:y ∈ l:=(by grind);exact U2b nd.2 j C e
def SC{A B:Type}{f:A->B}{l:List A}(h:(l.map f).Nodup):l.Nodup:=by
 induction l with
 | nil=>simp
 | cons a l ih =>
  grind
def U2y(h:N)(x:Pt):∃ C j,jd (E b).tojo 64 h=U (pO h.Q 0,C)/\j9 (E b).tojo 64 (pO h.Q 0) (.agg ⟨x.cells⟩) C=U j/\j.A h.Q=U (S Y 1 x.cells)/\iy j h.Q 0 33=U (.agg ⟨x.cells⟩)/\a_ h j/\j.Q=h.Q+1:=by
 obtain⟨z,P⟩:∃ z:List V,z=[I .u8 0,I .u8 0,I .u8 0,I .u8 0,I .u8 0,I .u8 0,I .u8 0,I .u8 0,I .u8 0,I .u8 0,I .u8 0,I .u8 0,I .u8 0,I .u8 0,I .u8 0,I .u8 0,I .u8 0,I .u8 0,I .u8 0,I .u8 0,I .u8 0,I .u8 0,I .u8 0,I .u8 0,I .u8 0,I .u8 0,I .u8 0,I .u8 0,I .u8 0,I .u8 0,I .u8 0,I .u8 0,I X 0]:=⟨_,rfl⟩;have T:L z=33:=by rw[P];rfl
 have e:=n_ b h;rw[<- P]at e;have g:(h.push (S Y 1 z)).A h.Q=U (S Y 1 z):=by rw[N.F,if_pos rfl]
 have lt:=N.D g;have d:(z.take 0++x.cells++z.drop (0+L x.cells))=x.cells:=by rw[bG (by rw[Pt.len,T];omega)];simp
 refine⟨_,(h.push (S Y 1 z)).set h.Q (U (S Y 1 x.cells)),e,?_,by rw[gY lt,if_pos rfl],?_,(a_.push _ _).set _ (ai _) lt,rfl⟩
 ·rw[qA (l:=x.cells) (xA b) (by rw[Pt.len,uY]),jQ g (by rw[Pt.len,T];omega),d]
 ·rw[V9 (by rw[gY lt,if_pos rfl]) (by rw[Pt.len];omega),ba,aj (by rw[Pt.len];omega)]
def Upi(h:N)(j:V)(T:mg j=Y/\j.cells = #[j])(K:KP)(hk:∀ h',h'.A h.Q=U (S Y 1 [j])->a_ h h'->h'.Q=h.Q+1->K (.ret (.func (.func 145) #[] #[pO h.Q 0])) h'):FK b 103 [j] h K:=by
 refine ip b (Gc b) Qtw rfl ?_;obtain⟨P,C⟩:∃ P,P=h.push (S Y 1 [j]):=⟨_,rfl⟩;have bx:nP j h=U (pO h.Q 0,P):=by simp[nP,C,T.1,T.2]
 simp[Qiy,Qvu,Gc,bx];exact hk P (by rw[C,N.F,if_pos rfl]) (by rw[C];exact a_.push _ _) (by rw[C];rfl)
def K1I(A l R mb clk:Nat)(C:List PE)(P:List PE->N->Prop)(k:Nat)(s:St):Prop:=∃ (t:Tr V) (g:N) (j:List PE),s=⟨⟨14,t⟩,[],g⟩/\t.A 0=U (.func (.yield l) #[] #[])/\t.A 5=U (pO R 0)/\k=L C-L j/\g.A R=U (.obj (.mapIter (U mb) clk ⟨j.map (·.born)⟩ clk))/\(∀ x ∈ j,x ∈ C)/\(j.map (·.born)).Nodup/\P j g
section
attribute [local simp] Uj Qas Vh tT zS ph
def Wby{l A mb clk:Nat}{P:List PE}(h:N)(K:KP)(I_:List PE->N->Prop)(B:o_ (P.map PE.e) clk)(hI:I_ [] h)(h1:∀ j g,I_ j g->g.A A=U (S Y 1 [.map (U mb)])/\g.A mb=U (.map ⟨P.map PE.e⟩ clk)/\∃ st pe t ps an bd d,g.A l=U (.obj (.loop st pe t ps an bd d))/\∀ p:Pt,u9 t.size ps.toList [.agg ⟨p.cells⟩]=Y)(a2:∀ j g g',I_ j g->g.Q<=g'.Q->(∀ c,c < g.Q->c≠h.Q->g'.A c=g.A c)->I_ j g')(hr:∀ j g e (K:KP),I_ j g->h.Q+1<=g.Q->e ∈ P->L j < L P->(∀ g',I_ (j ++ [e]) g'->g.Q<=g'.Q->g'.A h.Q=g.A h.Q->K (.ret (.bool Y)) g')->AP Tryz.prog (E b).G l [.agg ⟨e.key.cells⟩] g K)(hk:∀ j g,j.Perm P->I_ j g->K (.ret (.tuple #[])) g):gr Tryz.prog (E b).G 145 [.func (.yield l) #[] #[],pO A 0] h K:=by
 refine mf (E b) (lQ _ _) (Uc b) (Jh b) iI (Ui b) (Vh b) PJ.1 PJ.2.1 PJ.2.2 rfl ?_;obtain⟨gA,gm, -⟩:=h1 _ _ hI;have cA:Zq h A 0=U (.map (U mb)):=by rw[Z2 gA];rfl
 obtain⟨C,eI⟩:∃ C,C=h.push (.obj (.mapIter (U mb) clk #[] clk)):=⟨_,rfl⟩;have aI:=jG eI;have gI:C.A h.Q=U (.obj (.mapIter (U mb) clk ⟨[]⟩ clk)):=by rw[eI,N.F,if_pos rfl]
 have md:JH.desc=.map 64 73:=kR
 have rg:yI (E b).tojo 67 (.map (U mb)) h=U (pO h.Q 0,C):=by
  rw[eI];simp only[yI,Am,md,gm]
 simp[n_,cA,rg];refine iV (K1I A l h.Q mb clk P I_) (L P) ⟨_,C,[],rfl,jA,jA,jA,gI,jA,jA,a2 _ _ _ hI aI.1 fun c hc _=>aI.2 c hc⟩ ?_;rintro k s' ⟨t,g,j,rfl,t0,t5,rfl,it,T,hn,hb⟩ -;obtain⟨q1,v',st,pe,tl,ps,an,bd,d,q3,q4⟩:=h1 _ _ hb;obtain⟨ne,nx⟩:=Um4 B it v';simp[n_];refine U1v (it:=pO h.Q 0) (by simp[t5]) rfl ne fun y hy => ?_;have lI:=N.D it;rcases nx y hy with⟨h3,rfl⟩ | ⟨e,he,hv,rfl⟩
 ·simp[n_,t0,t5];refine hk j g ?_ hb;have M':(P.map (·.born)).Nodup:=by
   have:=B.nd;rw[bL]at this;exact this
  refine(du (SC hn) (SC M')).2 fun x=>⟨T x,fun hx => ?_⟩;obtain⟨y,h4,hz⟩:=am.1 (h3 x.e (am.2 ⟨x,hx,rfl⟩));rw[<- U2b M' (T y h4) hx hz];exact h4
 ·obtain⟨x,hx,rfl⟩:=am.1 he;obtain⟨h2,e2⟩:∃ h2,h2=g.set h.Q (U (.obj (.mapIter (U mb) clk ⟨j.map (·.born) ++ [x.e.born]⟩ clk))):=⟨_,rfl⟩;have g2:h2.A h.Q=U (.obj (.mapIter (U mb) clk ⟨j.map (·.born) ++ [x.e.born]⟩ clk)):=by rw[e2,gY lI,if_pos rfl]
  have k2:∀ c,c≠h.Q->h2.A c=g.A c:=fun c hc=>by rw[e2,gY lI,if_neg (Ne.symm hc)]
  have n2:h2.Q=g.Q:=by rw[e2];rfl
  have hp:h2.A mb=U (.map ⟨P.map PE.e⟩ clk):=by
   grind
  have en:=V7i B g2 hp he;obtain⟨hA,hB,hq,hg,gB,lB,oB,nB⟩:=U2y b h2 x.key;have e1:I_ j hB:=a2 j g hB hb (by rw[<- n2];exact oB.1) fun c hc q2=>by rw[oB.2 c (by rw[n2];exact hc),k2 c q2]
  obtain⟨-, -,st,pe,tl,ps,an,bd,d,q3,q4⟩:=h1 _ _ e1;have gR:hB.A h.Q=U (.obj (.mapIter (U mb) clk ⟨j.map (·.born) ++ [x.e.born]⟩ clk)):=oB.A g2;have hu:((j ++ [x]).map (·.born)).Nodup:=by
   rw[bF,dZ];exact⟨hn,jA,fun a ha c hc q=>by simp at hc;subst hc;exact hv (by rw[q]at ha;exact ha)⟩
  have hl:∀ y ∈ j ++ [x],y ∈ P:=fun y hy=>by
   rcases ah.1 hy with q | q
   ·exact T y q
   ·rw[bb.1 q];exact hx
  have ho:=fF (SC hu) hl;rw[aJ,cJ]at ho;rw[<- e2];simp only[PE.e]at en;have q4:=q4 x.key;simp[n_,t0,t5,PE.e,en,-n_,hq,hg,lB,AL,q3,q4];refine hr j hB x _ e1 (by have:=N.D gR;omega) hx iA fun g' C g1 a1 => ?_;simp[n_,t0,t5];exact⟨L P-(L j+1),iA,_,g',j ++ [x],rfl,by simp[t0],by simp[t5],jA,by rw[a1,gR];simp[PE.e],hl,hu,C⟩
end
def yD:Code:=ZK (xJ (Y1 176))
def yB:Code:=ZP (xJ (Y1 176))
def U5d:xJ (Y1 176)=.rangeFunc (.tmp 6) #[7] yD yB:=kR
def Wbz:Up yD=Qs9:=kR
def Wbu:Up yB=Qs2:=kR
structure ASI (h:N) (V_ D L_ N_:Nat) (tl:Tm) (vis:List PE) (g:N):Prop where
 gd:g.A D=U (.obj .defs)
 gl:g.A L_=U (.obj (.loop .ready O tl #[7] yD yB D))
 gv:∃ ov,g.A V_=U (S Y 1 [ov])/\ij g N_ 33 ov (L (vis.map (·.key))) (mJ (vis.map (·.key)))
 n:N_<=g.Q+1
 R:a_ h g
section
def U8v{A mb clk:Nat}{es:List PE}(gA:h.A A=U (S Y 1 [.map (U mb)]))(gm:h.A mb=U (.map ⟨es.map PE.e⟩ clk))(B:o_ (es.map PE.e) clk)(hn:L es < 1000000)(K:KP)(hk:∀ v' h' l',l'.Perm (es.map (·.key))->ij h' h.Q 33 v' (L l') (mJ l')->a_ h h'->K (.ret v') h'):gr Tryz.prog (E b).G 176 [M O 0 0,.func (.func 145) #[] #[pO A 0]] h K:=by
 refine mf (E b) (lQ _ _) (Uc b) (Jh b) iI (Ui b) (F1 b) Ri.1 Ri.2.1 Ri.2.2 rfl ?_;obtain⟨j,eV⟩:∃ j,j=h.push (S Y 1 [M O 0 0]):=⟨_,rfl⟩;have bx:nP (M O 0 0) h=U (pO h.Q 0,j):=by rw[eV];rfl
 have aV:=jG eV;have gV:j.A h.Q=U (S Y 1 [M O 0 0]):=by rw[eV,N.F,if_pos rfl]
 have nV:=lT eV;simp[Qy,Qxc,F1,Qvm,NV,bx,U5d];refine U25 (first:=#[]) (captured:=#[pO A 0]) jA (Vh b) ?_;generalize g2:Tm.mk 13 _=TL;have e2:TL.t.A 2=U (pO h.Q 0):=by rw[<- g2];simp
 have e1:TL.size=13:=by grind
 have hy:TL=⟨13,TL.t⟩:=by grind
 obtain⟨h0,e0⟩:∃ h0,h0=(j.push (.obj .defs)).push (.obj (.loop .ready O TL #[7] yD yB j.Q)):=⟨_,rfl⟩;have n0:h0.Q=h.Q+3:=by rw[e0];simp only[oJ,nV]
 have a0:a_ j h0:=by rw[e0];exact(a_.push _ _).trans (a_.push _ _)
 have g0:=a0.A gV;rw[<- e0];refine Wby b (l:=j.Q+1) h0 _ (ASI h h.Q j.Q (j.Q+1) (h0.Q+1) TL) B ⟨?_,?_,⟨_,g0,ij.nil⟩,iA,aV.trans a0⟩ (fun P g i=>⟨i.R.A gA,i.R.A gm,_,_,_,_,_,_,_,i.gl,fun p=>by rw[e1];rfl⟩) ?_ ?_ ?_
 ·rw[e0];simp (disch:=first | omega | (simp only[oJ,wO];done) | (simp only[oJ,wO];omega)) only[I8,JB,II,IG]
 ·rw[e0];simp (disch:=first | omega | (simp only[oJ,wO];done) | (simp only[oJ,wO];omega)) only[I8,JB,II,IG]
 ·intro P g g' i s' hg;obtain⟨ov,q1,q2⟩:=i.gv;have lD:=N.D i.gd;have lL:=N.D i.gl;have lV:=N.D q1;refine⟨by rw[hg _ lD iA];exact i.gd,by rw[hg _ lL iA];exact i.gl,⟨ov,by grind,q2.keep fun c C hl=>hg c hl fun e => ?_⟩,iA,⟨ao i.R.1 s',fun c C=>by rw[hg c (aq C i.R.1) iA,i.R.2 c C]⟩⟩;have:=(q2.from C).1;omega
 ·intro P g x K' i c1 hx hw hK;refine Usk (E b) (lQ _ _) (Uc b) (Jh b) iI i.gl (by rw[e1];rfl) Wbz Wbu ?_;obtain⟨ov,q1,q2⟩:=i.gv;have lV:=N.D q1;have lL:=N.D i.gl;obtain⟨hA,hB,hz,he,gX,lX,oX,nX⟩:=U2y b g x.key;have M':=N.D (oX.A i.gl);obtain⟨T,eC⟩:∃ T,T=hB.set (j.Q+1) (U (.obj (.loop .busy O TL #[7] yD yB j.Q))):=⟨_,rfl⟩;have kC:∀ c,c≠j.Q+1->T.A c=hB.A c:=fun c C=>by rw[eC,gY M',if_neg (Ne.symm C)]
  have s1:T.A (j.Q+1)=U (.obj (.loop .busy O TL #[7] yD yB j.Q)):=by rw[eC,gY M',if_pos rfl]
  have nC:T.Q=hB.Q:=by rw[eC];rfl
  have a1:ij T (h0.Q+1) 33 ov (L (P.map (·.key))) (mJ (P.map (·.key))):=q2.keep fun c C hl=>by rw[kC c (fun e=>by have:=(q2.from C).1;omega),oX.2 c hl]
  have cV:Zq T h.Q 0=U ov:=by rw[Z2 ((kC _ iA).trans (oX.A q1))];rfl
  have lC:iy T g.Q 0 33=U (.agg ⟨x.key.cells⟩):=nZ ((kC _ iA).trans gX) (by rw[Pt.len];omega) (by rw[Pt.len];omega);have bl:V6 (E b).tojo 115 1 [(0,.agg ⟨x.key.cells⟩)] T=U (M (U ⟨T.Q,0,O⟩) 1 1,T.push (S Y 1 x.key.cells)):=oL (vj b) (z:=33) uY iA iA (y:=.agg ⟨x.key.cells⟩) rfl (ys:=x.key.cells) rfl (Pt.len x.key);have re:h0.Q+1<=T.Q:=iA
  obtain⟨v6,h6,k1,k2,k3⟩:=Ca (vj b) (z:=33) uY iA a1 re (ys:=x.key.cells) (Pt.len x.key) (by rw[Uby];simp;omega) (by simp;omega);have q3:∀ c,J7 ov=U c->h0.Q+1<=c:=fun c C=>(a1.from C).1;have g6:∀ c,c < h0.Q+1->h6.A c=T.A c:=fun c C=>k3.2 c iA fun e=>by grind
  have a2:h6.A h.Q=U (S Y 1 [ov]):=by
   rw[g6 _ iA,kC _ iA];exact oX.A q1
  have hq:=N.D a2;obtain⟨h7,e7⟩:∃ h7,h7=h6.set h.Q (U (S Y 1 [v6])):=⟨_,rfl⟩;have hf:iN h6 h.Q 0 [v6]=U h7:=by rw[e7];exact nS a2 jA
  have k7:∀ c,c≠h.Q->h7.A c=h6.A c:=fun c C=>by rw[e7,gY hq,if_neg (Ne.symm C)]
  have a3:h7.A h.Q=U (S Y 1 [v6]):=by rw[e7,gY hq,if_pos rfl]
  have n7:h7.Q=h6.Q:=by rw[e7];rfl
  have ho:=k2.sl.one;have hu:=oX.A i.gl;have hp:h7.A (j.Q+1)=U (.obj (.loop .busy O TL #[7] yD yB j.Q)):=by
   grind
  rw[hy]at eC s1 hu hp ⊢;simp[Qs9,n_,zS,xz,Te,-n_,hz,he,hu,<- eC];simp[Qs2,NV,ph,e2,cV,lC,bl,k1,Wav,ho,hf];have l7:=N.D hp;obtain⟨h8,e8⟩:∃ h8,h8=h7.set (j.Q+1) (U (.obj (.loop .ready O TL #[7] yD yB j.Q))):=⟨_,rfl⟩;have k8:∀ c,c≠j.Q+1->h8.A c=h7.A c:=fun c C=>by rw[e8,gY l7,if_neg (Ne.symm C)]
  have n8:h8.Q=h7.Q:=by rw[e8];rfl
  have hb:∀ c,c < h0.Q+1->c≠h.Q->c≠j.Q+1->c < g.Q->h8.A c=g.A c:=fun c h1 h2 h3 h4=>by rw[k8 c h3,k7 c h2,g6 c h1,kC c h3,oX.2 c h4]
  have nn:g.Q<=h8.Q:=by have:=oX.1;have:=k3.1;omega
  refine Th (st:=.busy) (pe:=O) (t2:=⟨13,TL.t⟩) (ps2:=#[7]) (as2:=yD) (bd2:=yB) (d2:=j.Q) hp ?_;rw[<- hy,<- e8];refine hK h8 ⟨?_,?_,⟨v6,?_,?_⟩,iA,⟨ao i.R.1 nn,fun c C => ?_⟩⟩ nn ?_
  ·rw[hb _ iA iA iA (N.D i.gd)];exact i.gd
  ·rw[e8,gY l7,if_pos rfl]
  ·grind
  ·have e:mJ ((P ++ [x]).map (·.key))=mJ (P.map (·.key))++x.key.cells:=by simp[mJ]
   rw[e,bF,aJ];exact k2.keep fun c C hl=>by
    have:=(k2.from C).1
    grind
  ·rw[hb c iA iA iA (aq C i.R.1)];exact i.R.2 c C
  grind
 ·intro P g p i;refine Jry jA i.gl ?_;obtain⟨ov,q1,q2⟩:=i.gv;have lL:=N.D i.gl;obtain⟨g1,hr⟩:∃ g1,g1=g.set (j.Q+1) O:=⟨_,rfl⟩;have k1:∀ c,c≠j.Q+1->g1.A c=g.A c:=fun c C=>by rw[hr,gY lL,if_neg (Ne.symm C)]
  have n1:g1.Q=g.Q:=by rw[hr];rfl
  have cV:Zq g1 h.Q 0=U ov:=by rw[Z2 ((k1 _ iA).trans q1)];rfl
  have gd:g1.A j.Q=U (.obj .defs):=(k1 _ iA).trans i.gd;rw[hy,<- hr];simp[Qy,Qxc,F1,Qvm,NV,e2,cV,gd];have lD:=N.D gd;have k2:∀ c,c≠j.Q->c≠j.Q+1->(g1.set j.Q O).A c=g.A c:=fun c h1 h2=>by rw[gY lD,if_neg (Ne.symm h1),k1 c h2]
  exact hk ov _ (P.map (·.key)) (p.map _) ((q2.keep fun c C hl=>k2 c (fun e=>by have:=(q2.from C).1;omega) fun e=>by have:=(q2.from C).1;omega).low iA) ⟨by show h.Q<=g1.Q;omega,fun c C=>by rw[k2 c iA iA];exact i.R.2 c C⟩
def Up3{A mb clk:Nat}{j:List PE}(P:h.A A=U (S Y 1 [.map (U mb)]))(gm:h.A mb=U (.map ⟨j.map PE.e⟩ clk))(B:o_ (j.map PE.e) clk)(T:L j < 1000000)(K:KP)(hk:∀ C h' l',l'.Perm (j.map (·.key))->ij h' h.Q 33 C (L l') (mJ l')->a_ h h'->K (.ret C) h'):gr Tryz.prog (E b).G 143 [.func (.func 145) #[] #[pO A 0]] h K:=by
 refine mf (E b) (lQ _ _) (Uc b) (Jh b) iI (Ui b) (C7 b) Mc.1 Mc.2.1 Mc.2.2 rfl ?_;simp[Pm,XV,C7,qB,F1];refine U8v b P gm B T _ fun C h' l' p o a => ?_;simp[Pm,XV,C7,qB,F1]
 grind
end
end Go.Proofs.YtmgonkaadhbnpaaGreatDoor
end
