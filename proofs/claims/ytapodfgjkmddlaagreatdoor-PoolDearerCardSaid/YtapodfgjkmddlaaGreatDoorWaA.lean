import Derived.Test.YtapodfgjkmddlaaGreatDoorLgI
set_option linter.all false
noncomputable section
namespace Go.Proofs.YtapodfgjkmddlaaGreatDoor
open Go Go.Ab
set_option maxRecDepth 100000
def Z4n(b:Nat)(x:Int)(h:Heap)(K:KP)(hk:K (.ret (.bool false)) h):FK b 71 [.int .i64 x] h K:=by
 refine F3 b (Qkf b) Ya9 rfl ?_;simp[Xfb,Ym7,Qkf,Yav,Uw,Xj,kON,kOC,Xn,kNN,kNP,kRR,kEN,kER,Q6,X2,Yn,Ya,aop,Qg,nth,Ab.g0,gv,gs,Qd,Qc,aev,evs,evO,Qh,Tr.get_put,St.put,Tm.put,flat,flatA,Y9,Qm,Qp,Qn,Qo,Qk,Ql,Qj,Qt,Qi,Q7,Q8,kTN,kTR,kTX,kTP,kBN,kBR,kBX,kBP,kCS,kCR,kCE,kAM,Xm.putAll,Qv,Q0,Q9];exact hk
def Ja8(x y:Int):Int:=if x < y then -1 else if y < x then 1 else 0
attribute [local simp] Xj kON kOC Xn kNN kNP kRR kEN kER Q6 X2 Yn Ya aop Qg nth Ab.g0 gv gs Qd Qc aev evs evO Qh Tr.get_put St.put Tm.put flat flatA Y9 Qm Qp Qn Qo Qk Ql Qj Qt Qi Q7 Q8 kTN kTR kTX kTP kBN kBR kBX kBP kCS kCR kCE kAM Xm.putAll Qv Q0 Q9
section
attribute [local simp] Qhv Qo5 Qck Ql8 Qkf Qkb Qk9 Qk8 Qk4 Qk1
def Ja0(b:Nat)(x y:Int)(h:Heap)(K:KP)(hk:K (.ret (.int .i64 (Ja8 x y))) h):FK b 40 [.int .i64 x,.int .i64 y] h K:=by
 refine F3 b (Qck b) Xzh rfl ?_;simp;refine Z4n b x h _ ?_;simp;refine Z4n b y h _ ?_;unfold Ja8 at hk;by_cases h1:x < y
 ·simp[h1];simpa[h1]using hk
 ·by_cases h2:y < x
  ·simp[h1,h2];simpa[h1,h2]using hk
  ·simp[h1,h2];simpa[h1,h2]using hk
end
def Y5k:∀ xs:List Int,Xj9 (xs.map i8)=some xs
 | []=>rfl
 | x::xs=>by rw[aE,i8,Xj9,Y5k xs]
def orF:List Int->Int
 | []=>0
 | x::l=>if x=0 then orF l else x
def ORI(v:Value)(ns:List Int)(h:Heap)(k:Nat)(s:St):Prop:=∃ (t:Tr Value) (i:Nat),s=⟨⟨18,t⟩,[],h⟩/\t.get 3=some (.int .i64 0)/\t.get 6=some v/\t.get 7=some (.int .i64 (ns.length:Int))/\t.get 8=some (.int .i64 (i:Int))/\i<=ns.length/\k=ns.length-i/\orF ns=orF (ns.drop i)
section
attribute [local simp] Quu Q6s Ql3 Q18 Q13 Vz Uw 
def Jtx(b:Nat){h:Heap}{v:Value}{ns:List Int}(s:Sl h 1 v ns.length (ns.map (Value.int .i64)))(hn:ns.length < 1000)(K:KP)(hk:K (.ret (.int .i64 (orF ns))) h):FK b 38 [v] h K:=by
 refine F3 b (Ql3 b) Ywx rfl ?_;have len:∀ hx,Qkc (E b).toEnv 22 v hx=some (.int .i64 (ns.length:Int)):=fun hx=>Qa0 (T22 b) s;simp[len];refine Qdf (ORI v ns h) ns.length ⟨_,0,rfl,by simp,by simp,by simp,by simp,by omega,rfl,rfl⟩ ?_;rintro k s' ⟨t,i,rfl,t3,t6,t7,t8,hi,rfl,ho⟩ -;by_cases hlt:i < ns.length
 ·have hlt':(i:Int) < (ns.length:Int):=by omega
  have hw:=wS (i:=i) (by omega);obtain⟨x,hx⟩:∃ x,ns[i]? = some x:=⟨_,List.getElem?_eq_getElem hlt⟩;obtain⟨bk,off,q1,q2,q3, -⟩:=Q7o (T22 b) Ynr s (k:=.i64) (i:=(i:Int)) (by omega) (by omega);have c0:Yw h bk off=some (.int .i64 x):=by
   have:=q3 0 (by omega);simpa[hx]using this
  rw[bb hlt,(List.getElem?_eq_some_iff.1 hx).2,orF]at ho;by_cases h0:x=0
  ·rw[if_pos h0]at ho;simp[t3,t6,t7,t8,hlt',q2,c0,h0,hw];exact⟨ns.length-(i+1),by omega,_,i+1,rfl,by simp[t3],by simp[t6],by simp[t7],by simp,by omega,rfl,ho⟩
  ·rw[if_neg h0]at ho;rw[ho]at hk;simp[t3,t6,t7,t8,hlt',q2,c0,h0];exact hk
 ·have hlt':¬ (i:Int) < (ns.length:Int):=by omega
  have : i=ns.length:=by omega
  subst this;rw[cQ]at ho;rw[ho]at hk;simp[t3,t6,t7,t8];exact hk
end
def Jk2{A B:Type}{f:A->B}:∀ {l:List A},(l.map f).Nodup->∀ {x y:A},x ∈ l->y ∈ l->f x=f y->x=y
 | a::l,nd,x,y,hx,hy,e=>by
  rw[aE,d4]at nd;by_cases h1:x=a
  ·by_cases h2:y=a
   ·rw[h1,h2]
   ·have hy':y ∈ l:=(by simpa[h2]using hy);exact absurd (am.2 ⟨y,hy',by rw[<- e,h1]⟩) nd.1
  ·have hx':x ∈ l:=by simpa[h1]using hx
   by_cases h2:y=a
   ·exact absurd (am.2 ⟨x,hx',by rw[e,h2]⟩) nd.1
   ·have hy':y ∈ l:=(by simpa[h2]using hy);exact Jk2 nd.2 hx' hy' e
set_option maxHeartbeats 1000000 in
def Y4j{A B:Type}{f:A->B}{l:List A}(h:(l.map f).Nodup):l.Nodup:=by
 induction l with
 | nil=>simp
 | cons a l ih =>
  rw[aE,d4]at h;rw[d4];exact⟨fun q=>h.1 (am.2 ⟨a,q,rfl⟩),ih h.2⟩
def Jkl(b:Nat)(h:Heap)(x:Pt):∃ hA hB,Qbx (E b).toEnv 61 h=some (pO h.next 0,hA)/\Qbw (E b).toEnv 61 (pO h.next 0) (.agg ⟨x.cells⟩) hA=some hB/\hB.get h.next=some (.cells true 1 x.cells)/\Wy hB h.next 0 33=some (.agg ⟨x.cells⟩)/\Old h hB/\hB.next=h.next+1:=by
 obtain⟨z,hz⟩:∃ z:List Value,z=[.int .u8 0,.int .u8 0,.int .u8 0,.int .u8 0,.int .u8 0,.int .u8 0,.int .u8 0,.int .u8 0,.int .u8 0,.int .u8 0,.int .u8 0,.int .u8 0,.int .u8 0,.int .u8 0,.int .u8 0,.int .u8 0,.int .u8 0,.int .u8 0,.int .u8 0,.int .u8 0,.int .u8 0,.int .u8 0,.int .u8 0,.int .u8 0,.int .u8 0,.int .u8 0,.int .u8 0,.int .u8 0,.int .u8 0,.int .u8 0,.int .u8 0,.int .u8 0,.int .i64 0]:=⟨_,rfl⟩;have lz:z.length=33:=by rw[hz];rfl
 have e:=Qqz b h;rw[<- hz]at e;have g:(h.push (.cells true 1 z)).get h.next=some (.cells true 1 z):=by rw[Heap.get_push,if_pos rfl]
 have lt:=Heap.get_lt g;have d:(z.take 0++x.cells++z.drop (0+x.cells.length))=x.cells:=by rw[bI (by rw[Pt.len,lz];omega)];simp
 refine⟨_,(h.push (.cells true 1 z)).set h.next (some (.cells true 1 x.cells)),e,?_,by rw[gY lt,if_pos rfl],?_,(Old.push _ _).set _ (ab _) lt,rfl⟩
 ·rw[Qx2 (l:=x.cells) (Y1w b) (by rw[Pt.len,Xi4]),Wh g (by rw[Pt.len,lz];omega),d]
 ·rw[V2 (by rw[gY lt,if_pos rfl]) (by rw[Pt.len];omega),bB,aj (by rw[Pt.len];omega)]
def Z8g(b:Nat)(h:Heap)(mv:Value)(hm:Qid mv=true/\mv.cells = #[mv])(K:KP)(hk:∀ h',h'.get h.next=some (.cells true 1 [mv])->Old h h'->h'.next=h.next+1->K (.ret (.func (.func 69) #[] #[pO h.next 0])) h'):FK b 36 [mv] h K:=by
 refine F3 b (Vf b) Qii rfl ?_;obtain⟨hA,eA⟩:∃ hA,hA=h.push (.cells true 1 [mv]):=⟨_,rfl⟩;have bx:Zzo mv h=some (pO h.next 0,hA):=by simp[Zzo,eA,hm.1,hm.2]
 simp[Qc4,Qjk,Vf,bx];exact hk hA (by rw[eA,Heap.get_push,if_pos rfl]) (by rw[eA];exact Old.push _ _) (by rw[eA];rfl)
def K1I(A l R mb clk:Nat)(es:List PE)(I:List PE->Heap->Prop)(k:Nat)(s:St):Prop:=∃ (t:Tr Value) (g:Heap) (vis:List PE),s=⟨⟨14,t⟩,[],g⟩/\t.get 0=some (.func (.yield l) #[] #[])/\t.get 5=some (pO R 0)/\k=es.length-vis.length/\g.get R=some (.obj (.mapIter (some mb) clk ⟨vis.map (·.born)⟩ clk))/\(∀ x ∈ vis,x ∈ es)/\(vis.map (·.born)).Nodup/\I vis g
section
attribute [local simp] Je Va Zt Qs3 Uh
set_option maxHeartbeats 1000000 in
def Jta(b:Nat){l A mb clk:Nat}{es:List PE}(h:Heap)(K:KP)(I:List PE->Heap->Prop)(B:Born (es.map PE.e) clk)(hI:I [] h)
  (h1:∀ vis g,I vis g->g.get A=some (.cells true 1 [.map (some mb)])/\g.get mb=some (.map ⟨es.map PE.e⟩ clk)/\∃ st pe t ps an bd d,g.get l=some (.obj (.loop st pe t ps an bd d))/\∀ p:Pt,Z70 t.size ps.toList [.agg ⟨p.cells⟩]=true)
  (hst:∀ vis g g',I vis g->g.next<=g'.next->(∀ c,c < g.next->c≠h.next->g'.get c=g.get c)->I vis g')
  (hr:∀ vis g e (K:KP),I vis g->h.next+1<=g.next->e ∈ es->vis.length < es.length->(∀ g',I (vis ++ [e]) g'->g.next<=g'.next->g'.get h.next=g.get h.next->K (.ret (.bool true)) g')->X17 Tryz.prog (E b).G l [.agg ⟨e.key.cells⟩] g K)
  (hk:∀ vis g,vis.Perm es->I vis g->K (.ret (.tuple #[])) g):CallOK Tryz.prog (E b).G 69 [.func (.yield l) #[] #[],pO A 0] h K:=by
 refine Qh3 (E b) (Vy _ _) (Uf b) (Jd b) mixed (Ui b) (Zt b) Qi2.1 Qi2.2.1 Qi2.2.2 rfl ?_;obtain⟨gA,gm, -⟩:=h1 _ _ hI;have cA:Yw h A 0=some (.map (some mb)):=by rw[Yi gA];rfl
 obtain⟨hI',eI⟩:∃ hI',hI'=h.push (.obj (.mapIter (some mb) clk #[] clk)):=⟨_,rfl⟩;have aI:=Qon eI;have gI:hI'.get h.next=some (.obj (.mapIter (some mb) clk ⟨[]⟩ clk)):=by rw[eI,Heap.get_push,if_pos rfl]
 have md:R85.desc=.map 61 91:=kR
 have rg:Yqp (E b).toEnv 85 (.map (some mb)) h=some (pO h.next 0,hI'):=by
  rw[eI];simp only[Yqp,Z74,md,gm]
 simp[Qqz,cA,rg];refine Qdf (K1I A l h.next mb clk es I) es.length ⟨_,hI',[],rfl,by simp,by simp,by simp,gI,by simp,by simp,hst _ _ _ hI aI.1 fun c hc _=>aI.2 c hc⟩ ?_;rintro k s' ⟨t,g,vis,rfl,t0,t5,rfl,it,hsub,hnd,hIg⟩ -;obtain⟨gAg,gmg,st,pe,tl,ps,an,bd,d,q3,q4⟩:=h1 _ _ hIg;obtain⟨ne,nx⟩:=Jhk B it gmg;simp[Qqz];refine Jov (it:=pO h.next 0) (by simp[t5]) rfl ne fun y hy => ?_;have lI:=Heap.get_lt it;rcases nx y hy with⟨hall,rfl⟩ | ⟨e,he,hv,rfl⟩
 ·simp[Qqz,t0,t5];refine hk vis g ?_ hIg;have nde:(es.map (·.born)).Nodup:=by
   have:=B.nd;rw[bL]at this;exact this
  refine(List.perm_ext_iff_of_nodup (Y4j hnd) (Y4j nde)).2 fun x=>⟨hsub x,fun hx => ?_⟩;obtain⟨y,hy1,hy2⟩:=am.1 (hall x.e (am.2 ⟨x,hx,rfl⟩));rw[<- Jk2 nde (hsub y hy1) hx hy2];exact hy1
 ·obtain⟨x,hx,rfl⟩:=am.1 he;obtain⟨h2,e2⟩:∃ h2,h2=g.set h.next (some (.obj (.mapIter (some mb) clk ⟨vis.map (·.born) ++ [x.e.born]⟩ clk))):=⟨_,rfl⟩;have g2:h2.get h.next=some (.obj (.mapIter (some mb) clk ⟨vis.map (·.born) ++ [x.e.born]⟩ clk)):=by rw[e2,gY lI,if_pos rfl]
  have k2:∀ c,c≠h.next->h2.get c=g.get c:=fun c hc=>by rw[e2,gY lI,if_neg (Ne.symm hc)]
  have n2:h2.next=g.next:=by rw[e2];rfl
  have hmb2:h2.get mb=some (.map ⟨es.map PE.e⟩ clk):=by
   rw[k2 mb fun e=>by rw[e,it]at gmg;cases gmg];exact gmg
  have en:=Jbc B g2 hmb2 he;obtain⟨hA,hB,alB,stB,gB,lB,oB,nB⟩:=Jkl b h2 x.key;have hI4:I vis hB:=hst vis g hB hIg (by rw[<- n2];exact oB.1) fun c hc hne=>by rw[oB.2 c (by rw[n2];exact hc),k2 c hne]
  obtain⟨-, -,st,pe,tl,ps,an,bd,d,q3,q4⟩:=h1 _ _ hI4;have gR:hB.get h.next=some (.obj (.mapIter (some mb) clk ⟨vis.map (·.born) ++ [x.e.born]⟩ clk)):=oB.get g2;have nd2:((vis ++ [x]).map (·.born)).Nodup:=by
   rw[aR,cG];exact⟨hnd,by simp,fun a ha c hc q=>by simp at hc;subst hc;exact hv (by rw[q]at ha;exact ha)⟩
  have sub2:∀ y ∈ vis ++ [x],y ∈ es:=fun y hy=>by
   rcases al.1 hy with q | q
   ·exact hsub y q
   ·rw[aw.1 q];exact hx
  have len2:=List.Nodup.length_le_of_subset (Y4j nd2) sub2;rw[ae,bK]at len2;rw[<- e2];simp only[PE.e]at en;have q4:=q4 x.key;simp[Qqz,t0,t5,PE.e,en,-Qqz,alB,stB,lB,Yr0,q3,q4];refine hr vis hB x _ hI4 (by have:=Heap.get_lt gR;omega) hx (by omega) fun g' hI' hn' hg' => ?_;simp[Qqz,t0,t5];exact⟨es.length-(vis.length+1),by omega,_,g',vis ++ [x],rfl,by simp[t0],by simp[t5],by simp,by rw[hg',gR];simp[PE.e],sub2,nd2,hI'⟩
end
def aSq:Code:=Jvu (Zue (Xz 104))
def bSq:Code:=Jvn (Zue (Xz 104))
def Jmq:Zue (Xz 104)=.rangeFunc (.tmp 6) #[7] aSq bSq:=kR
def Jtb:U1 aSq=Qhh:=kR
def Jt5:U1 bSq=Qhe:=kR
structure ASI (h:Heap) (V D L N:Nat) (tl:Tm) (vis:List PE) (g:Heap):Prop where
 gd:g.get D=some (.obj .defs)
 gl:g.get L=some (.obj (.loop .ready none tl #[7] aSq bSq D))
 gv:∃ ov,g.get V=some (.cells true 1 [ov])/\Own g N 33 ov (vis.map (·.key)).length (Qp0 (vis.map (·.key)))
 n:N<=g.next+1
 old:Old h g
section
set_option maxHeartbeats 1000000 in
def Jq0(b:Nat){h:Heap}{A mb clk:Nat}{es:List PE}(gA:h.get A=some (.cells true 1 [.map (some mb)]))(gm:h.get mb=some (.map ⟨es.map PE.e⟩ clk))(B:Born (es.map PE.e) clk)(hn:es.length < 1000000)
  (K:KP) (hk:∀ v' h' l',l'.Perm (es.map (·.key))->Own h' h.next 33 v' l'.length (Qp0 l')->Old h h'->K (.ret v') h'):CallOK Tryz.prog (E b).G 104 [.slice none 0 0,.func (.func 69) #[] #[pO A 0]] h K:=by
 refine Qh3 (E b) (Vy _ _) (Uf b) (Jd b) mixed (Ui b) (Qa1 b) Qus.1 Qus.2.1 Qus.2.2 rfl ?_;obtain⟨hV,eV⟩:∃ hV,hV=h.push (.cells true 1 [.slice none 0 0]):=⟨_,rfl⟩;have bx:Zzo (.slice none 0 0) h=some (pO h.next 0,hV):=by rw[eV];rfl
 have aV:=Qon eV;have gV:hV.get h.next=some (.cells true 1 [.slice none 0 0]):=by rw[eV,Heap.get_push,if_pos rfl]
 have nV:=Q8i eV;simp[Qe3,Qks,Qa1,Qjf,Jlc,bx,Jmq];refine Jpn (first:=#[]) (captured:=#[pO A 0]) (by simp) (Zt b) ?_;generalize hTL:Tm.mk 13 _=TL;have e2:TL.t.get 2=some (pO h.next 0):=by rw[<- hTL];simp
 have es':TL.size=13:=by rw[<- hTL]
 have hTl:TL=⟨13,TL.t⟩:=by rw[<- es']
 obtain⟨h0,e0⟩:∃ h0,h0=(hV.push (.obj .defs)).push (.obj (.loop .ready none TL #[7] aSq bSq hV.next)):=⟨_,rfl⟩;have n0:h0.next=h.next+3:=by rw[e0];simp only[Qmo,nV]
 have a0:Old hV h0:=by rw[e0];exact(Old.push _ _).trans (Old.push _ _)
 have g0:=a0.get gV;rw[<- e0];refine Jta b (l:=hV.next+1) h0 _ (ASI h h.next hV.next (hV.next+1) (h0.next+1) TL) B ⟨?_,?_,⟨_,g0,Own.nil⟩,by omega,aV.trans a0⟩ (fun vis g i=>⟨i.old.get gA,i.old.get gm,_,_,_,_,_,_,_,i.gl,fun p=>by rw[es'];rfl⟩) ?_ ?_ ?_
 ·rw[e0];simp (disch:=first | omega | (simp only[Qmo,X2h];done) | (simp only[Qmo,X2h];omega)) only[Jr4,Jqy,Jq3,Jqf]
 ·rw[e0];simp (disch:=first | omega | (simp only[Qmo,X2h];done) | (simp only[Qmo,X2h];omega)) only[Jr4,Jqy,Jq3,Jqf]
 ·intro vis g g' i hn' hg;obtain⟨ov,q1,q2⟩:=i.gv;have lD:=Heap.get_lt i.gd;have lL:=Heap.get_lt i.gl;have lV:=Heap.get_lt q1;refine⟨by rw[hg _ lD (by omega)];exact i.gd,by rw[hg _ lL (by omega)];exact i.gl,⟨ov,by rw[hg _ lV (by omega)];exact q1,q2.keep fun c hc hl=>hg c hl fun e => ?_⟩,by have:=i.n;omega,⟨ai i.old.1 hn',fun c hc=>by rw[hg c (au hc i.old.1) (by omega),i.old.2 c hc]⟩⟩;have:=(q2.from hc).1;omega
 ·intro vis g x K' i hng hx hlen hK;refine Jlk (E b) (Vy _ _) (Uf b) (Jd b) mixed i.gl (by rw[es'];rfl) Jtb Jt5 ?_;obtain⟨ov,q1,q2⟩:=i.gv;have lV:=Heap.get_lt q1;have lL:=Heap.get_lt i.gl;obtain⟨hA,hB,alB,stB,gX,lX,oX,nX⟩:=Jkl b g x.key;have lLB:=Heap.get_lt (oX.get i.gl);obtain⟨hC,eC⟩:∃ hC,hC=hB.set (hV.next+1) (some (.obj (.loop .busy none TL #[7] aSq bSq hV.next))):=⟨_,rfl⟩;have kC:∀ c,c≠hV.next+1->hC.get c=hB.get c:=fun c hc=>by rw[eC,gY lLB,if_neg (Ne.symm hc)]
  have gCL:hC.get (hV.next+1)=some (.obj (.loop .busy none TL #[7] aSq bSq hV.next)):=by rw[eC,gY lLB,if_pos rfl]
  have nC:hC.next=hB.next:=by rw[eC];rfl
  have q2':Own hC (h0.next+1) 33 ov (vis.map (·.key)).length (Qp0 (vis.map (·.key))):=q2.keep fun c hc hl=>by rw[kC c (fun e=>by have:=(q2.from hc).1;omega),oX.2 c hl]
  have cV:Yw hC h.next 0=some ov:=by rw[Yi ((kC _ (by omega)).trans (oX.get q1))];rfl
  have lC:Wy hC g.next 0 33=some (.agg ⟨x.key.cells⟩):=agW ((kC _ (by omega)).trans gX) (by rw[Pt.len];omega) (by rw[Pt.len];omega);have bl:W7 (E b).toEnv 56 1 [(0,.agg ⟨x.key.cells⟩)] hC=some (.slice (some ⟨hC.next,0,none⟩) 1 1,hC.push (.cells true 1 x.key.cells)):=Xlx (T56 b) (z:=33) Xi4 (by omega) (by omega) (y:=.agg ⟨x.key.cells⟩) rfl (ys:=x.key.cells) rfl (Pt.len x.key);have hNB:h0.next+1<=hC.next:=by have:=oX.1;omega
  obtain⟨v6,h6,k1,k2,k3⟩:=Zj8 (T56 b) (z:=33) Xi4 (by omega) q2' hNB (ys:=x.key.cells) (Pt.len x.key) (by rw[Jaa];simp;omega) (by simp;omega);have ovr:∀ c,J4 ov=some c->h0.next+1<=c:=fun c hc=>(q2'.from hc).1;have g6:∀ c,c < h0.next+1->h6.get c=hC.get c:=fun c hc=>k3.2 c (by omega) fun e=>by have:=ovr c e;omega
  have gV6:h6.get h.next=some (.cells true 1 [ov]):=by
   rw[g6 _ (by omega),kC _ (by omega)];exact oX.get q1
  have lV6:=Heap.get_lt gV6;obtain⟨h7,e7⟩:∃ h7,h7=h6.set h.next (some (.cells true 1 [v6])):=⟨_,rfl⟩;have st7:Ur h6 h.next 0 [v6]=some h7:=by rw[e7];exact Qeu gV6 (by simp)
  have k7:∀ c,c≠h.next->h7.get c=h6.get c:=fun c hc=>by rw[e7,gY lV6,if_neg (Ne.symm hc)]
  have gV7:h7.get h.next=some (.cells true 1 [v6]):=by rw[e7,gY lV6,if_pos rfl]
  have n7:h7.next=h6.next:=by rw[e7];rfl
  have one6:=k2.sl.one;have glB:=oX.get i.gl;have g7L:h7.get (hV.next+1)=some (.obj (.loop .busy none TL #[7] aSq bSq hV.next)):=by
   rw[k7 _ (by omega),g6 _ (by omega)];exact gCL
  rw[hTl]at eC gCL glB g7L ⊢;simp[Qhh,Qqz,Yms,Zej,-Qqz,alB,stB,glB,<- eC];simp[Qhe,Jlc,Uh,e2,cV,lC,bl,k1,Jsu,one6,st7];have l7:=Heap.get_lt g7L;obtain⟨h8,e8⟩:∃ h8,h8=h7.set (hV.next+1) (some (.obj (.loop .ready none TL #[7] aSq bSq hV.next))):=⟨_,rfl⟩;have k8:∀ c,c≠hV.next+1->h8.get c=h7.get c:=fun c hc=>by rw[e8,gY l7,if_neg (Ne.symm hc)]
  have n8:h8.next=h7.next:=by rw[e8];rfl
  have low8:∀ c,c < h0.next+1->c≠h.next->c≠hV.next+1->c < g.next->h8.get c=g.get c:=fun c h1 h2 h3 h4=>by rw[k8 c h3,k7 c h2,g6 c h1,kC c h3,oX.2 c h4]
  have nn:g.next<=h8.next:=by have:=oX.1;have:=k3.1;omega
  refine Zbl (st:=.busy) (pe:=none) (t2:=⟨13,TL.t⟩) (ps2:=#[7]) (as2:=aSq) (bd2:=bSq) (d2:=hV.next) g7L ?_;rw[<- hTl,<- e8];refine hK h8 ⟨?_,?_,⟨v6,?_,?_⟩,by omega,⟨ai i.old.1 nn,fun c hc => ?_⟩⟩ nn ?_
  ·rw[low8 _ (by omega) (by omega) (by omega) (Heap.get_lt i.gd)];exact i.gd
  ·rw[e8,gY l7,if_pos rfl]
  ·rw[k8 _ (by omega)];exact gV7
  ·have e:Qp0 ((vis ++ [x]).map (·.key))=Qp0 (vis.map (·.key))++x.key.cells:=by simp[Qp0]
   rw[e,aR,ae];exact k2.keep fun c hc hl=>by
    have:=(k2.from hc).1;rw[k8 c (by omega),k7 c (by omega)]
  ·rw[low8 c (by omega) (by omega) (by omega) (au hc i.old.1)];exact i.old.2 c hc
  ·exact low8 _ (by omega) (by omega) (by omega) (by omega)
 ·intro vis g p i;refine Z01 (by simp) i.gl ?_;obtain⟨ov,q1,q2⟩:=i.gv;have lL:=Heap.get_lt i.gl;obtain⟨g1,eg1⟩:∃ g1,g1=g.set (hV.next+1) none:=⟨_,rfl⟩;have k1:∀ c,c≠hV.next+1->g1.get c=g.get c:=fun c hc=>by rw[eg1,gY lL,if_neg (Ne.symm hc)]
  have n1:g1.next=g.next:=by rw[eg1];rfl
  have cV:Yw g1 h.next 0=some ov:=by rw[Yi ((k1 _ (by omega)).trans q1)];rfl
  have gd:g1.get hV.next=some (.obj .defs):=(k1 _ (by omega)).trans i.gd;rw[hTl,<- eg1];simp[Qe3,Qks,Qa1,Qjf,Jlc,e2,cV,gd];have lD:=Heap.get_lt gd;have k2:∀ c,c≠hV.next->c≠hV.next+1->(g1.set hV.next none).get c=g.get c:=fun c h1 h2=>by rw[gY lD,if_neg (Ne.symm h1),k1 c h2]
  exact hk ov _ (vis.map (·.key)) (p.map _) ((q2.keep fun c hc hl=>k2 c (fun e=>by have:=(q2.from hc).1;omega) fun e=>by have:=(q2.from hc).1;omega).low (by omega)) ⟨by show h.next<=g1.next;rw[n1];exact i.old.1,fun c hc=>by rw[k2 c (by omega) (by omega)];exact i.old.2 c hc⟩
def Z81(b:Nat){h:Heap}{A mb clk:Nat}{es:List PE}(gA:h.get A=some (.cells true 1 [.map (some mb)]))(gm:h.get mb=some (.map ⟨es.map PE.e⟩ clk))(B:Born (es.map PE.e) clk)(hn:es.length < 1000000)
  (K:KP) (hk:∀ v' h' l',l'.Perm (es.map (·.key))->Own h' h.next 33 v' l'.length (Qp0 l')->Old h h'->K (.ret v') h'):CallOK Tryz.prog (E b).G 67 [.func (.func 69) #[] #[pO A 0]] h K:=by
 refine Qh3 (E b) (Vy _ _) (Uf b) (Jd b) mixed (Ui b) (Qcp b) Q77.1 Q77.2.1 Q77.2.2 rfl ?_;simp[Qln,Qw2,Qcp,Qtt,Qa1];refine Jq0 b gA gm B hn _ fun v' h' l' p o a => ?_;simp[Qln,Qw2,Qcp,Qtt,Qa1];exact hk v' h' l' p o a
end
end Go.Proofs.YtapodfgjkmddlaaGreatDoor
end
