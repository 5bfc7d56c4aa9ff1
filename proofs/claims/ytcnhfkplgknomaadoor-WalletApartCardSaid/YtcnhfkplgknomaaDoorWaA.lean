import Derived.Test.YtcnhfkplgknomaaDoorBlA
import Derived.Test.YtcnhfkplgknomaaDoorFA
import Derived.Test.YtcnhfkplgknomaaDoorTxA
set_option linter.all false
noncomputable section
namespace Go.Proofs.YtcnhfkplgknomaaDoor
open Go Go.Ab
set_option maxRecDepth 100000
theorem Yrm{P:Program}{E1:Env2 P}{C:CallP}{x:Operand}{isS:Bool}{d:Option Tmp}{s:St}{K:Exit->St->Prop}{it:Value}(hit:aev E1.G s.t x=some it)(hdie:C.die=true)(hne:Qld it isS s.h ≠ [])(hall:∀ y ∈ Qld it isS s.h,K .normal (s.put d y.1 y.2)):Q8a E1 C x isS d s K:=by
 unfold Q8a
 rw[hit]
 exact .inr ⟨hdie,hne,hall⟩
theorem Xtq(seen:List Nat):∀ (es:List MapEntry) (e:MapEntry),e ∈ Q77 seen es↔e ∈ es/\e.born ∉ seen
 | [],e=>by simp[Q77]
 | x::es,e=>by
  have ih:=Xtq seen es e
  unfold Q77
  rw[Yhm]
  cases hc:seen.contains x.born with
  | true =>
   simp only
   rw[ih]
   simp only[List.mem_cons]
   constructor
   ·exact fun⟨h1,h2⟩=>⟨.inr h1,h2⟩
   ·rintro⟨rfl | h1,h2⟩
    ·simp at hc;exact absurd hc h2
    ·exact⟨h1,h2⟩
  | false =>
   simp only[List.mem_cons]
   rw[ih]
   constructor
   ·rintro(rfl | ⟨h1,h2⟩)
    ·exact⟨.inl rfl,by simpa using hc⟩
    ·exact⟨.inr h1,h2⟩
   ·rintro⟨rfl | h1,h2⟩
    ·exact .inl rfl
    ·exact .inr ⟨h1,h2⟩
theorem Ykq{n:Nat}:∀ {l:List MapEntry},(∀ e ∈ l,e.born < n)->Yke n l=l/\Yn8 n l=[]
 | [],_=>⟨rfl,rfl⟩
 | e::l,h=>by
  obtain⟨h1,h2⟩:=Ykq (l:=l) fun x hx=>h x (by simp[hx])
  have : Nat.blt e.born n=true:=by simpa using h e (by simp)
  unfold Yke Yn8
  rw[this]
  exact⟨by simp[h1],h2⟩
structure Born (es:List MapEntry) (clk:Nat):Prop where
 lt:∀ e ∈ es,e.born < clk
 nd:(es.map (·.born)).Nodup
theorem Ya5:∀ {l:List MapEntry},(l.map (·.born)).Nodup->∀ {e:MapEntry},e ∈ l->Xj2 e.born l=some e
 | [],_,_,h=>by cases h
 | x::l,nd,e,h=>by
  rw[List.map_cons,List.nodup_cons]at nd
  unfold Xj2
  by_cases hx:x.born=e.born
  ·rw[show Nat.beq x.born e.born=true by rw[hx];simp]
   rcases List.mem_cons.1 h with rfl | h
   ·rfl
   ·exact absurd (List.mem_map.2 ⟨e,h,hx.symm⟩) nd.1
  ·rw[show Nat.beq x.born e.born=false by rw[Bool.eq_false_iff];intro q;exact hx (Nat.eq_of_beq_eq_true q)]
   rcases List.mem_cons.1 h with rfl | h
   ·exact absurd rfl hx
   ·exact Ya5 nd.2 h
theorem Ygl{h:Heap}{r mb clk:Nat}{es:List MapEntry}{vis:List Nat}(B:Born es clk)(hr:h.get r=some (.obj (.mapIter (some mb) clk ⟨vis⟩ clk)))(hm:h.get mb=some (.map ⟨es⟩ clk)) :
  Qld (.pointer (some ⟨r,0,none⟩)) false h ≠ []/\∀ y ∈ Qld (.pointer (some ⟨r,0,none⟩)) false h,((∀ e ∈ es,e.born ∈ vis)/\y=(.tuple #[.bool false],h)) ∨
   ∃ e ∈ es,e.born ∉ vis/\y=(.tuple #[.bool true,e.key,e.val],h.set r (some (.obj (.mapIter (some mb) clk ⟨vis ++ [e.born]⟩ clk)))):=by
 have hb:X20 es vis clk=false:=by
  unfold X20
  split
  ·rfl
  ·rfl
  ·rename_i h1 h2
   cases es with
   | nil=>exact absurd rfl h2
   | cons p l =>
    have : Nat.ble clk p.born=false:=by
     rw[Bool.eq_false_iff]
     intro q
     have:=B.lt p (by simp)
     have:=Nat.le_of_ble_eq_true q
     omega
    simp only[Yg4,this]
 have hl:∀ e ∈ Q77 vis es,e.born < clk:=fun e he=>B.lt e ((Xtq _ _ _).1 he).1
 obtain⟨o1,o2⟩:=Ykq hl
 have hn:Qld (.pointer (some ⟨r,0,none⟩)) false h=(Xm9 es clk vis).map (Xpz r mb clk ⟨vis⟩ clk h):=by
  simp only[Qld,hr,hm,hb]
 have hc:Xm9 es clk vis=match Q77 vis es with | []=>[none] | e::l=>(e::l).map some:=by
  unfold Xm9 Yl7
  rw[o1,o2]
  cases Q77 vis es with
  | nil=>rfl
  | cons e l=>simp
 rw[hn,hc]
 cases hle:Q77 vis es with
 | nil =>
  refine⟨by simp,fun y hy => .inl ⟨fun e he => ?_,?_⟩⟩
  ·apply Classical.byContradiction
   intro hn
   have:=(Xtq vis _ _).2 ⟨he,hn⟩
   rw[hle]at this
   cases this
  ·simpa[Xpz]using hy
 | cons e l =>
  refine⟨by simp,fun y hy => ?_⟩
  simp only[List.map_map]at hy
  obtain⟨x,hx,rfl⟩:=List.mem_map.1 hy
  rw[<- hle]at hx
  obtain⟨h1,h2⟩:=(Xtq _ _ _).1 hx
  exact .inr ⟨x,h1,h2,by simp[Xpz]⟩
theorem Yce{h:Heap}{r mb clk:Nat}{es:List MapEntry}{vis:List Nat}{e:MapEntry}(B:Born es clk)(hr:h.get r=some (.obj (.mapIter (some mb) clk ⟨vis ++ [e.born]⟩ clk)))(hm:h.get mb=some (.map ⟨es⟩ clk))(he:e ∈ es) :
  X2f (.pointer (some ⟨r,0,none⟩)) h=some (.tuple #[e.key,e.val]):=by
 have hl:∀ (l:List Nat) (x:Nat),Ylu (l ++ [x])=some x:=by
  intro l x
  induction l with
  | nil=>rfl
  | cons a l ih =>
   cases l with
   | nil=>rfl
   | cons c l=>exact ih
 simp only[X2f,hr,hl,hm,show Nat.beq clk clk=true by simp,Ya5 B.nd he]
theorem Born.push{es:List MapEntry}{clk:Nat}(B:Born es clk)(k v:Value):Born (es ++ [⟨k,v,clk⟩]) (clk+1):=by
 refine⟨fun e he => ?_,?_⟩
 ·rcases List.mem_append.1 he with q | q
  ·have:=B.lt e q;omega
  ·simp at q;rw[q];show clk < clk+1;omega
 ·rw[List.map_append,List.nodup_append]
  refine⟨B.nd,by simp,fun x hx y hy e => ?_⟩
  obtain⟨z,hz,rfl⟩:=List.mem_map.1 hx
  simp at hy
  have:=B.lt z hz
  omega
theorem Born.erase{es:List MapEntry}{clk:Nat}(B:Born es clk)(i:Nat):Born (es.eraseIdx i) clk :=
 ⟨fun e he=>B.lt e (List.mem_of_mem_eraseIdx he),List.Nodup.sublist (List.Sublist.map _ (List.eraseIdx_sublist es i)) B.nd⟩
structure IE where
 key:Int
 val:Value
 born:Nat
def IE.e(x:IE):MapEntry:=⟨.int .i64 x.key,x.val,x.born⟩
def Qhb(id:Int):List IE->Nat->Option (Nat × Value)
 | [],_=>none
 | x::l,j=>if id=x.key then some (j,x.val)else Qhb id l (j+1)
theorem Ync(id:Int):∀ (l:List IE) (j:Nat),Instr.findNow (.int .i64) (.int .i64 id) (l.map IE.e) j=some (Qhb id l j)
 | [],_=>rfl
 | x::l,j=>by
  have e:Instr.sameNow (.int .i64) (.int .i64 id) x.e.key=some (id == x.key):=by
   show(if IntKind.i64=IntKind.i64 then some (id == x.key)else none)=_
   rw[if_pos rfl]
  simp only[List.map_cons,Instr.findNow,e,Qhb]
  by_cases h:id=x.key
  ·simp[h];rfl
  ·rw[if_neg h,show(id == x.key)=false by simpa using h]
   exact Ync id l (j+1)
theorem X1t{id:Int}:∀ {l:List IE} {j:Nat},Qhb id l j=none ↔ ∀ x ∈ l,x.key≠id
 | [],_=>by simp[Qhb]
 | x::l,j=>by
  unfold Qhb
  by_cases h:id=x.key
  ·simp[h]
  ·rw[if_neg h,X1t]
   simp
   exact fun _ q=>h q.symm
theorem X23{id:Int}:∀ {l:List IE} {j i:Nat} {v:Value},Qhb id l j=some (i,v)->∃ x,l[i-j]? = some x/\j<=i/\x.key=id/\x.val=v
 | [],_,_,_,h=>by cases h
 | x::l,j,i,v,h=>by
  unfold Qhb at h
  by_cases hk:id=x.key
  ·rw[if_pos hk]at h
   cases h
   exact⟨x,by simp,Nat.le_refl _,hk.symm,rfl⟩
  ·rw[if_neg hk]at h
   obtain⟨y,h1,h2,h3,h4⟩:=X23 h
   refine⟨y,?_,by omega,h3,h4⟩
   rw[show i-j=(i-(j+1))+1 by omega,List.getElem?_cons_succ]
   exact h1
theorem Yge(b:Nat)(x:Int)(h:Heap)(K:KP)(hk:K (.ret (.bool false)) h):FK b 36 [.int .i64 x] h K:=by
 refine FF b (Qdu b) Xm1 Xs8 Xq4 rfl ?_
 simp[Q3t,Xqm,Qdu,Uy,Y7,kON,kOC,Y9,kNN,kNP,kRR,kRP,kEN,kER,Q4,Qu,J5,Zh,aop,Qe,nth,Ab.g0,gv,gs,Q9,Q8,aev,evs,evO,Qf,Tr.get_put,St.put,Tm.put,flat,flatA,Zg,Qm,Qh,Ql,Qn,Qj,Qk,Qi,Qq,Qg,Q5,Q6,kTN,kTR,kTX,kTP,kBN,kBR,kBX,kBP,kCS,kCR,kCE,kAM,Y8.putAll,Qt,Qd,Q3,Q1,Qb,Qa,Qc,Q0,Q2,Q7]
 exact hk
def Y04(x y:Int):Int:=if x < y then -1 else if y < x then 1 else 0
attribute [local simp] Y7 kON kOC Y9 kNN kNP kRR kRP kEN kER Q4 Qu J5 Zh aop Qe nth Ab.g0 gv gs Q9 Q8 aev evs evO Qf Tr.get_put St.put Tm.put flat flatA Zg Qm Qh Ql Qn Qj Qk Qi Qq Qg Q5 Q6 kTN kTR kTX kTP kBN kBR kBX kBP kCS kCR kCE kAM Y8.putAll Qt Qd Q3 Q1 Qb Qa Qc Q0 Q2 Q7 Vg Z2 Z4 ldv Um Yw Nat.testBit loadAt Ab.runT J2 Yl Qdo
section
attribute [local simp] Qb8 Qfx Jx Qdu Qdq Y3 Qds Z6 Qdi Qdr
theorem X2l(b:Nat)(x y:Int)(h:Heap)(K:KP)(hk:K (.ret (.int .i64 (Y04 x y))) h):FK b 21 [.int .i64 x,.int .i64 y] h K:=by
 refine FF b (Jx b) Xh2 Xno Xmk rfl ?_
 simp
 refine Yge b x h _ ?_
 simp
 refine Yge b y h _ ?_
 unfold Y04 at hk
 by_cases h1:x < y
 ·simp[h1]
  simpa[h1]using hk
 ·by_cases h2:y < x
  ·simp[h1,h2]
   simpa[h1,h2]using hk
  ·simp[h1,h2]
   simpa[h1,h2]using hk
end
def PXI(v:Value)(l:List Pt)(p:Pt)(A:Nat)(h:Heap)(k:Nat)(s:St):Prop:=∃ (t:Tr Value) (i:Nat),s=⟨⟨19,t⟩,[],h⟩/\t.get 0=some v/\t.get 3=some (.pointer (some ⟨A,0,none⟩))/\t.get 7=some (.int .i64 (l.length:Int))/\t.get 8=some (.int .i64 (i:Int))/\i<=l.length/\k=l.length-i/\∀ q ∈ l.take i,q≠p
section
attribute [local simp] Yn Uo
theorem Yrc(b:Nat){h:Heap}{v:Value}{l:List Pt}(s:Sl h 33 v l.length (Jy l))(hn:l.length < 1000000)(p:Pt)(K:KP)(hk:∀ (i:Int) h',(0<=i↔p ∈ l)->Old h h'->K (.ret (.int .i64 i)) h') :
  FK b 59 [v,.agg ⟨p.cells⟩] h K:=by
 refine FF b (Yn b) Qpg Qw0 Qsf rfl ?_
 obtain⟨hA,eA,aA,gA⟩:=X0q h p.cells
 have bx:=Xs7 eA
 have ldp:Qll hA h.next 0 33=some (.agg ⟨p.cells⟩):=agW gA (by rw[Pt.len];omega) (by rw[Pt.len];omega)
 have sA:=s.old aA
 have len:∀ hx,Q43 (E b).toEnv 29 v hx=some (.int .i64 (l.length:Int)):=fun hx=>Qhl (T29 b) s
 simp[Z1,Zr,Qbo,Y3,Zk,W3,Qvg,Y6,Zb,bx,len]
 refine Qff (PXI v l p h.next hA) l.length ⟨_,0,rfl,by simp,by simp,by simp,by simp,by omega,rfl,by simp⟩ ?_
 rintro k s' ⟨t,i,rfl,t0,t3,t7,t8,hi,rfl,hno⟩ _
 by_cases hlt:i < l.length
 ·have hlt':(i:Int) < (l.length:Int):=by omega
  obtain⟨q,hq⟩:∃ q,l[i]? = some q:=⟨_,List.getElem?_eq_getElem hlt⟩
  obtain⟨bk,off,x1,x2⟩:=Yq7 (T29 b) Qcc sA hq
  have hw:=wS (i:=i) (by omega)
  simp[Z1,Zr,Qbo,Y3,Zk,W3,Qvg,Y6,Zb,t0,t3,t7,t8,hlt']
  refine Qxf [] (by simp) Qlt Qmk Qlv (by simp[Qnt,Z1,Zr,Qbo,Y3,Zk,W3,Qvg,Y6,Zb,t0,t3,x1,x2,ldp,peq];first | exact⟨rfl,rfl⟩ | rfl) ?_ ?_
  ·simp[Js,Z1,Zr,Qbo,Y3,Zk,W3,Qvg,Y6,Zb]
  by_cases hpq:p=q
  ·simp[Z1,Zr,Qbo,Y3,Zk,W3,Qvg,Y6,Zb,t0,t3,t7,t8,hpq]
   exact hk i hA ⟨fun _=>by rw[hpq];exact List.mem_of_getElem? hq,fun _=>by omega⟩ aA
  ·simp[Z1,Zr,Qbo,Y3,Zk,W3,Qvg,Y6,Zb,t0,t3,t7,t8,hpq,hw]
   refine⟨l.length-(i+1),by omega,_,i+1,rfl,by simp[t0],by simp[t3],by simp[t7],by simp,by omega,rfl,fun r hr => ?_⟩
   rw[List.take_succ,hq]at hr
   rcases List.mem_append.1 hr with hr | hr
   ·exact hno r hr
   ·simp at hr;rw[hr];exact fun e=>hpq e.symm
 ·have hlt':¬ (i:Int) < (l.length:Int):=by omega
  have : i=l.length:=by omega
  subst this
  rw[List.take_length]at hno
  simp[Z1,Zr,Qbo,Y3,Zk,W3,Qvg,Y6,Zb,t0,t3,t7,t8]
  exact hk (-1) hA ⟨fun q=>by omega,fun q=>absurd rfl (hno p q)⟩ aA
theorem Ydf(b:Nat){h:Heap}{v:Value}{l:List Pt}(s:Sl h 33 v l.length (Jy l))(hn:l.length < 1000000)(p:Pt)(K:KP)(hk:∀ h',Old h h'->K (.ret (.bool (decide (p ∈ l)))) h') :
  FK b 50 [v,.agg ⟨p.cells⟩] h K:=by
 refine FF b (Yo b) Qme Qp6 Qoh rfl ?_
 obtain⟨hA,eA,aA,gA⟩:=X0q h p.cells
 have bx:=Xs7 eA
 have ldp:Qll hA h.next 0 33=some (.agg ⟨p.cells⟩):=agW gA (by rw[Pt.len];omega) (by rw[Pt.len];omega)
 simp[W1,Qed,Yo,Ud,bx,ldp]
 refine Yrc b (s.old aA) hn p _ fun i h1 hi a1 => ?_
 simp[W1,Qed,Yo,Ud]
 have:=hk h1 (aA.trans a1)
 by_cases hp:p ∈ l
 ·have h0:=hi.2 hp
  simpa[hp,h0]using this
 ·have h0:¬ 0<=i:=fun q=>hp (hi.1 q)
  simpa[hp,h0]using this
end
structure HE where
 ie:IE
 pts:List Pt
def Ql8(l:List HE):List MapEntry:=l.map fun x=>x.ie.e
structure TkInv (h h1:Heap) (mb IB A0 clk:Nat) (p:Pt) (l:List HE) (vis:List Nat):Prop where
 old:Old h h1
 it:h1.get IB=some (.obj (.mapIter (some mb) clk ⟨vis⟩ clk))
 bx:h1.get A0=some (.cells true 1 p.cells)
 nd:vis.Nodup
 sub:∀ i ∈ vis,i ∈ (Ql8 l).map (·.born)
 no:∀ x ∈ l,x.ie.born ∈ vis->p ∉ x.pts
def TKI(h:Heap)(mb IB A0 clk:Nat)(p:Pt)(l:List HE)(k:Nat)(s:St):Prop:=∃ (t:Tr Value) (h1:Heap) (vis:List Nat),s=⟨⟨19,t⟩,[],h1⟩/\t.get 3=some (.pointer (some ⟨A0,0,none⟩))/\t.get 11=some (.pointer (some ⟨IB,0,none⟩))/\k=l.length-vis.length/\TkInv h h1 mb IB A0 clk p l vis
theorem X7m{A B:Type}{f:A->B}:∀ {l:List A},(l.map f).Nodup->∀ {x y:A},x ∈ l->y ∈ l->f x=f y->x=y
 | a::l,nd,x,y,hx,hy,e=>by
  rw[List.map_cons,List.nodup_cons]at nd
  by_cases h1:x=a
  ·by_cases h2:y=a
   ·rw[h1,h2]
   ·have hy':y ∈ l:=by simpa[h2]using hy
    exact absurd (List.mem_map.2 ⟨y,hy',by rw[<- e,h1]⟩) nd.1
  ·have hx':x ∈ l:=by simpa[h1]using hx
   by_cases h2:y=a
   ·exact absurd (List.mem_map.2 ⟨x,hx',by rw[e,h2]⟩) nd.1
   ·have hy':y ∈ l:=by simpa[h2]using hy
    exact X7m nd.2 hx' hy' e
section
attribute [local simp] U7 Qak Vb Wc Qev Qzy Uo Yo
set_option maxHeartbeats 1000000 in
theorem Yrb(b:Nat){h:Heap}{ω mb z clk:Nat}{ow cv:Value}{l:List HE}(gω:h.get ω=some (.cells true z [ow,cv,.map (some mb)]))(gm:h.get mb=some (.map ⟨Ql8 l⟩ clk))(B:Born (Ql8 l) clk)(hs:∀ x ∈ l,Sl h 33 x.ie.val x.pts.length (Jy x.pts)/\x.pts.length < 1000000)(p:Pt)
  (K:KP) (hk:∀ h',Old h h'->K (.ret (.bool (decide (∃ x ∈ l,p ∈ x.pts)))) h'):CallOK Tryd.prog (E b).G 34 [.pointer (some ⟨ω,0,none⟩),.agg ⟨p.cells⟩] h K:=by
 refine Qn0 (E b) (Vl _ _) (Qcb b) (Vk b) Qa5 (Qd8 b) (Vb b) Q8h Xi1 Xcf rfl ?_
 obtain⟨hA,eA,aA,gA⟩:=X0q h p.cells
 have bx:=Xs7 eA
 have c2:V2 hA ω 2=some (.map (some mb)):=by rw[Jb (aA.get gω)];rfl
 have gmA:=aA.get gm
 obtain⟨hI,eI⟩:∃ hI,hI=hA.push (.obj (.mapIter (some mb) clk #[] clk)):=⟨_,rfl⟩
 have aI:=Q33 eI
 have gI:hI.get hA.next=some (.obj (.mapIter (some mb) clk ⟨[]⟩ clk)):=by rw[eI,Heap.get_push,if_pos rfl]
 have md:R58.desc=.map 3 29:=by kernel_rfl
 have rg:Xla (E b).toEnv 58 (.map (some mb)) hA=some (.pointer (some ⟨hA.next,0,none⟩),hI):=by
  rw[eI]
  simp only[Xla,Yei,md,gmA]
 have nA:=X0g eA
 simp[bx,Q5f,c2,rg]
 refine Qff (TKI h mb hA.next h.next clk p l) l.length ⟨_,hI,[],rfl,by simp,by simp,by simp,⟨aA.trans aI,gI,aI.get gA,by simp,by simp,by simp⟩⟩ ?_
 rintro k s' ⟨t,h1,vis,rfl,t3,t11,rfl,inv⟩ _
 have hmb:h1.get mb=some (.map ⟨Ql8 l⟩ clk):=by rw[inv.old.2 mb (Heap.get_lt gm)];exact gm
 obtain⟨ne,nx⟩:=Ygl B inv.it hmb
 simp
 refine Yrm (it:=.pointer (some ⟨hA.next,0,none⟩)) (by simp[t11]) rfl ne fun y hy => ?_
 rcases nx y hy with⟨hall,rfl⟩ | ⟨e,he,hv,rfl⟩
 ·simp[t3,t11]
  have hno:¬ ∃ x ∈ l,p ∈ x.pts:=fun⟨x,hx,hp⟩=>inv.no x hx (hall x.ie.e (List.mem_map.2 ⟨x,hx,rfl⟩)) hp
  have:=hk h1 inv.old
  rw[decide_eq_false hno]at this
  exact this
 ·obtain⟨x,hx,rfl⟩:=List.mem_map.1 he
  obtain⟨h2,e2⟩:∃ h2,h2=h1.set hA.next (some (.obj (.mapIter (some mb) clk ⟨vis ++ [x.ie.e.born]⟩ clk))):=⟨_,rfl⟩
  have lI:=Heap.get_lt inv.it
  have g2:h2.get hA.next=some (.obj (.mapIter (some mb) clk ⟨vis ++ [x.ie.e.born]⟩ clk)):=by rw[e2,Heap.get_set _ _ _ _ lI,if_pos rfl]
  have o2:Old h h2:=by rw[e2];exact inv.old.set _ (by omega) lI
  have hmb2:h2.get mb=some (.map ⟨Ql8 l⟩ clk):=by rw[o2.2 mb (Heap.get_lt gm)];exact gm
  have en:=Yce B g2 hmb2 he
  have b2:h2.get h.next=some (.cells true 1 p.cells):=by rw[e2,Heap.get_set _ _ _ _ lI,if_neg (by omega)];exact inv.bx
  have ldp:Qll h2 h.next 0 33=some (.agg ⟨p.cells⟩):=agW b2 (by rw[Pt.len];omega) (by rw[Pt.len];omega)
  have nd2:(vis ++ [x.ie.e.born]).Nodup:=by
   rw[List.nodup_append]
   exact⟨inv.nd,by simp,fun a ha c hc q=>by simp at hc;subst hc;exact hv (q ▸ ha)⟩
  have sub2:∀ i ∈ vis ++ [x.ie.e.born],i ∈ (Ql8 l).map (·.born):=fun i hi=>by
   rcases List.mem_append.1 hi with q | q
   ·exact inv.sub i q
   ·simp at q;rw[q];exact List.mem_map.2 ⟨_,he,rfl⟩
  have len2:=List.Nodup.length_le_of_subset nd2 sub2
  simp[Ql8]at len2
  have n2:h2.next=h1.next:=by rw[e2];rfl
  rw[<- e2]
  simp only[IE.e]at en
  simp[t3,t11,en,ldp]
  refine(Ydf b ((hs x hx).1.old o2) (hs x hx).2 p _ fun h3 a3 => ?_).ok
  by_cases hp:p ∈ x.pts
  ·simp[t3,t11,hp]
   have:=hk h3 (o2.trans a3)
   rw[decide_eq_true ⟨x,hx,hp⟩]at this
   exact this
  ·simp[t3,t11,hp]
   refine⟨l.length-(vis.length+1),by omega,_,h3,vis ++ [x.ie.e.born],rfl,by simp[t3],by simp[t11],by simp,⟨o2.trans a3,a3.get g2,a3.get b2,nd2,sub2,fun y hy hyv => ?_⟩⟩
   rcases List.mem_append.1 hyv with q | q
   ·exact inv.no y hy q
   ·simp at q
    have hn:(l.map fun x=>x.ie.born).Nodup:=by
     have:=B.nd
     rw[Ql8,List.map_map]at this
     exact this
    rw[X7m hn hy hx q]
    exact hp
end
def Xbp(l:List HE):List IE:=l.map (·.ie)
theorem Yka(l:List HE):Ql8 l=(Xbp l).map IE.e:=by simp[Ql8,Xbp]
theorem Yo3:R58.desc=.map 3 29:=by kernel_rfl
theorem Yva:R3.desc=.int .i64:=by kernel_rfl
theorem Ynf(id:Int)(l:List HE):Xl2 R3 (.int .i64 id) (Ql8 l)=some (Qhb id (Xbp l) 0):=by
 simp only[Xl2,Yva]
 rw[Yka]
 exact Ync id (Xbp l) 0
theorem Ykg(b:Nat){h:Heap}{mb clk:Nat}{l:List HE}(hm:h.get mb=some (.map ⟨Ql8 l⟩ clk))(id:Int) :
  Qfs (E b).toEnv 58 (.map (some mb)) (.int .i64 id) false h=some (match Qhb id (Xbp l) 0 with | some q=>q.2 | none => .slice none 0 0) /\
  Qfs (E b).toEnv 58 (.map (some mb)) (.int .i64 id) true h=some (match Qhb id (Xbp l) 0 with | some q => .tuple #[q.2,.bool true] | none => .tuple #[.slice none 0 0,.bool false]):=by
 obtain⟨re,he⟩:∃ re,(E b).toEnv.ty.get 29=some re/\re.zero=.slice none 0 0:=⟨((E b).toEnv.ty.get 29).getD ⟨.invalid,0,0,.bool false,[]⟩,by kernel_rfl,by kernel_rfl⟩
 have hf:=Ynf id l
 constructor
 ·simp only[Qfs,Yei,Yo3,Yp1,he.1,Qw2,hm,hf]
  cases Qhb id (Xbp l) 0 with
  | none=>simp[he.2]
  | some q=>simp
 ·simp only[Qfs,Yei,Yo3,Yp1,he.1,Qw2,hm,hf]
  cases Qhb id (Xbp l) 0 with
  | none=>simp[he.2]
  | some q=>simp
theorem Xx8{A B:Type}(f:A->B):∀ (l:List A) (i:Nat),(l.map f).eraseIdx i=(l.eraseIdx i).map f
 | [],_=>by simp
 | _::_,0=>rfl
 | x::l,i+1=>by
  show f x::(l.map f).eraseIdx i=f x::(l.eraseIdx i).map f
  rw[Xx8 f l i]
def Qtw(id:Int)(l:List HE):List HE:=match Qhb id (Xbp l) 0 with
 | some q=>l.eraseIdx q.1
 | none=>l
theorem Yzj(b:Nat){h:Heap}{mb clk:Nat}{l:List HE}(hm:h.get mb=some (.map ⟨Ql8 l⟩ clk))(id:Int) :
  Xqa (E b).toEnv 58 (.map (some mb)) (.int .i64 id) h=some (.tuple #[],h.set mb (some (.map ⟨Ql8 (Qtw id l)⟩ clk))):=by
 have hf:=Ynf id l
 simp only[Xqa,Yei,Yo3,Yp1,hm,hf,Qtw]
 cases Qhb id (Xbp l) 0 with
 | none=>simp
 | some q =>
  simp only[Array.eraseIdxIfInBounds]
  congr 4
  by_cases hq:q.1 < (Ql8 l).length
  ·rw[dif_pos (by simpa using hq)]
   simp[Ql8]
   exact Xx8 _ l q.1
  ·have hl:¬ q.1 < l.length:=by simpa[Ql8]using hq
   rw[dif_neg (by simpa using hq),List.eraseIdx_of_length_le (by omega)]
section
attribute [local simp] Qga Qwa Qw Qpk Qev Qzy Q5f
theorem Xqi(b:Nat){h:Heap}{ω mb z clk:Nat}{ow cv:Value}{l:List HE}(gω:h.get ω=some (.cells true z [ow,cv,.map (some mb)]))(gm:h.get mb=some (.map ⟨Ql8 l⟩ clk))(id:Int)
  (K:KP) (hk:K (.ret (.bool (Qhb id (Xbp l) 0).isSome)) (h.set mb (some (.map ⟨Ql8 (Qtw id l)⟩ clk)))):FK b 8 [.pointer (some ⟨ω,0,none⟩),.int .i64 id] h K:=by
 refine FF b (Qw b) Q47 Xbg Q87 rfl ?_
 have c2:V2 h ω 2=some (.map (some mb)):=by rw[Jb gω];rfl
 have lk:=(Ykg b gm id).2
 have dl:=Yzj b gm id
 cases hf:Qhb id (Xbp l) 0 with
 | none =>
  rw[hf]at lk hk
  simp[c2,lk,dl]
  exact hk
 | some q =>
  rw[hf]at lk hk
  simp[c2,lk,dl]
  exact hk
end
section
attribute [local simp] Qa1 Qfg Xf Qen Qek
theorem X42(b:Nat){h:Heap}{v:Value}{l:List Pt}(s:Sl h 33 v l.length (Jy l))(hn:l.length < 1000000)(K:KP)
  (hk:∀ v' h',Own h' h.next 33 v' l.length (Jy l)->Old h h'->K (.ret v') h'):FK b 22 [v] h K:=by
 refine FF b (Xf b) Qpe Qvh Qub rfl ?_
 have sv:(∃ n c,v=.slice none n c) ∨ ∃ a n c,v=.slice (some a) n c:=by
  rcases s with⟨c,e,_⟩ | ⟨_,_,_,_,_,_,_,e,_⟩
  ·exact .inl ⟨_,_,e⟩
  ·exact .inr ⟨_,_,_,e⟩
 rcases sv with⟨n,c,rfl⟩ | ⟨a,n,c,rfl⟩
 ·have e0:X2h (E b).toEnv .eql 29 (.slice none n c) (.slice none 0 0)=some (.bool true):=by simp[X2h,aEq,Yk5,(T29 b).d]
  simp[e0]
  rcases s with⟨c,e,q1,q2,q3⟩ | ⟨_,_,_,_,_,_,_,e,_⟩
  ·refine hk _ h ?_ (Old.refl _)
   rw[q2,q3]
   exact Own.nil
  ·cases e
 ·have e0:X2h (E b).toEnv .eql 29 (.slice (some a) n c) (.slice none 0 0)=some (.bool false):=by simp[X2h,aEq,Yk5,(T29 b).d]
  have e1:Jf (E b).toEnv 29 0 [] h=some (.slice (some ⟨h.next,0,none⟩) 0 0,h.push (.cells true 1 [])):=by simp[Jf,Yk5,(T29 b).d,X4e,Qcc,Xql,Vf,Nat.ble]
  have oo:Own (h.push (.cells true 1 [])) h.next 33 (.slice (some ⟨h.next,0,none⟩) 0 0) 0 []:=Own.new (Nat.le_refl _) (by rw[Heap.get_push,if_pos rfl]) rfl (by decide) (.inr rfl)
  obtain⟨v',h',k1,k2,k3⟩:=Qxn (T29 b) Qcc (by omega) oo (Nat.le_succ _) (Xpx (T29 b) Qcc (s.old (Old.push h (.cells true 1 [])))) (by rw[Xut]) (by rw[Xvm];omega) (by omega)
  simp[e0,e1,k1]
  refine hk v' h' (by simpa using k2) ⟨Nat.le_trans (Nat.le_succ _) k3.1,fun c hc=>by rw[k3.2 c (Nat.lt_of_lt_of_le hc (Nat.le_succ _)) (by simp[Un];omega),Heap.get_push,if_neg (by omega)]⟩
end
structure Cn where
 pt:Pt
 value:Int
def Cn.cells(x:Cn):List Value:=x.pt.cells ++ [.int .i64 x.value]
theorem Cn.len(x:Cn):x.cells.length=34:=by simp[Cn.cells,Pt.len]
def Jc(l:List Cn):List Value:=l.flatMap Cn.cells
theorem Qet(l:List Cn):(Jc l).length=l.length*34:=by
 induction l with
 | nil=>rfl
 | cons p l ih=>simp[Jc,Cn.len]at ih ⊢;omega
theorem Xm0(l m:List Cn):Jc (l++m)=Jc l++Jc m:=by simp[Jc]
theorem Ywb(x:Cn):x.cells.take 33=x.pt.cells:=by
 rw[Cn.cells,List.take_append_of_le_length (by rw[Pt.len];omega),List.take_of_length_le (by rw[Pt.len];omega)]
theorem X2i(x:Cn):x.cells[33]? = some (.int .i64 x.value):=by
 rw[Cn.cells,List.getElem?_append_right (by rw[Pt.len];omega),Pt.len];rfl
theorem Yqb{b:Nat}{te ts:TypeId}{re rs:TyRec}(T:SlTy (E b).toEnv te ts re rs)(hz:re.size=34){h:Heap}{v:Value}{l:List Cn}(s:Sl h 34 v l.length (Jc l)){i:Nat}{x:Cn}(hp:l[i]? = some x) :
  ∃ bk off,Un v=some bk/\Zm (E b).toEnv ts v (.int .i64 (i:Int))=some (.pointer (some ⟨bk,off,none⟩))/\Qll h bk off 34=some (.agg ⟨x.cells⟩):=by
 have hl:=(List.getElem?_eq_some_iff.1 hp).1
 obtain⟨bk,off,q1,q2,q3,q4⟩:=Xps T hz s (k:=.i64) (i:=(i:Int)) (by omega) (by omega)
 refine⟨bk,off,q1,q2,?_⟩
 rw[q4,Int.toNat_natCast,Jc,Xq1 Cn.len hp]
section
attribute [local simp] Ur Qe0 Zw Qcx
theorem Yj4(b:Nat){h:Heap}{v:Value}{l:List Cn}(s:Sl h 34 v l.length (Jc l))(hn:l.length < 1000000)(K:KP)
  (hk:∀ v' h',Own h' h.next 34 v' l.length (Jc l)->Old h h'->K (.ret v') h'):FK b 32 [v] h K:=by
 refine FF b (Zw b) Qlo Qof Qnn rfl ?_
 have sv:(∃ n c,v=.slice none n c) ∨ ∃ a n c,v=.slice (some a) n c:=by
  rcases s with⟨c,e,_⟩ | ⟨_,_,_,_,_,_,_,e,_⟩
  ·exact .inl ⟨_,_,e⟩
  ·exact .inr ⟨_,_,_,e⟩
 rcases sv with⟨n,c,rfl⟩ | ⟨a,n,c,rfl⟩
 ·have e0:X2h (E b).toEnv .eql 53 (.slice none n c) (.slice none 0 0)=some (.bool true):=by simp[X2h,aEq,Yg5,(T53 b).d]
  simp[e0]
  rcases s with⟨c,e,q1,q2,q3⟩ | ⟨_,_,_,_,_,_,_,e,_⟩
  ·refine hk _ h ?_ (Old.refl _)
   rw[q2,q3]
   exact Own.nil
  ·cases e
 ·have e0:X2h (E b).toEnv .eql 53 (.slice (some a) n c) (.slice none 0 0)=some (.bool false):=by simp[X2h,aEq,Yg5,(T53 b).d]
  have e1:Jf (E b).toEnv 53 0 [] h=some (.slice (some ⟨h.next,0,none⟩) 0 0,h.push (.cells true 1 [])):=by simp[Jf,Yg5,(T53 b).d,X9e,Qbg,Xql,Vf,Nat.ble]
  have oo:Own (h.push (.cells true 1 [])) h.next 34 (.slice (some ⟨h.next,0,none⟩) 0 0) 0 []:=Own.new (Nat.le_refl _) (by rw[Heap.get_push,if_pos rfl]) rfl (by decide) (.inr rfl)
  obtain⟨v',h',k1,k2,k3⟩:=Qxn (T53 b) Qbg (by omega) oo (Nat.le_succ _) (Xpx (T53 b) Qbg (s.old (Old.push h (.cells true 1 [])))) (by rw[Qet]) (by rw[X8m];omega) (by omega)
  simp[e0,e1,k1]
  refine hk v' h' (by simpa using k2) ⟨Nat.le_trans (Nat.le_succ _) k3.1,fun c hc=>by rw[k3.2 c (Nat.lt_of_lt_of_le hc (Nat.le_succ _)) (by simp[Un];omega),Heap.get_push,if_neg (by omega)]⟩
end
def Ygv(q:Cn->Bool):List Cn->Nat->Int
 | [],_ => -1
 | x::l,i=>if q x then(i:Int)else Ygv q l (i+1)
theorem Ylw(q:Cn->Bool){l:List Cn}{i:Nat}{x:Cn}(hx:l[i]? = some x):Ygv q (l.drop i) i=if q x then(i:Int)else Ygv q (l.drop (i+1)) (i+1):=by
 rw[List.drop_eq_getElem_cons (List.getElem?_eq_some_iff.1 hx).1,(List.getElem?_eq_some_iff.1 hx).2,Ygv]
def IXC(v fv:Value)(l:List Cn)(q:Cn->Bool)(h:Heap)(k:Nat)(s:St):Prop:=∃ (t:Tr Value) (h1:Heap) (i:Nat),s=⟨⟨19,t⟩,[],h1⟩/\t.get 0=some v/\t.get 1=some fv/\t.get 7=some (.int .i64 (l.length:Int))/\t.get 8=some (.int .i64 (i:Int))/\i<=l.length/\k=l.length-i/\Old h h1/\Ygv q l 0=Ygv q (l.drop i) i
section
attribute [local simp] Z5 J4 Y5 J0 Qve Y3 Zx Zz Qgw Qgr Zv Y6 Zs Zt
theorem Yuu(b:Nat){h:Heap}{v:Value}{l:List Cn}{f:FuncId}{F:Func}(hF:(E b).fn.get f=some F){cap:List Value}(q:Cn->Bool)(s:Sl h 34 v l.length (Jc l))(hn:l.length < 1000000)
  (hq:∀ x ∈ l,∀ h1,Old h h1->∀ K,(∀ h2,Old h1 h2->K (.ret (.bool (q x))) h2)->CallOK Tryd.prog (E b).G f (.agg ⟨x.cells⟩::cap) h1 K)
  (K:KP) (hk:∀ h',Old h h'->K (.ret (.int .i64 (Ygv q l 0))) h'):CallOK Tryd.prog (E b).G 49 [v,.func (.func f) #[] cap.toArray] h K:=by
 refine Qn0 (E b) (Vl _ _) (Qcb b) (Vk b) Qa5 (Qd8 b) (Y5 b) Qif Qkx Qk0 rfl ?_
 have len:∀ hx,Q43 (E b).toEnv 53 v hx=some (.int .i64 (l.length:Int)):=fun hx=>Qhl (T53 b) s
 simp[len]
 refine Qff (IXC v (.func (.func f) #[] cap.toArray) l q h) l.length ⟨_,h,0,rfl,by simp,by simp,by simp,by simp,by omega,rfl,Old.refl _,rfl⟩ ?_
 rintro k s' ⟨t,h1,i,rfl,t0,t1,t7,t8,hi,rfl,a1,ei⟩ _
 by_cases hlt:i < l.length
 ·have hlt':(i:Int) < (l.length:Int):=by omega
  have hw:=wS (i:=i) (by omega)
  obtain⟨x,hx⟩:∃ x,l[i]? = some x:=⟨_,List.getElem?_eq_getElem hlt⟩
  obtain⟨bk,off, -,x1,x2⟩:=Yqb (b:=b) (T53 b) Qbg (s.old a1) hx
  simp[t0,t1,t7,t8,hlt,hlt',x1,x2,hF]
  refine hq x (List.mem_of_getElem? hx) h1 a1 _ fun h2 a2 => ?_
  rw[Ylw q hx]at ei
  cases hqx:q x with
  | true =>
   rw[hqx,if_pos rfl]at ei
   rw[ei]at hk
   simp
   exact hk h2 (a1.trans a2)
  | false =>
   rw[hqx,if_neg (by simp)]at ei
   simp[t8,hw]
   exact⟨l.length-(i+1),by omega,_,h2,i+1,rfl,by simp[t0],by simp[t1],by simp[t7],by simp,by omega,rfl,a1.trans a2,ei⟩
 ·have hlt':¬ (i:Int) < (l.length:Int):=by omega
  have : i=l.length:=by omega
  subst this
  rw[List.drop_length]at ei
  rw[show Ygv q l 0 = -1 from ei]at hk
  simp[t7,t8]
  exact hk h1 a1
end
theorem Xpo{h:Heap}{n0 z n:Nat}{v:Value}{xs:List Value}(o:Own h n0 z v n xs){bk i:Nat}(hb:Un v=some bk)(ys:List Value)(hi:i+ys.length<=xs.length) :
  ∃ h',Qbh h bk i ys=some h'/\Own h' n0 z v n (xs.take i++ys++xs.drop (i+ys.length))/\h'.next=h.next/\∀ c,c≠bk->h'.get c=h.get c:=by
 rcases o with⟨rfl,rfl,rfl⟩ | ⟨bk',c,z',rest,rfl,h1,h2,h3,h4,h5,h6⟩
 ·cases hb
 ·simp only[Un,Option.some.injEq]at hb
  subst hb
  have hlt:=Heap.get_lt h2
  have e:(xs++rest).take i++ys++(xs++rest).drop (i+ys.length)=(xs.take i++ys++xs.drop (i+ys.length))++rest:=by
   rw[List.take_append_of_le_length (by omega),List.drop_append_of_le_length hi]
   simp only[List.append_assoc]
  have l:(xs.take i++ys++xs.drop (i+ys.length)).length=xs.length:=by simp;omega
  refine⟨_,Qgt h2 (by simp;omega),.inr ⟨bk',c,z',rest,rfl,h1,by rw[Heap.get_set _ _ _ _ hlt,if_pos rfl,e],by rw[l];exact h3,h4,h5,?_⟩,rfl,fun k hk=>by rw[Heap.get_set _ _ _ _ hlt,if_neg (Ne.symm hk)]⟩
  rcases h6 with q | ⟨q1,q2⟩
  ·exact .inl q
  ·exact .inr ⟨q1,by rw[List.length_append,l,<- List.length_append];exact q2⟩
section
variable{P:Program}{E:Env P}{te ts:TypeId}{re rs:TyRec}(T:SlTy E te ts re rs)
include T
theorem Ypp{h:Heap}{n0 z n:Nat}{v:Value}{xs:List Value}{k:IntKind}{i:Nat}(hz:re.size=z)(hz1:1<=z)(o:Own h n0 z v n xs)(hi:i < n) :
  ∃ bk c',Un v=some bk/\Qay E ts v (some (.int k (i:Int))) none none h=some (.slice (some ⟨bk,i*z,none⟩) (n-i) c',h):=by
 rcases o with⟨rfl,h0,rfl⟩ | ⟨bk,c,z',rest,rfl,h1,h2,h3,h4,h5,h6⟩
 ·omega
 have e00:((none:Option Value).isNone && (none:Option Value).isSome)=false:=rfl
 have blo:Qb3 (some (.int k (i:Int))) 0 n=some i:=by rw[Xu4 (by omega) (by omega)];simp
 have bhi:∀ room,Qb3 (none:Option Value) n room=some n:=fun _=>rfl
 by_cases hc:c=Qg5
 ·subst hc
  have hz':z'=z:=by
   rcases h6 with q | q
   ·exact q.2
   ·exact absurd rfl q.1
  subst hz'
  have e0:(Qg5 != Qg5)=false:=by simp
  have e1:(z' == re.size && 0 % z' == 0 && Nat.ble 1 z')=true:=by simp[hz,Q5t hz1]
  have q1:Qay E ts (.slice (some ⟨bk,0,none⟩) n Qg5) (some (.int k (i:Int))) none none h=Qay.aCut ⟨bk,0,none⟩ z' (xs++rest).length i n h:=by
   simp only[Qay,e00,Bool.false_eq_true,if_false,T.s,T.d,T.e,e0,h2,e1,if_true,bhi,blo]
  by_cases hi0:i=0
  ·subst hi0
   exact⟨bk,Qg5,rfl,by rw[q1];simp[Qay.aCut]⟩
  ·have hl0:(i == 0)=false:=by simpa using hi0
   have hb:i*z' < (xs++rest).length:=by
    have : (i+1)*z'<=n*z':=Nat.mul_le_mul_right _ hi
    rw[Nat.add_mul]at this
    rw[List.length_append];omega
   have hb':Nat.blt (i*z') (xs++rest).length=true:=by rw[Nat.blt_eq];exact hb
   refine⟨bk,Qg5,rfl,?_⟩
   rw[q1]
   simp only[Qay.aCut,hl0,Bool.false_eq_true,if_false,Nat.zero_add,hb',if_true,Qgs]
 ·have e0:(c != Qg5)=true:=by simpa using hc
  have e1:(c-i == Qg5)=false:=by simp;omega
  have e2:Qb3 (none:Option Value) c c=some c:=rfl
  refine⟨bk,c-i,rfl,?_⟩
  simp only[Qay,e00,Bool.false_eq_true,if_false,T.s,T.d,T.e,e0,if_true,e2,bhi,blo,Yrs,e1]
  have hci:¬ c=i:=by omega
  simp[hci,Qgs,hz]
theorem Yki{h:Heap}{n0 z n:Nat}{v:Value}{xs:List Value}{i c' bk:Nat}(hz:re.size=z)(hz1:1<=z)(o:Own h n0 z v n xs)(hb:Un v=some bk)(hi:i < n) :
  ∃ h' zs,Xux E ts (.slice (some ⟨bk,i*z,none⟩) (n-i) c') h=some (.tuple #[],h')/\Own h' n0 z v n (xs.take (i*z)++zs)/\h'.next=h.next/\∀ c,c≠bk->h'.get c=h.get c:=by
 have lx:=o.len
 obtain⟨-, -, -, -, -, -, -, -,hzc, -⟩:=E.tyok _ _ T.e
 have lz:∀ m,(Vf re.zero.cells.toList m).length=m*z:=fun m=>by
  induction m with
  | zero=>simp[Vf]
  | succ m ih=>simp[Vf,hzc,hz,ih,Nat.add_mul];omega
 obtain⟨m,hm⟩:∃ m,n-i=m+1:=⟨n-i-1,by omega⟩
 have lm:(m+1)*z=n*z-i*z:=by rw[<- hm,Nat.sub_mul]
 have li:(i+1)*z<=n*z:=Nat.mul_le_mul_right _ hi
 rw[Nat.add_mul]at li
 obtain⟨h',s1,s2,s3,s4⟩:=Xpo o hb (Vf re.zero.cells.toList (m+1)) (i:=i*z) (by rw[lz,lx];omega)
 refine⟨h',Vf re.zero.cells.toList (m+1),?_,?_,s3,s4⟩
 ·have b1:Nat.ble 1 re.size=true:=Q5t (by omega)
  have st:storeAt h ⟨bk,i*z,none⟩ (Vf re.zero.cells.toList (m+1))=some h':=s1
  rw[hm]
  simp only[Xux,T.s,T.d,T.e,b1,st,Option.map_some]
 ·rw[List.drop_eq_nil_of_le (by rw[lz,lx];omega),List.append_nil]at s2
  exact s2
end
theorem Yab{q:Cn->Bool}:∀ {l:List Cn} {i:Nat},Ygv q l i = -1->l.filter (fun x => !q x)=l
 | [],_,_=>rfl
 | x::l,i,h=>by
  rw[Ygv]at h
  cases hq:q x with
  | true=>rw[hq,if_pos rfl]at h;omega
  | false =>
   rw[hq,if_neg (by simp)]at h
   simp[hq,Yab h]
theorem Yb0{q:Cn->Bool}:∀ {l:List Cn} {i:Nat},Ygv q l i ≠ -1->∃ j,Ygv q l i=((i+j:Nat):Int)/\j < l.length/\(l.take j).filter (fun x => !q x)=l.take j/\∃ x,l[j]? = some x/\q x=true
 | [],_,h=>absurd rfl h
 | x::l,i,h=>by
  rw[Ygv]at h ⊢
  cases hq:q x with
  | true=>rw[if_pos rfl];exact⟨0,by simp,by simp,by simp,x,rfl,hq⟩
  | false =>
   rw[hq,if_neg (by simp)]at h
   rw[if_neg (by simp)]
   obtain⟨j,h1,h2,h3,y,h4,h5⟩:=Yb0 h
   exact⟨j+1,by rw[h1];omega,by simpa using h2,by simp[hq,h3],y,by simpa using h4,h5⟩
theorem X81{q:Cn->Bool}{l:List Cn}{j:Nat}{x:Cn}(hx:l[j]? = some x):(l.take (j+1)).filter (fun x => !q x)=(l.take j).filter (fun x => !q x)++(if q x then []else [x]):=by
 rw[List.take_succ,hx,List.filter_append]
 cases hq:q x <;> simp[hq]
theorem Xn0{b:Nat}{te ts:TypeId}{re rs:TyRec}(T:SlTy (E b).toEnv te ts re rs){h:Heap}{n0 z n:Nat}{v:Value}{xs:List Value}(hz:re.size=z)(o:Own h n0 z v n xs){k:IntKind}{i:Int}(h0:0<=i)(h1:i < n) :
  ∃ bk,Un v=some bk/\Zm (E b).toEnv ts v (.int k i)=some (.pointer (some ⟨bk,i.toNat*z,none⟩)):=by
 rcases o with⟨rfl,rfl,rfl⟩ | ⟨bk,c,z',rest,rfl,g1,g2,g3,g4,g5⟩
 ·omega
 ·refine⟨bk,rfl,?_⟩
  have:=Qn9 (bk:=bk) (o:=0) (c:=c) (k:=k) T hz ⟨h0,h1⟩
  simpa using this
theorem Ymp(b:Nat)(h:Heap)(x:Cn):∃ hA hB,Qhn (E b).toEnv 56 h=some (.pointer (some ⟨h.next,0,none⟩),hA)/\Qd1 (E b).toEnv 56 (.pointer (some ⟨h.next,0,none⟩)) (.agg ⟨x.cells⟩) hA=some hB/\hB.get h.next=some (.cells true 1 x.cells)/\Qll hB h.next 0 34=some (.agg ⟨x.cells⟩)/\Old h hB/\hB.next=h.next+1:=by
 obtain⟨z,hz⟩:∃ z:List Value,z=[.int .u8 0,.int .u8 0,.int .u8 0,.int .u8 0,.int .u8 0,.int .u8 0,.int .u8 0,.int .u8 0,.int .u8 0,.int .u8 0,.int .u8 0,.int .u8 0,.int .u8 0,.int .u8 0,.int .u8 0,.int .u8 0,.int .u8 0,.int .u8 0,.int .u8 0,.int .u8 0,.int .u8 0,.int .u8 0,.int .u8 0,.int .u8 0,.int .u8 0,.int .u8 0,.int .u8 0,.int .u8 0,.int .u8 0,.int .u8 0,.int .u8 0,.int .u8 0,.int .i64 0,.int .i64 0]:=⟨_,rfl⟩
 have lz:z.length=34:=by rw[hz];rfl
 have e:=Qx1 b h
 rw[<- hz]at e
 have g:(h.push (.cells true 1 z)).get h.next=some (.cells true 1 z):=by rw[Heap.get_push,if_pos rfl]
 have lt:=Heap.get_lt g
 have d:(z.take 0++x.cells++z.drop (0+x.cells.length))=x.cells:=by rw[List.drop_eq_nil_of_le (by rw[Cn.len,lz];omega)];simp
 refine⟨_,(h.push (.cells true 1 z)).set h.next (some (.cells true 1 x.cells)),e,?_,by rw[Heap.get_set _ _ _ _ lt,if_pos rfl],?_,(Old.push _ _).set _ (Nat.le_refl _) lt,rfl⟩
 ·rw[Qyv (l:=x.cells) (X9e b) (by rw[Cn.len,Qbg]),Qgt g (by rw[Cn.len,lz];omega),d]
 ·rw[Qe3 (by rw[Heap.get_set _ _ _ _ lt,if_pos rfl]) (by rw[Cn.len];omega),List.drop_zero,List.take_of_length_le (by rw[Cn.len];omega)]
def DLI(fv v:Value)(bk:Nat)(l:List Cn)(q:Cn->Bool)(h:Heap)(n0:Nat)(k:Nat)(s:St):Prop:=∃ (t:Tr Value) (h1:Heap) (j:Nat) (mid:List Cn),s=⟨⟨42,t⟩,[],h1⟩/\t.get 0=some v/\t.get 1=some fv/\t.get 5=some (.int .i64 (((l.take j).filter fun x => !q x).length:Int))/\t.get 6=some (.int .i64 (j:Int))/\j<=l.length/\k=l.length-j /\
 Beyond v h h1/\Own h1 n0 34 v l.length (Jc (((l.take j).filter fun x => !q x)++mid++l.drop j))/\mid ≠ []/\(((l.take j).filter fun x => !q x)++mid).length=j
section
attribute [local simp] Yi Yz Ya Y5 V3 Y6 Qve Y3 Qgw Qgr Qkn
set_option maxHeartbeats 1000000 in
theorem Yr7(b:Nat){h:Heap}{n0:Nat}{v:Value}{l:List Cn}{f:FuncId}{F:Func}(hF:(E b).fn.get f=some F){cap:List Value}(q:Cn->Bool)(o:Own h n0 34 v l.length (Jc l))(hn:l.length < 1000000)(h0:n0<=h.next)
  (hq:∀ x ∈ l,∀ h1,Beyond v h h1->∀ K,(∀ h2,Old h1 h2->K (.ret (.bool (q x))) h2)->CallOK Tryd.prog (E b).G f (.agg ⟨x.cells⟩::cap) h1 K)
  (K:KP) (hk:∀ v' h',Own h' n0 34 v' (l.filter fun x => !q x).length (Jc (l.filter fun x => !q x))->Beyond v h h'->K (.ret v') h') :
  CallOK Tryd.prog (E b).G 31 [v,.func (.func f) #[] cap.toArray] h K:=by
 refine Qn0 (E b) (Vl _ _) (Qcb b) (Vk b) Qa5 (Qd8 b) (Ya b) Qhf Qk4 Qjq rfl ?_
 have len:∀ hx,Q43 (E b).toEnv 53 v hx=some (.int .i64 (l.length:Int)):=fun hx=>Qhl (T53 b) o.sl
 simp[Qx1]
 refine Yuu b hF q o.sl hn (fun x hx h1 a1=>hq x hx h1 ⟨a1.1,fun c hc _=>a1.2 c hc⟩) _ fun h1 a1 => ?_
 have b1:Beyond v h h1:=⟨a1.1,fun c hc _=>a1.2 c hc⟩
 have o1:Own h1 n0 34 v l.length (Jc l):=o.keep fun c _ hc=>a1.2 c hc
 by_cases hi:Ygv q l 0 = -1
 ·simp[Qx1,hi]
  refine hk v h1 ?_ b1
  rw[Yab hi]
  exact o1
 obtain⟨i,ei,li,ki,y,hy,qy⟩:=Yb0 hi
 rw[Nat.zero_add]at ei
 have hi':¬ (i:Int) = -1:=by omega
 have hwi:=wS (i:=i) (by omega)
 rw[ei]
 simp[Qx1,hi',hwi]
 have kk:(l.take (i+1)).filter (fun x => !q x)=l.take i:=by rw[X81 hy,qy,if_pos rfl,ki,List.append_nil]
 have lk:(l.take i).length=i:=by rw[List.length_take];omega
 obtain⟨bk,ebk⟩:∃ bk,Un v=some bk:=by
  rcases o1 with⟨_,e,_⟩ | ⟨bk,c,z',rest,rfl,_⟩
  ·omega
  ·exact⟨bk,rfl⟩
 refine Qff (DLI (.func (.func f) #[] cap.toArray) v bk l q h n0) (l.length-(i+1)) ⟨_,h1,i+1,[y],rfl,by simp,by simp,by rw[kk,lk];simp,by simp,by omega,rfl,b1,?_,by simp,by rw[kk,List.length_append,lk];rfl⟩ ?_
 ·have e:l.take i ++ [y]++l.drop (i+1)=l:=by
   have hd:=List.drop_eq_getElem_cons li
   rw[(List.getElem?_eq_some_iff.1 hy).2]at hd
   rw[List.append_assoc,List.singleton_append,<- hd,List.take_append_drop]
  rw[kk,e]
  exact o1
 rintro k s' ⟨t,h2,j,mid,rfl,t0,t1,t5,t6,hj,rfl,b2,o2,hm,hl⟩ _
 have ew:(((l.take j).filter fun x => !q x)++mid++l.drop j).length=l.length:=by rw[List.length_append,hl,List.length_drop];omega
 have o2':=o2
 rw[<- ew]at o2'
 by_cases hlt:j < l.length
 ·have hlt':(j:Int) < (l.length:Int):=by omega
  have hw:=wS (i:=j) (by omega)
  obtain⟨x,hx⟩:∃ x,l[j]? = some x:=⟨_,List.getElem?_eq_getElem hlt⟩
  have hd:l.drop j=x::l.drop (j+1):=by rw[List.drop_eq_getElem_cons hlt,(List.getElem?_eq_some_iff.1 hx).2]
  have hx':(((l.take j).filter fun x => !q x)++mid++l.drop j)[j]? = some x:=by rw[List.getElem?_append_right (by omega),hl,Nat.sub_self,hd];rfl
  obtain⟨bk',off,y0,x1,x2⟩:=Yqb (b:=b) (T53 b) Qbg o2'.sl hx'
  obtain⟨hA,hB,alB,stB,gB,aB,oB,nB⟩:=Ymp b h2 x
  simp[Qx1,len,t0,t1,t5,t6,hlt,hlt',x1,x2,hF,-Qx1,alB,stB,aB]
  have beyB:Beyond v h hB:=⟨Nat.le_trans b2.1 oB.1,fun c hc hn=>by rw[oB.2 c (Nat.lt_of_lt_of_le hc b2.1),b2.2 c hc hn]⟩
  refine hq x (List.mem_of_getElem? hx) hB beyB _ fun h3 a3 => ?_
  have b3:Beyond v h h3:=⟨Nat.le_trans beyB.1 a3.1,fun c hc hn=>by rw[a3.2 c (Nat.lt_of_lt_of_le hc beyB.1),beyB.2 c hc hn]⟩
  have o3:=o2.keep fun c _ hc=>(oB.trans a3).2 c hc
  have aB3:Qll h3 h2.next 0 34=some (.agg ⟨x.cells⟩):=agW (a3.get gB) (by rw[Cn.len];omega) (by rw[Cn.len];omega)
  have km:=X81 (q:=q) hx
  cases hqx:q x with
  | true =>
   rw[hqx,if_pos rfl,List.append_nil]at km
   simp[Qx1,t6,hw]
   refine⟨l.length-(j+1),by omega,_,h3,j+1,mid ++ [x],rfl,by simp[t0],by simp[t1],by rw[km];simp[t5],by simp,by omega,rfl,b3,?_,by simp,?_⟩
   ·rw[km]
    rw[hd]at o3
    simpa using o3
   ·rw[km]
    simp at hl ⊢
    omega
  | false =>
   rw[hqx,if_neg (by simp)]at km
   obtain⟨m0,mid',rfl⟩:∃ m0 mid',mid=m0::mid':=by
    cases mid with
    | nil=>exact absurd rfl hm
    | cons a m=>exact⟨a,m,rfl⟩
   have lf:((l.take j).filter fun x => !q x).length < l.length:=by simp at hl;omega
   obtain⟨fl,hfl⟩:∃ fl,fl=(l.take j).filter fun x => !q x:=⟨_,rfl⟩
   rw[<- hfl]at t5 o3 lf hl km
   have lfo:(Jc (fl++m0::mid'++l.drop j)).length=l.length*34:=o3.len
   obtain⟨bk2,y1,y2⟩:=Xn0 (b:=b) (T53 b) Qbg o3 (k:=.i64) (i:=(fl.length:Int)) (by omega) (by omega)
   rw[Int.toNat_natCast]at y2
   obtain⟨h4,s1,s2,s3,s4⟩:=Xpo o3 y1 x.cells (i:=fl.length*34) (by rw[lfo,Cn.len];have : (fl.length+1)*34<=l.length*34:=Nat.mul_le_mul_right _ lf;omega)
   have st4:Qd1 (E b).toEnv 56 (.pointer (some ⟨bk2,fl.length*34,none⟩)) (.agg ⟨x.cells⟩) h3=some h4:=by rw[Qyv (l:=x.cells) (X9e b) (by rw[Cn.len,Qbg])];exact s1
   have hwf:IntKind.i64.wrap ((fl.length:Int)+1)=((fl.length+1:Nat):Int):=by rw[Wp (by omega) (by omega)];omega
   have s2':Own h4 n0 34 v l.length (Jc ((fl ++ [x])++(mid' ++ [x])++l.drop (j+1))):=by
    have e:(Jc (fl++m0::mid'++l.drop j)).take (fl.length*34)++x.cells++(Jc (fl++m0::mid'++l.drop j)).drop (fl.length*34+x.cells.length)=Jc ((fl ++ [x])++(mid' ++ [x])++l.drop (j+1)):=by
     have e1:Jc (fl++m0::mid'++l.drop j)=Jc fl++(m0.cells++Jc (mid'++l.drop j)):=by simp[Jc]
     rw[e1,List.take_append_of_le_length (by rw[Qet];omega),List.take_of_length_le (by rw[Qet];omega),Cn.len,List.drop_append,List.drop_append,Qet,List.drop_eq_nil_of_le (by rw[Qet];omega),List.drop_eq_nil_of_le (by rw[Cn.len];omega),Cn.len,show fl.length*34+34-fl.length*34-34=0 from by omega,List.drop_zero,hd]
     simp[Jc]
    rw[e]at s2
    exact s2
   simp[Qx1,t0,t5,t6,hw,aB3,y2,st4,hwf]
   have b4:Beyond v h h4:=⟨by rw[s3];exact b3.1,fun c hc hn=>by rw[s4 c (fun e=>hn (by rw[e];exact y1)),b3.2 c hc hn]⟩
   refine⟨l.length-(j+1),by omega,_,h4,j+1,mid' ++ [x],rfl,by simp[t0],by simp[t1],by rw[km];simp,by simp,by omega,rfl,b4,by rw[km];exact s2',by simp,?_⟩
   rw[km]
   simp at hl ⊢
   omega
 ·have hlt':¬ (j:Int) < (l.length:Int):=by omega
  have : j=l.length:=by omega
  subst this
  rw[List.take_length]at t5 o2 hl
  obtain⟨fl,hfl⟩:∃ fl,fl=l.filter fun x => !q x:=⟨_,rfl⟩
  rw[<- hfl]at t5 o2 hl hk
  have lf:fl.length < l.length:=by
   have : 0 < mid.length:=List.length_pos_iff.2 hm
   rw[List.length_append]at hl;omega
  obtain⟨bk2,c',z1,z2⟩:=Ypp (k:=.i64) (T53 b) Qbg (by omega) o2 lf
  obtain⟨h4,zs,u1,u2,u3,u4⟩:=Yki (c':=c') (T53 b) Qbg (by omega) o2 z1 lf
  obtain⟨v5,w1,w2, -⟩:=Ygz (k:=.i64) (i:=(fl.length:Int)) (T53 b) Qbg (by omega) u2 (by omega) (by omega)
  simp[Qx1,len,t0,t5,t6,z2,u1,w1]
  refine hk v5 h4 ?_ ⟨by rw[u3];exact b2.1,fun c hc hn=>by rw[u4 c (fun e=>hn (by rw[e];exact z1)),b2.2 c hc hn]⟩
  rw[Int.toNat_natCast]at w2
  have e:((Jc (fl++mid++l.drop l.length)).take (fl.length*34)++zs).take (fl.length*34)=Jc fl:=by
   have e1:(Jc (fl++mid++l.drop l.length)).take (fl.length*34)=Jc fl:=by
    rw[List.append_assoc,Xm0,List.take_append_of_le_length (by rw[Qet];omega),List.take_of_length_le (by rw[Qet];omega)]
   rw[e1,List.take_append_of_le_length (by rw[Qet];omega),List.take_of_length_le (by rw[Qet];omega)]
  rw[e]at w2
  exact w2
end
structure WalM (h:Heap) (ω mb z clk:Nat) (ow cv:Value) (cs:List Cn) (l:List HE):Prop where
 gω:h.get ω=some (.cells true z [ow,cv,.map (some mb)])
 gm:h.get mb=some (.map ⟨Ql8 l⟩ clk)
 B:Born (Ql8 l) clk
 hs:∀ x ∈ l,Sl h 33 x.ie.val x.pts.length (Jy x.pts)/\x.pts.length < 1000000
 cn:Sl h 34 cv cs.length (Jc cs)
 lt:cs.length < 1000000
theorem WalM.keep{h h':Heap}{ω mb z clk n0:Nat}{ow cv:Value}{cs:List Cn}{l:List HE}(w:WalM h ω mb z clk ow cv cs l)(k:∀ c,c < h.next->h'.get c=h.get c):WalM h' ω mb z clk ow cv cs l :=
 ⟨by rw[k _ (Heap.get_lt w.gω)];exact w.gω,by rw[k _ (Heap.get_lt w.gm)];exact w.gm,w.B,fun x hx=>⟨(w.hs x hx).1.keep fun c _ hc=>k c hc,(w.hs x hx).2⟩,w.cn.keep fun c _ hc=>k c hc,w.lt⟩
theorem WalM.old{h h':Heap}{ω mb z clk:Nat}{ow cv:Value}{cs:List Cn}{l:List HE}(w:WalM h ω mb z clk ow cv cs l)(a:Old h h'):WalM h' ω mb z clk ow cv cs l:=w.keep (n0:=0) fun c hc=>a.2 c hc
def X8g(l:List HE)(x:Cn):Bool:=decide (∃ y ∈ l,x.pt ∈ y.pts)
def Xjr(cs:List Cn)(l:List HE):List Cn:=cs.filter fun x => !X8g l x
section
attribute [local simp] Ym1
theorem Yza(b:Nat){h:Heap}{A ω mb z clk:Nat}{ow cv:Value}{cs:List Cn}{l:List HE}(w:WalM h ω mb z clk ow cv cs l)(gA:h.get A=some (.cells true 1 [.pointer (some ⟨ω,0,none⟩)]))(x:Cn)(K:KP)
  (hk:∀ h',Old h h'->K (.ret (.bool (X8g l x))) h'):CallOK Tryd.prog (E b).G 33 [.agg ⟨x.cells⟩,.pointer (some ⟨A,0,none⟩)] h K:=by
 refine Qn0 (E b) (Vl _ _) (Qcb b) (Vk b) Qa5 (Qd8 b) (Qf8 b) Q7f Xe8 Xak rfl ?_
 obtain⟨hB,eB⟩:∃ hB,hB=h.push (.cells true 1 x.cells):=⟨_,rfl⟩
 have bx:=Xs7 eB
 have aB:=Q33 eB
 have gB:hB.get h.next=some (.cells true 1 x.cells):=by rw[eB,Heap.get_push,if_pos rfl]
 have cA:V2 hB A 0=some (.pointer (some ⟨ω,0,none⟩)):=by rw[Jb (aB.get gA)];rfl
 have lp:Qll hB h.next 0 33=some (.agg ⟨x.pt.cells⟩):=by rw[Qe3 gB (by rw[Cn.len];omega),List.drop_zero,Ywb]
 simp[Qh2,Qwx,Qf8,Qvj,Uo,Vb,bx,cA,lp]
 have w':=w.old aB
 refine Yrb b w'.gω w'.gm w'.B w'.hs x.pt _ fun h2 a2 => ?_
 simp[Qh2,Qwx,Qf8,Qvj,Uo,Vb]
 exact hk h2 (aB.trans a2)
theorem Ykz(b:Nat){h:Heap}{ω mb z clk:Nat}{ow cv:Value}{cs:List Cn}{l:List HE}(w:WalM h ω mb z clk ow cv cs l)(K:KP)
  (hk:∀ v' h',Own h' h.next 34 v' (Xjr cs l).length (Jc (Xjr cs l))->Old h h'->K (.ret v') h'):CallOK Tryd.prog (E b).G 18 [.pointer (some ⟨ω,0,none⟩)] h K:=by
 refine Qn0 (E b) (Vl _ _) (Qcb b) (Vk b) Qa5 (Qd8 b) (Yj b) Xb0 Xkh Xf8 rfl ?_
 obtain⟨hB,eB⟩:∃ hB,hB=h.push (.cells true 1 [.pointer (some ⟨ω,0,none⟩)]):=⟨_,rfl⟩
 have bx:Yn3 (.pointer (some ⟨ω,0,none⟩)) h=some (.pointer (some ⟨h.next,0,none⟩),hB):=by rw[eB];rfl
 have aB:=Q33 eB
 have gB:hB.get h.next=some (.cells true 1 [.pointer (some ⟨ω,0,none⟩)]):=by rw[eB,Heap.get_push,if_pos rfl]
 have nB:=X0g eB
 have cA:V2 hB h.next 0=some (.pointer (some ⟨ω,0,none⟩)):=by rw[Jb gB];rfl
 have w1:=w.old aB
 have c1:V2 hB ω 1=some cv:=by rw[Jb w1.gω];rfl
 simp[Qf4,Qo6,Yj,Q07,Xtg,Zw,Ya,bx,cA,c1,Q5f]
 refine(Yj4 b w1.cn w1.lt _ fun v2 h2 o2 a2 => ?_).ok
 simp[Qf4,Qo6,Yj,Q07,Xtg,Zw,Ya]
 refine Yr7 b (Qf8 b) (cap:=[.pointer (some ⟨h.next,0,none⟩)]) (X8g l) o2 w.lt a2.1 (fun x _ h3 b3 K3 hk3 => ?_) _ fun v4 h4 o4 b4 => ?_
 ·have k3:∀ c,c < hB.next->h3.get c=hB.get c:=fun c hc=>by
   rw[b3.2 c (Nat.lt_of_lt_of_le hc a2.1) (fun e=>by have:=(o2.from e).1;omega),a2.2 c hc]
  exact Yza b (w1.keep (n0:=0) k3) (by rw[k3 _ (by omega)];exact gB) x K3 hk3
 ·simp[Qf4,Qo6,Yj,Q07,Xtg,Zw,Ya]
  exact hk v4 h4 (o4.low (by omega)) (aB.trans (b4.old a2 o2))
end
def Ql7(l:List Cn):Int:=(l.map (·.value)).sum
theorem X6r(l m:List Cn):Ql7 (l++m)=Ql7 l+Ql7 m:=by simp[Ql7]
theorem Xra{l:List Cn}(h:∀ x ∈ l,0<=x.value/\x.value<=2 ^ 40):0<=Ql7 l/\Ql7 l<=(l.length:Int)*2 ^ 40:=by
 induction l with
 | nil=>exact⟨by simp[Ql7],by simp[Ql7]⟩
 | cons x l ih =>
  have h1:=h x (by simp)
  have h2:=ih fun y hy=>h y (by simp[hy])
  have e:Ql7 (x::l)=x.value+Ql7 l:=by simp[Ql7]
  rw[e]
  simp only[List.length_cons,Int.natCast_add,Int.natCast_one]
  omega
theorem Ymv{l:List Cn}(h:∀ x ∈ l,0<=x.value/\x.value<=2 ^ 40)(hl:l.length < 1000000){i:Nat}{x:Cn}(hx:l[i]? = some x):IntKind.i64.wrap (Ql7 (l.take i)+x.value)=Ql7 (l.take (i+1)):=by
 have e:l.take (i+1)=l.take i ++ [x]:=by rw[List.take_succ,hx];rfl
 have h1:=Xra (l:=l.take (i+1)) fun y hy=>h y (List.mem_of_mem_take hy)
 have h2:(l.take (i+1)).length<=l.length:=List.length_take_le' _ _
 have e2:Ql7 (l.take (i+1))=Ql7 (l.take i)+x.value:=by rw[e,X6r];simp[Ql7]
 rw[<- e2,Wp (by omega) (by omega)]
def FRI(v:Value)(l:List Cn)(h:Heap)(k:Nat)(s:St):Prop:=∃ (t:Tr Value) (h1:Heap) (i:Nat),s=⟨⟨19,t⟩,[],h1⟩/\t.get 7=some v/\t.get 8=some (.int .i64 (l.length:Int))/\t.get 9=some (.int .i64 (i:Int))/\t.get 3=some (.int .i64 (Ql7 (l.take i)))/\i<=l.length/\k=l.length-i/\Old h h1
section
attribute [local simp] Qc7 Qgo Xe Qf9 Qfa Yj Qve Y3 Qgw Qgr Qkn Qkp Qes Y6
theorem X5h(b:Nat){h:Heap}{ω mb z clk:Nat}{ow cv:Value}{cs:List Cn}{l:List HE}(w:WalM h ω mb z clk ow cv cs l)(hv:∀ x ∈ cs,0<=x.value/\x.value<=2 ^ 40)(K:KP)
  (hk:∀ h',Old h h'->K (.ret (.int .i64 (Ql7 (Xjr cs l)))) h'):CallOK Tryd.prog (E b).G 6 [.pointer (some ⟨ω,0,none⟩)] h K:=by
 refine Qn0 (E b) (Vl _ _) (Qcb b) (Vk b) Qa5 (Qd8 b) (Xe b) Q9y Xjk Xfq rfl ?_
 simp[Qx1]
 refine Ykz b w _ fun v2 h2 o2 a2 => ?_
 obtain⟨fl,hfl⟩:∃ fl,fl=Xjr cs l:=⟨_,rfl⟩
 rw[<- hfl]at o2 hk
 have hvf:∀ x ∈ fl,0<=x.value/\x.value<=2 ^ 40:=fun x hx=>hv x (by rw[hfl]at hx;exact(List.mem_filter.1 hx).1)
 have hlf:fl.length < 1000000:=by rw[hfl];exact Nat.lt_of_le_of_lt (List.length_filter_le _ _) w.lt
 have len:∀ hx,Q43 (E b).toEnv 53 v2 hx=some (.int .i64 (fl.length:Int)):=fun hx=>Qhl (T53 b) o2.sl
 simp[Qx1,len]
 refine Qff (FRI v2 fl h2) fl.length ⟨_,h2,0,rfl,by simp,by simp,by simp,by simp[Ql7],by omega,rfl,Old.refl _⟩ ?_
 rintro k s' ⟨t,h3,i,rfl,t7,t8,t9,t3,hi,rfl,a3⟩ _
 by_cases hlt:i < fl.length
 ·have hlt':(i:Int) < (fl.length:Int):=by omega
  have hw:=wS (i:=i) (by omega)
  obtain⟨x,hx⟩:∃ x,fl[i]? = some x:=⟨_,List.getElem?_eq_getElem hlt⟩
  obtain⟨bk,off, -,x1,x2⟩:=Yqb (b:=b) (T53 b) Qbg (o2.sl.keep fun c _ hc=>a3.2 c hc) hx
  obtain⟨hA,hB,alB,stB,gB,lB,oB,nB⟩:=Ymp b h3 x
  have cv:V2 hB h3.next 33=some (.int .i64 x.value):=by rw[Jb gB,X2i]
  have sv:=Ymv hvf hlf hx
  simp[Qx1,t3,t7,t8,t9,hlt,hlt',x1,x2,-Qx1,alB,stB,cv,sv,hw]
  exact⟨fl.length-(i+1),by omega,_,hB,i+1,rfl,by simp[t7],by simp[t8],by simp,by simp,by omega,rfl,a3.trans oB⟩
 ·have hlt':¬ (i:Int) < (fl.length:Int):=by omega
  have : i=fl.length:=by omega
  subst this
  rw[List.take_length]at t3
  simp[Qx1,t3,t7,t8,t9]
  exact hk h3 (a2.trans a3)
end
def Xd6(id:Int)(l:List HE):Option HE:=match Qhb id (Xbp l) 0 with
 | some q=>l[q.1]?
 | none=>none
theorem X54{id:Int}{l:List HE}{q:Nat × Value}(hq:Qhb id (Xbp l) 0=some q):∃ x,l[q.1]? = some x/\x.ie.val=q.2/\x.ie.key=id:=by
 obtain⟨i,v⟩:=q
 obtain⟨y,h1,h2,h3,h4⟩:=X23 hq
 rw[Nat.sub_zero,Xbp,List.getElem?_map]at h1
 cases hx:l[i]? with
 | none=>rw[hx]at h1;cases h1
 | some x =>
  rw[hx]at h1
  cases h1
  exact⟨x,rfl,h4,h3⟩
section
attribute [local simp] Qc6 Qgm Xd Qf3 Qev Qzy Xf
theorem Ylm(b:Nat){h:Heap}{ω mb z clk:Nat}{ow cv:Value}{cs:List Cn}{l:List HE}(w:WalM h ω mb z clk ow cv cs l)(id:Int)(K:KP)
  (hk:∀ v' h' pts,pts=((Xd6 id l).map (·.pts)).getD []->Own h' h.next 33 v' pts.length (Jy pts)->Old h h'->K (.ret v') h'):FK b 11 [.pointer (some ⟨ω,0,none⟩),.int .i64 id] h K:=by
 refine FF b (Xd b) Xaz Xjw Xez rfl ?_
 have c2:V2 h ω 2=some (.map (some mb)):=by rw[Jb w.gω];rfl
 have lk:=(Ykg b w.gm id).1
 cases hf:Qhb id (Xbp l) 0 with
 | none =>
  rw[hf]at lk
  simp[Q5f,c2,lk]
  refine X42 b (l:=[]) Sl.nil (by simp) _ fun v2 h2 o2 a2 => ?_
  simp
  exact hk v2 h2 [] (by simp[Xd6,hf]) o2 a2
 | some q =>
  rw[hf]at lk
  obtain⟨x,q1,q2,q3⟩:=X54 hf
  have hx:=w.hs x (List.mem_of_getElem? q1)
  rw[q2]at hx
  simp[Q5f,c2,lk]
  refine X42 b hx.1 hx.2 _ fun v2 h2 o2 a2 => ?_
  simp
  exact hk v2 h2 x.pts (by simp[Xd6,hf,q1]) o2 a2
end
theorem Ys1{a c n j z:Nat}(ha:a=n*z)(hc:c=z)(hj:j < n):j*z+c<=a:=by
 subst ha;subst hc
 have : (j+1)*c<=n*c:=Nat.mul_le_mul_right _ hj
 rw[Nat.add_mul]at this
 omega
theorem Ys0(l:List Cn){i:Nat}(hi:i < l.length)(y:Cn):(Jc l).take (i*34)++y.cells++(Jc l).drop (i*34+y.cells.length)=Jc (l.set i y):=by
 have e:l=l.take i++l[i]::l.drop (i+1):=by rw[<- List.drop_eq_getElem_cons hi,List.take_append_drop]
 have li:(l.take i).length=i:=by rw[List.length_take];omega
 have e1:Jc l=Jc (l.take i)++(l[i].cells++Jc (l.drop (i+1))):=by
  conv=>lhs;rw[e]
  simp only[Jc,List.flatMap_append,List.flatMap_cons]
 have lf:(Jc (l.take i)).length=i*34:=by rw[Qet,li]
 have e2:l.set i y=l.take i++y::l.drop (i+1):=by rw[List.set_eq_take_append_cons_drop,if_pos hi]
 rw[e2,e1,List.take_append_of_le_length (by omega),List.take_of_length_le (by omega),Cn.len,List.drop_append,List.drop_append,lf,List.drop_eq_nil_of_le (by omega),List.drop_eq_nil_of_le (by rw[Cn.len];omega),Cn.len,show i*34+34-i*34-34=0 from by omega,List.drop_zero]
 simp[Jc]
theorem Ytq{l:List Cn}{j:Nat}{x y:Cn}(hx:l[j]? = some x)(hy:l[j+1]? = some y):((l.set (j+1) x).set j y).Perm l:=by
 obtain⟨h1,e1⟩:=List.getElem?_eq_some_iff.1 hx
 obtain⟨h2,e2⟩:=List.getElem?_eq_some_iff.1 hy
 have e:l=l.take j++x::y::l.drop (j+2):=by
  rw[<- e2,<- List.drop_eq_getElem_cons h2,<- e1,<- List.drop_eq_getElem_cons h1,List.take_append_drop]
 have lj:(l.take j).length=j:=by rw[List.length_take];omega
 have e3:(l.set (j+1) x).set j y=l.take j++y::x::l.drop (j+2):=by
  conv=>lhs;rw[e]
  rw[List.set_append_right _ _ (by omega),lj,Nat.add_sub_cancel_left,List.set_append_right _ _ (by omega),lj,Nat.sub_self]
  rfl
 rw[e3]
 conv=>rhs;rw[e]
 exact List.Perm.append_left _ (List.Perm.swap _ _ _)
theorem Yrg(b:Nat){h:Heap}{n0 n i bk:Nat}{v:Value}{l:List Cn}{x:Cn}(o:Own h n0 34 v n (Jc l))(hi:i < n)(hx:l[i]? = some x)(hb:Un v=some bk):Qll h bk (i*34) 34=some (.agg ⟨x.cells⟩):=by
 obtain⟨bk2,off,q1,q2, -,q4⟩:=Xps (T53 b) Qbg o.sl (k:=.i64) (i:=(i:Int)) (by omega) (by omega)
 obtain⟨bk3,q5,q6⟩:=Xn0 (b:=b) (T53 b) Qbg o (k:=.i64) (i:=(i:Int)) (by omega) (by omega)
 rw[hb]at q1 q5
 cases q1
 cases q5
 rw[q2]at q6
 simp only[Option.some.injEq,Value.pointer.injEq,Addr.mk.injEq,Int.toNat_natCast,true_and,and_true]at q6
 rw[Int.toNat_natCast]at q4
 rw[<- q6,q4,Jc,Xq1 Cn.len hx]
def Yz8(v fv:Value)(l:List Cn)(h:Heap)(n0:Nat)(k:Nat)(s:St):Prop:=∃ (t:Tr Value) (h1:Heap) (i:Nat) (l1:List Cn),s=⟨⟨53,t⟩,[],h1⟩/\t.get 0=some v/\t.get 1=some (.int .i64 0)/\t.get 2=some (.int .i64 (l.length:Int))/\t.get 3=some fv/\t.get 8=some (.int .i64 (i:Int))/\i<=l.length+1/\1<=i/\k=l.length+1-i/\l1.Perm l/\Own h1 n0 34 v l.length (Jc l1)/\Beyond v h h1
def Yyl(v fv:Value)(l:List Cn)(h:Heap)(n0 i:Nat)(k:Nat)(s:St):Prop:=∃ (t:Tr Value) (h1:Heap) (l1:List Cn),s=⟨⟨53,t⟩,[],h1⟩/\t.get 0=some v/\t.get 1=some (.int .i64 0)/\t.get 2=some (.int .i64 (l.length:Int))/\t.get 3=some fv/\t.get 8=some (.int .i64 (i:Int))/\t.get 9=some (.int .i64 (k:Int))/\k<=i/\l1.Perm l/\Own h1 n0 34 v l.length (Jc l1)/\Beyond v h h1
section
attribute [local simp] Xb Xw Qr Y6 Y3 Z6 Qgw Qgr J7 Qkn
set_option maxHeartbeats 1000000 in
theorem Yxd(b:Nat){h:Heap}{n0:Nat}{v:Value}{l:List Cn}{f:FuncId}{F:Func}(hF:(E b).fn.get f=some F)(o:Own h n0 34 v l.length (Jc l))(hn:l.length < 1000000)
  (hc:∀ (x y:Cn) h1,Beyond v h h1->FK b f [.agg ⟨x.cells⟩,.agg ⟨y.cells⟩] h1 (fun r h2 => ∃ k,r=.ret (.int .i64 k)/\Old h1 h2))
  (K:KP) (hk:∀ h' l',l'.Perm l->Own h' n0 34 v l.length (Jc l')->Beyond v h h'->K (.ret (.tuple #[])) h') :
  CallOK Tryd.prog (E b).G 51 [v,.int .i64 0,.int .i64 (l.length:Int),.func (.func f) #[] #[]] h K:=by
 refine Qn0 (E b) (Vl _ _) (Qcb b) (Vk b) Qa5 (Qd8 b) (Qr b) Qj6 Qlh Ql2 rfl ?_
 have h01:IntKind.i64.wrap 1=1:=by decide
 simp
 refine Qff (Yz8 v (.func (.func f) #[] #[]) l h n0) l.length ⟨_,h,1,l,rfl,by simp,by simp,by simp,by simp,by simp[h01],by omega,by omega,by omega,List.Perm.refl _,o,⟨Nat.le_refl _,fun _ _ _=>rfl⟩⟩ ?_
 rintro k s' ⟨t,h1,i,l1,rfl,t0,t1,t2,t3,t8,hi,hi1,rfl,p1,o1,b1⟩ -
 by_cases hlt:i < l.length
 ·have hlt':(i:Int) < (l.length:Int):=by omega
  have hw:=wS (i:=i) (by omega)
  simp[t0,t1,t2,t3,t8,hlt,hlt']
  refine Qff (Yyl v (.func (.func f) #[] #[]) l h n0 i) i ⟨_,h1,l1,rfl,by simp[t0],by simp[t1],by simp[t2],by simp[t3],by simp[t8],by simp,by omega,p1,o1,b1⟩ ?_
  rintro j s' ⟨t,h2,l2,rfl,t0,t1,t2,t3,t8,t9,hj,p2,o2,b2⟩ -
  have ll:l2.length=l.length:=p2.length_eq
  by_cases hj0:j=0
  ·subst hj0
   simp[t0,t1,t2,t3,t8,t9]
   refine Qxf [] (by simp) Qa7 Qah Qa6 (by simp[Qam,Qaq,Qao,t0,t1,t3,t9];exact⟨rfl,rfl⟩) ?_ ?_
   ·simp[Yk]
   simp[t0,t1,t2,t3,t8,t9,hw]
   exact⟨l.length+1-(i+1),by omega,_,h2,i+1,l2,rfl,by simp[t0],by simp[t1],by simp[t2],by simp[t3],by simp,by omega,by omega,rfl,p2,o2,b2⟩
  ·obtain⟨j,rfl⟩:∃ j',j=j'+1:=⟨j-1,by omega⟩
   obtain⟨x,hx⟩:∃ x,l2[j]? = some x:=⟨_,List.getElem?_eq_getElem (by omega)⟩
   obtain⟨y,hy⟩:∃ y,l2[j+1]? = some y:=⟨_,List.getElem?_eq_getElem (by omega)⟩
   have hwj:IntKind.i64.wrap (j:Int)=(j:Int):=Wp (by omega) (by omega)
   have hgt:(0:Int) < (j:Int)+1:=by omega
   obtain⟨bk,y0,y1⟩:=Xn0 (b:=b) (T53 b) Qbg o2 (k:=.i64) (i:=(j:Int)) (by omega) (by omega)
   obtain⟨bk',y0',y2⟩:=Xn0 (b:=b) (T53 b) Qbg o2 (k:=.i64) (i:=(j:Int)+1) (by omega) (by omega)
   rw[y0]at y0'
   cases y0'
   rw[Int.toNat_natCast]at y1
   rw[show((j:Int)+1).toNat=j+1 from by omega]at y2
   have l2x:=Yrg b o2 (by omega) hx y0
   have l2y:=Yrg b o2 (by omega) hy y0
   obtain⟨_,h3,q1,n1,kk,rfl,a3⟩:=hc y x h2 b2
   have o3:=o2.keep fun c _ hc=>a3.2 c hc
   have b3:Beyond v h h3:=⟨Nat.le_trans b2.1 a3.1,fun c hc hn=>by rw[a3.2 c (Nat.lt_of_lt_of_le hc b2.1),b2.2 c hc hn]⟩
   simp[t0,t1,t2,t3,t8,t9]
   refine Qxf [⟨f,[.agg ⟨y.cells⟩,.agg ⟨x.cells⟩],h2,.int .i64 kk,h3,true⟩] ?_ Qa7 Qah Qa6 (by simp[Qam,Qaq,Qao,t0,t1,t3,t9,hwj,hgt,y1,y2,l2x,l2y,hF,Qym];exact⟨rfl,rfl⟩) ?_ ?_
   ·exact zk1 ⟨q1,n1,fun _ c hc=>a3.2 c hc⟩
   ·simp[Yk]
   by_cases hk0:kk < 0
   ·have st:∀ {hx hy:Heap} {o:Nat} {z:Cn},Qbh hx bk o z.cells=some hy->Qd1 (E b).toEnv 56 (.pointer (some ⟨bk,o,none⟩)) (.agg ⟨z.cells⟩) hx=some hy:=fun {hx hy o z} e=>by rw[Qyv (l:=z.cells) (X9e b) (by rw[Cn.len,Qbg])];exact e
    obtain⟨h4,s1,s2,s3,s4⟩:=Xpo o3 y0 x.cells (i:=(j+1)*34) (Ys1 o3.len (Cn.len x) (by omega))
    rw[Ys0 l2 (by omega)]at s2
    obtain⟨h5,u1,u2,u3,u4⟩:=Xpo s2 y0 y.cells (i:=j*34) (Ys1 s2.len (Cn.len y) (by omega))
    rw[Ys0 _ (by simp;omega)]at u2
    have l3x:=Yrg b o3 (by omega) hx y0
    have l3y:=Yrg b o3 (by omega) hy y0
    have b5:Beyond v h h5:=⟨by rw[u3,s3];exact b3.1,fun c hc hn=>by
     have hne:c≠bk:=fun e=>hn (by rw[e];exact y0)
     rw[u4 c hne,s4 c hne,b3.2 c hc hn]⟩
    have p5:=(Ytq hx hy).trans p2
    simp[t0,t1,t2,t3,t8,t9,hk0]
    refine Qxf [] (by simp) Qg9 Qgl Qgb (by simp[Qhj,Qh7,Qh1,t0,t1,t3,t9,hwj,hgt,y1,y2,l3x,l3y,st s1,st u1];exact⟨rfl,rfl⟩) ?_ ?_
    ·simp[Yf]
    simp[t0,t1,t2,t3,t8,t9,hwj]
    exact⟨j,by omega,_,h5,_,rfl,by simp[t0],by simp[t1],by simp[t2],by simp[t3],by simp[t8],by simp,by omega,p5,u2,b5⟩
   ·simp[t0,t1,t2,t3,t8,t9,hw,hk0]
    exact⟨l.length+1-(i+1),by omega,_,h3,i+1,l2,rfl,by simp[t0],by simp[t1],by simp[t2],by simp[t3],by simp,by omega,by omega,rfl,p2,o3,b3⟩
 ·have hlt':¬ (i:Int) < (l.length:Int):=by omega
  simp[t0,t1,t2,t3,t8,hlt,hlt']
  exact hk h1 l1 p1 o1 b1
end
theorem Ys5{a c n j z:Nat}(ha:a=n*z)(hc:c=z)(hj:j < n):j*z+c<=a:=by
 subst ha;subst hc
 have : (j+1)*c<=n*c:=Nat.mul_le_mul_right _ hj
 rw[Nat.add_mul]at this
 omega
theorem Yrl(l:List Pt){i:Nat}(hi:i < l.length)(y:Pt):(Jy l).take (i*33)++y.cells++(Jy l).drop (i*33+y.cells.length)=Jy (l.set i y):=by
 have e:l=l.take i++l[i]::l.drop (i+1):=by rw[<- List.drop_eq_getElem_cons hi,List.take_append_drop]
 have li:(l.take i).length=i:=by rw[List.length_take];omega
 have e1:Jy l=Jy (l.take i)++(l[i].cells++Jy (l.drop (i+1))):=by
  conv=>lhs;rw[e]
  simp only[Jy,List.flatMap_append,List.flatMap_cons]
 have lf:(Jy (l.take i)).length=i*33:=by rw[Xut,li]
 have e2:l.set i y=l.take i++y::l.drop (i+1):=by rw[List.set_eq_take_append_cons_drop,if_pos hi]
 rw[e2,e1,List.take_append_of_le_length (by omega),List.take_of_length_le (by omega),Pt.len,List.drop_append,List.drop_append,lf,List.drop_eq_nil_of_le (by omega),List.drop_eq_nil_of_le (by rw[Pt.len];omega),Pt.len,show i*33+33-i*33-33=0 from by omega,List.drop_zero]
 simp[Jy]
theorem Yud{l:List Pt}{j:Nat}{x y:Pt}(hx:l[j]? = some x)(hy:l[j+1]? = some y):((l.set (j+1) x).set j y).Perm l:=by
 obtain⟨h1,e1⟩:=List.getElem?_eq_some_iff.1 hx
 obtain⟨h2,e2⟩:=List.getElem?_eq_some_iff.1 hy
 have e:l=l.take j++x::y::l.drop (j+2):=by
  rw[<- e2,<- List.drop_eq_getElem_cons h2,<- e1,<- List.drop_eq_getElem_cons h1,List.take_append_drop]
 have lj:(l.take j).length=j:=by rw[List.length_take];omega
 have e3:(l.set (j+1) x).set j y=l.take j++y::x::l.drop (j+2):=by
  conv=>lhs;rw[e]
  rw[List.set_append_right _ _ (by omega),lj,Nat.add_sub_cancel_left,List.set_append_right _ _ (by omega),lj,Nat.sub_self]
  rfl
 rw[e3]
 conv=>rhs;rw[e]
 exact List.Perm.append_left _ (List.Perm.swap _ _ _)
theorem Ypl(b:Nat){h:Heap}{n0 n i bk:Nat}{v:Value}{l:List Pt}{x:Pt}(o:Own h n0 33 v n (Jy l))(hi:i < n)(hx:l[i]? = some x)(hb:Un v=some bk):Qll h bk (i*33) 33=some (.agg ⟨x.cells⟩):=by
 obtain⟨bk2,off,q1,q2, -,q4⟩:=Xps (T29 b) Qcc o.sl (k:=.i64) (i:=(i:Int)) (by omega) (by omega)
 obtain⟨bk3,q5,q6⟩:=Xn0 (b:=b) (T29 b) Qcc o (k:=.i64) (i:=(i:Int)) (by omega) (by omega)
 rw[hb]at q1 q5
 cases q1
 cases q5
 rw[q2]at q6
 simp only[Option.some.injEq,Value.pointer.injEq,Addr.mk.injEq,Int.toNat_natCast,true_and,and_true]at q6
 rw[Int.toNat_natCast]at q4
 rw[<- q6,q4,Jy,Xq1 Pt.len hx]
def Yyt(v fv:Value)(l:List Pt)(h:Heap)(n0:Nat)(k:Nat)(s:St):Prop:=∃ (t:Tr Value) (h1:Heap) (i:Nat) (l1:List Pt),s=⟨⟨53,t⟩,[],h1⟩/\t.get 0=some v/\t.get 1=some (.int .i64 0)/\t.get 2=some (.int .i64 (l.length:Int))/\t.get 3=some fv/\t.get 8=some (.int .i64 (i:Int))/\i<=l.length+1/\1<=i/\k=l.length+1-i/\l1.Perm l/\Own h1 n0 33 v l.length (Jy l1)/\Beyond v h h1
def Yzb(v fv:Value)(l:List Pt)(h:Heap)(n0 i:Nat)(k:Nat)(s:St):Prop:=∃ (t:Tr Value) (h1:Heap) (l1:List Pt),s=⟨⟨53,t⟩,[],h1⟩/\t.get 0=some v/\t.get 1=some (.int .i64 0)/\t.get 2=some (.int .i64 (l.length:Int))/\t.get 3=some fv/\t.get 8=some (.int .i64 (i:Int))/\t.get 9=some (.int .i64 (k:Int))/\k<=i/\l1.Perm l/\Own h1 n0 33 v l.length (Jy l1)/\Beyond v h h1
section
attribute [local simp] Xi Y0 Qx Y6 Xz Y3 Xx Xy Z6 W3 Uo J7 Qwd Xs Xt
set_option maxHeartbeats 1000000 in
theorem Yx4(b:Nat){h:Heap}{n0:Nat}{v:Value}{l:List Pt}{f:FuncId}{F:Func}(hF:(E b).fn.get f=some F)(o:Own h n0 33 v l.length (Jy l))(hn:l.length < 1000000)
  (hc:∀ (x y:Pt) h1,Beyond v h h1->FK b f [.agg ⟨x.cells⟩,.agg ⟨y.cells⟩] h1 (fun r h2 => ∃ k,r=.ret (.int .i64 k)/\Old h1 h2))
  (K:KP) (hk:∀ h' l',l'.Perm l->Own h' n0 33 v l.length (Jy l')->Beyond v h h'->K (.ret (.tuple #[])) h') :
  CallOK Tryd.prog (E b).G 69 [v,.int .i64 0,.int .i64 (l.length:Int),.func (.func f) #[] #[]] h K:=by
 refine Qn0 (E b) (Vl _ _) (Qcb b) (Vk b) Qa5 (Qd8 b) (Qx b) Qkz Qne Qmb rfl ?_
 have h01:IntKind.i64.wrap 1=1:=by decide
 simp
 refine Qff (Yyt v (.func (.func f) #[] #[]) l h n0) l.length ⟨_,h,1,l,rfl,by simp,by simp,by simp,by simp,by simp[h01],by omega,by omega,by omega,List.Perm.refl _,o,⟨Nat.le_refl _,fun _ _ _=>rfl⟩⟩ ?_
 rintro k s' ⟨t,h1,i,l1,rfl,t0,t1,t2,t3,t8,hi,hi1,rfl,p1,o1,b1⟩ -
 by_cases hlt:i < l.length
 ·have hlt':(i:Int) < (l.length:Int):=by omega
  have hw:=wS (i:=i) (by omega)
  simp[t0,t1,t2,t3,t8,hlt,hlt']
  refine Qff (Yzb v (.func (.func f) #[] #[]) l h n0 i) i ⟨_,h1,l1,rfl,by simp[t0],by simp[t1],by simp[t2],by simp[t3],by simp[t8],by simp,by omega,p1,o1,b1⟩ ?_
  rintro j s' ⟨t,h2,l2,rfl,t0,t1,t2,t3,t8,t9,hj,p2,o2,b2⟩ -
  have ll:l2.length=l.length:=p2.length_eq
  by_cases hj0:j=0
  ·subst hj0
   simp[t0,t1,t2,t3,t8,t9]
   refine Qxf [] (by simp) Qap Qav Qan (by simp[Qb6,Qb9,Qb2,t0,t1,t3,t9];exact⟨rfl,rfl⟩) ?_ ?_
   ·simp[Yq]
   simp[t0,t1,t2,t3,t8,t9,hw]
   exact⟨l.length+1-(i+1),by omega,_,h2,i+1,l2,rfl,by simp[t0],by simp[t1],by simp[t2],by simp[t3],by simp,by omega,by omega,rfl,p2,o2,b2⟩
  ·obtain⟨j,rfl⟩:∃ j',j=j'+1:=⟨j-1,by omega⟩
   obtain⟨x,hx⟩:∃ x,l2[j]? = some x:=⟨_,List.getElem?_eq_getElem (by omega)⟩
   obtain⟨y,hy⟩:∃ y,l2[j+1]? = some y:=⟨_,List.getElem?_eq_getElem (by omega)⟩
   have hwj:IntKind.i64.wrap (j:Int)=(j:Int):=Wp (by omega) (by omega)
   have hgt:(0:Int) < (j:Int)+1:=by omega
   obtain⟨bk,y0,y1⟩:=Xn0 (b:=b) (T29 b) Qcc o2 (k:=.i64) (i:=(j:Int)) (by omega) (by omega)
   obtain⟨bk',y0',y2⟩:=Xn0 (b:=b) (T29 b) Qcc o2 (k:=.i64) (i:=(j:Int)+1) (by omega) (by omega)
   rw[y0]at y0'
   cases y0'
   rw[Int.toNat_natCast]at y1
   rw[show((j:Int)+1).toNat=j+1 from by omega]at y2
   have l2x:=Ypl b o2 (by omega) hx y0
   have l2y:=Ypl b o2 (by omega) hy y0
   obtain⟨_,h3,q1,n1,kk,rfl,a3⟩:=hc y x h2 b2
   have o3:=o2.keep fun c _ hc=>a3.2 c hc
   have b3:Beyond v h h3:=⟨Nat.le_trans b2.1 a3.1,fun c hc hn=>by rw[a3.2 c (Nat.lt_of_lt_of_le hc b2.1),b2.2 c hc hn]⟩
   simp[t0,t1,t2,t3,t8,t9]
   refine Qxf [⟨f,[.agg ⟨y.cells⟩,.agg ⟨x.cells⟩],h2,.int .i64 kk,h3,true⟩] ?_ Qap Qav Qan (by simp[Qb6,Qb9,Qb2,t0,t1,t3,t9,hwj,hgt,y1,y2,l2x,l2y,hF,Qym];exact⟨rfl,rfl⟩) ?_ ?_
   ·exact zk1 ⟨q1,n1,fun _ c hc=>a3.2 c hc⟩
   ·simp[Yq]
   by_cases hk0:kk < 0
   ·have st:∀ {hx hy:Heap} {o:Nat} {z:Pt},Qbh hx bk o z.cells=some hy->Qd1 (E b).toEnv 36 (.pointer (some ⟨bk,o,none⟩)) (.agg ⟨z.cells⟩) hx=some hy:=fun {hx hy o z} e=>by rw[Qyv (l:=z.cells) (X4e b) (by rw[Pt.len,Qcc])];exact e
    obtain⟨h4,s1,s2,s3,s4⟩:=Xpo o3 y0 x.cells (i:=(j+1)*33) (Ys5 o3.len (Pt.len x) (by omega))
    rw[Yrl l2 (by omega)]at s2
    obtain⟨h5,u1,u2,u3,u4⟩:=Xpo s2 y0 y.cells (i:=j*33) (Ys5 s2.len (Pt.len y) (by omega))
    rw[Yrl _ (by simp;omega)]at u2
    have l3x:=Ypl b o3 (by omega) hx y0
    have l3y:=Ypl b o3 (by omega) hy y0
    have b5:Beyond v h h5:=⟨by rw[u3,s3];exact b3.1,fun c hc hn=>by
     have hne:c≠bk:=fun e=>hn (by rw[e];exact y0)
     rw[u4 c hne,s4 c hne,b3.2 c hc hn]⟩
    have p5:=(Yud hx hy).trans p2
    simp[t0,t1,t2,t3,t8,t9,hk0]
    refine Qxf [] (by simp) Qh8 Qhy Qh3 (by simp[Qjf,Qj2,Qjl,t0,t1,t3,t9,hwj,hgt,y1,y2,l3x,l3y,st s1,st u1];exact⟨rfl,rfl⟩) ?_ ?_
    ·simp[Yh]
    simp[t0,t1,t2,t3,t8,t9,hwj]
    exact⟨j,by omega,_,h5,_,rfl,by simp[t0],by simp[t1],by simp[t2],by simp[t3],by simp[t8],by simp,by omega,p5,u2,b5⟩
   ·simp[t0,t1,t2,t3,t8,t9,hw,hk0]
    exact⟨l.length+1-(i+1),by omega,_,h3,i+1,l2,rfl,by simp[t0],by simp[t1],by simp[t2],by simp[t3],by simp,by omega,by omega,rfl,p2,o3,b3⟩
 ·have hlt':¬ (i:Int) < (l.length:Int):=by omega
  simp[t0,t1,t2,t3,t8,hlt,hlt']
  exact hk h1 l1 p1 o1 b1
end
section
theorem Yz9(b:Nat)(h:Heap)(x y:Cn):FK b 20 [.agg ⟨x.cells⟩,.agg ⟨y.cells⟩] h (fun r h2 => ∃ k,r=.ret (.int .i64 k)/\Old h h2):=by
 refine FF b (Qde b) Q1u Q7t Q4h rfl ?_
 obtain⟨hA,eA⟩:∃ hA,hA=h.push (.cells true 1 x.cells):=⟨_,rfl⟩
 have bx:=Xs7 eA
 have aA:=Q33 eA
 have gA:hA.get h.next=some (.cells true 1 x.cells):=by rw[eA,Heap.get_push,if_pos rfl]
 obtain⟨hB,eB⟩:∃ hB,hB=hA.push (.cells true 1 y.cells):=⟨_,rfl⟩
 have by':=Xs7 eB
 have aB:=Q33 eB
 have gB:hB.get hA.next=some (.cells true 1 y.cells):=by rw[eB,Heap.get_push,if_pos rfl]
 have cx:V2 hB h.next 33=some (.int .i64 x.value):=by rw[Jb (aB.get gA),X2i]
 have cy:V2 hB hA.next 33=some (.int .i64 y.value):=by rw[Jb gB,X2i]
 simp[Qf6,Qpm,Qde,Qkp,Qes,Jx,bx,by',cx,cy]
 refine X2l b y.value x.value hB _ ?_
 simp[Qf6,Qpm,Qde,Qkp,Qes,Jx]
 exact aA.trans aB
theorem Ym2(b:Nat){h:Heap}{n0:Nat}{v:Value}{l:List Cn}{f:FuncId}{F:Func}(hF:(E b).fn.get f=some F)(o:Own h n0 34 v l.length (Jc l))(hn:l.length < 20)
  (hc:∀ (x y:Cn) h1,Beyond v h h1->FK b f [.agg ⟨x.cells⟩,.agg ⟨y.cells⟩] h1 (fun r h2 => ∃ k,r=.ret (.int .i64 k)/\Old h1 h2))
  (K:KP) (hk:∀ h' l',l'.Perm l->Own h' n0 34 v l.length (Jc l')->Beyond v h h'->K (.ret (.tuple #[])) h') :
  CallOK Tryd.prog (E b).G 35 [v,.int .i64 (l.length:Int),.func (.func f) #[] #[]] h K:=by
 refine Qn0 (E b) (Vl _ _) (Qcb b) (Vk b) Qa5 (Qd8 b) (Zu b) Qoy Qvu Qu3 rfl ?_
 have h1:¬ (20:Int)<=(l.length:Int):=by omega
 have h2:¬ (20:Int) < (l.length:Int):=by omega
 simp[Jt,U8,Zu,Xo6,Qr,Y6,Y3,Qx7,Vv]
 refine Qff (fun k s=>k=0/\∃ t:Tr Value,s=⟨⟨63,t⟩,[],h⟩/\t.get 0=some v/\t.get 1=some (.int .i64 (l.length:Int))/\t.get 2=some (.func (.func f) #[] #[])/\t.get 6=some (.int .i64 20)/\t.get 7=some (.int .i64 0)/\t.get 8=some (.int .i64 20)) 0 ⟨rfl,_,rfl,by simp,by simp,by simp,by simp,by simp,by simp⟩ ?_
 rintro k s' ⟨rfl,t,rfl,t0,t1,t2,t6,t7,t8⟩ -
 simp[Jt,U8,Zu,Xo6,Qr,Y6,Y3,Qx7,Vv,t0,t1,t2,t6,t7,t8,h1]
 refine Yxd b hF o (by omega) hc _ fun h3 l3 p3 o3 b3 => ?_
 simp[Jt,U8,Zu,Xo6,Qr,Y6,Y3,Qx7,Vv]
 refine Qff (fun k s=>k=0/\∃ t:Tr Value,s=⟨⟨63,t⟩,[],h3⟩/\t.get 1=some (.int .i64 (l.length:Int))/\t.get 6=some (.int .i64 20)) 0 ⟨rfl,_,rfl,by simp[t1],by simp[t6]⟩ ?_
 rintro k s' ⟨rfl,t,rfl,t1,t6⟩ -
 simp[Jt,U8,Zu,Xo6,Qr,Y6,Y3,Qx7,Vv,t1,t6,h2]
 exact hk h3 l3 p3 o3 b3
theorem Yw1(b:Nat){h:Heap}{n0:Nat}{v:Value}{l:List Cn}{f:FuncId}{F:Func}(hF:(E b).fn.get f=some F)(o:Own h n0 34 v l.length (Jc l))(hn:l.length < 20)
  (hc:∀ (x y:Cn) h1,Beyond v h h1->FK b f [.agg ⟨x.cells⟩,.agg ⟨y.cells⟩] h1 (fun r h2 => ∃ k,r=.ret (.int .i64 k)/\Old h1 h2))
  (K:KP) (hk:∀ h' l',l'.Perm l->Own h' n0 34 v l.length (Jc l')->Beyond v h h'->K (.ret (.tuple #[])) h') :
  CallOK Tryd.prog (E b).G 19 [v,.func (.func f) #[] #[]] h K:=by
 refine Qn0 (E b) (Vl _ _) (Qcb b) (Vk b) Qa5 (Qd8 b) (Qv b) Qfv Qgk Qg7 rfl ?_
 have len:∀ hx,Q43 (E b).toEnv 53 v hx=some (.int .i64 (l.length:Int)):=fun hx=>Qhl (T53 b) o.sl
 simp[V8,Qa8,Qv,Qve,Zu,len]
 refine Ym2 b hF o hn hc _ fun h3 l3 p3 o3 b3 => ?_
 simp[V8,Qa8,Qv,Qve,Zu]
 exact hk h3 l3 p3 o3 b3
end
theorem Yyk(b:Nat){h:Heap}{mb clk:Nat}{l:List HE}(hm:h.get mb=some (.map ⟨Ql8 l⟩ clk)){id:Int}(hf:Qhb id (Xbp l) 0=none)(v:Value)(pts:List Pt) :
  Qch (E b).toEnv 58 (.map (some mb)) (.int .i64 id) v h=some (h.set mb (some (.map ⟨Ql8 (l ++ [⟨⟨id,v,clk⟩,pts⟩])⟩ (clk+1)))):=by
 have h1:=Ynf id l
 rw[hf]at h1
 simp only[Qch,Yei,Yo3,hm,Yp1,flat,h1]
 simp[Ql8,IE.e]
def tkF(amount:Int):List Cn->List Cn->List Cn
 | [],o=>o
 | c::l,o=>if amount<=Ql7 o then o else tkF amount l (o ++ [c])
theorem Xvc{h:Heap}{z n c:Nat}{v:Value}{xs:List Value}(s:Sl h z v n xs)(hc:Un v=some c):∃ ow z' l,h.get c=some (.cells ow z' l):=by
 rcases s with⟨_,rfl,_,rfl,rfl⟩ | ⟨bk,o,_,ow,z',pre,post,rfl,g1,_⟩
 ·cases hc
 ·cases hc
  exact⟨_,_,_,g1⟩
theorem WalM.more{h h':Heap}{ω mb z clk:Nat}{ow cv:Value}{cs:List Cn}{l:List HE}(w:WalM h ω mb z clk ow cv cs l){id:Int}{vc:Value}{pts:List Pt}(hm:h'.get mb=some (.map ⟨Ql8 (l ++ [⟨⟨id,vc,clk⟩,pts⟩])⟩ (clk+1)))
  (k:∀ c,c < h.next->c≠mb->h'.get c=h.get c) (s:Sl h' 33 vc pts.length (Jy pts)) (hp:pts.length < 1000000):WalM h' ω mb z (clk+1) ow cv cs (l ++ [⟨⟨id,vc,clk⟩,pts⟩]):=by
 have gm:=w.gm
 have sk:∀ {zz nn:Nat} {v:Value} {xs:List Value},Sl h zz v nn xs->Sl h' zz v nn xs:=fun {zz nn v xs} s=>s.keep fun c hb hc=>k c hc fun e=>by
  obtain⟨_,_,_,g⟩:=Xvc s hb
  rw[e,gm]at g
  cases g
 refine⟨?_,hm,?_,fun x hx => ?_,sk w.cn,w.lt⟩
 ·have gω:=w.gω
  rw[k ω (Heap.get_lt gω) fun e=>by rw[e,gm]at gω;cases gω]
  exact gω
 ·have:=w.B.push (.int .i64 id) vc
  simpa[Ql8,IE.e]using this
 ·rcases List.mem_append.1 hx with q | q
  ·exact⟨sk (w.hs x q).1,(w.hs x q).2⟩
  ·rw[List.mem_singleton.1 q]
   exact⟨s,hp⟩
theorem Yxt(amount:Int){l:List Cn}{i:Nat}{x:Cn}(hx:l[i]? = some x)(o:List Cn):tkF amount (l.drop i) o=if amount<=Ql7 o then o else tkF amount (l.drop (i+1)) (o ++ [x]):=by
 rw[List.drop_eq_getElem_cons (List.getElem?_eq_some_iff.1 hx).1,(List.getElem?_eq_some_iff.1 hx).2,tkF]
def RVI(ω w:Value)(id amount:Int)(l3:List Cn)(h:Heap)(n0:Nat)(k:Nat)(s:St):Prop:=∃ (t:Tr Value) (h1:Heap) (i:Nat) (ov:Value) (o:List Cn),s=⟨⟨71,t⟩,[],h1⟩/\t.get 0=some ω/\t.get 1=some (.int .i64 id)/\t.get 2=some (.int .i64 amount)/\t.get 40=some w/\t.get 41=some (.int .i64 (l3.length:Int))/\t.get 42=some (.int .i64 (i:Int))/\t.get 12=some ov/\t.get 13=some (.int .i64 (Ql7 o))/\i<=l3.length/\k=l3.length-i/\Old h h1/\Own h1 n0 33 ov (o.map (·.pt)).length (Jy (o.map (·.pt)))/\o.length<=i/\(∀ x ∈ o,x ∈ l3)/\tkF amount l3 []=tkF amount (l3.drop i) o
section
attribute [local simp] Yv Z8 Qp Qev Qzy Y3 Z6 Yx Yt Yj Qv Qve Qgw Qgr Qkn Ud Qvj Uo Qkp Qes Y6 Xf
set_option maxHeartbeats 1000000 in
theorem Yje(b:Nat){h:Heap}{ω mb z clk:Nat}{ow cv:Value}{cs:List Cn}{l:List HE}(w:WalM h ω mb z clk ow cv cs l)(hv:∀ x ∈ cs,0<=x.value/\x.value<=2 ^ 40)(hl:cs.length < 20){id amount:Int}(hno:Qhb id (Xbp l) 0=none)(ha:1<=amount/\amount<=1125899906842624)
  (K:KP) (hk:∀ l1:List Cn,l1.Perm (Xjr cs l)->∀ o,o=tkF amount (l1.take 3) [] ->
   (Ql7 o < amount->∀ h',Old h h'->K (.ret (.tuple #[.slice none 0 0,.int .i64 0,.int .i64 22])) h') /\
   (¬ Ql7 o < amount->∀ v' vc h',(∀ c,Un vc=some c->h.next<=c)->WalM h' ω mb z (clk+1) ow cv cs (l ++ [⟨⟨id,vc,clk⟩,o.map (·.pt)⟩])->Own h' h.next 33 v' (o.map (·.pt)).length (Jy (o.map (·.pt)))->h.next<=h'.next->(∀ c,c < h.next->c≠mb->h'.get c=h.get c)->K (.ret (.tuple #[v',.int .i64 (Ql7 o),.int .i64 0])) h')) :
  CallOK Tryd.prog (E b).G 9 [.pointer (some ⟨ω,0,none⟩),.int .i64 id,.int .i64 amount] h K:=by
 refine Qn0 (E b) (Vl _ _) (Qcb b) (Vk b) Qa5 (Qd8 b) (Qp b) Q4z Xba Q98 rfl ?_
 have c2:∀ {hx},WalM hx ω mb z clk ow cv cs l->V2 hx ω 2=some (.map (some mb)):=fun w=>by rw[Jb w.gω];rfl
 have lk:=(Ykg b w.gm id).2
 rw[hno]at lk
 have a1:¬ amount < 1:=by omega
 have a2:¬ amount > 1125899906842624:=by omega
 have a2':¬ 1125899906842624 < amount:=by omega
 simp[Qx1,Q5f,c2 w,lk,a1,a2,a2']
 refine Ykz b w _ fun v2 h2 o2 q2 => ?_
 obtain⟨fl,hfl⟩:∃ fl,fl=Xjr cs l:=⟨_,rfl⟩
 rw[<- hfl]at o2 hk
 have hlf:fl.length < 20:=by rw[hfl];exact Nat.lt_of_le_of_lt (List.length_filter_le _ _) hl
 have hvf:∀ x ∈ fl,0<=x.value/\x.value<=2 ^ 40:=fun x hx=>hv x (by rw[hfl]at hx;exact(List.mem_filter.1 hx).1)
 simp[Qx1]
 refine Yw1 b (Qde b) o2 hlf (fun x y h1 _=>Yz9 b h1 x y) _ fun h3 l3 p3 o3 b3 => ?_
 have q3:Old h h3:=b3.old q2 o2
 have w3:=w.old q3
 have ll:l3.length=fl.length:=p3.length_eq
 have len:∀ hx,Q43 (E b).toEnv 53 v2 hx=some (.int .i64 (fl.length:Int)):=fun hx=>Qhl (T53 b) o2.sl
 obtain⟨m,hm⟩:∃ m,m=min 3 l3.length:=⟨_,rfl⟩
 have hmi:min (3:Int) (fl.length:Int)=(m:Int):=by rw[hm,ll];omega
 obtain⟨w4,e4,o4, -⟩:=Ygz (k:=.i64) (i:=(m:Int)) (T53 b) Qbg (by omega) o3 (by omega) (by omega)
 have lt:(l3.take 3).length=m:=by rw[List.length_take,hm]
 have s4:Sl h3 34 w4 (l3.take 3).length (Jc (l3.take 3)):=by
  have:=o4.sl
  rw[Int.toNat_natCast]at this
  have e:(Jc l3).take (m*34)=Jc (l3.take 3):=by
   have e1:l3=l3.take 3++l3.drop 3:=(List.take_append_drop 3 l3).symm
   have e2:Jc l3=Jc (l3.take 3)++Jc (l3.drop 3):=by
    conv=>lhs;rw[e1]
    rw[Xm0]
   rw[e2,List.take_append_of_le_length (by rw[Qet,lt];omega),List.take_of_length_le (by rw[Qet,lt];omega)]
  rw[e]at this
  rw[lt]
  exact this
 have len4:∀ hx,Q43 (E b).toEnv 53 w4 hx=some (.int .i64 ((l3.take 3).length:Int)):=fun hx=>Qhl (T53 b) s4
 obtain⟨tl,htl⟩:∃ tl,tl=l3.take 3:=⟨_,rfl⟩
 have hk:=hk l3 p3
 rw[<- htl]at s4 len4 hk
 have htl3:tl.length<=3:=by rw[htl,List.length_take];omega
 have hvt:∀ x ∈ tl,0<=x.value/\x.value<=2 ^ 40:=fun x hx=>hvf x (p3.mem_iff.1 (List.mem_of_mem_take (by rw[htl]at hx;exact hx)))
 have mn:Xr0 false [.int .i64 3,.int .i64 (fl.length:Int)]=some (.int .i64 (m:Int)):=by
  rw[Ypt]
  congr 2
  split <;> omega
 simp[Qx1,len,mn,e4,len4]
 have tail:∀ (t:Tr Value) (h1:Heap) (ov:Value) (o:List Cn),t.get 0=some (.pointer (some ⟨ω,0,none⟩))->t.get 1=some (.int .i64 id)->t.get 12=some ov->t.get 13=some (.int .i64 (Ql7 o))->Old h3 h1->Own h1 h3.next 33 ov (o.map (·.pt)).length (Jy (o.map (·.pt)))->o.length<=3->o=tkF amount tl []->¬ Ql7 o < amount ->
   Jr (E b) (Xmv Tryd.prog (E b).G) (D0 b) none Qt8 ⟨⟨71,t⟩,[],h1⟩ (Xar (Ysg (E b) (Xmv Tryd.prog (E b).G) (D0 b) none Qun (X7k (E b) (DD b) Wz K)) (X7k (E b) (DD b) Wz K)):=by
  intro t h1 ov o t0 t1 t12 t13 a1 o1 hl3 ho hns
  have w1:=w3.old a1
  obtain⟨_,h6,g1,n6,v6,rfl,o6,a6⟩:=X42 b o1.sl (by simp;omega) (fun r h' => ∃ v',r=.ret v'/\Own h' h1.next 33 v' (o.map (·.pt)).length (Jy (o.map (·.pt)))/\Old h1 h') (fun v' h' o a=>⟨v',rfl,o,a⟩)
  have w6:=w1.old a6
  have up:=Yyk b w6.gm hno v6 (o.map (·.pt))
  obtain⟨h7,e7⟩:∃ h7,h7=h6.set mb (some (.map ⟨Ql8 (l ++ [⟨⟨id,v6,clk⟩,o.map (·.pt)⟩])⟩ (clk+1))):=⟨_,rfl⟩
  rw[<- e7]at up
  have lm:=Heap.get_lt w6.gm
  have lm0:=Heap.get_lt w.gm
  have k7:∀ c,c≠mb->h7.get c=h6.get c:=fun c hc=>by rw[e7,Heap.get_set _ _ _ _ lm,if_neg (Ne.symm hc)]
  have n7:h7.next=h6.next:=by rw[e7];rfl
  have q1:=q3.trans a1
  refine Qxf [⟨22,[ov],h1,v6,h6,true⟩] ?_ Qxz Qzl Qxy (by simp[Q03,Q2a,Q2e,Qx1,Q5f,c2 w1,t0,t1,t12,Qym,up];first | exact⟨rfl,rfl⟩ | rfl) ?_ ?_
  ·exact zk1 ⟨g1,n6,fun _ c hc=>a6.2 c hc⟩
  ·simp[J9,Qx1]
  simp[Qx1,t12,t13]
  refine(hk o ho).2 hns ov v6 h7 (fun c hc=>Nat.le_trans q1.1 (o6.from hc).1) ?_ ((o1.keep fun c hc hl=>by rw[k7 c (fun e=>by have:=(o1.from hc).1;have:=q3.1;omega),a6.2 c hl]).low q3.1) (by rw[n7];exact Nat.le_trans q1.1 a6.1) fun c hc hne=>by rw[k7 c hne,a6.2 c (Nat.lt_of_lt_of_le hc q1.1),q1.2 c hc]
  exact w6.more (by rw[e7,Heap.get_set _ _ _ _ lm,if_pos rfl]) (fun c _ hne=>k7 c hne) (o6.sl.keep fun c hc _=>k7 c fun e=>by have:=(o6.from hc).1;have:=q1.1;omega) (by simp;omega)
 refine Qff (RVI (.pointer (some ⟨ω,0,none⟩)) w4 id amount tl h3 h3.next) tl.length ⟨_,h3,0,.slice none 0 0,[],rfl,by simp,by simp,by simp,by simp,by simp,by simp,by simp,by simp[Ql7],by omega,rfl,Old.refl _,Own.nil,by simp,by simp,rfl⟩ ?_
 rintro k s' ⟨t,h5,i,ov,o,rfl,t0,t1,t2,t40,t41,t42,t12,t13,hi,rfl,q5,o5,ho1,ho2,htk⟩ -
 have hvo:∀ x ∈ o,0<=x.value/\x.value<=2 ^ 40:=fun x hx=>hvt x (ho2 x hx)
 have so:=Xra hvo
 by_cases hlt:i < tl.length
 ·have hlt':(i:Int) < (tl.length:Int):=by omega
  have hw:=wS (i:=i) (by omega)
  obtain⟨x,hx⟩:∃ x,tl[i]? = some x:=⟨_,List.getElem?_eq_getElem hlt⟩
  have htk:=htk.trans (Yxt amount hx o)
  obtain⟨bk,off, -,x1,x2⟩:=Yqb (b:=b) (T53 b) Qbg (s4.old q5) hx
  obtain⟨hA,hB,alB,stB,gB,lB,oB,nB⟩:=Ymp b h5 x
  by_cases hge:amount<=Ql7 o
  ·simp[Qx1,t0,t1,t2,t12,t13,t40,t41,t42,hlt,hlt',x1,x2,-Qx1,alB,stB,hge]
   exact tail _ hB ov o (by simp[t0]) (by simp[t1]) (by simp[t12]) (by simp[t13]) (q5.trans oB) (o5.keep fun c _ hc=>oB.2 c hc) (by omega) (by rw[htk,if_pos hge]) (by omega)
  ·have hsw:IntKind.i64.wrap (Ql7 o+x.value)=Ql7 (o ++ [x]):=by
    have hx1:=hvt x (List.mem_of_getElem? hx)
    rw[X6r,show Ql7 [x]=x.value from by simp[Ql7]]
    exact Wp (by omega) (by omega)
   obtain⟨v6,h6,k1,k2,k3⟩:=Xj8 (T29 b) (z:=33) Qcc (by omega) (o5.keep (h':=hB) fun c _ hc=>oB.2 c hc) (Nat.le_trans q5.1 oB.1) (ys:=x.pt.cells) (by rw[Pt.len]) (by rw[Xvm];simp;omega) (by simp;omega)
   have bl:Jf (E b).toEnv 29 1 [(0,.agg ⟨x.pt.cells⟩)] hB=some (.slice (some ⟨hB.next,0,none⟩) 1 1,hB.push (.cells true 1 x.pt.cells)):=Xx9 (T29 b) (z:=33) Qcc (by omega) (by omega) (y:=.agg ⟨x.pt.cells⟩) rfl (ys:=x.pt.cells) rfl (Pt.len x.pt)
   have lp:Qll hB h5.next 0 33=some (.agg ⟨x.pt.cells⟩):=by rw[Qe3 gB (by rw[Cn.len];omega),List.drop_zero,Ywb]
   have gB6:h6.get h5.next=some (.cells true 1 x.cells):=by
    rw[k3.2 _ (by omega) fun e=>by have:=(o5.from e).2;omega]
    exact gB
   have lv:V2 h6 h5.next 33=some (.int .i64 x.value):=by rw[Jb gB6,X2i]
   have lv0:V2 hB h5.next 33=some (.int .i64 x.value):=by rw[Jb gB,X2i]
   have lv2:V2 (hB.push (.cells true 1 x.pt.cells)) h5.next 33=some (.int .i64 x.value):=by rw[Jb ((Old.push hB _).get gB),X2i]
   have q6:Old h3 h6:=by
    refine⟨Nat.le_trans q5.1 (Nat.le_trans oB.1 k3.1),fun c hc => ?_⟩
    rw[k3.2 c (Nat.lt_of_lt_of_le hc (Nat.le_trans q5.1 oB.1)) fun e=>by have:=(o5.from e).1;omega]
    exact(q5.trans oB).2 c hc
   simp[Qx1,t0,t1,t2,t12,t13,t40,t41,t42,hlt,hlt',x1,x2,-Qx1,alB,stB,hge]
   refine Qxf [] (by simp) Qy8 Qzf Qxp (by simp[Q0f,Q10,Qx1,t12,t13,lp,bl,k1,lv,hsw];first | exact⟨rfl,rfl⟩ | rfl) ?_ ?_
   ·simp[V9,Qx1,lp,lv,lv0,lv2,Xhq]
   simp[Qx1,t42,hw]
   refine⟨tl.length-(i+1),by omega,_,h6,i+1,v6,o ++ [x],rfl,by simp[t0],by simp[t1],by simp[t2],by simp[t40],by simp[t41],by simp,by simp,by simp,by omega,rfl,q6,?_,by simp;omega,?_,by rw[htk,if_neg hge]⟩
   ·simpa[Jy]using k2
   ·intro y hy
    rcases List.mem_append.1 hy with q | q
    ·exact ho2 y q
    ·rw[List.mem_singleton.1 q];exact List.mem_of_getElem? hx
 ·have hlt':¬ (i:Int) < (tl.length:Int):=by omega
  have : i=tl.length:=by omega
  subst this
  rw[List.drop_length]at htk
  have ho:o=tkF amount tl []:=by rw[htk];rfl
  by_cases hs:Ql7 o < amount
  ·simp[Qx1,t0,t1,t2,t12,t13,t40,t41,t42,hs]
   exact(hk o ho).1 hs h5 (q3.trans q5)
  ·simp[Qx1,t0,t1,t2,t12,t13,t40,t41,t42,hs]
   exact tail _ h5 ov o (by simp[t0]) (by simp[t1]) (by simp[t12]) (by simp[t13]) q5 o5 (by omega) ho hs
end
end Go.Proofs.YtcnhfkplgknomaaDoor
end
