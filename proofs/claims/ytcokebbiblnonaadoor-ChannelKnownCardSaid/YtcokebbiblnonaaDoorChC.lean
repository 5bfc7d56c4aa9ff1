/-
  The channel: Pending, given the library's sort.
-/
import Derived.Test.YtcokebbiblnonaaDoorChB
import Derived.Test.YtcokebbiblnonaaDoorAbH
import Derived.Shelf.SlSortCmp.InsertionK
import Derived.Shelf.SlSortCmp.WholeK
import Derived.Shelf.SlicesG.Cmp
import Derived.Shelf.SlSortCmp.NoneTotal
import Derived.Test.YtcokebbiblnonaaDoorFactsL
import Derived.Test.YtcokebbiblnonaaDoorBlA
set_option linter.all false
noncomputable section
namespace Go.Proofs.YtcokebbiblnonaaDoor
open Go Go.Ab
set_option maxRecDepth 100000
theorem Y7s{P:Program}{E1:Env2 P}{C:CallP}{x:Operand}{isS:Bool}{d:Option Tmp}{s:St}{K:Exit→St→Prop}{it:Value}(hit:aev E1.G s.t x=some it)(hdie:C.die=true)(hne:Qly it isS s.h ≠ [])(hall:∀ y ∈ Qly it isS s.h,K .normal (s.put d y.1 y.2)):Q7d E1 C x isS d s K:=by
 unfold Q7d
 rw[hit]
 exact .inr ⟨hdie,hne,hall⟩
theorem X1y(seen:List Nat):∀ (es:List MapEntry) (e:MapEntry),e ∈ Q2i seen es↔e ∈ es∧e.born ∉ seen
 | [],e=>by simp[Q2i]
 | x::es,e=>by
  have ih:=X1y seen es e
  unfold Q2i
  rw[Ys1]
  cases hc:seen.contains x.born with
  | true =>
   simp only
   rw[ih]
   simp only[List.mem_cons]
   constructor
   ·exact fun⟨h1,h2⟩=>⟨.inr h1,h2⟩
   ·rintro⟨rfl | h1,h2⟩
    ·simp at hc;exact absurd hc h2
    ·exact⟨h1,h2⟩
  | false =>
   simp only[List.mem_cons]
   rw[ih]
   constructor
   ·rintro(rfl | ⟨h1,h2⟩)
    ·exact⟨.inl rfl,by simpa using hc⟩
    ·exact⟨.inr h1,h2⟩
   ·rintro⟨rfl | h1,h2⟩
    ·exact .inl rfl
    ·exact .inr ⟨h1,h2⟩
theorem Yz5{n:Nat}:∀ {l:List MapEntry},(∀ e ∈ l,e.born < n)→Yun n l=l∧Yvg n l=[]
 | [],_=>⟨rfl,rfl⟩
 | e::l,h=>by
  obtain⟨h1,h2⟩:=Yz5 (l:=l) fun x hx=>h x (by simp[hx])
  have : Nat.blt e.born n=true:=by simpa using h e (by simp)
  unfold Yun Yvg
  rw[this]
  exact⟨by simp[h1],h2⟩
theorem Yik:∀ {l:List KP} {j:Nat} {e:MapEntry},e ∈ Xc5 l j→∃ i p,l[i]? = some p∧e=ent p (j+i)
 | [],_,_,h=>by cases h
 | p::l,j,e,h=>by
  rcases List.mem_cons.1 h with rfl | h
  ·exact⟨0,p,rfl,rfl⟩
  ·obtain⟨i,q,h1,h2⟩:=Yik h
   exact⟨i+1,q,by simpa using h1,by rw[h2];congr 1;omega⟩
theorem Yy4:∀ {l:List KP} {j i:Nat} {p:KP},l[i]? = some p→ent p (j+i) ∈ Xc5 l j
 | [],_,_,_,h=>by simp at h
 | x::l,j,0,p,h=>by simp at h;subst h;simp[Xc5]
 | x::l,j,i+1,p,h=>by
  have:=Yy4 (l:=l) (j:=j+1) (i:=i) (by simpa using h)
  rw[show j+(i+1)=j+1+i by omega]
  exact List.mem_cons_of_mem _ this
theorem Yw0:∀ {l:List KP} {j i:Nat} {p:KP},l[i]? = some p→Xbe (j+i) (Xc5 l j)=some (ent p (j+i))
 | [],_,_,_,h=>by simp at h
 | x::l,j,0,p,h=>by
  simp at h;subst h
  simp only[Xc5,Xbe,ent,Nat.add_zero]
  rw[show Nat.beq j j=true by simp]
 | x::l,j,i+1,p,h=>by
  have:=Yw0 (l:=l) (j:=j+1) (i:=i) (by simpa using h)
  simp only[Xc5,Xbe,ent]
  rw[show Nat.beq j (j+(i+1))=false by rw[Bool.eq_false_iff];intro q;have:=Nat.eq_of_beq_eq_true q;omega]
  rw[show j+(i+1)=j+1+i by omega]
  exact this
theorem Yvq{h:Heap}{r mb:Nat}{ps:List KP}{vis:List Nat}(hr:h.get r=some (.obj (.mapIter (some mb) ps.length ⟨vis⟩ ps.length)))(hm:h.get mb=some (.map ⟨Xc5 ps 0⟩ ps.length)) :
  Qly (.pointer (some ⟨r,0,none⟩)) false h ≠ []∧∀ y ∈ Qly (.pointer (some ⟨r,0,none⟩)) false h,((∀ i,i < ps.length→i ∈ vis)∧y=(.tuple #[.bool false],h)) ∨
   ∃ i p,ps[i]? = some p∧i ∉ vis∧y=(.tuple #[.bool true,.int .i64 p.k.row.id,.pointer (some ⟨p.blk,0,none⟩)],h.set r (some (.obj (.mapIter (some mb) ps.length ⟨vis ++ [i]⟩ ps.length)))):=by
 have hb:Yh6 (Xc5 ps 0) vis ps.length=false:=by
  unfold Yh6
  split
  ·rfl
  ·rfl
  ·rename_i h1 h2
   cases ps with
   | nil=>exact absurd rfl h2
   | cons p l =>
    have : Nat.ble (l.length+1) 0=false:=rfl
    simp only[Xc5,Yqr,ent,List.length_cons,this]
 have hl:∀ e ∈ Q2i vis (Xc5 ps 0),e.born < ps.length:=fun e he=>by
  obtain⟨h1, -⟩:=(X1y _ _ _).1 he
  obtain⟨i,p,h2,rfl⟩:=Yik h1
  have:=(List.getElem?_eq_some_iff.1 h2).1
  show 0+i < _
  omega
 obtain⟨o1,o2⟩:=Yz5 hl
 have hn:Qly (.pointer (some ⟨r,0,none⟩)) false h=(Xsg (Xc5 ps 0) ps.length vis).map (Xx9 r mb ps.length ⟨vis⟩ ps.length h):=by
  simp only[Qly,hr,hm,hb]
 have hc:Xsg (Xc5 ps 0) ps.length vis=match Q2i vis (Xc5 ps 0)with | []=>[none] | e::l=>(e::l).map some:=by
  unfold Xsg Yxd
  rw[o1,o2]
  cases Q2i vis (Xc5 ps 0)with
  | nil=>rfl
  | cons e l=>simp
 rw[hn,hc]
 cases hle:Q2i vis (Xc5 ps 0)with
 | nil =>
  refine⟨by simp,fun y hy => .inl ⟨fun i hi => ?_,?_⟩⟩
  ·obtain⟨p,hp⟩:∃ p,ps[i]? = some p:=⟨_,List.getElem?_eq_getElem hi⟩
   have hm:=Yy4 (j:=0) hp
   apply Classical.byContradiction
   intro hn
   have:=(X1y vis _ _).2 ⟨hm,by show 0+i ∉ vis;rw[Nat.zero_add];exact hn⟩
   rw[hle]at this
   cases this
  ·simpa[Xx9]using hy
 | cons e l =>
  refine⟨by simp,fun y hy => ?_⟩
  simp only[List.map_map]at hy
  obtain⟨x,hx,rfl⟩:=List.mem_map.1 hy
  rw[← hle]at hx
  obtain⟨h1,h2⟩:=(X1y _ _ _).1 hx
  obtain⟨i,p,h3,rfl⟩:=Yik h1
  refine .inr ⟨i,p,h3,?_,?_⟩
  ·simpa[ent]using h2
  ·simp[Xx9,ent]
theorem Yt2{h:Heap}{r mb i:Nat}{ps:List KP}{vis:List Nat}{p:KP}(hr:h.get r=some (.obj (.mapIter (some mb) ps.length ⟨vis ++ [i]⟩ ps.length)))(hm:h.get mb=some (.map ⟨Xc5 ps 0⟩ ps.length))(hp:ps[i]? = some p) :
  Yfy (.pointer (some ⟨r,0,none⟩)) h=some (.tuple #[.int .i64 p.k.row.id,.pointer (some ⟨p.blk,0,none⟩)]):=by
 have hl:∀ (l:List Nat) (x:Nat),Yy9 (l ++ [x])=some x:=by
  intro l x
  induction l with
  | nil=>rfl
  | cons a l ih =>
   cases l with
   | nil=>rfl
   | cons c l=>exact ih
 have hb:=Yw0 (j:=0) hp
 rw[Nat.zero_add]at hb
 simp only[Yfy,hr,hl,hm,show Nat.beq ps.length ps.length=true by simp,hb,ent]
end Go.Proofs.YtcokebbiblnonaaDoor
end
noncomputable section
namespace Go.Proofs.YtcokebbiblnonaaDoor
open Go Go.Ab
set_option maxRecDepth 100000
def Qad(l:List CRow):List Value:=l.flatMap CRow.cells
theorem Q1y{l:List CRow}(h:∀ r ∈ l,r.hash.length=32):(Qad l).length=l.length*36:=by
 induction l with
 | nil=>rfl
 | cons r l ih =>
  have:=ih fun q hq=>h q (by simp[hq])
  have h2:=CRow.len (h r (by simp))
  simp only[Qad,List.flatMap_cons,List.length_append,List.length_cons]at this ⊢
  omega
theorem Xy2(l m:List CRow):Qad (l++m)=Qad l++Qad m:=by simp[Qad]
def Qqr(l:List CRow):Prop:=l.Pairwise fun x y=>x.id≤y.id
def Qmb(b:Nat):Prop:=∀ {h:Heap} {n0:Nat} {lv:Value} {l:List CRow},Own h n0 36 lv l.length (Qad l)→(∀ r ∈ l,r.hash.length=32)→l.length < 1000000→∀ K:AEnd→Heap→Prop,
 (∀ l' h',l'.Perm l→Qqr l'→Own h' n0 36 lv l'.length (Qad l')→h'.next=h.next→(∀ c,Qb9 lv≠some c→h'.get c=h.get c)→K (.ret (.tuple #[])) h')→CallOK Tryd.prog (E b).G 26 [lv,.func (.func 27) #[] #[]] h K
def Xon(ps:List KP)(i:Nat):Option CRow:=(ps[i]?).bind fun p=>if p.k.state=1 then some p.k.row else none
theorem Yrn{A B:Type}{f g:A→Option B}:∀ {l:List A},(∀ x ∈ l,f x=g x)→l.filterMap f=l.filterMap g
 | [],_=>rfl
 | x::l,h=>by
  have ih:=Yrn (l:=l) fun y hy=>h y (List.mem_cons_of_mem _ hy)
  simp only[List.filterMap_cons,h x List.mem_cons_self,ih]
theorem Y4n{ps:List KP}{vis:List Nat}(nd:vis.Nodup)(hlt:∀ i ∈ vis,i < ps.length)(hall:∀ i,i < ps.length→i ∈ vis):(vis.filterMap (Xon ps)).Perm (((ps.map (·.k)).filter fun k=>decide (k.state=1)).map (·.row)):=by
 have h1:vis.Perm (List.range ps.length):=by
  rw[List.perm_ext_iff_of_nodup nd List.nodup_range]
  exact fun a=>⟨fun h=>List.mem_range.2 (hlt a h),fun h=>hall a (List.mem_range.1 h)⟩
 refine(h1.filterMap _).trans ?_
 have : ∀ (l:List KP) (j:Nat),(List.range' j l.length).filterMap (fun i=>(if i < j then none else l[i-j]?).bind fun p=>if p.k.state=1 then some p.k.row else none)=((l.map (·.k)).filter fun k=>decide (k.state=1)).map (·.row):=by
  intro l
  induction l with
  | nil=>intro j;rfl
  | cons p l ih =>
   intro j
   simp only[List.length_cons,List.range'_succ,List.map_cons]
   have e:(List.range' (j+1) l.length).filterMap (fun i=>(if i < j then none else(p::l)[i-j]?).bind fun p=>if p.k.state=1 then some p.k.row else none)=(List.range' (j+1) l.length).filterMap (fun i=>(if i < j+1 then none else l[i-(j+1)]?).bind fun p=>if p.k.state=1 then some p.k.row else none):=by
    refine Yrn fun i hi => ?_
    rw[List.mem_range']at hi
    obtain⟨q,_,rfl⟩:=hi
    rw[if_neg (by omega),if_neg (by omega),show j+1+1*q-j=q+1 by omega,show j+1+1*q-(j+1)=q by omega]
    rfl
   by_cases hs:p.k.state=1
   ·rw[List.filterMap_cons_some (b:=p.k.row) (by simp[hs]),e,ih (j+1)]
    simp[hs]
   ·rw[List.filterMap_cons_none (by simp[hs]),e,ih (j+1)]
    simp[hs]
 have:=this ps 0
 simp only[Nat.not_lt_zero,if_false,Nat.sub_zero]at this
 rw[← List.range_eq_range']at this
 rw[← this]
 exact List.Perm.refl _
structure PdInv (h h1:Heap) (mb IB:Nat) (ps:List KP) (lv:Value) (vis:List Nat):Prop where
 old:Old h h1
 it:h1.get IB=some (.obj (.mapIter (some mb) ps.length ⟨vis⟩ ps.length))
 row:Own h1 h.next 36 lv (vis.filterMap (Xon ps)).length (Qad (vis.filterMap (Xon ps)))
 ap:Qb9 lv≠some IB
 nd:vis.Nodup
 lt:∀ i ∈ vis,i < ps.length
def PDI(h:Heap)(mb IB:Nat)(ps:List KP)(k:Nat)(s:St):Prop:=∃ (t:Tr Value) (h1:Heap) (lv:Value) (vis:List Nat),s=⟨⟨29,t⟩,[],h1⟩∧t.get 9=some (.pointer (some ⟨IB,0,none⟩))∧t.get 2=some lv∧k=ps.length-vis.length∧PdInv h h1 mb IB ps lv vis
theorem Ywu{n:Nat}{vis:List Nat}(nd:vis.Nodup)(lt:∀ i ∈ vis,i < n):vis.length≤n:=by
 have:=List.Nodup.length_le_of_subset (l₁:=vis) (l₂:=List.range n) nd fun i hi=>List.mem_range.2 (lt i hi)
 simpa using this
theorem Yse{ps:List KP}(hok:∀ p ∈ ps,p.ok){vis:List Nat}:∀ r ∈ vis.filterMap (Xon ps),r.hash.length=32:=by
 intro r hr
 obtain⟨i, -,hi⟩:=List.mem_filterMap.1 hr
 unfold Xon at hi
 cases hp:ps[i]? with
 | none=>rw[hp]at hi;cases hi
 | some p =>
  rw[hp]at hi
  simp only[Option.bind_some]at hi
  split at hi
  ·cases hi
   exact(hok p (List.mem_of_getElem? hp)).1
  ·cases hi
section
attribute [local simp] Qa8 Qbk Q6 U8 Qbt Qfj Xk8 Qi9 Qe1 U2 Uy Yd kON kOC Yi kNN kNP kRR kRP kEN kER Q5 Xh Zz Zf aop Qh nth Ab.g0 gv gs Q4 Qe aev evs evO Qk Tr.get_put St.put Tm.put flat flatA Zd Qn Qq Qp Qr Qm Qo Qs Qu Ql Q7 Q8 kTN kTR kTX kTP kBN kBR kBX kBP kCS kCR kCE kAM Yh.putAll X6 Qa Q3 Q0 Qd Qb Qf Q1 Q2 Q9
set_option maxHeartbeats 1000000 in
theorem Yfx(b:Nat)(SO:Qmb b){h:Heap}{MB:Nat→Prop}{κ mb:Nat}{c:CSt}{ps:List KP}(C:Chan h MB κ mb c ps)(hn:ps.length < 1000000)(K:AEnd→Heap→Prop)(hk:∀ l lv h',l.Perm (Qu0 c)→Qqr l→(∀ r ∈ l,r.hash.length=32)→Own h' h.next 36 lv l.length (Qad l)→Old h h'→K (.ret lv) h') :
  CallOK Tryd.prog (E b).G 11 [.pointer (some ⟨κ,0,none⟩)] h K:=by
 refine Xou (E b) (Qk0 _ _) (Qh9 b) (Qc4 b) mixed (Qhf b) (Q6 b) Qw2 Q3j Q0c rfl ?_
 obtain⟨k1,k2,k3,k4,k5,k0⟩:=C.c
 obtain⟨hA,eA⟩:∃ hA,hA=h.push (.obj (.mapIter (some mb) ps.length #[] ps.length)):=⟨_,rfl⟩
 have rg:Xxu (E b).toEnv 57 (.map (some mb)) h=some (.pointer (some ⟨h.next,0,none⟩),hA):=by
  rw[eA]
  simp only[Xxu,Yy0,Y1d,C.mp]
 have gA:hA.get h.next=some (.obj (.mapIter (some mb) ps.length ⟨[]⟩ ps.length)):=by rw[eA,Heap.get_push,if_pos rfl]
 have aA:Old h hA:=by rw[eA];exact Old.push _ _
 have lm:=Heap.get_lt C.mp
 simp[Wf,k3,rg]
 refine Qgm (PDI h mb h.next ps) ps.length ⟨_,hA,.slice none 0 0,[],rfl,by simp,by simp,by simp,⟨aA,gA,Own.nil,by simp[Qb9],by simp,by simp⟩⟩ ?_
 rintro k s' ⟨t,h1,lv,vis,rfl,t9,t2,rfl,inv⟩ _
 have hmb:h1.get mb=some (.map ⟨Xc5 ps 0⟩ ps.length):=by rw[inv.old.2 mb lm];exact C.mp
 obtain⟨ne,nx⟩:=Yvq inv.it hmb
 simp
 refine Y7s (it:=.pointer (some ⟨h.next,0,none⟩)) (by simp[t9]) rfl ne fun y hy => ?_
 rcases nx y hy with⟨hall,rfl⟩ | ⟨i,p,hp,hi,rfl⟩
 ·simp[t2]
  have hok:∀ p ∈ ps,p.ok:=fun p hp=>(C.each p hp).2
  have lv1:=inv.row
  have hv:=Ywu inv.nd inv.lt
  have hfl:=List.length_filterMap_le (Xon ps) vis
  refine SO lv1 (Yse hok) (by omega) _ fun l' h' pm sd ow hnx fr => ?_
  simp[t2]
  refine hk l' lv h' (pm.trans ?_) sd (fun r hr=>Yse hok r (pm.mem_iff.1 hr)) ow ⟨by rw[hnx];exact inv.old.1,fun c hc => ?_⟩
  ·have:=Y4n inv.nd inv.lt hall
   rw[← C.rows]at this
   exact this
  ·rw[fr c (fun e=>by have:=(inv.row.from e).1;omega),inv.old.2 c hc]
 ·obtain⟨h2,e2⟩:∃ h2,h2=h1.set h.next (some (.obj (.mapIter (some mb) ps.length ⟨vis ++ [i]⟩ ps.length))):=⟨_,rfl⟩
  have lI:=Heap.get_lt inv.it
  have gI:h2.get h.next=some (.obj (.mapIter (some mb) ps.length ⟨vis ++ [i]⟩ ps.length)):=by rw[e2,Heap.get_set _ _ _ _ lI,if_pos rfl]
  have o2:Old h h2:=by rw[e2];exact inv.old.set _ (Nat.le_refl _) lI
  have hmb2:h2.get mb=some (.map ⟨Xc5 ps 0⟩ ps.length):=by rw[o2.2 mb lm];exact C.mp
  have en:=Yt2 gI hmb2 hp
  have C2:=C.old o2
  have m1:=List.mem_of_getElem? hp
  obtain⟨q0,q1,q2,q3,q36,qr, -⟩:=C2.k m1
  have lr:p.k.row.cells.length=36:=CRow.len (C.each _ m1).2.1
  have ow2:Own h2 h.next 36 lv (vis.filterMap (Xon ps)).length (Qad (vis.filterMap (Xon ps))):=inv.row.keep fun c hc _=>by
   rw[e2,Heap.get_set _ _ _ _ lI,if_neg (fun e=>inv.ap (by rw[e];exact hc))]
  have hil:i < ps.length:=(List.getElem?_eq_some_iff.1 hp).1
  have nd2:(vis ++ [i]).Nodup:=by
   rw[List.nodup_append]
   exact⟨inv.nd,by simp,fun x hx y hy e=>by simp at hy;subst hy;exact hi (e ▸ hx)⟩
  have lt2:∀ j ∈ vis ++ [i],j < ps.length:=fun j hj=>by
   rcases List.mem_append.1 hj with q | q
   ·exact inv.lt j q
   ·simp at q;omega
  have hv2:=Ywu nd2 lt2
  simp at hv2
  have n2:h2.next=h1.next:=by rw[e2];rfl
  rw[← e2]
  by_cases hs:p.k.state=1
  ·have ro:Xon ps i=some p.k.row:=by simp[Xon,hp,hs]
   have hb:=Xu6 (T35 b) (z:=36) Q21 (by omega) (by omega) (y:=.agg ⟨p.k.row.cells⟩) rfl (ys:=p.k.row.cells) rfl lr (h:=h2)
   have hfl:=List.length_filterMap_le (Xon ps) vis
   obtain⟨v',h3,a1,a2,a3,a4⟩:=Qrh (T35 b) Q21 (by omega) ow2 o2.1 (ys:=p.k.row.cells) lr (by rw[Yy5];omega) (by omega)
   simp[t9,t2,en,Wf,q36,hs,qr,hb,a1]
   have fm:(vis ++ [i]).filterMap (Xon ps)=vis.filterMap (Xon ps) ++ [p.k.row]:=by simp[List.filterMap_append,ro]
   refine⟨ps.length-(vis.length+1),by omega,_,h3,v',vis ++ [i],rfl,by simp[t9],by simp,by simp,⟨a3.old o2 ow2,?_,?_,?_,nd2,lt2⟩⟩
   ·rw[a3.2 h.next (by omega) inv.ap];exact gI
   ·rw[fm,Xy2,List.length_append]
    simpa[Qad]using a2
   ·intro q
    rcases a4 _ q with e | e
    ·exact inv.ap e
    ·omega
  ·have ro:Xon ps i=none:=by simp[Xon,hp,hs]
   simp[t9,t2,en,Wf,q36,hs]
   have fm:(vis ++ [i]).filterMap (Xon ps)=vis.filterMap (Xon ps):=by simp[List.filterMap_append,ro]
   exact⟨ps.length-(vis.length+1),by omega,_,h2,lv,vis ++ [i],rfl,by simp[t9],by simp[t2],by simp,⟨o2,gI,by rw[fm];exact ow2,inv.ap,nd2,lt2⟩⟩
end
end Go.Proofs.YtcokebbiblnonaaDoor
end
noncomputable section
namespace Go.Proofs.YtcokebbiblnonaaDoor
open Go Go.Ab
set_option maxRecDepth 100000
def Xac(height:Int):List CRow→CSt→CSt
 | [],c=>c
 | r::l,c=>Xac height l (if r.til≤height then Qh3 c r.id else c)
def W8(height:Int)(l:List CRow):List Int:=(l.filter fun r=>decide (r.til≤height)).map (·.id)
theorem X9y(height:Int):∀ (l:List CRow) (r:CRow) (c:CSt),Xac height (l ++ [r]) c=(if r.til≤height then Qh3 (Xac height l c) r.id else Xac height l c)
 | [],r,c=>rfl
 | x::l,r,c=>by simp only[List.cons_append,Xac];exact X9y height l r _
theorem Xe2{height t:Int}:∀ (l:List CRow) {c:CSt},CInv c t→CInv (Xac height l c) t
 | [],_,i=>i
 | r::l,c,i=>by
  simp only[Xac]
  split
  ·exact Xe2 l (Yib i)
  ·exact Xe2 l i
theorem Qv0:∀ (l:List CRow) (i:Nat),(∀ r ∈ l,r.hash.length=32)→∀ r,l[i]? = some r→((Qad l).drop (i*36)).take 36=r.cells
 | [],i,_,r,h=>by simp at h
 | x::l,0,hl,r,h=>by
  simp at h;subst h
  have:=CRow.len (hl x (by simp))
  simp only[Qad,List.flatMap_cons,Nat.zero_mul,List.drop_zero]
  rw[← this,List.take_left]
 | x::l,i+1,hl,r,h=>by
  have lx:=CRow.len (hl x (by simp))
  have ih:=Qv0 l i (fun q hq=>hl q (by simp[hq])) r (by simpa using h)
  have : (Qad (x::l)).drop ((i+1)*36)=(Qad l).drop (i*36):=by
   simp only[Qad,List.flatMap_cons]
   rw[show(i+1)*36=x.cells.length+i*36 by omega,List.drop_append]
   simp
  rw[this,ih]
theorem Y7u(b:Nat){h:Heap}{n0:Nat}{lv:Value}{l:List CRow}(o:Own h n0 36 lv l.length (Qad l))(hl:∀ r ∈ l,r.hash.length=32){i:Nat}{r:CRow}(hi:l[i]? = some r):∃ bk off,Qb9 lv=some bk∧J2 (E b).toEnv 35 lv (.int .i64 (i:Int))=some (.pointer (some ⟨bk,off,none⟩))∧Qcd h bk off 36=some (.agg ⟨r.cells⟩):=by
 have hlt:i < l.length:=(List.getElem?_eq_some_iff.1 hi).1
 have hcl:=Q1y hl
 rcases o with⟨_,h0,_⟩ | ⟨bk,c,z',rest,rfl,h1,h2,h3,h4,h5,h6⟩
 ·omega
 ·refine⟨bk,i*36,rfl,?_,?_⟩
  ·rw[Wb b ⟨by omega,by omega⟩]
   simp
  ·rw[Qb3 h2 (by simp;omega)]
   have e:((Qad l++rest).drop (i*36)).take 36=((Qad l).drop (i*36)).take 36:=by
    rw[List.drop_append_of_le_length (by omega),List.take_append_of_le_length (by simp;omega)]
   rw[e,Qv0 l i hl r hi]
def Xu9(l:List Int):List Value:=l.map fun z=>Value.int .i64 z
structure ExInv (height:Int) (t:Int) (h h1:Heap) (MB:Nat→Prop) (κ mb:Nat) (c:CSt) (l:List CRow) (lv ov:Value) (i:Nat):Prop where
 ch:∃ ps,Chan h1 MB κ mb (Xac height (l.take i) c) ps
 mv:Mv MB MB h h1
 row:Own h1 h.next 36 lv l.length (Qad l)
 out:Own h1 h.next 1 ov (W8 height (l.take i)).length (Xu9 (W8 height (l.take i)))
 ap:∀ c,Qb9 lv=some c→Qb9 ov≠some c
def EXI(height t:Int)(h:Heap)(MB:Nat→Prop)(κ mb:Nat)(c:CSt)(l:List CRow)(lv:Value)(k:Nat)(s:St):Prop:=∃ (tr:Tr Value) (h1:Heap) (ov:Value) (i:Nat),s=⟨⟨29,tr⟩,[],h1⟩∧tr.get 0=some (.pointer (some ⟨κ,0,none⟩))∧tr.get 1=some (.int .i64 height)∧tr.get 8=some lv∧tr.get 9=some (.int .i64 (l.length:Int))∧tr.get 10=some (.int .i64 (i:Int))∧tr.get 4=some ov∧i≤l.length∧k=l.length-i∧ExInv height t h h1 MB κ mb c l lv ov i
section
attribute [local simp] Qaf Qby Qj Q6 Wc Xv Wb U2 Uw Zp Jk Vi Yp Yq Y0 Yd kON kOC Yi kNN kNP kRR kRP kEN kER Q5 Xh Zz Zf aop Qh nth Ab.g0 gv gs Q4 Qe aev evs evO Qk Tr.get_put St.put Tm.put flat flatA Zd Qn Qq Qp Qr Qm Qo Qs Qu Ql Q7 Q8 kTN kTR kTX kTP kBN kBR kBX kBP kCS kCR kCE kAM Yh.putAll X6 Qa Q3 Q0 Qd Qb Qf Q1 Q2 Q9
set_option maxHeartbeats 1000000 in
theorem Ybw(b:Nat)(SO:Qmb b){h:Heap}{MB:Nat→Prop}{κ mb:Nat}{c:CSt}{ps:List KP}(C:Chan h MB κ mb c ps){t:Int}(i0:CInv c t)(hn:ps.length < 1000000)(height:Int)(K:AEnd→Heap→Prop)
  (hk:∀ l ov h' ps',l.Perm (Qu0 c)→Qqr l→Chan h' MB κ mb (Xac height l c) ps'→Mv MB MB h h'→Own h' h.next 1 ov (W8 height l).length (Xu9 (W8 height l))→K (.ret ov) h'):CallOK Tryd.prog (E b).G 22 [.pointer (some ⟨κ,0,none⟩),.int .i64 height] h K:=by
 refine Xou (E b) (Qk0 _ _) (Qh9 b) (Qc4 b) mixed (Qhf b) (Qj b) Qy3 Q6o Q31 rfl ?_
 simp[Vt]
 refine Yfx b SO C hn _ fun l lv h1 pm sd hh ow a1 => ?_
 have lens:∀ hx,Q2a (E b).toEnv 35 lv hx=some (.int .i64 (l.length:Int)):=fun hx=>Qk6 (T35 b) ow.sl
 have hll:l.length≤16:=by
  have:=pm.length_eq
  have h1:=i0.many
  have h2:=i0.most
  omega
 simp[Vt,lens]
 refine Qgm (EXI height t h MB κ mb c l lv) l.length ⟨_,h1,.slice none 0 0,0,rfl,by simp,by simp,by simp,by simp,by simp,by simp,by omega,rfl,⟨⟨ps,C.old a1⟩,Mv.old a1,ow,Own.nil,by simp[Qb9]⟩⟩ ?_
 rintro k s' ⟨tr,h2,ov,i,rfl,t0,t1,t8,t9,t10,t4,hi,rfl,inv⟩ _
 by_cases hlt:i < l.length
 ·have hlt':(i:Int) < (l.length:Int):=by omega
  obtain⟨r,hr⟩:∃ r,l[i]? = some r:=⟨_,List.getElem?_eq_getElem hlt⟩
  have hrl:=hh r (List.mem_of_getElem? hr)
  have lr:=CRow.len hrl
  obtain⟨bk,off,b1,b2,b3⟩:=Y7u b inv.row hh hr
  have ht:l.take (i+1)=l.take i ++ [r]:=by rw[List.take_succ,hr];rfl
  obtain⟨ps2,C2⟩:=inv.ch
  have hw:IntKind.i64.wrap ((i:Int)+1)=((i+1:Nat):Int):=by rw[Qa9 (by omega) (by omega)];omega
  obtain⟨z36,ez⟩:∃ z,z=(⟨0,0,0,0,Uq⟩:CRow).cells:=⟨_,rfl⟩
  have lz:z36.length=36:=by rw[ez];rfl
  obtain⟨h3,e3⟩:∃ h3,h3=(h2.push (.cells true 1 z36)).set h2.next (some (.cells true 1 r.cells)):=⟨_,rfl⟩
  have al:Qfm (E b).toEnv 32 h2=some (.pointer (some ⟨h2.next,0,none⟩),h2.push (.cells true 1 z36)):=by rw[ez];exact Vt b h2
  have gP:(h2.push (.cells true 1 z36)).get h2.next=some (.cells true 1 z36):=by rw[Heap.get_push,if_pos rfl]
  have lP:=Heap.get_lt gP
  have st:Qdq (h2.push (.cells true 1 z36)) h2.next 0 r.cells=some h3:=by
   rw[Qgn gP (by omega),List.take_zero,List.nil_append,Nat.zero_add,List.drop_of_length_le (by omega),List.append_nil,e3]
  have a23:Old h2 h3:=by rw[e3];exact(Old.push _ _).set _ (Nat.le_refl _) lP
  have g3:h3.get h2.next=some (.cells true 1 r.cells):=by rw[e3,Heap.get_set _ _ _ _ lP,if_pos rfl]
  have RA3:RowAt h3 h2.next r:=⟨⟨1,g3⟩,hrl⟩
  obtain⟨r0,r1,r2,r3, -⟩:=RA3.cs
  have C3:=C2.old a23
  have row3:Own h3 h.next 36 lv l.length (Qad l):=inv.row.keep fun c _ hc=>a23.2 c hc
  have out3:=inv.out.keep (h':=h3) fun c _ hc=>a23.2 c hc
  have far:∀ c,MB c→c < h.next:=C.low
  by_cases hu:r.til≤height
  ·simp[Vt,t0,t1,t8,t9,t10,t4,hlt',b2,b3,-Vt,al,lr,st,r3,hu,r1]
   refine(Yih b C3 (Xe2 _ i0) r.id _ fun h4 ps4 C4 v4 => ?_).ok
   have fr:∀ c,h.next≤c→c < h3.next→h4.get c=h3.get c:=fun c hc hl=>v4.same c hl fun q=>by have:=far c q;omega
   have RA4:RowAt h4 h2.next r:=RA3.mv v4 fun q=>by have:=far _ q;have:=inv.mv.next;omega
   obtain⟨s0,s1,s2,s3, -⟩:=RA4.cs
   have out4:=out3.keep (h':=h4) fun c hc hl=>fr c (out3.from hc).1 hl
   have row4:=row3.keep (h':=h4) fun c hc hl=>fr c (row3.from hc).1 hl
   have hids:(W8 height (l.take i)).length≤16:=by
    have : (W8 height (l.take i)).length≤(l.take i).length:=by
     unfold W8
     rw[List.length_map]
     exact List.length_filter_le _ _
    rw[List.length_take]at this
    omega
   have hb:=Xu6 (T53 b) (z:=1) (by kernel_rfl) (by omega) (by omega) (y:=.int .i64 r.id) rfl (ys:=[.int .i64 r.id]) rfl rfl (h:=h4)
   have hR8:R3.bytes=8:=by kernel_rfl
   obtain⟨v',h5,a1',a2',a3',a4'⟩:=Qrh (T53 b) (by kernel_rfl) (by omega) out4 (by have:=inv.mv.next;have:=a23.1;have:=v4.next;omega) (ys:=[.int .i64 r.id]) rfl (by rw[hR8];omega) (by omega)
   simp[Vt,t0,t1,t8,t9,t10,t4,s1,hb,a1',hw]
   have n34:=v4.next
   have n23:=a23.1
   have n02:=inv.mv.next
   have hov:∀ c,MB c→Qb9 ov≠some c:=fun c hc q=>by have:=(out4.from q).1;have:=far c hc;omega
   refine⟨l.length-(i+1),by omega,_,h5,v',i+1,rfl,by simp[t0],by simp[t1],by simp[t8],by simp[t9],by simp,by simp,by omega,rfl,⟨?_,?_,?_,?_,?_⟩⟩
   ·rw[ht,X9y,if_pos hu]
    obtain⟨⟨z,c1⟩,c2,c3,c4,c5,c6,c7,c8,c9⟩:=C4
    refine⟨ps4,⟨z,by rw[a3'.2 _ (Heap.get_lt c1) (hov _ c8.1)];exact c1⟩,by rw[a3'.2 _ (Heap.get_lt c2) (hov _ c8.2.1)];exact c2,c3,fun p hp=>⟨by rw[a3'.2 _ (Heap.get_lt (c4 p hp).1) (hov _ (c8.2.2 p hp))];exact(c4 p hp).1,(c4 p hp).2⟩,c5,c6,c7,c8,fun b hb=>Nat.lt_of_lt_of_le (c9 b hb) a3'.1⟩
   ·refine⟨by have:=a3'.1;omega,fun c hc hm => ?_,fun _ h => .inl h⟩
    rw[a3'.2 c (by omega) (fun q=>by have:=(out4.from q).1;omega),v4.same c (by omega) hm,a23.2 c (by omega),inv.mv.same c hc hm]
   ·exact row4.keep fun c hc hl=>a3'.2 c hl fun q=>inv.ap c hc q
   ·have : W8 height (l.take (i+1))=W8 height (l.take i) ++ [r.id]:=by rw[ht];simp[W8,List.filter_append,hu]
    rw[this,List.length_append]
    simpa[Xu9]using a2'
   ·intro c hc q
    rcases a4' c q with e | e
    ·exact inv.ap c hc e
    ·have:=row4.out hc;omega
  ·simp[Vt,t0,t1,t8,t9,t10,t4,hlt',b2,b3,-Vt,al,lr,st,r3,hu,hw]
   refine⟨l.length-(i+1),by omega,_,h3,ov,i+1,rfl,by simp[t0],by simp[t1],by simp[t8],by simp[t9],by simp,by simp[t4],by omega,rfl,⟨?_,inv.mv.trans (Mv.old a23),row3,?_,inv.ap⟩⟩
   ·rw[ht,X9y,if_neg hu]
    exact⟨ps2,C3⟩
   ·have : W8 height (l.take (i+1))=W8 height (l.take i):=by rw[ht];simp[W8,List.filter_append,hu]
    rw[this]
    exact out3
 ·have hlt':¬ (i:Int) < (l.length:Int):=by omega
  simp[Vt,t0,t1,t8,t9,t10,t4,hlt']
  have : i=l.length:=by omega
  subst this
  obtain⟨ps2,C2⟩:=inv.ch
  have o:=inv.out
  rw[List.take_length]at C2 o
  exact hk l ov h2 ps2 pm sd C2 inv.mv o
end
end Go.Proofs.YtcokebbiblnonaaDoor
end
noncomputable section
namespace Go.Proofs.YtcokebbiblnonaaDoor
open Go Go.Ab Go.Proofs
set_option maxRecDepth 100000
abbrev RR:={r:CRow // r.hash.length=32}
instance : Inhabited RR:=⟨⟨⟨0,0,0,0,Uq⟩,by simp[Uq]⟩⟩
def Xsw(x:RR):List Value:=x.1.cells
def Yqf(x y:RR):Int:=Lib.compareInt x.1.id y.1.id
theorem Yl1(x:RR):(Xsw x).length=36:=CRow.len x.2
theorem Yh2(r:CRow):Xt4 r.cells:=by
 intro v hv
 simp only[CRow.cells,List.mem_cons,List.mem_map]at hv
 rcases hv with rfl | rfl | rfl | rfl | ⟨a, -,rfl⟩ <;> exact⟨rfl,rfl⟩
theorem Ywq(x:RR):∀ v ∈ Xsw x,v.oneCell'=true:=fun v hv=>(Yh2 x.1 v hv).2
theorem Yku(l:List CRow):Xt4 (Qad l):=by
 intro v hv
 obtain⟨r, -,h⟩:=List.mem_flatMap.1 hv
 exact Yh2 r v h
theorem Y06{l:List CRow}{i j:Nat}{r:CRow}(hl:∀ r ∈ l,r.hash.length=32)(hi:l[i]? = some r)(hj:j < 36):(Qad l)[i*36+j]? = r.cells[j]? := by
 have h:=congrArg (fun q=>q[j]?) (Qv0 l i hl r hi)
 simp only[List.getElem?_take,if_pos hj,List.getElem?_drop]at h
 exact h
def Xuq(d:Array RR):List CRow:=d.toList.map (·.1)
theorem Xvz(d:Array RR):∀ r ∈ Xuq d,r.hash.length=32:=fun r h=>by
 obtain⟨x, -,rfl⟩:=List.mem_map.1 h
 exact x.2
theorem X2d(d:Array RR):(Xuq d).length=d.size:=by simp[Xuq]
theorem Yc2(d:Array RR):(Sort.flatK Xsw 36 d).toList=Qad (Xuq d):=by
 have hl:=Q1y (Xvz d)
 rw[X2d]at hl
 apply List.ext_getElem?
 intro t
 by_cases ht:t < d.size*36
 ·have h1:=Sort.get_flatK Xsw 36 d t ht
  have hlt:t / 36 < d.size:=(Nat.div_lt_iff_lt_mul (by omega)).2 ht
  have hs:t < (Sort.flatK Xsw 36 d).size:=by rw[Sort.size_flatK];exact ht
  rw[getElem!_pos _ t hs,getElem!_pos d (t / 36) hlt,getElem!_pos _ (t % 36) (by rw[Yl1];exact Nat.mod_lt _ (by omega))]at h1
  rw[show(Sort.flatK Xsw 36 d).toList[t]? = some (Sort.flatK Xsw 36 d)[t] by simp[hs],h1]
  have hr:(Xuq d)[t / 36]? = some d[t / 36].1:=by simp[Xuq,hlt]
  have hm:=Y06 (Xvz d) hr (j:=t % 36) (Nat.mod_lt _ (by omega))
  rw[show t / 36*36+t % 36=t by omega]at hm
  rw[hm]
  exact(List.getElem?_eq_getElem _).symm
 ·rw[List.getElem?_eq_none (by simp;omega),List.getElem?_eq_none (by omega)]
theorem Y13(x y:RR):ltOf Yqf x y=decide (x.1.id < y.1.id):=by
 unfold ltOf Yqf Lib.compareInt
 by_cases h1:x.1.id < y.1.id
 ·simp[h1]
 ·by_cases h2:y.1.id < x.1.id <;> simp[h1,h2]
theorem Y7g:Sort.SWO (ltOf Yqf):={
 irrefl:=fun x=>by rw[Y13];simp
 trans:=fun x y z h1 h2=>by rw[Y13]at *; simp at *; omega
 ntrans:=fun x y z h1 h2=>by rw[Y13]at *; simp at *; omega}
theorem Y51{d d':Array RR}(h:Sort.PermIn 0 d.size d d'):(Xuq d').Perm (Xuq d):=by
 obtain⟨h1, -,h3⟩:=h
 have e1:d'.extract 0 d.size=d':=by rw[← h1];simp
 have e2:d.extract 0 d.size=d:=by simp
 rw[e1,e2]at h3
 exact h3.map _
theorem Yyt{d d':Array RR}(hs:d'.size=d.size)(h:Sort.SortedIn (ltOf Yqf) 0 d.size d'):Qqr (Xuq d'):=by
 unfold Qqr
 rw[List.pairwise_iff_getElem]
 intro i j hi hj hij
 rw[X2d]at hi hj
 have:=h i j (by omega) hij (by omega)
 rw[Y13,getElem!_pos d' i hi,getElem!_pos d' j hj]at this
 simp only[decide_eq_false_iff_not]at this
 simp only[Xuq,List.getElem_map,Array.getElem_toList]
 omega
def Y3c:Prop:=∀ (blk cap:Nat) (d:Array RR) (w:World),Sort.HoldsK Xsw 36 w blk 0 d→blk < w.heap.size→d.size < 4611686018427387904→Calls Tryd.prog 26 #[.slice (some ⟨blk,0,none⟩) d.size cap,.func (.func 27) #[] #[]] w fun e w' =>
 e=.returned (.tuple #[])∧∃ d' n os,Sort.PermIn 0 d.size d d'∧Sort.SortedIn (ltOf Yqf) 0 d.size d'∧w'=sortWorldK Xsw 36 w blk 0 n d' os
def Yrq:Prop:=∀ (p:Option Addr) (cap:Nat) (fv:Value) (w:World),Calls Tryd.prog 26 #[.slice p 0 cap,fv] w fun e w'=>e=.returned (.tuple #[])∧w'=w
theorem okT{D:Nat→Prop}:Xvo D (.ret (.tuple #[])):=by
 simp[Xvo,okV,okA,okL]
theorem Y5w(b:Nat)(S:Y3c)(N:Yrq):Qmb b:=by
 intro h n0 lv l o hh hl K hk α w H ha
 rcases o with⟨rfl,h0,hx⟩ | ⟨bk,c,z',rest,rfl,h1,h2,h3,h4,h5,h6⟩
 ·have : l=[]:=List.length_eq_zero_iff.1 h0
  subst this
  refine(callsIn_wide.2 (N none _ _ w)).mono ?_
  rintro e w' ⟨rfl,rfl⟩
  exact⟨α,.ret (.tuple #[]),h,hk [] h (List.Perm.refl _) List.Pairwise.nil (.inl ⟨rfl,rfl,rfl⟩) rfl fun _ _=>rfl,rfl,okT,Ext.refl _ _,Turn.refl α h w',H⟩
 ·obtain⟨d,hd⟩:∃ d:Array RR,Xuq d=l:=⟨(l.attach.map fun x=>(⟨x.1,hh x.1 x.2⟩:RR)).toArray,by simp[Xuq,List.map_map,Function.comp_def]⟩
  have hds:d.size=l.length:=by rw[← hd,X2d]
  have hdom:dom α bk:=by
   have:=ha (.slice (some ⟨bk,0,none⟩) l.length c) (by simp)
   exact this.1
  obtain⟨B,cap,e1,hB,hc,fin⟩:=Yxt H (n:=l.length) (c:=c) h2 hdom (Yku l)
  have hH:Sort.HoldsK Xsw 36 w B 0 d:=by
   intro j hj
   have hjl:j < (Qad l).length:=by rw[Q1y hh,← hds];simpa using hj
   refine hc j _ ?_
   rw[← hd,← Yc2,getElem!_pos _ j hj]
   simp[hj]
  have hcall:=S B cap d w hH hB (by omega)
  rw[hds]at hcall
  rw[show(List.map (ren α) [Value.slice (some ⟨bk,0,none⟩) l.length c,.func (.func 27) #[] #[]]).toArray = #[.slice (some ⟨B,0,none⟩) l.length cap,.func (.func 27) #[] #[]] by
   simp only[List.map_cons,List.map_nil,e1]
   rfl]
  refine(callsIn_wide.2 hcall).mono ?_
  rintro e w' ⟨rfl,d',n,os,hp,hs,rfl⟩
  have hds':d'.size=d.size:=hp.1
  rw[← hds]at hp hs
  obtain⟨h',H',T',g',n',s'⟩:=fin (Sort.flatK Xsw 36 d') n os (by rw[Sort.size_flatK,hds',hds,h3]) (by rw[Yc2];exact Yku _)
  have pm:=Y51 hp
  rw[hd]at pm
  have hl':(Xuq d').length=l.length:=pm.length_eq
  rw[Yc2]at g'
  refine⟨α,.ret (.tuple #[]),h',hk (Xuq d') h' pm (Yyt hds' hs) ?_ n' fun c' hc'=>s' c' fun q=>hc' (by simp[Qb9,q]),rfl,okT,Ext.refl _ _,T',H'⟩
  have hrl:=Q1y (Xvz d')
  exact .inr ⟨bk,c,z',rest,by rw[hl'],h1,g',by rw[hrl],by omega,h5,by simpa[hrl,hl',h3]using h6⟩
end Go.Proofs.YtcokebbiblnonaaDoor
end
namespace Go.Proofs.YtcokebbiblnonaaDoor
open Go Go.Proofs Go.Shelf
def Yq7:Go.Shelf.Ren:=⟨fun | 6=>26 | 15=>45 | 14=>44 | 28=>59 | 29=>60 | 20=>51 | 21=>52 | 22=>53 | 23=>54 | 24=>55 | 25=>56 | 26=>57 | 27=>58 | 46=>63 | 47=>64 | 48=>65 | 49=>66 | 50=>67 | 57=>72 | n=>n,fun | 22=>35 | 24=>32 | 25=>68 | 3=>3 | 39=>87 | 0=>0 | 53=>90 | 55=>93 | 4=>4 | 46=>99 | 45=>98 | 50=>103 | 5=>5 | 9=>9 | 66=>113 | 70=>117 | 76=>125 | 77=>126 | n=>n,fun | n=>n⟩
theorem Yyl:Go.Proofs.SlLaysF0.n6 Tryd.prog Yq7:={
 mixed:=by kernel_rfl
 f6:=⟨Tryd.f26.name,by decide,Tryd.func26.trans (congrArg some (by kernel_rfl))⟩
 f14:=⟨Tryd.f44.name,by decide,Tryd.func44.trans (congrArg some (by kernel_rfl))⟩
 f15:=Tryd.func45.trans (congrArg some (by kernel_rfl))
 f20:=⟨Tryd.f51.name,by decide,Tryd.func51.trans (congrArg some (by kernel_rfl))⟩
 f21:=⟨Tryd.f52.name,by decide,Tryd.func52.trans (congrArg some (by kernel_rfl))⟩
 f22:=⟨Tryd.f53.name,by decide,Tryd.func53.trans (congrArg some (by kernel_rfl))⟩
 f23:=⟨Tryd.f54.name,by decide,Tryd.func54.trans (congrArg some (by kernel_rfl))⟩
 f24:=⟨Tryd.f55.name,by decide,Tryd.func55.trans (congrArg some (by kernel_rfl))⟩
 f25:=⟨Tryd.f56.name,by decide,Tryd.func56.trans (congrArg some (by kernel_rfl))⟩
 f26:=⟨Tryd.f57.name,by decide,Tryd.func57.trans (congrArg some (by kernel_rfl))⟩
 f27:=⟨Tryd.f58.name,by decide,Tryd.func58.trans (congrArg some (by kernel_rfl))⟩
 f28:=Tryd.func59.trans (congrArg some (by kernel_rfl))
 f29:=Tryd.func60.trans (congrArg some (by kernel_rfl))
 f46:=⟨Tryd.f63.name,by decide,Tryd.func63.trans (congrArg some (by kernel_rfl))⟩
 f47:=Tryd.func64.trans (congrArg some (by kernel_rfl))
 f48:=Tryd.func65.trans (congrArg some (by kernel_rfl))
 f49:=⟨Tryd.f66.name,by decide,Tryd.func66.trans (congrArg some (by kernel_rfl))⟩
 f50:=⟨Tryd.f67.name,by decide,Tryd.func67.trans (congrArg some (by kernel_rfl))⟩
 f57:=⟨Tryd.f72.name,by decide,Tryd.func72.trans (congrArg some (by kernel_rfl))⟩
 t0:=Tryd.underlying0
 a0:=Tryd.isAgg0
 z0:=Tryd.sizeOf0
 v0:=Tryd.zeroValue0
 t3:=Tryd.underlying3
 a3:=Tryd.isAgg3
 z3:=Tryd.sizeOf3
 v3:=Tryd.zeroValue3
 t4:=Tryd.underlying4
 a4:=Tryd.isAgg4
 z4:=Tryd.sizeOf4
 v4:=Tryd.zeroValue4
 t5:=Tryd.underlying5
 a5:=Tryd.isAgg5
 z5:=Tryd.sizeOf5
 v5:=Tryd.zeroValue5
 t9:=Tryd.underlying9
 a9:=Tryd.isAgg9
 z9:=Tryd.sizeOf9
 v9:=Tryd.zeroValue9
 t22:=Tryd.underlying35
 a22:=Tryd.isAgg35
 z22:=Tryd.sizeOf35
 v22:=Tryd.zeroValue35
 t25:=Tryd.underlying68
 a25:=Tryd.isAgg68
 z25:=Tryd.sizeOf68
 v25:=Tryd.zeroValue68
 t39:=Tryd.underlying87
 a39:=Tryd.isAgg87
 z39:=Tryd.sizeOf87
 v39:=Tryd.zeroValue87
 t45:=Tryd.underlying98
 a45:=Tryd.isAgg98
 z45:=Tryd.sizeOf98
 v45:=Tryd.zeroValue98
 t46:=Tryd.underlying99
 a46:=Tryd.isAgg99
 z46:=Tryd.sizeOf99
 v46:=Tryd.zeroValue99
 t50:=Tryd.underlying103
 a50:=Tryd.isAgg103
 z50:=Tryd.sizeOf103
 v50:=Tryd.zeroValue103
 t53:=Tryd.underlying90
 a53:=Tryd.isAgg90
 z53:=Tryd.sizeOf90
 v53:=Tryd.zeroValue90
 t55:=Tryd.underlying93
 a55:=Tryd.isAgg93
 z55:=Tryd.sizeOf93
 v55:=Tryd.zeroValue93
 t66:=Tryd.underlying113
 a66:=Tryd.isAgg113
 z66:=Tryd.sizeOf113
 v66:=Tryd.zeroValue113
 t70:=Tryd.underlying117
 a70:=Tryd.isAgg117
 z70:=Tryd.sizeOf117
 v70:=Tryd.zeroValue117
 t76:=Tryd.underlying125
 a76:=Tryd.isAgg125
 z76:=Tryd.sizeOf125
 v76:=Tryd.zeroValue125
 t77:=Tryd.underlying126
 a77:=Tryd.isAgg126
 z77:=Tryd.sizeOf126
 v77:=Tryd.zeroValue126}
def Ysw:Go.Shelf.Ren:=⟨fun | 5=>28 | 7=>46 | n=>n,fun | 22=>3 | 3=>3 | 4=>4 | n=>n,fun | n=>n⟩
theorem Y8l:Go.Proofs.SlLaysC2.n5 Tryd.prog Ysw:={
 mixed:=by kernel_rfl
 f5:=⟨Tryd.f28.name,by decide,Tryd.func28.trans (congrArg some (by kernel_rfl))⟩
 f7:=⟨Tryd.f46.name,by decide,Tryd.func46.trans (congrArg some (by kernel_rfl))⟩
 t3:=Tryd.underlying3
 a3:=Tryd.isAgg3
 z3:=Tryd.sizeOf3
 v3:=Tryd.zeroValue3
 t4:=Tryd.underlying4
 a4:=Tryd.isAgg4
 z4:=Tryd.sizeOf4
 v4:=Tryd.zeroValue4
 t22:=Tryd.underlying3
 a22:=Tryd.isAgg3
 z22:=Tryd.sizeOf3
 v22:=Tryd.zeroValue3}
end Go.Proofs.YtcokebbiblnonaaDoor
noncomputable section
namespace Go.Proofs.YtcokebbiblnonaaDoor
open Go Go.Proofs Go.Shelf Go.RowKit Go.Lib Go.Sort
set_option maxRecDepth 100000
set_option maxHeartbeats 2000000 in
theorem Y1c(x y:RR)(W:World):Calls Tryd.prog 27 #[.agg (Xsw x).toArray,.agg (Xsw y).toArray] W fun e w'=>e=.returned (.int .i64 (Yqf x y))∧∃ q os',w'=grow (W.drewN q) os':=by
 obtain⟨⟨a1,a2,a3,a4,a5⟩,ha⟩:=x
 obtain⟨⟨b1,b2,b3,b4,b5⟩,hb⟩:=y
 have hcon:=fun W'=>AnyG.cmp_Compare_int Y8l a2 b2 W'
 change ∀ W',Calls Tryd.prog 28 _ _ _ at hcon
 show Calls Tryd.prog 27 _ W fun e w'=>e=.returned (.int .i64 (Lib.compareInt a2 b2))∧_
 generalize Lib.compareInt a2 b2=r at hcon ⊢
 simp only[Xsw,CRow.cells]
 go_enter Tryd.func27,Tryd.ntmps27
 go_wp2_with (go_at_call 28;refine(hcon _).mono ?_;rintro e w' ⟨rfl,rfl⟩)
 go_ret
 exact⟨rfl,0,_,by rw[alloc_eq_grow,alloc_eq_grow,grow_grow];rfl⟩
end Go.Proofs.YtcokebbiblnonaaDoor
end
noncomputable section
namespace Go.Proofs.YtcokebbiblnonaaDoor
open Go Go.Proofs Go.Shelf Go.RowKit Go.Lib Go.Sort
set_option maxRecDepth 100000
theorem Ywy:Yrq:=fun p cap fv w=>AnyF.slices_SortFunc_none Yyl p cap fv w
theorem Y6f:Y3c:=fun blk cap d w hH hb hs =>
 AnyQ.slices_SortFunc Yyl 36 Tryd.isAgg32 Tryd.sizeOf32 Xsw Yl1 Ywq Yqf Y7g 27 #[] blk 0 cap d w (enters_of Tryd.func27 (by kernel_rfl) rfl) (fun _ _ _ _ x y=>Y1c x y _) hH hb hs
theorem Yxg(b:Nat):Qmb b:=Y5w b Y6f Ywy
end Go.Proofs.YtcokebbiblnonaaDoor
end
noncomputable section
namespace Go.Proofs.YtcokebbiblnonaaDoor
open Go Go.Ab
set_option maxRecDepth 100000
def Qxi(n:Int):Int:=if Int.tmod n 5 < 0 then Int.tmod n 5+5 else Int.tmod n 5
theorem Zal(x:Int):Qdj (binOp .rem 3 (.int .i64 x) (.int .i64 5))=some (.int .i64 (Int.tmod x 5)):=by kernel_rfl
theorem Y88(n:Int) : -5 < Int.tmod n 5:=by
 have h1:=Int.natAbs_tmod n 5
 have h2:=Nat.mod_lt n.natAbs (y:=5) (by omega)
 have h3:(5:Int).natAbs=5:=rfl
 rw[h3]at h1
 omega
theorem X1p(n:Int):0≤Qxi n∧Qxi n < 5:=by
 unfold Qxi
 have h1:=Int.tmod_lt_of_pos n (b:=5) (by omega)
 have h2:=Y88 n
 split <;> omega
section
attribute [local simp] Xeb X4p Ja Xv Xuj Y0 Yd kON kOC Yi kNN kNP kRR kRP kEN kER Q5 Xh Zz Zf aop Qh nth Ab.g0 gv gs Q4 Qe aev evs evO Qk Tr.get_put St.put Tm.put flat flatA Zd Qn Qq Qp Qr Qm Qo Qs Qu Ql Q7 Q8 kTN kTR kTX kTP kBN kBR kBX kBP kCS kCR kCE kAM Yh.putAll X6 Qa Q3 Q0 Qd Qb Qf Q1 Q2 Q9 Zal
theorem Yk0(b:Nat)(n:Int)(h:Heap)(K:AEnd→Heap→Prop)(hk:K (.ret (.int .i64 (Qxi n))) h):FnK Tryd.prog (E b).G 17 [.int .i64 n,.int .i64 5] h K:=by
 refine Qfa (E b) (Qh9 b) (Qc4 b) mixed (Qhf b) (Qf4 b) (Ja b) Yk3 Yu9 Yq5 rfl ?_
 have h1:=Int.tmod_lt_of_pos n (b:=5) (by omega)
 have h2:=Y88 n
 have w2:IntKind.i64.wrap (Int.tmod n 5+5)=Int.tmod n 5+5:=Qa9 (by omega) (by omega)
 unfold Qxi at hk
 by_cases hz:Int.tmod n 5 < 0
 ·rw[if_pos hz]at hk
  simp[w2,hz]
  exact hk
 ·rw[if_neg hz]at hk
  simp[hz]
  exact hk
end
structure COp where
 kind:Int
 id:Int
 n:Int
 row:CRow
 sec:List Nat
def COp.ok(o:COp):Prop:=o.row.hash.length=32∧o.sec.length=32
def COp.cells(o:COp):List Value:=.int .i64 o.kind :: .int .i64 o.id :: .int .i64 o.n::(o.row.cells++o.sec.map u8v)
theorem COp.len{o:COp}(h:o.ok):o.cells.length=71:=by simp[COp.cells,CRow.len h.1,h.2]
def Xfc(o:COp)(c:CSt)(r:Bool)(c':CSt):Prop :=
 if Qxi o.kind=0∨Qxi o.kind=1 then r=decide (Qn8 c o.row=0)∧c'=Yfv c o.row
 else if Qxi o.kind=2 then r=decide (Qeh c o.id o.sec=0)∧c'=Qff c o.id o.sec
 else if Qxi o.kind=3 then r=decide (Xtm c o.id=0)∧c'=Qh3 c o.id
 else r=true∧∃ l,l.Perm (Qu0 c)∧Qqr l∧c'=Xac o.n l c
section
attribute [local simp] Qbp Qed Xu Wl Jk Ja Z6 Um U2 Xe Qen Qax Qe6 Jn Yn Yq Qem Qj Yd kON kOC Yi kNN kNP kRR kRP kEN kER Q5 Xh Zz Zf aop Qh nth Ab.g0 gv gs Q4 Qe aev evs evO Qk Tr.get_put St.put Tm.put flat flatA Zd Qn Qq Qp Qr Qm Qo Qs Qu Ql Q7 Q8 kTN kTR kTX kTP kBN kBR kBX kBP kCS kCR kCE kAM Yh.putAll X6 Qa Q3 Q0 Qd Qb Qf Q1 Q2 Q9
set_option maxHeartbeats 1000000 in
theorem Yw9(b:Nat)(SO:Qmb b){h:Heap}{MB:Nat→Prop}{κ mb:Nat}{c:CSt}{ps:List KP}(C:Chan h MB κ mb c ps){t:Int}(i:CInv c t)(laid:Ab.LaidIn h Qbj)(hlo:∀ b,MB b→2≤b)(hn:ps.length < 1000000){o:COp}(ho:o.ok)(K:AEnd→Heap→Prop)
  (hk:∀ r c' h' ps' MB',Xfc o c r c'→Chan h' MB' κ mb c' ps'→Mv MB MB' h h'→K (.ret (.bool r)) h'):CallOK Tryd.prog (E b).G 10 [.pointer (some ⟨κ,0,none⟩),.agg ⟨o.cells⟩] h K:=by
 refine Xou (E b) (Qk0 _ _) (Qh9 b) (Qc4 b) mixed (Qhf b) (Xu b) X8z Ymb Ykb rfl ?_
 obtain⟨hA,eA⟩:∃ hA,hA=h.push (.cells true 1 o.cells):=⟨_,rfl⟩
 have bA:Yo5 (.agg ⟨o.cells⟩) h=some (.pointer (some ⟨h.next,0,none⟩),hA):=by rw[eA];rfl
 have gA:hA.get h.next=some (.cells true 1 o.cells):=by rw[eA,Heap.get_push,if_pos rfl]
 have aA:Old h hA:=by rw[eA];exact Old.push _ _
 have CA:=C.old aA
 have lA:=LaidIn.old laid aA
 have lo:=COp.len ho
 have a0:Vs hA h.next 0=some (.int .i64 o.kind):=by rw[Qai gA];rfl
 have a1:Vs hA h.next 1=some (.int .i64 o.id):=by rw[Qai gA];rfl
 have a2:Vs hA h.next 2=some (.int .i64 o.n):=by rw[Qai gA];rfl
 have lr:=CRow.len ho.1
 have a3:Qcd hA h.next 3 36=some (.agg ⟨o.row.cells⟩):=by
  rw[Qb3 gA (by omega)]
  simp only[COp.cells,List.drop_succ_cons,List.drop_zero]
  rw[← lr,List.take_left]
 have a4:Qcd hA h.next 39 32=some (.agg ⟨o.sec.map u8v⟩):=by
  rw[Qb3 gA (by omega)]
  simp only[COp.cells,List.drop_succ_cons]
  rw[show 36=o.row.cells.length from lr.symm,List.drop_left,List.take_of_length_le (by simp[ho.2])]
 simp[bA,a0]
 refine(Yk0 b o.kind hA _ ?_).ok
 have hp:=X1p o.kind
 by_cases p0:Qxi o.kind=0
 ·simp[p0,a3]
  refine(Yov b CA i o.row ho.1 _ fun h' ps' MB' C' v' => ?_).ok
  simp[p0]
  exact hk _ _ h' ps' MB' (by simp[Xfc,p0]) C' ((Mv.old aA).trans v')
 by_cases p1:Qxi o.kind=1
 ·simp[p1,a3]
  refine(Yov b CA i o.row ho.1 _ fun h' ps' MB' C' v' => ?_).ok
  simp[p1]
  exact hk _ _ h' ps' MB' (by simp[Xfc,p1]) C' ((Mv.old aA).trans v')
 by_cases p2:Qxi o.kind=2
 ·simp[p2,a1,a4]
  refine(Yhg b CA i lA hlo o.id ho.2 _ fun h' ps' C' v' => ?_).ok
  simp[p2]
  exact hk _ _ h' ps' MB (by simp[Xfc,p2]) C' ((Mv.old aA).trans v')
 by_cases p3:Qxi o.kind=3
 ·simp[p3,a1]
  refine(Yih b CA i o.id _ fun h' ps' C' v' => ?_).ok
  simp[p3]
  exact hk _ _ h' ps' MB (by simp[Xfc,p3]) C' ((Mv.old aA).trans v')
 ·have p4:Qxi o.kind=4:=by omega
  simp[p4,a2]
  refine Ybw b SO CA i hn o.n _ fun l ov h' ps' pm sd C' v' _ => ?_
  simp[p4]
  exact hk _ _ h' ps' MB (by simp[Xfc,p4];exact⟨l,pm,sd,rfl⟩) C' ((Mv.old aA).trans v')
end
end Go.Proofs.YtcokebbiblnonaaDoor
end
noncomputable section
namespace Go.Proofs.YtcokebbiblnonaaDoor
open Go Go.Ab
set_option maxRecDepth 100000
theorem Qnf(b:Nat){h:Heap}(hl:Ab.LaidIn h Qbj)(K:AEnd→Heap→Prop)(hk:K (.ret (.bool true)) h):FnK Tryd.prog (E b).G 9 [] h K :=
 ⟨_,_,Xwh (k:=10000) (m:=30) mixed Y01 Yw5 Yfj rfl hl X90 (bs:=[]) rfl (by simp) (fun k d r hd _=>by simp at hd) Qay,Nat.le_refl _,hk⟩
def Wr(l:List COp):List Value:=l.flatMap COp.cells
theorem Xpp{A:Type}{f:A→List Value}{z:Nat}:∀ (l:List A) (i:Nat),(∀ r ∈ l,(f r).length=z)→∀ r,l[i]? = some r→((l.flatMap f).drop (i*z)).take z=f r
 | [],i,_,r,h=>by simp at h
 | x::l,0,hl,r,h=>by
  simp at h;subst h
  have:=hl x (by simp)
  simp only[List.flatMap_cons,Nat.zero_mul,List.drop_zero]
  rw[← this,List.take_left]
 | x::l,i+1,hl,r,h=>by
  have lx:=hl x (by simp)
  have ih:=Xpp l i (fun q hq=>hl q (by simp[hq])) r (by simpa using h)
  have : ((x::l).flatMap f).drop ((i+1)*z)=(l.flatMap f).drop (i*z):=by
   simp only[List.flatMap_cons]
   rw[show(i+1)*z=(f x).length+i*z by rw[lx,Nat.add_mul];omega,List.drop_append]
   simp
  rw[this,ih]
theorem Y1i(b:Nat){h:Heap}{lv:Value}{os:List COp}(sl:Sl h 71 lv os.length (Wr os))(hos:∀ o ∈ os,o.ok){i:Nat}{o:COp}(hi:os[i]? = some o) :
  ∃ bk off,Qb9 lv=some bk∧J2 (E b).toEnv 22 lv (.int .i64 (i:Int))=some (.pointer (some ⟨bk,off,none⟩))∧Qcd h bk off 71=some (.agg ⟨o.cells⟩):=by
 have hlt:i < os.length:=(List.getElem?_eq_some_iff.1 hi).1
 obtain⟨bk,off,h1,h2, -,h4⟩:=Xvc (T22 b) Qqu sl (k:=.i64) (i:=(i:Int)) (by omega) (by omega)
 simp only[Int.toNat_natCast]at h4
 rw[Wr,Xpp os i (fun r hr=>COp.len (hos r hr)) o hi]at h4
 exact⟨bk,off,h1,h2,h4⟩
theorem Ypo(id:Int)(f:CKept→CKept):∀ l:List CKept,(Qzc id f l).length=l.length
 | []=>rfl
 | k::l=>by
  unfold Qzc
  split
  ·simp
  ·simp[Ypo id f l]
theorem Yk4(c:CSt)(id:Int):(Qh3 c id).rows.length=c.rows.length:=by
 unfold Qh3
 split
 ·rfl
 ·simp[Qfc,Ypo]
theorem Ygx(c:CSt)(id:Int)(x:List Nat):(Qff c id x).rows.length=c.rows.length:=by
 unfold Qff
 split
 ·rfl
 ·split
  ·simp[Qfc,Ypo]
  ·rfl
theorem Yja(n:Int):∀ (l:List CRow) (c:CSt),(Xac n l c).rows.length=c.rows.length
 | [],_=>rfl
 | r::l,c=>by
  simp only[Xac]
  rw[Yja n l]
  split
  ·exact Yk4 c r.id
  ·rfl
theorem Yn5{o:COp}{c c':CSt}{r:Bool}(d:Xfc o c r c'):c'.rows.length≤c.rows.length+1:=by
 unfold Xfc at d
 split at d
 ·rw[d.2]
  unfold Yfv
  split
  ·simp[Yha]
  ·omega
 split at d
 ·rw[d.2,Ygx];omega
 split at d
 ·rw[d.2,Yk4];omega
 ·obtain⟨-,l, -, -,rfl⟩:=d
  rw[Yja];omega
theorem Ylc{o:COp}{c c':CSt}{r:Bool}{t:Int}(i:CInv c t)(d:Xfc o c r c'):CInv c' t:=by
 unfold Xfc at d
 split at d
 ·rw[d.2];exact Yyr i
 split at d
 ·rw[d.2];exact Yhf i
 split at d
 ·rw[d.2];exact Yib i
 ·obtain⟨-,l, -, -,rfl⟩:=d
  exact Xe2 l i
def Rt(h h1:Heap)(κ:Nat)(t:Int)(n:Nat)(c:CSt):Prop:=∃ (MB:Nat→Prop) (mb:Nat) (ps:List KP),Chan h1 MB κ mb c ps∧Mv (fun _=>False) MB h h1∧CInv c t∧ps.length≤n
theorem Rt.old{h h1:Heap}{κ n:Nat}{t:Int}{c:CSt}(R:Rt h h1 κ t n c):Old h h1:=by
 obtain⟨_,_,_,_,m,_,_⟩:=R
 exact⟨m.next,fun c hc=>m.same c hc id⟩
theorem Rt.inv{h h1:Heap}{κ n:Nat}{t:Int}{c:CSt}(R:Rt h h1 κ t n c):CInv c t:=by
 obtain⟨_,_,_,_,_,i,_⟩:=R
 exact i
theorem Rt.step{h h1 h2:Heap}{κ n:Nat}{t:Int}{c:CSt}(R:Rt h h1 κ t n c)(a:Old h1 h2):Rt h h2 κ t n c:=by
 obtain⟨MB,mb,ps,C,m,i,hl⟩:=R
 exact⟨MB,mb,ps,C.old a,m.trans (Mv.old a),i,hl⟩
theorem Y3d{h h1:Heap}{κ mb:Nat}{x y:Int}{c:CSt}(hc:Yc7 x y=some c)(C:Chan h1 (fun b=>h.next≤b∧b < h1.next) κ mb c [])(a:Old h h1):Rt h h1 κ (x+y) 0 c :=
 ⟨_,mb,[],C,⟨a.1,fun c hc _=>a.2 c hc,fun c hc => .inr hc.1⟩,Yql hc,Nat.le_refl _⟩
theorem Yw2(b:Nat)(SO:Qmb b){h h1:Heap}{κ n:Nat}{t:Int}{c:CSt}(R:Rt h h1 κ t n c)(laid:Ab.LaidIn h Qbj)(hn:n < 900000){o:COp}(ho:o.ok)(K:AEnd→Heap→Prop)
  (hk:∀ r c' h2,Xfc o c r c'→Rt h h2 κ t (n+1) c'→K (.ret (.bool r)) h2):CallOK Tryd.prog (E b).G 10 [.pointer (some ⟨κ,0,none⟩),.agg ⟨o.cells⟩] h1 K:=by
 have ol:=R.old
 obtain⟨MB,mb,ps,C,m,i,hl⟩:=R
 have h2:∀ x ∈ Qbj,x.1 < h.next:=X20 laid
 have hlo:∀ b,MB b→2≤b:=fun b hb=>by
  rcases m.sub b hb with q | q
  ·exact q.elim
  ·have:=h2 (1,Qx1) (by simp[Qbj])
   simp only at this
   omega
 refine Yw9 b SO C i (LaidIn.old laid ol) hlo (by omega) ho K fun r c' h' ps' MB' d C' v'=>hk r c' h' d ⟨MB',mb,ps',C',m.trans v',Ylc i d,?_⟩
 have e1:=congrArg List.length C.rows
 have e2:=congrArg List.length C'.rows
 have:=Yn5 d
 simp only[List.length_map]at e1 e2
 omega
theorem Yjg(b:Nat)(SO:Qmb b){h h1:Heap}{κ n:Nat}{t:Int}{c:CSt}(R:Rt h h1 κ t n c)(hn:n < 900000)(K:AEnd→Heap→Prop)
  (hk:∀ l lv h2,l.Perm (Qu0 c)→Qqr l→(∀ r ∈ l,r.hash.length=32)→Own h2 h1.next 36 lv l.length (Qad l)→Old h1 h2→Rt h h2 κ t n c→K (.ret lv) h2):CallOK Tryd.prog (E b).G 11 [.pointer (some ⟨κ,0,none⟩)] h1 K:=by
 have R0:=R
 obtain⟨MB,mb,ps,C,m,i,hl⟩:=R
 exact Yfx b SO C (by omega) K fun l lv h' p1 p2 p3 p4 p5=>hk l lv h' p1 p2 p3 p4 p5 (R0.step p5)
theorem Ywi(b:Nat){h h1:Heap}{κ n:Nat}{t:Int}{c:CSt}(R:Rt h h1 κ t n c)(K:AEnd→Heap→Prop)(hk:K (.ret (.int .i64 c.held)) h1):FnK Tryd.prog (E b).G 12 [.pointer (some ⟨κ,0,none⟩)] h1 K:=by
 obtain⟨MB,mb,ps,C,m,i,hl⟩:=R
 exact Y3v b C K hk
theorem Xa4(b:Nat){h h1:Heap}{κ n:Nat}{t:Int}{c:CSt}(R:Rt h h1 κ t n c)(e:Int)(K:AEnd→Heap→Prop)(hk:K (.ret (.int .i64 (c.bal e))) h1):FnK Tryd.prog (E b).G 13 [.pointer (some ⟨κ,0,none⟩),.int .i64 e] h1 K:=by
 obtain⟨MB,mb,ps,C,m,i,hl⟩:=R
 exact Yu2 b C e K hk
theorem Yip{c:CSt}{t:Int}(i:CInv c t):((Qu0 c).map (·.id)).Nodup:=by
 unfold Qu0
 rw[List.map_map]
 exact(i.ids.sublist ((List.filter_sublist (l:=c.rows)).map _))
theorem Ywe{l m:List CRow}(p:l.Perm m):Q60 l=Q60 m:=by
 unfold Q60
 induction p with
 | nil=>rfl
 | cons x _ ih=>simp only[List.map_cons,List.sum_cons,ih]
 | swap x y l=>simp only[List.map_cons,List.sum_cons];omega
 | trans _ _ i1 i2=>exact i1.trans i2
structure PRows (c:CSt) (l:List CRow):Prop where
 sum:Q60 l=c.held
 len:(l.length:Int)=c.many
 few:l.length≤16
 lt:l.Pairwise fun x y=>x.id < y.id
 am:∀ r ∈ l,1≤r.am∧r.am≤Qg6
theorem X1k{c:CSt}{r:CRow}(h:r ∈ Qu0 c):∃ k ∈ c.rows,k.row=r∧k.state=1:=by
 obtain⟨k,h1,h2⟩:=List.mem_map.1 h
 obtain⟨h3,h4⟩:=List.mem_filter.1 h1
 exact⟨k,h3,h2,of_decide_eq_true h4⟩
theorem Ytn{c:CSt}{t:Int}{l:List CRow}(i:CInv c t)(pm:l.Perm (Qu0 c))(sd:Qqr l):PRows c l:=by
 have e1:=pm.length_eq
 have e2:=i.many
 have e3:=i.most
 refine⟨by rw[Ywe pm,i.held],by omega,by omega,?_,fun r hr => ?_⟩
 ·have nd:(l.map (·.id)).Nodup:=(pm.map _).nodup_iff.2 (Yip i)
  have nd':=List.pairwise_map.1 nd
  exact sd.imp₂ (fun a b h1 h2=>by omega) nd'
 ·obtain⟨k,h1,rfl, -⟩:=X1k (pm.mem_iff.1 hr)
  obtain⟨-, -, -,h4,h5, -⟩:=i.rows k h1
  exact⟨h4,h5⟩
theorem Q84:∀ (l:List CRow),(∀ r ∈ l,1≤r.am∧r.am≤Qg6)→0≤Q60 l∧Q60 l≤l.length*Qg6
 | [],_=>by simp[Q60]
 | r::l,h=>by
  obtain⟨h1,h2⟩:=Q84 l fun q hq=>h q (by simp[hq])
  obtain⟨h3,h4⟩:=h r (by simp)
  simp only[Q60,List.map_cons,List.sum_cons,List.length_cons,Qg6]at *
  omega
theorem Yqx{l:List CRow}{k:Nat}{r:CRow}(h:l[k]? = some r):Q60 (l.take (k+1))=Q60 (l.take k)+r.am:=by
 rw[List.take_succ,h]
 simp[Q60,List.sum_append]
end Go.Proofs.YtcokebbiblnonaaDoor
end
noncomputable section
namespace Go.Proofs.YtcokebbiblnonaaDoor
open Go Go.Ab
set_option maxRecDepth 100000
theorem i64_in{n:Int}(h:(Lit.int .i64 n).wf=true) : -9223372036854775808≤n∧n≤9223372036854775807:=by
 simp[Lit.wf,IntKind.min,IntKind.max,IntKind.signed,IntKind.bits]at h
 exact h
end Go.Proofs.YtcokebbiblnonaaDoor
end
