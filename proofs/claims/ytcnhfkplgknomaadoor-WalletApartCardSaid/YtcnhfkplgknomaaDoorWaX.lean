import Derived.Test.YtcnhfkplgknomaaDoorWaL
import Derived.Test.YtcnhfkplgknomaaDoorBlA
import Derived.Test.YtcnhfkplgknomaaDoorAbH
set_option linter.all false
noncomputable section
namespace Go.Proofs.YtcnhfkplgknomaaDoor
open Go Go.Ab
set_option maxRecDepth 100000
theorem Yr3(b n:Nat)(hn:n<=1000)(h:Heap):Qfm (E b).toEnv 39 (.int .i64 (n:Int)) (.int .i64 (n:Int)) h=some (.slice (some ⟨h.next,0,none⟩) n n,h.push (.cells true 1 (List.replicate n (.bool false)))):=by
 simp only[Qfm,Ywa,(T39 b).d,Yxy]
 rw[if_pos ⟨by omega,by omega,by omega,by rw[Ypn];omega,by rw[X3o];omega⟩,Yv2]
 have : (Value.bool false).cells.toList=[.bool false]:=rfl
 rw[this,Q2n,Int.toNat_natCast]
theorem WalM.drop{h:Heap}{ω mb z clk:Nat}{ow cv:Value}{cs:List Cn}{l:List HE}(w:WalM h ω mb z clk ow cv cs l)(id:Int):WalM (h.set mb (some (.map ⟨Ql8 (Qtw id l)⟩ clk))) ω mb z clk ow cv cs (Qtw id l):=by
 have gm:=w.gm
 have lm:=Heap.get_lt gm
 have k:∀ c,c≠mb->(h.set mb (some (.map ⟨Ql8 (Qtw id l)⟩ clk))).get c=h.get c:=fun c hc=>by rw[Heap.get_set _ _ _ _ lm,if_neg (Ne.symm hc)]
 have sk:∀ {zz nn:Nat} {v:Value} {xs:List Value},Sl h zz v nn xs->Sl (h.set mb (some (.map ⟨Ql8 (Qtw id l)⟩ clk))) zz v nn xs:=fun {zz nn v xs} s=>s.keep fun c hb hc=>k c fun e=>by
  obtain⟨_,_,_,g⟩:=Xvc s hb
  rw[e,gm]at g
  cases g
 refine⟨?_,by rw[Heap.get_set _ _ _ _ lm,if_pos rfl],?_,fun x hx=>⟨sk (w.hs x ((Q3n id l).subset hx)).1,(w.hs x ((Q3n id l).subset hx)).2⟩,sk w.cn,w.lt⟩
 ·have gω:=w.gω
  rw[k ω fun e=>by rw[e,gm]at gω;cases gω]
  exact gω
 ·unfold Qtw
  cases Qhb id (Xbp l) 0 with
  | none=>exact w.B
  | some q =>
   have:=w.B.erase q.1
   have e:Ql8 (l.eraseIdx q.1)=(Ql8 l).eraseIdx q.1:=by simp[Ql8];exact(Xx8 _ l q.1).symm
   show Born (Ql8 (l.eraseIdx q.1)) clk
   rw[e]
   exact this
theorem Laid.setMap{h:Heap}(hl:Ab.LaidIn h laidAll){mb clk:Nat}{es:Array MapEntry}(gm:h.get mb=some (.map es clk))(x:Option Blk):Ab.LaidIn (h.set mb x) laidAll:=fun y hy=>by
 have g:=hl y hy
 rw[Heap.get_set _ _ _ _ (Heap.get_lt gm),if_neg fun e=>by rw[<- e,gm]at g;cases g]
 exact g
theorem Ycb(id:Int):∀ {l:List HE},(l.map (·.ie.key)).Nodup->∀ e ∈ Qtw id l,e.ie.key≠id
 | [],_,e,he=>by simp[Qtw,Xbp,Qhb]at he
 | x::l,nd,e,he=>by
  rw[List.map_cons,List.nodup_cons]at nd
  rw[Xj6]at he
  by_cases h:id=x.ie.key
  ·rw[if_pos h]at he
   exact fun q=>nd.1 (List.mem_map.2 ⟨e,he,by rw[q,h]⟩)
  ·rw[if_neg h]at he
   rcases List.mem_cons.1 he with q | q
   ·rw[q];exact fun r=>h r.symm
   ·exact Ycb id nd.2 e q
theorem X84(cs:List Cn):Xjr cs []=cs:=by simp[Xjr,X8g]
theorem Yfw{b:Nat}{te ts:TypeId}{re rs:TyRec}(T:SlTy (E b).toEnv te ts re rs)(hz:re.size=33){h:Heap}{v:Value}{l:List Pt}(s:Sl h 33 v l.length (Jy l)){i:Nat}{p:Pt}(hp:l[i]? = some p) :
  ∃ bk off,Zm (E b).toEnv ts v (.int .i64 (i:Int))=some (.pointer (some ⟨bk,off,none⟩))/\V2 h bk (off+32)=some (.int .i64 p.n):=by
 have hl:=(List.getElem?_eq_some_iff.1 hp).1
 obtain⟨bk,off,q1,q2,q3,q4⟩:=Xps T hz s (k:=.i64) (i:=(i:Int)) (by omega) (by omega)
 refine⟨bk,off,q2,?_⟩
 rw[q3 32 (by omega),Int.toNat_natCast,Xqb hp 32 (by omega),Pt.cells,List.getElem?_append_right (by simp[p.hd])]
 simp[p.hd]
def TK2(ω:Nat)(all:Int)(cs:List Cn)(mb z clk:Nat)(cv:Value)(k:Nat)(s:St):Prop:=∃ (t:Tr Value) (h:Heap) (i:Nat) (l:List HE),s=⟨⟨214,t⟩,[],h⟩/\t.get 6=some (.pointer (some ⟨ω,0,none⟩))/\t.get 7=some (.int .i64 all)/\t.get 21=some (.int .i64 (i:Int))/\i<=20/\k=20-i/\WalM h ω mb z clk (.int .i64 1) cv cs l/\(l.map (·.ie.key)).Nodup/\(∀ e ∈ l,(i:Int)<=e.ie.key/\e.ie.key < 20)/\Ab.LaidIn h laidAll
attribute [local simp] Xr Y4 Y2 Xv Yc Yp Jo Xu Xe Qeh Y3 Xn X5 Qei Qes Yy V3 J7 Qw Z6 Qez Xo Xa Xk Y6 Qey Xg Qp Qab Qbo Uy Xq X9 Xc Xl Xp W3 W2 Ud Xd Y1 Xh X7 X4 X2 X3 X1 Xm Xj Qq6 Xjs X8 Qex Ym X6 Qz Y7 kON kOC Y9 kNN kNP kRR kRP kEN kER Q4 Qu J5 Zh aop Qe nth Ab.g0 gv gs Q9 Q8 aev evs evO Qf Tr.get_put St.put Tm.put flat flatA Zg Qm Qh Ql Qn Qj Qk Qi Qq Qg Q5 Q6 kTN kTR kTX kTP kBN kBR kBX kBP kCS kCR kCE kAM Y8.putAll Qt Qd Q3 Q1 Qb Qa Qc Q0 Q2 Q7
section
attribute [local simp] Qs Qo
set_option maxHeartbeats 1000000 in
theorem Yl6(b:Nat){vs:List Int}{cs:List Cn}(c:CsOK vs cs){h:Heap}{ω mb z clk:Nat}{cv:Value}{l:List HE}(w:WalM h ω mb z clk (.int .i64 1) cv cs l)(kn:(l.map (·.ie.key)).Nodup)(kb:∀ e ∈ l,0<=e.ie.key/\e.ie.key < 20)(laid:Ab.LaidIn h laidAll){t:Tr Value}
  (t6:t.get 6=some (.pointer (some ⟨ω,0,none⟩))) (t7:t.get 7=some (.int .i64 (Ql7 cs))) (K:KP) (hk:∀ h',K (.ret (.bool true)) h') :
  Jr (E b) (Xmv Tryd.prog (E b).G) (D0 b) none Qmm ⟨⟨214,t⟩,[],h⟩ (X7k (E b) (DD b) Qax K):=by
 simp
 refine Qff (TK2 ω (Ql7 cs) cs mb z clk cv) 20 ⟨_,h,0,l,rfl,by simp[t6],by simp[t7],by simp,by omega,rfl,w,kn,by simpa using kb,laid⟩ ?_
 rintro k s' ⟨t,h1,i,l1,rfl,t6,t7,t21,hi,rfl,w1,kn1,kb1,la1⟩ -
 by_cases hlt:i < 20
 ·have hlt':(i:Int) < 20:=by omega
  have hw:=wS (i:=i) (by omega)
  simp[t6,t7,t21,hlt,hlt']
  refine(Xqi b w1.gω w1.gm (i:Int) _ ?_).ok
  simp[t6,t7,t21,hw]
  refine⟨20-(i+1),by omega,_,_,i+1,Qtw (i:Int) l1,rfl,by simp[t6],by simp[t7],by simp,by omega,rfl,w1.drop (i:Int),kn1.sublist ((Q3n _ l1).map _),fun e he => ?_,Laid.setMap la1 w1.gm _⟩
  have h1:=kb1 e ((Q3n _ l1).subset he)
  have h2:=Ycb (i:Int) kn1 e he
  omega
 ·have hlt':¬ (i:Int) < 20:=by omega
  have : i=20:=by omega
  subst this
  have l0:l1=[]:=List.eq_nil_iff_forall_not_mem.2 fun e he=>by have:=kb1 e he;omega
  subst l0
  have hv:∀ x ∈ cs,0<=x.value/\x.value<=2 ^ 40:=fun x hx=>by have:=c.bound hx;omega
  simp[t6,t7,t21]
  refine X5h b w1 hv _ fun h2 a2 => ?_
  rw[X84]
  simp[t6,t7,t21]
  refine(Yuz b (Laid.old la1 a2)).mono ?_
  rintro r h3 ⟨rfl,rfl⟩
  simp[t6,t7,t21]
  exact hk _
end
def TK1(ω:Nat)(all:Int)(l:List HE)(sb n:Nat)(h0:Heap)(k:Nat)(s:St):Prop:=∃ (t:Tr Value) (h:Heap) (i:Nat),s=⟨⟨214,t⟩,[],h⟩/\t.get 6=some (.pointer (some ⟨ω,0,none⟩))/\t.get 7=some (.int .i64 all)/\t.get 17=some (.slice (some ⟨sb,0,none⟩) n n)/\t.get 18=some (.int .i64 (i:Int))/\i<=20/\k=20-i/\Old h0 h/\h.get sb=some (.cells true 1 (Xpw (Xz2 l i) n))
def TK0(ω:Nat)(all:Int)(l:List HE)(sb n i:Nat)(lv:Value)(h0:Heap)(k:Nat)(s:St):Prop:=∃ (t:Tr Value) (h:Heap) (j:Nat),s=⟨⟨214,t⟩,[],h⟩/\t.get 6=some (.pointer (some ⟨ω,0,none⟩))/\t.get 7=some (.int .i64 all)/\t.get 17=some (.slice (some ⟨sb,0,none⟩) n n)/\t.get 18=some (.int .i64 (i:Int))/\t.get 19=some lv/\t.get 20=some (.int .i64 (j:Int))/\j<=(Qe5 (i:Int) l).length/\k=(Qe5 (i:Int) l).length-j/\Old h0 h/\h.get sb=some (.cells true 1 (Xpw (Xz2 l i++(Qe5 (i:Int) l).take j) n))/\Own h (sb+1) 33 lv (Qe5 (i:Int) l).length (Jy (Qe5 (i:Int) l))
section
attribute [local simp] Qo
set_option maxHeartbeats 1000000 in
theorem Yix(b:Nat){vs:List Int}{cs:List Cn}(c:CsOK vs cs)(hn:vs.length<=12){h:Heap}{ω mb z clk:Nat}{cv v5:Value}{l:List HE}(w:WalM h ω mb z clk (.int .i64 1) cv cs l)(kn:(l.map (·.ie.key)).Nodup)(kb:∀ e ∈ l,0<=e.ie.key/\e.ie.key < 20)(pnd:(Qaa l).Nodup)(ps:∀ p ∈ Qaa l,p ∈ cs.map (·.pt))(laid:Ab.LaidIn h laidAll){t:Tr Value}
  (t5:t.get 5=some v5) (s5:X2z h v5 vs) (t6:t.get 6=some (.pointer (some ⟨ω,0,none⟩))) (t7:t.get 7=some (.int .i64 (Ql7 cs))) (K:KP) (hk:∀ h',K (.ret (.bool true)) h') :
  Jr (E b) (Xmv Tryd.prog (E b).G) (D0 b) none Qgq ⟨⟨214,t⟩,[],h⟩ (X7k (E b) (DD b) Qax K):=by
 have len:∀ hx,Q43 (E b).toEnv 22 v5 hx=some (.int .i64 (vs.length:Int)):=fun hx=>Qhl (T22 b) s5
 obtain⟨n,hnn⟩:∃ n,n=vs.length:=⟨_,rfl⟩
 rw[<- hnn]at len hn
 obtain⟨hA,eA⟩:∃ hA,hA=h.push (.cells true 1 (List.replicate n (.bool false))):=⟨_,rfl⟩
 have mk:=Yr3 b n (by omega) h
 rw[<- eA]at mk
 have aA:=Q33 eA
 have gA:hA.get h.next=some (.cells true 1 (Xpw [] n)):=by rw[eA,Heap.get_push,if_pos rfl,Ymw]
 simp[Qs,-Qs,t5,len,mk]
 refine Qff (TK1 ω (Ql7 cs) l h.next n h) 20 ⟨_,hA,0,rfl,by simp[t6],by simp[t7],by simp,by simp,by omega,rfl,aA,gA⟩ ?_
 rintro k s' ⟨t,h1,i,rfl,t6,t7,t17,t18,hi,rfl,a1,g1⟩ -
 by_cases hlt:i < 20
 ·have hlt':(i:Int) < 20:=by omega
  have hw:=wS (i:=i) (by omega)
  simp[Qs,-Qs,t6,t7,t17,t18,hlt,hlt']
  have w1:=w.old a1
  refine(Ylm b w1 (i:Int) _ fun lv h2 pts hp o2 a2 => ?_).ok
  obtain rfl:pts=Qe5 (i:Int) l:=hp
  have lsb:=Heap.get_lt g1
  simp[Qs,-Qs,t6,t7,t17,t18]
  refine Qff (TK0 ω (Ql7 cs) l h.next n i lv h) (Qe5 (i:Int) l).length ⟨_,h2,0,rfl,by simp[t6],by simp[t7],by simp[t17],by simp[t18],by simp,by simp,by omega,rfl,a1.trans a2,by rw[List.take_zero,List.append_nil];exact a2.get g1,o2.low lsb⟩ ?_
  rintro k s' ⟨t,h3,j,rfl,t6,t7,t17,t18,t19,t20,hj,rfl,a3,g3,o3⟩ -
  have len3:∀ hx,Q43 (E b).toEnv 29 lv hx=some (.int .i64 ((Qe5 (i:Int) l).length:Int)):=fun hx=>Qhl (T29 b) o3.sl
  have hpl:(Qe5 (i:Int) l).length < 1000000:=by
   unfold Qe5 Xd6
   cases hf:Qhb (i:Int) (Xbp l) 0 with
   | none=>simp
   | some q =>
    obtain⟨x,hx, -, -⟩:=X54 hf
    simp[hx]
    exact(w.hs x (List.mem_of_getElem? hx)).2
  by_cases hjl:j < (Qe5 (i:Int) l).length
  ·have hjl':(j:Int) < ((Qe5 (i:Int) l).length:Int):=by omega
   have hwj:=wS (i:=j) (by omega)
   obtain⟨p,hp⟩:∃ p,(Qe5 (i:Int) l)[j]? = some p:=⟨_,List.getElem?_eq_getElem hjl⟩
   obtain⟨bk,off,x1,x2⟩:=Yfw (b:=b) (T29 b) Qcc o3.sl hp
   have hpm:=List.mem_of_getElem? hp
   obtain⟨y,hy,ey⟩:=List.mem_map.1 (ps p (Xnn hpm))
   obtain⟨m,em,hm⟩:=c.at' y hy
   obtain rfl:p=pn m:=by rw[<- ey,em]
   have hmn:m < n:=by rw[hnn];exact(List.getElem?_eq_some_iff.1 hm).1
   have en:(pn m).n=(m:Int):=rfl
   rw[en]at x2
   have ia:Zm (E b).toEnv 39 (.slice (some ⟨h.next,0,none⟩) n n) (.int .i64 (m:Int))=some (.pointer (some ⟨h.next,m,none⟩)):=by
    rw[Qn9 (T39 b) X3o ⟨by omega,by omega⟩]
    simp
   have nin:pn m ∉ Xz2 l i++(Qe5 (i:Int) l).take j:=by
    have nd:=Ygm kn pnd (i+1)
    rw[Xyv]at nd
    have e:Qe5 (i:Int) l=(Qe5 (i:Int) l).take j++(pn m::(Qe5 (i:Int) l).drop (j+1)):=by
     have:=List.take_append_drop j (Qe5 (i:Int) l)
     rw[List.drop_eq_getElem_cons hjl]at this
     rw[List.getElem?_eq_getElem hjl]at hp
     rw[Option.some.inj hp]at this
     exact this.symm
    rw[e,<- List.append_assoc]at nd
    exact fun q=>(List.nodup_append.1 nd).2.2 _ q _ (by simp) rfl
   have cl:V2 h3 h.next m=some (.bool false):=by rw[Jb g3,X5n hmn];simp only[nin,decide_false]
   obtain⟨h4,e4⟩:∃ h4,h4=h3.set h.next (some (.cells true 1 ((Xpw (Xz2 l i++(Qe5 (i:Int) l).take j) n).set m (.bool true)))):=⟨_,rfl⟩
   have st:Qbh h3 h.next m [.bool true]=some h4:=by rw[e4];exact Qp0 g3 (by rw[Xox];exact hmn)
   have l3:=Heap.get_lt g3
   have g4:h4.get h.next=some (.cells true 1 (Xpw (Xz2 l i++(Qe5 (i:Int) l).take (j+1)) n)):=by
    rw[e4,Heap.get_set _ _ _ _ l3,if_pos rfl,Ynh hmn,List.take_succ,hp,List.append_assoc];rfl
   simp[Qs,-Qs,t6,t7,t17,t18,t19,t20,len3,hjl,hjl',x1,x2,ia,cl,st,hwj]
   refine⟨(Qe5 (i:Int) l).length-(j+1),by omega,_,h4,j+1,rfl,by simp[t6],by simp[t7],by simp[t17],by simp[t18],by simp[t19],by simp,by omega,rfl,?_,g4,o3.keep fun d hd _ => ?_⟩
   ·rw[e4];exact a3.set _ (Nat.le_refl _) l3
   ·rw[e4,Heap.get_set _ _ _ _ l3,if_neg fun e=>by have:=(o3.from hd).1;omega]
  ·have hjl':¬ (j:Int) < ((Qe5 (i:Int) l).length:Int):=by omega
   have : j=(Qe5 (i:Int) l).length:=by omega
   subst this
   rw[List.take_length,<- Xyv]at g3
   simp[Qs,-Qs,t6,t7,t17,t18,t19,t20,len3,hw]
   exact⟨20-(i+1),by omega,_,h3,i+1,rfl,by simp[t6],by simp[t7],by simp[t17],by simp,by omega,rfl,a3,g3⟩
 ·have hlt':¬ (i:Int) < 20:=by omega
  simp[Qs,-Qs,t6,t7,t17,t18,hlt,hlt']
  exact Yl6 b c (w.old a1) kn kb (Laid.old laid a1) (by simp[t6]) (by simp[t7]) K hk
end
theorem Ynv(b:Nat)(h:Heap):Qfm (E b).toEnv 22 (.int .i64 20) (.int .i64 20) h=some (.slice (some ⟨h.next,0,none⟩) 20 20,h.push (.cells true 1 ((List.replicate 20 (0:Int)).map (Value.int .i64)))):=by
 simp only[Qfm,Ywi,(T22 b).d,Yp1]
 rw[if_pos ⟨by omega,by omega,by omega,by rw[Yhx];omega,by rw[Xiw];omega⟩,Yu1]
 have : (Value.int .i64 0).cells.toList=[.int .i64 0]:=rfl
 rw[this,Q2n,List.map_replicate]
 rfl
theorem Ykk{vs:List Int}{cs:List Cn}{l:List HE}(c:CsOK vs cs){l1:List Cn}(p1:l1.Perm (Xjr cs l)){o:List Cn}{amount:Int}(ho:o=tkF amount (l1.take 3) [])(hge:¬ Ql7 o < amount)(ha:1<=amount) :
  o.length<=3/\(o.map (·.pt)).Nodup/\(∀ x ∈ o,x ∈ cs/\x.pt ∉ Qaa l)/\∃ m x,o=m ++ [x]/\Ql7 m < amount:=by
 obtain⟨m,r,h1,h2⟩:=Ylp (amount:=amount) (l:=l1.take 3) (o0:=[])
 rw[List.nil_append,<- ho]at h1
 subst h1
 have sub:o.Sublist l1:=by
  have : (l1.take 3).Sublist l1:=List.take_sublist 3 l1
  rw[h2]at this
  exact(List.sublist_append_left o r).trans this
 have nd1:(l1.map (·.pt)).Nodup:=(p1.map (·.pt)).symm.nodup (c.nd.sublist (List.Sublist.map _ List.filter_sublist))
 refine⟨?_,nd1.sublist (sub.map _),fun x hx => ?_,?_⟩
 ·have:=congrArg List.length h2
  rw[List.length_take,List.length_append]at this
  omega
 ·have hf:=p1.mem_iff.1 (sub.subset hx)
  obtain⟨q1,q2⟩:=List.mem_filter.1 hf
  refine⟨q1,fun q => ?_⟩
  rw[Xys.2 q]at q2
  cases q2
 ·rcases List.eq_nil_or_concat o with e | ⟨m,x,e⟩
  ·subst e
   simp[Ql7]at hge
   omega
  ·rw[List.concat_eq_append]at e
   exact⟨m,x,e,Yhk (l:=l1.take 3) (o0:=[]) (fun m x e=>by simp at e) m x (by rw[<- ho,e])⟩
structure AS (ω mb z wb:Nat) (cv v5 av:Value) (ys vs:List Int) (cs:List Cn) (h0 h:Heap) (t:Tr Value) (i:Nat) (l:List HE) (worth:List Int) (left:Int) (clk:Nat):Prop where
 t1:t.get 1=some av
 t5:t.get 5=some v5
 t6:t.get 6=some (.pointer (some ⟨ω,0,none⟩))
 t7:t.get 7=some (.int .i64 (Ql7 cs))
 t8:t.get 8=some (.int .i64 left)
 t9:t.get 9=some (.slice (some ⟨wb,0,none⟩) 20 20)
 t10:t.get 10=some (.int .i64 (i:Int))
 w:WalM h ω mb z clk (.int .i64 1) cv cs l
 nw:∀ x ∈ l,Un x.ie.val≠some wb
 ol:Old h0 h
 gw:h.get wb=some (.cells true 1 (worth.map (Value.int .i64)))
 st:WSt vs cs i l worth left
def AI(ω mb z wb:Nat)(cv v5 av:Value)(ys vs:List Int)(cs:List Cn)(h0:Heap)(k:Nat)(s:St):Prop:=∃ (t:Tr Value) (h:Heap) (i:Nat) (l:List HE) (worth:List Int) (left:Int) (clk:Nat),s=⟨⟨214,t⟩,[],h⟩/\i<=20/\k=20-i/\AS ω mb z wb cv v5 av ys vs cs h0 h t i l worth left clk
structure SU (ω wb:Nat) (av v5 v':Value) (i:Nat) (all left nI total:Int) (t:Tr Value):Prop where
 t1:t.get 1=some av
 t5:t.get 5=some v5
 t6:t.get 6=some (.pointer (some ⟨ω,0,none⟩))
 t7:t.get 7=some (.int .i64 all)
 t8:t.get 8=some (.int .i64 left)
 t9:t.get 9=some (.slice (some ⟨wb,0,none⟩) 20 20)
 t10:t.get 10=some (.int .i64 (i:Int))
 t11:t.get 11=some (.int .i64 nI)
 t12:t.get 12=some v'
 t13:t.get 13=some (.int .i64 total)
def SUI(ω wb:Nat)(av v5 v':Value)(i:Nat)(all left nI total:Int)(vs:List Int)(pts:List Pt)(h:Heap)(k:Nat)(s:St):Prop:=∃ (t:Tr Value) (j:Nat),s=⟨⟨214,t⟩,[],h⟩/\j<=pts.length/\k=pts.length-j/\SU ω wb av v5 v' i all left nI total t/\t.get 15=some (.int .i64 (Xlj vs (pts.take j)))/\t.get 16=some (.int .i64 (j:Int))
theorem Yys(b:Nat)(x y:Bool):X2h (E b).toEnv .neq 4 (.bool x) (.bool y)=some (.bool (x != y)):=by cases x <;> cases y <;> kernel_rfl
theorem Y08(b wb:Nat){i:Nat}(hi:i < 20):Zm (E b).toEnv 22 (.slice (some ⟨wb,0,none⟩) 20 20) (.int .i64 (i:Int))=some (.pointer (some ⟨wb,i,none⟩)):=by
 rw[Qn9 (T22 b) Xiw ⟨by omega,by omega⟩]
 simp
theorem Yli{vs:List Int}{pts:List Pt}{j m:Nat}(hp:pts[j]? = some (pn m)){x:Int}(hx:vs[m]? = some x):Xlj vs (pts.take (j+1))=Xlj vs (pts.take j)+x:=by
 rw[List.take_succ,hp,X48]
 simp[Xlj,pn,hx]
theorem WalM.setRow{h:Heap}{ω mb z clk wb:Nat}{ow cv:Value}{cs:List Cn}{l:List HE}(w:WalM h ω mb z clk ow cv cs l){xs:List Int}(hx:xs.length=20)(gw:h.get wb=some (.cells true 1 (xs.map (Value.int .i64))))(hc:Un cv≠some wb)(hl:∀ x ∈ l,Un x.ie.val≠some wb)(x:Option Blk):WalM (h.set wb x) ω mb z clk ow cv cs l:=by
 have lw:=Heap.get_lt gw
 have k:∀ c,c≠wb->(h.set wb x).get c=h.get c:=fun c hc=>by rw[Heap.get_set _ _ _ _ lw,if_neg (Ne.symm hc)]
 have sk:∀ {zz nn:Nat} {v:Value} {xs:List Value},Sl h zz v nn xs->Un v≠some wb->Sl (h.set wb x) zz v nn xs:=fun {zz nn v xs} s hne=>s.keep fun c hb hc=>k c fun e=>hne (by rw[hb,e])
 refine⟨?_,?_,w.B,fun y hy=>⟨sk (w.hs y hy).1 (hl y hy),(w.hs y hy).2⟩,sk w.cn hc,w.lt⟩
 ·rw[k ω fun e => ?_]
  ·exact w.gω
  ·have:=w.gω
   rw[e,gw]at this
   have e2:=congrArg List.length (Blk.cells.inj (Option.some.inj this)).2.2
   simp[hx]at e2
 ·rw[k mb fun e => ?_]
  ·exact w.gm
  ·have:=w.gm
   rw[e,gw]at this
   cases this
section
attribute [local simp] Qs
set_option maxHeartbeats 4000000 in
theorem Ypo(b:Nat){h00:Heap}{cvv av:Value}{xs ys:List Int}(sx:X2z h00 cvv xs)(sy:X2z h00 av ys)(laid:Ab.LaidIn h00 laidAll)(K:KP)(hk:∀ h',K (.ret (.bool true)) h'):CallOK Tryd.prog (E b).G 3 [cvv,av] h00 K:=by
 refine Qn0 (E b) (Vl _ _) (Qcb b) (Vk b) Qa5 (Qd8 b) (Y2 b) Xdo Xlz Xki rfl ?_
 simp[Qo,-Qo]
 refine(Yob b sx _ fun v5 h0 o5 a0 => ?_).ok
 simp[Qo,-Qo]
 have la0:=Laid.old laid a0
 obtain⟨vs,hvs⟩:∃ vs,vs=Ycn xs:=⟨_,rfl⟩
 rw[<- hvs]at o5
 have hn:vs.length<=12:=by rw[hvs,Ygf];omega
 refine Yyy b la0 o5.sl hn (by rw[hvs];exact Yra xs) _ fun ω mb z cv cs h1 w1 c lcs a1 hω hmb => ?_
 simp[Qo,-Qo,Yrz]
 have hv:∀ x ∈ cs,0<=x.value/\x.value<=2 ^ 40:=fun x hx=>by have:=c.bound hx;omega
 refine X5h b w1 hv _ fun h2 a2 => ?_
 rw[X84]
 obtain⟨h3,e3⟩:∃ h3,h3=h2.push (.cells true 1 ((List.replicate 20 (0:Int)).map (Value.int .i64))):=⟨_,rfl⟩
 have mk:=Ynv b h2
 rw[<- e3]at mk
 have a3:=Q33 e3
 obtain⟨wb,hwb⟩:∃ wb,wb=h2.next:=⟨_,rfl⟩
 rw[<- hwb]at mk
 have g3:h3.get wb=some (.cells true 1 ((List.replicate 20 (0:Int)).map (Value.int .i64))):=by rw[hwb,e3,Heap.get_push,if_pos rfl]
 have w2:=w1.old a2
 have hcv:Un cv≠some wb:=fun e=>by
  obtain⟨_,_,_,g⟩:=Xvc w2.cn e
  have:=Heap.get_lt g
  omega
 have b02:=a1.trans a2
 have hwb0:h0.next<=wb:=by rw[hwb];exact b02.1
 simp[Qo,-Qo,mk]
 have lenY:∀ hx,Q43 (E b).toEnv 22 av hx=some (.int .i64 (ys.length:Int)):=fun hx=>Qhl (T22 b) sy
 have st0:WSt vs cs 0 [] (List.replicate 20 0) (Ql7 cs):=⟨by simp,by simp,by simp[Qaa],by simp[Qaa],by simp,by simp,fun j hj=>by rw[List.getElem?_replicate,if_pos hj];simp[Qe5,Xd6,Xbp,Qhb,Xlj],by simp[Qaa,Xlj]⟩
 refine Qff (AI ω mb z wb cv v5 av ys vs cs h0) 20 ⟨_,h3,0,[],List.replicate 20 0,Ql7 cs,0,rfl,by omega,rfl,by simp,by simp,by simp,by simp,by simp,by simp,by simp,w2.old a3,by simp,b02.trans a3,g3,st0⟩ ?_
 rintro k s' ⟨t,h,i,l,worth,left,clk,rfl,hi,rfl,A⟩ -
 obtain⟨t1,t5,t6,t7,t8,t9,t10,w,nw,ol,gw,st⟩:=A
 have fin:∀ t':Tr Value,t'.get 5=some v5->t'.get 6=some (.pointer (some ⟨ω,0,none⟩))->t'.get 7=some (.int .i64 (Ql7 cs))->Jr (E b) (Xmv Tryd.prog (E b).G) (D0 b) none Qgq ⟨⟨214,t'⟩,[],h⟩ (X7k (E b) (DD b) Qax K):=fun t' p5 p6 p7 =>
  Yix b c hn w st.kn (fun e he=>by have:=st.kb e he;omega) st.pn st.ps (Laid.old la0 ol) p5 (o5.sl.old ol) p6 p7 K hk
 by_cases hlt:i < ys.length
 ·have hlt':(i:Int) < (ys.length:Int):=by omega
  by_cases h20:i < 20
  ·have h20':(i:Int) < 20:=by omega
   have hw:=wS (i:=i) (by omega)
   obtain⟨y,hy⟩:∃ y,ys[i]? = some y:=⟨_,List.getElem?_eq_getElem hlt⟩
   obtain⟨bk,off, -,x1,x2⟩:=Xot (b:=b) (sy.old (a0.trans ol)) hy
   have hp:=Xtl y (n:=3000) (by omega)
   simp[Qo,-Qo,lenY,t1,t10,hlt,hlt',h20,h20',x1,x2]
   refine(Ygq b y (by omega) (by omega) (Yri y) h _ ?_).ok
   obtain⟨nI,hnI⟩:∃ nI,nI=Xp6 y 3000:=⟨_,rfl⟩
   rw[<- hnI]at hp ⊢
   have om:∀ x,Old h0 (h.set mb x):=fun x=>ol.set x (Nat.le_trans (by omega) hmb) (Heap.get_lt w.gm)
   have gm5:∀ x,(h.set mb x).get wb=some (.cells true 1 (worth.map (Value.int .i64))):=fun x=>by
    rw[Heap.get_set _ _ _ _ (Heap.get_lt w.gm),if_neg fun e=>by have:=w.gm;rw[e,gw]at this;cases this]
    exact gw
   by_cases hz:nI=0
   ·by_cases hi0:i=0
    ·skip
     subst hi0
     have hwm:IntKind.i64.wrap (-1) = -1:=by decide
     have hno:∀ e ∈ l,e.ie.key ≠ -1:=fun e he=>by have:=st.kb e he;omega
     simp[Qo,-Qo,t1,t5,t6,t7,t8,t9,t10,hz,hwm]
     refine(Xqi b w.gω w.gm (-1) _ ?_).ok
     have w5:=w.drop (-1)
     rw[Q5c hno]
     rw[Yi9 hno]at w5 ⊢
     simp[Qo,-Qo,t1,t5,t6,t7,t8,t9,t10,Yys,hw]
     exact⟨19,by omega,_,_,1,l,worth,left,clk,rfl,by omega,rfl,by simp[t1],by simp[t5],by simp[t6],by simp[t7],by simp[t8],by simp[t9],by simp[show IntKind.i64.wrap 1=1 from by decide],w5,nw,om _,gm5 _,st.next⟩
    ·skip
     obtain⟨j,hj⟩:∃ j,i=j+1:=⟨i-1,by omega⟩
     have hwm:IntKind.i64.wrap ((i:Int)-1)=(j:Int):=by rw[Wp (by omega) (by omega)];omega
     simp[Qo,-Qo,t1,t5,t6,t7,t8,t9,t10,hz,hwm]
     refine(Xqi b w.gω w.gm (j:Int) _ ?_).ok
     have w5:=w.drop (j:Int)
     rw[st.present c]
     obtain⟨h5,e5⟩:∃ h5,h5=h.set mb (some (.map ⟨Ql8 (Qtw (j:Int) l)⟩ clk)):=⟨_,rfl⟩
     have g5:=gm5 (some (.map ⟨Ql8 (Qtw (j:Int) l)⟩ clk))
     have o5:=om (some (.map ⟨Ql8 (Qtw (j:Int) l)⟩ clk))
     rw[<- e5]at w5 g5 o5 ⊢
     obtain⟨S,hS⟩:∃ S,S=Xlj vs (Qe5 (j:Int) l):=⟨_,rfl⟩
     have wj:=st.w j (by omega)
     have sd:=(st.drop j (by omega)).next
     have fd:=sd.free c
     rw[<- hS]at wj sd fd ⊢
     have c5:V2 h5 wb j=some (.int .i64 S):=by rw[Jb g5,List.getElem?_map,wj];rfl
     have ij:=Y08 b wb (i:=j) (by omega)
     have hi0':0 < (i:Int):=by omega
     have hi0n:0 < i:=by omega
     have hwS:IntKind.i64.wrap (left+S)=left+S:=by
      have h1:=Xra (l:=Xjr cs (Qtw (j:Int) l)) fun x hx=>hv x (List.mem_filter.1 hx).1
      have h2:(Xjr cs (Qtw (j:Int) l)).length<=cs.length:=List.length_filter_le _ _
      exact Wp (by omega) (by omega)
     obtain⟨h6,e6⟩:∃ h6,h6=h5.set wb (some (.cells true 1 ((worth.map (Value.int .i64)).set j (.int .i64 0)))):=⟨_,rfl⟩
     have st6:Qbh h5 wb j [.int .i64 0]=some h6:=by rw[e6];exact Qp0 g5 (by rw[List.length_map,st.wl];omega)
     have l5:=Heap.get_lt g5
     have nw5:∀ x ∈ Qtw (j:Int) l,Un x.ie.val≠some wb:=fun x hx=>nw x ((Q3n _ l).subset hx)
     have w6:=w5.setRow st.wl g5 hcv nw5 (some (.cells true 1 ((worth.map (Value.int .i64)).set j (.int .i64 0))))
     have g6:h6.get wb=some (.cells true 1 ((worth.set j 0).map (Value.int .i64))):=by rw[e6,Heap.get_set _ _ _ _ l5,if_pos rfl,List.map_set]
     have o6:Old h0 h6:=by rw[e6];exact o5.set _ hwb0 l5
     rw[<- e6]at w6
     by_cases hs:0 < S
     ·simp[Qo,-Qo,t1,t5,t6,t7,t8,t9,t10,Yys,hwm,ij,c5,hs,hi0,hi0',hi0n,hwS,st6,hw]
      exact⟨20-(i+1),by omega,_,h6,i+1,_,_,_,clk,rfl,by omega,rfl,by simp[t1],by simp[t5],by simp[t6],by simp[t7],by simp,by simp[t9],by simp,w6,nw5,o6,g6,sd⟩
     ·simp[Qo,-Qo,t1,t5,t6,t7,t8,t9,t10,Yys,hwm,ij,c5,hs,hi0,hi0',hi0n,hwS,st6,hw]
      exact⟨20-(i+1),by omega,_,h6,i+1,_,_,_,clk,rfl,by omega,rfl,by simp[t1],by simp[t5],by simp[t6],by simp[t7],by simp,by simp[t9],by simp,w6,nw5,o6,g6,sd⟩
   ·have hcl:cs.length < 20:=by omega
    have hno:Qhb (i:Int) (Xbp l) 0=none:=Q5c fun e he=>by have:=st.kb e he;omega
    simp[Qo,-Qo,t1,t5,t6,t7,t8,t9,t10,hz]
    refine Yje b w hv hcl hno ⟨by omega,by omega⟩ _ fun l1 p1 o ho=>⟨fun hlo h4 a4 => ?_,fun hge v' vc h4 hvc w4 o4 n4 k4 => ?_⟩
    ·simp[Qo,-Qo,t1,t5,t6,t7,t8,t9,t10]
     refine X5h b (w.old a4) hv _ fun h5 a5 => ?_
     rw[st.free c]
     simp[Qo,-Qo,t1,t5,t6,t7,t8,t9,t10,hw]
     have a45:=a4.trans a5
     exact⟨20-(i+1),by omega,_,h5,i+1,l,worth,left,clk,rfl,by omega,rfl,by simp[t1],by simp[t5],by simp[t6],by simp[t7],by simp[t8],by simp[t9],by simp,w.old a45,nw,ol.trans a45,a45.get gw,st.next⟩
    ·simp[Qo,-Qo,t1,t5,t6,t7,t8,t9,t10]
     obtain⟨q1,q2,q3,m,x,q4,q5⟩:=Ykk c p1 ho hge (by omega)
     obtain⟨pts,hpts⟩:∃ pts,pts=o.map (·.pt):=⟨_,rfl⟩
     rw[<- hpts]at w4 o4
     have so:Xlj vs pts=Ql7 o:=by rw[hpts];exact c.sum fun x hx=>(q3 x hx).1
     have lp:pts.length=o.length:=by rw[hpts,List.length_map]
     have len4:∀ hx,Q43 (E b).toEnv 29 v' hx=some (.int .i64 (pts.length:Int)):=fun hx=>Qhl (T29 b) o4.sl
     have s5:X2z h4 v5 vs:=(o5.sl.old ol).keep fun c hc hl=>k4 c hl fun e=>by have:=(o5.from hc).2;omega
     have pin:∀ p ∈ pts,p ∈ cs.map (·.pt):=fun p hp=>by
      rw[hpts]at hp
      obtain⟨x,hx,rfl⟩:=List.mem_map.1 hp
      exact List.mem_map.2 ⟨x,(q3 x hx).1,rfl⟩
     refine Qff (SUI ω wb av v5 v' i (Ql7 cs) left nI (Ql7 o) vs pts h4) pts.length ⟨_,0,rfl,by omega,rfl,⟨by simp[t1],by simp[t5],by simp[t6],by simp[t7],by simp[t8],by simp[t9],by simp[t10],by simp,by simp,by simp⟩,by simp[Xlj],by simp⟩ ?_
     rintro k s' ⟨t,j,rfl,hj,rfl,⟨t1,t5,t6,t7,t8,t9,t10,t11,t12,t13⟩,t15,t16⟩ -
     by_cases hjl:j < pts.length
     ·have hjl':(j:Int) < (pts.length:Int):=by omega
      have hwj:=wS (i:=j) (by omega)
      obtain⟨p,hp⟩:∃ p,pts[j]? = some p:=⟨_,List.getElem?_eq_getElem hjl⟩
      obtain⟨b1,f1,y1,y2⟩:=Yfw (b:=b) (T29 b) Qcc o4.sl hp
      obtain⟨u,hu,eu⟩:=List.mem_map.1 (pin p (List.mem_of_getElem? hp))
      obtain⟨mm,em,hm⟩:=c.at' u hu
      obtain rfl:p=pn mm:=by rw[<- eu,em]
      obtain⟨b2,f2, -,z1,z2⟩:=Xot (b:=b) s5 hm
      have en:(pn mm).n=(mm:Int):=rfl
      rw[en]at y2
      have hsj:IntKind.i64.wrap (Xlj vs (pts.take j)+u.value)=Xlj vs (pts.take (j+1)):=by
       rw[<- Yli hp hm]
       have h1:=Yi2 c (ps:=pts.take (j+1)) fun q hq=>pin q (List.mem_of_mem_take hq)
       have h2:(pts.take (j+1)).length<=pts.length:=List.length_take_le' _ _
       exact Wp (by omega) (by omega)
      simp[Qo,-Qo,t1,t5,t6,t7,t8,t9,t10,t11,t12,t13,t15,t16,len4,hjl,hjl',y1,y2,z1,z2,hsj,hwj]
      exact⟨pts.length-(j+1),by omega,_,j+1,rfl,by omega,rfl,⟨by simp[t1],by simp[t5],by simp[t6],by simp[t7],by simp[t8],by simp[t9],by simp[t10],by simp[t11],by simp[t12],by simp[t13]⟩,by simp,by simp⟩
     ·have hjl':¬ (j:Int) < (pts.length:Int):=by omega
      have : j=pts.length:=by omega
      subst this
      rw[List.take_length,so]at t15
      obtain⟨LI,hLI⟩:∃ LI,LI=(pts.length:Int):=⟨_,rfl⟩
      rw[<- hLI]at t16 len4
      obtain⟨q,hq⟩:∃ q,q=m.length:=⟨_,rfl⟩
      have lo:o.length=q+1:=by rw[q4,hq];simp
      have L1:¬ LI < 1:=by omega
      have L3:¬ 3 < LI:=by omega
      have Lw:IntKind.i64.wrap (LI-1)=(q:Int):=by rw[Wp (by omega) (by omega)];omega
      have hp:pts[q]? = some x.pt:=by rw[hpts,q4,List.map_append,hq,List.getElem?_append_right (by simp)];simp
      obtain⟨b1,f1,y1,y2⟩:=Yfw (b:=b) (T29 b) Qcc o4.sl hp
      obtain⟨mm,em,hm⟩:=c.at' x (q3 x (by rw[q4];simp)).1
      obtain⟨b2,f2, -,z1,z2⟩:=Xot (b:=b) s5 hm
      have en:(pn mm).n=(mm:Int):=rfl
      rw[em,en]at y2
      have so2:Ql7 o=Ql7 m+x.value:=by rw[q4,X6r];simp[Ql7]
      have hvm:∀ y ∈ m,0<=y.value/\y.value<=2 ^ 40:=fun y hy=>hv y (q3 y (by rw[q4];simp[hy])).1
      have hvo:∀ y ∈ o,0<=y.value/\y.value<=2 ^ 40:=fun y hy=>hv y (q3 y hy).1
      have hm1:=Xra hvm
      have ho1:=Xra hvo
      have hw3:IntKind.i64.wrap (Ql7 o-x.value)=Ql7 m:=by rw[Wp (by omega) (by omega)];omega
      have hge3:¬ nI<=Ql7 m:=by omega
      simp[Qo,-Qo,t1,t5,t6,t7,t8,t9,t10,t11,t12,t13,t15,t16,len4,hge,L1,L3,Lw,y1,y2,z1,z2,hw3,hge3]
      refine(Ylm b w4 (i:Int) _ fun lv h6 pts' hp' o6 a6 => ?_).ok
      have pe:pts'=pts:=by
       have : pts'=Qe5 (i:Int) (l ++ [⟨⟨(i:Int),vc,clk⟩,pts⟩]):=hp'
       rw[this,Xy3 fun e he=>by have:=st.kb e he;show e.ie.key≠(i:Int);omega]
       exact if_pos rfl
      subst pe
      simp[Qo,-Qo,t1,t5,t6,t7,t8,t9,t10,t11,t12,t13]
      refine(Yia b o6.sl (o4.sl.old a6) (by omega) _ ?_).ok
      have sd:=st.more c h20 (o:=o) (by rw[q4];simp) q2 q3 vc clk
      rw[<- hpts]at sd
      have fd:=sd.free c
      have hwS:IntKind.i64.wrap (left-Ql7 o)=left-Ql7 o:=by
       have h1:=Xra (l:=Xjr cs (l ++ [⟨⟨(i:Int),vc,clk⟩,pts'⟩])) fun x hx=>hv x (List.mem_filter.1 hx).1
       have h2:(Xjr cs (l ++ [⟨⟨(i:Int),vc,clk⟩,pts'⟩])).length<=cs.length:=List.length_filter_le _ _
       exact Wp (by omega) (by omega)
      have nmw:wb≠mb:=fun e=>by have:=w.gm;rw[<- e,gw]at this;cases this
      have g4:h4.get wb=some (.cells true 1 (worth.map (Value.int .i64))):=by rw[k4 wb (Heap.get_lt gw) nmw];exact gw
      have g6:=a6.get g4
      obtain⟨h7,e7⟩:∃ h7,h7=h6.set wb (some (.cells true 1 ((worth.map (Value.int .i64)).set i (.int .i64 (Ql7 o))))):=⟨_,rfl⟩
      have st7:Qbh h6 wb i [.int .i64 (Ql7 o)]=some h7:=by rw[e7];exact Qp0 g6 (by rw[List.length_map,st.wl];omega)
      have l6:=Heap.get_lt g6
      have nw7:∀ x ∈ l ++ [(⟨⟨(i:Int),vc,clk⟩,pts'⟩:HE)],Un x.ie.val≠some wb:=fun x hx=>by
       rcases List.mem_append.1 hx with r | r
       ·exact nw x r
       ·rw[List.mem_singleton.1 r]
        exact fun e=>by have:=hvc wb e;have:=Heap.get_lt gw;omega
      have w7:=(w4.old a6).setRow st.wl g6 hcv nw7 (some (.cells true 1 ((worth.map (Value.int .i64)).set i (.int .i64 (Ql7 o)))))
      rw[<- e7]at w7
      have g7:h7.get wb=some (.cells true 1 ((worth.set i (Ql7 o)).map (Value.int .i64))):=by rw[e7,Heap.get_set _ _ _ _ l6,if_pos rfl,List.map_set]
      have o46:Old h0 h6:=⟨Nat.le_trans ol.1 (Nat.le_trans n4 a6.1),fun c hc=>by rw[a6.2 c (Nat.lt_of_lt_of_le hc (Nat.le_trans ol.1 n4)),k4 c (Nat.lt_of_lt_of_le hc ol.1) (by omega),ol.2 c hc]⟩
      have o7:Old h0 h7:=by rw[e7];exact o46.set _ hwb0 l6
      simp[Qo,-Qo,t1,t5,t6,t7,t8,t9,t10,t11,t12,t13,Y08 b wb h20,st7,hwS]
      refine X5h b w7 hv _ fun h8 a8 => ?_
      rw[fd]
      simp[Qo,-Qo,t1,t5,t6,t7,t8,t9,t10,t11,t12,t13,hw]
      exact⟨20-(i+1),by omega,_,h8,i+1,_,_,_,clk+1,rfl,by omega,rfl,by simp[t1],by simp[t5],by simp[t6],by simp[t7],by simp,by simp[t9],by simp,w7.old a8,nw7,o7.trans a8,a8.get g7,sd⟩
  ·have h20':¬ (i:Int) < 20:=by omega
   simp[Qo,-Qo,lenY,t1,t10,hlt,hlt',h20,h20']
   exact fin _ (by simp[t5]) (by simp[t6]) (by simp[t7])
 ·have hlt':¬ (i:Int) < (ys.length:Int):=by omega
  simp[Qo,-Qo,lenY,t1,t10,hlt,hlt']
  exact fin _ (by simp[t5]) (by simp[t6]) (by simp[t7])
end
end Go.Proofs.YtcnhfkplgknomaaDoor
end
noncomputable section
namespace Go.Proofs.YtcnhfkplgknomaaDoor
open Go Go.Ab
open Go.ChangeShapes Go.WideShapes Go.RowKit
set_option maxRecDepth 1000000
abbrev InQ:Heap->List Value->Prop:=SlQ 1 (fun _ cs=>IntsOf [.i64] cs)
theorem Ygs:∀ {rows:List (List Value)},(∀ r ∈ rows,IntsOf [.i64] r)->∃ xs:List Int,rows.flatten=xs.map (Value.int .i64)/\xs.length=rows.length
 | [],_=>⟨[],rfl,rfl⟩
 | r::rows,h=>by
  obtain⟨n,r',rfl,hw,hr'⟩:=h r (by simp)
  have : r'=[]:=hr'
  subst this
  obtain⟨xs,h1,h2⟩:=Ygs (rows:=rows) fun q hq=>h q (by simp[hq])
  exact⟨n::xs,by simp[h1],by simp[h2]⟩
theorem Ylb{h:Heap}{v:Value}(q:InQ h [v]):∃ xs,X2z h v xs:=by
 obtain⟨v',rows,e,s,hb,hr⟩:=q
 obtain rfl:v=v':=by simpa using e
 obtain⟨xs,h1,h2⟩:=Ygs fun r hm=>(hr r hm).1
 refine⟨xs,?_⟩
 rw[X2z,h2,<- h1]
 exact s
section
variable{H:Type}{enc:TypeId × Value->H}{W:World}
theorem Ybs:Yvr enc Tryd.prog ⟨nv,W.heap.size⟩ W 22 InQ:=Yj2 (e:=3) rfl (by kernel_rfl) (by kernel_rfl) (by omega) (by rw[show Tryd.prog.bytesOf 3=8 by kernel_rfl];omega) (Ydc _) (Ykp (by kernel_rfl))
end
end Go.Proofs.YtcnhfkplgknomaaDoor
end
