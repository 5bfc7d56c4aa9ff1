/-
  The law's own functions: row, SpoilInts; both channels in one memory; a call done with both.
-/
import Derived.Test.YtcokebbiblnonaaDoorCrY
import Derived.Test.YtcokebbiblnonaaDoorChD
import Derived.Test.YtcokebbiblnonaaDoorFactsT
import Derived.Test.YtcokebbiblnonaaDoorChC
set_option linter.all false
noncomputable section
namespace Go.Proofs.YtcokebbiblnonaaDoor
open Go Go.Ab
set_option maxRecDepth 100000
theorem Yvy(b:Nat)(w x y z:Int){l:List Value}(hl:l.length=32):Qd0 (E b).toEnv 74 [(0,.int .i64 w),(1,.int .i64 x),(2,.int .i64 y),(3,.int .i64 z),(4,.agg ⟨l⟩)]=some (.agg ⟨.int .i64 w :: .int .i64 x :: .int .i64 y :: .int .i64 z::l⟩):=by
 obtain⟨Z,eZ⟩:∃ Z:List Value,Z=Uq.map u8v:=⟨_,rfl⟩
 have lZ:Z.length=32:=by rw[eZ];rfl
 have e:Qd0 (E b).toEnv 74 [(0,.int .i64 w),(1,.int .i64 x),(2,.int .i64 y),(3,.int .i64 z),(4,.agg ⟨l⟩)]=(Q0t (nth [(0,1),(1,1),(2,1),(3,1),(4,32)]) (.int .i64 w :: .int .i64 x :: .int .i64 y :: .int .i64 z::Z) [(4,.agg ⟨l⟩)]).map fun c => .agg c.toArray:=by rw[eZ];kernel_rfl
 rw[e]
 have hc:(Value.agg ⟨l⟩).cells.toList=l:=rfl
 have hs:(Value.agg ⟨l⟩).cells.size=32:=hl
 have p1:Qm3 (.int .i64 w :: .int .i64 x :: .int .i64 y :: .int .i64 z::Z) 4 l=some (.int .i64 w :: .int .i64 x :: .int .i64 y :: .int .i64 z::l):=by
  rw[Qr1 (by simp only[List.length_cons];omega)]
  simp only[List.take_succ_cons,List.take_zero,List.cons_append,List.nil_append,Option.some.injEq,List.cons.injEq,true_and]
  rw[List.drop_of_length_le (by simp only[List.length_cons];omega),List.append_nil]
 have b1:(Qi8 (.agg ⟨l⟩) && (Value.agg ⟨l⟩).cells.size == 32 && Nat.ble (4+32) (.int .i64 w :: .int .i64 x :: .int .i64 y :: .int .i64 z::Z:List Value).length)=true:=by
  rw[hs,show(.int .i64 w :: .int .i64 x :: .int .i64 y :: .int .i64 z::Z:List Value).length=36 by simp only[List.length_cons];omega];rfl
 simp only[Q0t,nth,b1,if_true,hc,p1]
 rfl
section
attribute [local simp] Yd kON kOC Yi kNN kNP kRR kRP kEN kER Q5 Xh Zz Zf aop Qh nth Ab.g0 gv gs Q4 Qe aev evs evO Qk Tr.get_put St.put Tm.put flat flatA Zd Qn Qq Qp Qr Qm Qo Qs Qu Ql Q7 Q8 kTN kTR kTX kTP kBN kBR kBX kBP kCS kCR kCE kAM Yh.putAll X6 Qa Q3 Q0 Qd Qb Qf Q1 Q2 Q9
theorem Yxs(b:Nat){h:Heap}(r:CRow)(hr:r.hash.length=32)(K:AEnd→Heap→Prop)(hk:∀ h',Old h h'→K (.ret (.agg ⟨r.cells⟩)) h'):FnK Tryd.prog (E b).G 31 [.agg ⟨r.cells⟩] h K:=by
 refine Qfa (E b) (Qh9 b) (Qc4 b) mixed (Qhf b) (Qf4 b) (V8 b) Ydx Yp1 Ynd rfl ?_
 have lr:=CRow.len hr
 obtain⟨hA,eA⟩:∃ hA,hA=h.push (.cells true 1 r.cells):=⟨_,rfl⟩
 have bA:Yo5 (.agg ⟨r.cells⟩) h=some (.pointer (some ⟨h.next,0,none⟩),hA):=by rw[eA];rfl
 have gA:hA.get h.next=some (.cells true 1 r.cells):=by rw[eA,Heap.get_push,if_pos rfl]
 have aA:Old h hA:=by rw[eA];exact Old.push _ _
 obtain⟨z,ez⟩:∃ z,z=Yzd.cells:=⟨_,rfl⟩
 have lz:z.length=36:=by rw[ez];rfl
 obtain⟨hB,eB⟩:∃ hB,hB=hA.push (.cells true 1 z):=⟨_,rfl⟩
 have al:Qfm (E b).toEnv 74 hA=some (.pointer (some ⟨hA.next,0,none⟩),hB):=by rw[eB,ez];exact Qki b hA
 have aB:Old hA hB:=by rw[eB];exact Old.push _ _
 have gB:hB.get hA.next=some (.cells true 1 z):=by rw[eB,Heap.get_push,if_pos rfl]
 have lB:=Heap.get_lt gB
 obtain⟨c0,c1,c2,c3, -⟩:=(⟨⟨1,aB.get gA⟩,hr⟩:RowAt hB h.next r).cs
 have c4:Qcd hB h.next 4 32=some (.agg ⟨r.hash.map u8v⟩):=by
  rw[Qb3 (aB.get gA) (by omega)]
  simp only[CRow.cells,List.drop_succ_cons,List.drop_zero]
  rw[List.take_of_length_le (by simp[hr])]
 have bl:Qd0 (E b).toEnv 74 [(0,.int .i64 r.fr),(1,.int .i64 r.id),(2,.int .i64 r.am),(3,.int .i64 r.til),(4,.agg ⟨r.hash.map u8v⟩)]=some (.agg ⟨r.cells⟩):=Yvy b _ _ _ _ (by simp[hr])
 have st:Qdq hB hA.next 0 r.cells=some (hB.set hA.next (some (.cells true 1 r.cells))):=by
  rw[Qgn gB (by omega),List.take_zero,List.nil_append,Nat.zero_add,List.drop_of_length_le (by omega),List.append_nil]
 have ld:Qcd (hB.set hA.next (some (.cells true 1 r.cells))) hA.next 0 36=some (.agg ⟨r.cells⟩):=by
  rw[Qb3 (by rw[Heap.get_set _ _ _ _ lB,if_pos rfl]) (by omega),List.drop_zero,List.take_of_length_le (by omega)]
 simp[Xs8,Yl8,V8,Qki,Zl,Jk,Yp,Yt,Zp,Qbm,Jn,Qrw,bA,-Qki,al,c0,c1,c2,c3,c4,bl,st,lr,ld,Qcz]
 exact hk _ ((aA.trans aB).set _ aA.1 lB)
theorem Ypq(b:Nat)(x:Int)(h:Heap)(K:AEnd→Heap→Prop)(hk:∀ z,K (.ret (.int .i64 z)) h):FnK Tryd.prog (E b).G 49 [.int .i64 x] h K:=by
 refine Qfa (E b) (Qh9 b) (Qc4 b) mixed (Qhf b) (Qf4 b) (Qjq b) Xxf Ye1 Ybc rfl ?_
 simp[Q7v,X3n,Qjq,Xwg,Qaq,Y0]
 exact hk _
end
def SpI(h:Heap)(n0:Nat)(v:Value)(m:Nat)(k:Nat)(s:St):Prop:=∃ (tr:Tr Value) (h1:Heap) (i:Nat) (ys:List Value),s=⟨⟨15,tr⟩,[],h1⟩∧tr.get 0=some v∧tr.get 2=some (.int .i64 (i:Int))∧i≤m∧k=m-i∧Own h1 n0 1 v m ys∧h1.next=h.next∧∀ c,Qb9 v≠some c→h1.get c=h.get c
section
attribute [local simp] Qii Qpb U6 Vv Xv Y0 Qjq V2 Zn Yd kON kOC Yi kNN kNP kRR kRP kEN kER Q5 Xh Zz Zf aop Qh nth Ab.g0 gv gs Q4 Qe aev evs evO Qk Tr.get_put St.put Tm.put flat flatA Zd Qn Qq Qp Qr Qm Qo Qs Qu Ql Q7 Q8 kTN kTR kTX kTP kBN kBR kBX kBP kCS kCR kCE kAM Yh.putAll X6 Qa Q3 Q0 Qd Qb Qf Q1 Q2 Q9
theorem Yzu(b:Nat){h:Heap}{n0 m:Nat}{v:Value}{xs:List Value}(ow:Own h n0 1 v m xs)(hm:m < 1000)(K:AEnd→Heap→Prop)(hk:∀ h',h'.next=h.next→(∀ c,Qb9 v≠some c→h'.get c=h.get c)→K (.ret (.tuple #[])) h'):FnK Tryd.prog (E b).G 35 [v] h K:=by
 refine Qfa (E b) (Qh9 b) (Qc4 b) mixed (Qhf b) (Qf4 b) (U6 b) Xul X47 X0n rfl ?_
 have len:∀ hx,Q2a (E b).toEnv 53 v hx=some (.int .i64 (m:Int)):=fun hx=>Qk6 (T53 b) ow.sl
 simp
 refine Qgm (SpI h n0 v m) m ⟨_,h,0,xs,rfl,by simp,by simp,by omega,rfl,ow,rfl,fun _ _=>rfl⟩ ?_
 rintro k s' ⟨tr,h1,i,ys,rfl,t0,t2,hi,rfl,ow1,n1,f1⟩ _
 by_cases hlt:i < m
 ·have hlt':(i:Int) < (m:Int):=by omega
  obtain⟨i1,e1⟩:∃ x:Nat,x=i+1:=⟨_,rfl⟩
  have w1:IntKind.i64.wrap ((i:Int)+1)=(i1:Int):=by rw[Qa9 (by omega) (by omega)];omega
  have ly:ys.length=m:=by have:=ow1.len;omega
  obtain⟨bk,hb,ia⟩:∃ bk,Qb9 v=some bk∧J2 (E b).toEnv 53 v (.int .i64 (i:Int))=some (.pointer (some ⟨bk,i,none⟩)):=by
   rcases ow1 with⟨_,h0,_⟩ | ⟨bk,c,z',rest,rfl, -⟩
   ·omega
   ·refine⟨bk,rfl,?_⟩
    rw[Qgs (T53 b) Qt6 ⟨by omega,by omega⟩]
    simp
  simp[t0,t2,len,hlt']
  refine Ypq b _ h1 _ fun z => ?_
  obtain⟨h2,s2,o2,n2,f2⟩:=Xxd ow1 hb (i:=i) (l:=[.int .i64 z]) (by simp;omega)
  simp[t0,t2,ia,s2,w1]
  exact⟨m-i1,by omega,_,h2,i1,_,rfl,by simp[t0],by simp,by omega,rfl,o2,n2.trans n1,fun c hc=>by rw[f2 c (fun e=>hc (e ▸ hb)),f1 c hc]⟩
 ·have hlt':¬ (i:Int) < (m:Int):=by omega
  simp[t0,t2,len,hlt']
  exact hk h1 n1 f1
end
def Du(h h1:Heap)(κ κ':Nat)(t:Int)(n:Nat)(c:CSt)(a0 b0:Int)(L:List CKept):Prop:=∃ (MB:Nat→Prop) (mb:Nat) (ps:List KP) (lv:Value),Chan h1 MB κ mb c ps∧Mv (fun _=>False) MB h h1∧CInv c t∧ps.length≤n∧Ref h1 h.next κ' a0 b0 lv L∧¬ MB κ'∧∀ x,Qb9 lv=some x→¬ MB x
theorem Chan.keep{h h':Heap}{MB:Nat→Prop}{κ mb:Nat}{c:CSt}{ps:List KP}(C:Chan h MB κ mb c ps)(hn:h.next≤h'.next)(hk:∀ x,MB x→h'.get x=h.get x):Chan h' MB κ mb c ps:=by
 obtain⟨⟨z,g1⟩,g2,g3,g4,g5,g6,g7,g8,g9⟩:=C
 exact⟨⟨z,by rw[hk _ g8.1];exact g1⟩,by rw[hk _ g8.2.1];exact g2,g3,fun p hp=>⟨by rw[hk _ (g8.2.2 p hp)];exact(g4 p hp).1,(g4 p hp).2⟩,g5,g6,g7,g8,fun x hx=>Nat.lt_of_lt_of_le (g9 x hx) hn⟩
theorem Du.old{h h1 h2:Heap}{κ κ' n:Nat}{t a0 b0:Int}{c:CSt}{L:List CKept}(D:Du h h1 κ κ' t n c a0 b0 L)(a:Old h1 h2):Du h h2 κ κ' t n c a0 b0 L:=by
 obtain⟨MB,mb,ps,lv,C,m,i,hl,R,x1,x2⟩:=D
 exact⟨MB,mb,ps,lv,C.old a,m.trans (Mv.old a),i,hl,R.old a,x1,x2⟩
theorem Yuu{h h1 h2:Heap}{κ κ' n mb:Nat}{t a0 b0:Int}{c:CSt}{L L':List CKept}{MB:Nat→Prop}{ps:List KP}{lv lv':Value}(C:Chan h1 MB κ mb c ps)(m:Mv (fun _=>False) MB h h1)(i:CInv c t)(hl:ps.length≤n)(R:Ref h1 h.next κ' a0 b0 lv L)(x1:¬ MB κ')(x2:∀ x,Qb9 lv=some x→¬ MB x)(R':Ref h2 h.next κ' a0 b0 lv' L')(v:RMv h1 h2 κ' lv lv'):Du h h2 κ κ' t n c a0 b0 L':=by
 have keep:∀ x,MB x→h2.get x=h1.get x:=fun x hx=>v.same x (C.low x hx) (fun e=>x1 (e ▸ hx)) (fun e=>x2 x e hx)
 refine⟨MB,mb,ps,lv',C.keep v.next keep,⟨Nat.le_trans m.next v.next,fun x hx _ => ?_,m.sub⟩,i,hl,R',x1,fun x hx q => ?_⟩
 ·have h1':=m.next
  rw[v.same x (by omega) (by have:=R.lo;omega) (fun e=>by have:=(R.rows.from e).1;omega),m.same x hx id]
 ·rcases v.sub x hx with e | e
  ·exact x2 x e q
  ·have:=C.low x q;omega
theorem Du.start{h h1:Heap}{κ κ' n:Nat}{t a0 b0:Int}{c:CSt}{L:List CKept}(D:Du h h1 κ κ' t n c a0 b0 L):Old h h1:=by
 obtain⟨MB,mb,ps,lv,C,m, -⟩:=D
 exact⟨m.next,fun c hc=>m.same c hc id⟩
theorem Du.rt{h h1:Heap}{κ κ' n:Nat}{t a0 b0:Int}{c:CSt}{L:List CKept}(D:Du h h1 κ κ' t n c a0 b0 L):Rt h h1 κ t n c:=by
 obtain⟨MB,mb,ps,lv,C,m,i,hl, -⟩:=D
 exact⟨MB,mb,ps,C,m,i,hl⟩
theorem Du.inv{h h1:Heap}{κ κ' n:Nat}{t a0 b0:Int}{c:CSt}{L:List CKept}(D:Du h h1 κ κ' t n c a0 b0 L):CInv c t:=D.rt.inv
end Go.Proofs.YtcokebbiblnonaaDoor
end
noncomputable section
namespace Go.Proofs.YtcokebbiblnonaaDoor
open Go Go.Ab
set_option maxRecDepth 100000
theorem X1s{h0 h1 h2:Heap}{κ':Nat}{a0 b0:Int}{L:List CKept}{MB MB':Nat→Prop}{lv:Value}(R:Ref h1 h0.next κ' a0 b0 lv L)(x1:¬ MB κ')(x2:∀ x,Qb9 lv=some x→¬ MB x)(v:Mv MB MB' h1 h2):Ref h2 h0.next κ' a0 b0 lv L∧¬ MB' κ'∧∀ x,Qb9 lv=some x→¬ MB' x:=by
 have lκ:κ' < h1.next:=by obtain⟨z,g⟩:=R.at';exact Heap.get_lt g
 refine⟨R.keep fun x hx hx2=>v.same x hx fun q => ?_,fun q => ?_,fun x hx q => ?_⟩
 ·rcases hx2 with rfl | hx2
  ·exact x1 q
  ·exact x2 x hx2 q
 ·rcases v.sub _ q with q | q
  ·exact x1 q
  ·omega
 ·rcases v.sub _ q with q | q
  ·exact x2 x hx q
  ·have:=R.rows.out hx;omega
theorem Qtf{h:Heap}{MB:Nat→Prop}{κ mb:Nat}{c:CSt}{ps:List KP}(C:Chan h MB κ mb c ps):c.rows.length=ps.length:=by rw[C.rows,List.length_map]
theorem Y0j(c:CSt)(r:CRow):(Yfv c r).rows.length≤c.rows.length+1:=by
 unfold Yfv
 split
 ·simp[Yha]
 ·omega
structure Box (h:Heap) (A:Nat) (o:COp):Prop where
 kind:Vs h A 0=some (.int .i64 o.kind)
 id:Vs h A 1=some (.int .i64 o.id)
 n:Vs h A 2=some (.int .i64 o.n)
 row:Qcd h A 3 36=some (.agg ⟨o.row.cells⟩)
 sec:Qcd h A 39 32=some (.agg ⟨o.sec.map u8v⟩)
theorem Y7x{h:Heap}{A:Nat}{o:COp}(ho:o.ok){z:Nat}{ow:Bool}(gA:h.get A=some (.cells ow z o.cells)):Box h A o:=by
 have lo:=COp.len ho
 have lr:=CRow.len ho.1
 refine⟨by rw[Qai gA];rfl,by rw[Qai gA];rfl,by rw[Qai gA];rfl,?_,?_⟩
 ·rw[Qb3 gA (by omega)]
  simp only[COp.cells,List.drop_succ_cons,List.drop_zero]
  rw[← lr,List.take_left]
 ·rw[Qb3 gA (by omega)]
  simp only[COp.cells,List.drop_succ_cons]
  rw[show 36=o.row.cells.length from lr.symm,List.drop_left,List.take_of_length_le (by simp[ho.2])]
theorem Box.keep{h h':Heap}{A:Nat}{o:COp}(B:Box h A o)(e:h'.get A=h.get A):Box h' A o:=by
 obtain⟨a,b,c,d,f⟩:=B
 unfold Vs at a b c
 unfold Qcd at d f
 constructor <;> simp only[Vs,Qcd,e] <;> assumption
theorem Ykn:∀ l:List Nat,Yjd (l.map u8v) (l.map u8v)=true
 | []=>rfl
 | x::l=>by simp[Yjd,Xsc,u8v,Xwo];exact Ykn l
theorem Y2l(l:List Nat):Xvh (some (.agg ⟨l.map u8v⟩)) (some (.agg ⟨l.map u8v⟩))=true:=by simp[Xvh,Ycq,Ykn]
theorem Yve(r:CRow):Xvh (some (.agg ⟨r.cells⟩)) (some (.agg ⟨r.cells⟩))=true:=by simp[Xvh,Ycq,CRow.cells,Yjd,Xsc,Xwo,Ykn]
section
attribute [local simp] Wj Qak Vm Wl Jk Ja Z6 Um U2 Xe V8 Ym Qen Qax Qe6 Jn Yn Z0 Yq Jw Qem Qj J9 Yb U6 Yd Zf aop Qh nth Ab.g0 gv gs Q4 Qe aev evs evO Qk Tr.get_put St.put Tm.put flat flatA Zd Qn Qq Qp Qr Qm Qo Qs Qu Ql Q7 Q8 X6 Qa Q3 Q0 Qd Qb Qf Q1 Q2 Q9
set_option maxHeartbeats 8000000 in
theorem Y4m(b:Nat)(SO:Qmb b){h h1:Heap}{κ κ' n:Nat}{t a0 b0:Int}{c:CSt}{L:List CKept}(D:Du h h1 κ κ' t n c a0 b0 L)(Rl:Rel c a0 b0 L)(laid:Ab.LaidIn h Qbj)(hn:n < 800)(ha:0≤a0∧a0≤Qg6)(hb:0≤b0∧b0≤Qg6){o:COp}(ho:o.ok)(h8:∀ y ∈ o.sec,y < 256)(K:AEnd→Heap→Prop)
  (hk:∀ c' L' h2,Du h h2 κ κ' t (n+1) c' a0 b0 L'→Rel c' a0 b0 L'→K (.ret (.bool true)) h2):CallOK Tryd.prog (E b).G 15 [.pointer (some ⟨κ,0,none⟩),.pointer (some ⟨κ',0,none⟩),.agg ⟨o.cells⟩] h1 K:=by
 refine Xou (E b) (Qk0 _ _) (Qh9 b) (Qc4 b) mixed (Qhf b) (Vm b) X7z Ynw Yj6 rfl ?_
 have ol:=D.start
 obtain⟨MB,mb,ps,lv,C,m,i,hl,R,x1,x2⟩:=D
 obtain⟨hA,eA⟩:∃ hA,hA=h1.push (.cells true 1 o.cells):=⟨_,rfl⟩
 have bA:Yo5 (.agg ⟨o.cells⟩) h1=some (.pointer (some ⟨h1.next,0,none⟩),hA):=by rw[eA];rfl
 have gA:hA.get h1.next=some (.cells true 1 o.cells):=by rw[eA,Heap.get_push,if_pos rfl]
 have lA:=Heap.get_lt gA
 have aA:Old h1 hA:=by rw[eA];exact Old.push _ _
 have CA:=C.old aA
 have RA:=R.old aA
 have mA:Mv (fun _=>False) MB h hA:=m.trans (Mv.old aA)
 have laidA:=LaidIn.old (LaidIn.old laid ol) aA
 have BA:=Y7x ho gA
 have lL:L.length≤n:=by rw[Rl.perm.length_eq,Qtf C];exact hl
 have lκ:κ' < h1.next:=by obtain⟨z,g⟩:=R.at';exact Heap.get_lt g
 have nA:¬ MB h1.next:=fun q=>by have:=C.low _ q;omega
 have lvA:Qb9 lv≠some h1.next:=fun e=>by have:=R.rows.out e;omega
 have hlo:∀ b,MB b→2≤b:=fun b hb=>by
  rcases m.sub b hb with q | q
  ·exact q.elim
  ·have:=X20 laid (1,Qx1) (by simp[Qbj])
   simp only at this
   omega
 simp[kON,kOC,Yi,kNN,kNP,kRR,kRP,kEN,kER,Q5,Xh,Zz,kTN,kTR,kTX,kTP,kBN,kBR,kBX,kBP,kCS,kCR,kCE,kAM,Yh.putAll,bA,BA.kind]
 refine(Yk0 b o.kind hA _ ?_).ok
 have hp:=X1p o.kind
 have add:∃ hX hY hZ:Heap,KEok Tryd.prog (E b).G ⟨23,[.pointer (some ⟨κ,0,none⟩),.agg ⟨o.row.cells⟩],hA,.int .i64 (Qn8 c o.row),hX,false⟩∧KEok Tryd.prog (E b).G ⟨31,[.agg ⟨o.row.cells⟩],hX,.agg ⟨o.row.cells⟩,hY,true⟩∧KEok Tryd.prog (E b).G ⟨30,[.pointer (some ⟨κ',0,none⟩),.agg ⟨o.row.cells⟩],hY,.int .i64 (Qn8 c o.row),hZ,false⟩∧Box hX h1.next o∧Box hY h1.next o∧Box hZ h1.next o∧K (.ret (.bool true)) hZ:=by
  obtain⟨_,hX,k1,n1,j1,ps',MB',C',v'⟩:=Yov b CA i o.row ho.1 (fun r h'=>r=.ret (.int .i64 (Qn8 c o.row))∧∃ ps' MB',Chan h' MB' κ mb (Yfv c o.row) ps'∧Mv MB MB' hA h') (fun h' ps' MB' C' v'=>⟨rfl,ps',MB',C',v'⟩)
  rw[j1]at k1
  obtain⟨RX,y1,y2⟩:=X1s RA x1 x2 v'
  obtain⟨_,hY,k2,n2,j2,aY⟩:=Yxs b (h:=hX) o.row ho.1 (fun r h'=>r=.ret (.agg ⟨o.row.cells⟩)∧Old hX h') (fun h' q=>⟨rfl,q⟩)
  rw[j2]at k2
  have RY:=RX.old aY
  obtain⟨_,hZ,k3,n3,j3,lv',RZ,vZ⟩:=Y49 b RY (by omega) i Rl ha hb o.row ho.1 (fun r h'=>r=.ret (.int .i64 (Qn8 c o.row))∧∃ lv',Ref h' h.next κ' a0 b0 lv' (if Qn8 c o.row=0 then Xxh ⟨o.row,1,Uq⟩ L else L)∧RMv hY h' κ' lv lv') (fun h' lv' R' v'=>⟨rfl,lv',R',v'⟩)
  rw[j3]at k3
  have BX:Box hX h1.next o:=BA.keep (v'.same _ lA nA)
  have lX:h1.next < hX.next:=Nat.lt_of_lt_of_le lA v'.next
  have BY:Box hY h1.next o:=BX.keep (aY.2 _ lX)
  have BZ:Box hZ h1.next o:=BY.keep (vZ.same _ (Nat.lt_of_lt_of_le lX aY.1) (by omega) lvA)
  have e1:=Qtf C
  have e2:=Qtf C'
  have e3:=Y0j c o.row
  refine⟨hX,hY,hZ,⟨k1,n1,fun q=>by cases q⟩,⟨k2,n2,fun _ c hc=>aY.2 c hc⟩,⟨k3,n3,fun q=>by cases q⟩,BX,BY,BZ,hk (Yfv c o.row) (if Qn8 c o.row=0 then Xxh ⟨o.row,1,Uq⟩ L else L) hZ (Yuu (C'.old aY) ((mA.trans v').trans (Mv.old aY)) (Yyr i) (by omega) RY y1 y2 RZ vZ) ?_⟩
  unfold Yfv
  split
  ·rename_i e0;exact Y6h Rl e0
  ·exact Rl
 by_cases p01:Qxi o.kind=0∨Qxi o.kind=1
 ·obtain⟨hX,hY,hZ,K1,K2,K3,BX,BY,BZ,fin⟩:=add
  rcases p01 with p | p
  all_goals
   simp[kON,kOC,Yi,kNN,kNP,kRR,kRP,kEN,kER,Q5,Xh,Zz,kTN,kTR,kTX,kTP,kBN,kBR,kBX,kBP,kCS,kCR,kCE,kAM,Yh.putAll,p]
   refine Qeu [⟨23,[.pointer (some ⟨κ,0,none⟩),.agg ⟨o.row.cells⟩],hA,.int .i64 (Qn8 c o.row),hX,false⟩,⟨31,[.agg ⟨o.row.cells⟩],hX,.agg ⟨o.row.cells⟩,hY,true⟩,⟨30,[.pointer (some ⟨κ',0,none⟩),.agg ⟨o.row.cells⟩],hY,.int .i64 (Qn8 c o.row),hZ,false⟩] ?_ Xss Xv3 Xt0 (by simp (config:={maxSteps:=1000000}) [Ab.runT,Zy,Z9,ldv,Nat.testBit,W5,J3,Zr,Jm,loadAt,Qae,V9,Xwd,X1c,X0v,Xyt,BA.row,BX.row,Xtf];first | exact⟨rfl,rfl⟩ | rfl) ?_ ?_
   ·simp only[List.mem_cons,List.not_mem_nil,or_false]
    rintro e (rfl | rfl | rfl)
    ·exact K1
    ·exact K2
    ·exact K3
   ·simp (config:={maxSteps:=1000000}) [Zy,Z9,Qcb,ldv,Ab.runT,Zy,Z9,ldv,Nat.testBit,W5,J3,Zr,Jm,loadAt,Qae,V9,BA.row,BX.row,BY.row,BZ.row,Yve]
   simp[kON,kOC,Yi,kNN,kNP,kRR,kRP,kEN,kER,Q5,Xh,Zz,kTN,kTR,kTX,kTP,kBN,kBR,kBX,kBP,kCS,kCR,kCE,kAM,Yh.putAll]
   exact fin
 have p0:¬ Qxi o.kind=0:=fun e=>p01 (.inl e)
 have p1:¬ Qxi o.kind=1:=fun e=>p01 (.inr e)
 clear add
 by_cases p2:Qxi o.kind=2
 ·obtain⟨_,hX,k1,n1,j1,ps',C',v'⟩:=Yhg b CA i laidA hlo o.id ho.2 (fun r h'=>r=.ret (.int .i64 (Qeh c o.id o.sec))∧∃ ps',Chan h' MB κ mb (Qff c o.id o.sec) ps'∧Mv MB MB hA h') (fun h' ps' C' v'=>⟨rfl,ps',C',v'⟩)
  rw[j1]at k1
  obtain⟨RX,y1,y2⟩:=X1s RA x1 x2 v'
  obtain⟨_,hZ,k3,n3,j3,RZ,vZ⟩:=Yte b RX (by omega) Rl o.id ho.2 h8 (fun r h'=>r=.ret (.int .i64 (Qeh c o.id o.sec))∧Ref h' h.next κ' a0 b0 lv (if Qeh c o.id o.sec=0 then L.map (upd o.id fun q=>{q with state:=2,secret:=o.sec})else L)∧RMv hX h' κ' lv lv) (fun h' R' v'=>⟨rfl,R',v'⟩)
  rw[j3]at k3
  have BX:Box hX h1.next o:=BA.keep (v'.same _ lA nA)
  have lX:h1.next < hX.next:=Nat.lt_of_lt_of_le lA v'.next
  have BZ:Box hZ h1.next o:=BX.keep (vZ.same _ lX (by omega) lvA)
  have e1:=Qtf C
  have e2:=Qtf C'
  have e3:=Ygx c o.id o.sec
  have fin:=hk (Qff c o.id o.sec) (if Qeh c o.id o.sec=0 then L.map (upd o.id fun q=>{q with state:=2,secret:=o.sec})else L) hZ (Yuu C' (mA.trans v') (Yhf i) (by omega) RX y1 y2 RZ vZ) (by
   cases hw:Qfb c o.id with
   | none =>
    have : Qeh c o.id o.sec=12:=by simp[Qeh,hw]
    rw[if_neg (by omega),show Qff c o.id o.sec=c by simp[Qff,hw]]
    exact Rl
   | some k =>
    by_cases hh:Bl.keyed1 [] o.sec=k.row.hash
    ·rw[if_pos (by simp[Qeh,hw,hh])]
     exact Ytj i Rl hw hh
    ·have : Qeh c o.id o.sec=16:=by simp[Qeh,hw,hh]
     rw[if_neg (by omega),show Qff c o.id o.sec=c by simp[Qff,hw,hh]]
     exact Rl)
  simp[kON,kOC,Yi,kNN,kNP,kRR,kRP,kEN,kER,Q5,Xh,Zz,kTN,kTR,kTX,kTP,kBN,kBR,kBX,kBP,kCS,kCR,kCE,kAM,Yh.putAll,p2]
  refine Qeu [⟨24,[.pointer (some ⟨κ,0,none⟩),.int .i64 o.id,.agg ⟨o.sec.map u8v⟩],hA,.int .i64 (Qeh c o.id o.sec),hX,false⟩,⟨32,[.pointer (some ⟨κ',0,none⟩),.int .i64 o.id,.agg ⟨o.sec.map u8v⟩],hX,.int .i64 (Qeh c o.id o.sec),hZ,false⟩] ?_ Xtr Xuz Xtc (by simp (config:={maxSteps:=1000000}) [Ab.runT,Zy,Z9,ldv,Nat.testBit,W5,J3,Zr,Jm,loadAt,Qae,V9,Xwu,Xzg,Xws,BA.id,BX.id,BA.sec,BX.sec,Xtf];first | exact⟨rfl,rfl⟩ | rfl) ?_ ?_
  ·simp only[List.mem_cons,List.not_mem_nil,or_false]
   rintro e (rfl | rfl)
   ·exact⟨k1,n1,fun q=>by cases q⟩
   ·exact⟨k3,n3,fun q=>by cases q⟩
  ·simp (config:={maxSteps:=1000000}) [Zy,Z9,Qe5,ldv,Ab.runT,Zy,Z9,ldv,Nat.testBit,W5,J3,Zr,Jm,loadAt,Qae,V9,BA.id,BX.id,BA.sec,BX.sec,BZ.id,BZ.sec,Y2l,Qmw]
  simp[kON,kOC,Yi,kNN,kNP,kRR,kRP,kEN,kER,Q5,Xh,Zz,kTN,kTR,kTX,kTP,kBN,kBR,kBX,kBP,kCS,kCR,kCE,kAM,Yh.putAll]
  exact fin
 by_cases p3:Qxi o.kind=3
 ·obtain⟨_,hX,k1,n1,j1,ps',C',v'⟩:=Yih b CA i o.id (fun r h'=>r=.ret (.int .i64 (Xtm c o.id))∧∃ ps',Chan h' MB κ mb (Qh3 c o.id) ps'∧Mv MB MB hA h') (fun h' ps' C' v'=>⟨rfl,ps',C',v'⟩)
  rw[j1]at k1
  obtain⟨RX,y1,y2⟩:=X1s RA x1 x2 v'
  obtain⟨_,hZ,k3,n3,j3,RZ,vZ⟩:=Y1u b RX (by omega) Rl o.id (fun r h'=>r=.ret (.int .i64 (Xtm c o.id))∧Ref h' h.next κ' a0 b0 lv (if(Qfb c o.id).isSome then L.map (upd o.id Xxp)else L)∧RMv hX h' κ' lv lv) (fun h' R' v'=>⟨rfl,R',v'⟩)
  rw[j3]at k3
  have BX:Box hX h1.next o:=BA.keep (v'.same _ lA nA)
  have lX:h1.next < hX.next:=Nat.lt_of_lt_of_le lA v'.next
  have BZ:Box hZ h1.next o:=BX.keep (vZ.same _ lX (by omega) lvA)
  have e1:=Qtf C
  have e2:=Qtf C'
  have e3:=Yk4 c o.id
  have fin:=hk (Qh3 c o.id) (if(Qfb c o.id).isSome then L.map (upd o.id Xxp)else L) hZ (Yuu C' (mA.trans v') (Yib i) (by omega) RX y1 y2 RZ vZ) (by
   cases hw:Qfb c o.id with
   | none =>
    rw[show Qh3 c o.id=c by simp[Qh3,hw]]
    exact Rl
   | some k=>exact Y24 i Rl hw)
  simp[kON,kOC,Yi,kNN,kNP,kRR,kRP,kEN,kER,Q5,Xh,Zz,kTN,kTR,kTX,kTP,kBN,kBR,kBX,kBP,kCS,kCR,kCE,kAM,Yh.putAll,p3]
  refine Qeu [⟨25,[.pointer (some ⟨κ,0,none⟩),.int .i64 o.id],hA,.int .i64 (Xtm c o.id),hX,false⟩,⟨33,[.pointer (some ⟨κ',0,none⟩),.int .i64 o.id],hX,.int .i64 (Xtm c o.id),hZ,false⟩] ?_ Xsf Xv0 Xt5 (by simp (config:={maxSteps:=1000000}) [Ab.runT,Zy,Z9,ldv,Nat.testBit,W5,J3,Zr,Jm,loadAt,Qae,V9,Xw1,Xz0,Xz6,BA.id,BX.id,Xtf];first | exact⟨rfl,rfl⟩ | rfl) ?_ ?_
  ·simp only[List.mem_cons,List.not_mem_nil,or_false]
   rintro e (rfl | rfl)
   ·exact⟨k1,n1,fun q=>by cases q⟩
   ·exact⟨k3,n3,fun q=>by cases q⟩
  ·simp (config:={maxSteps:=1000000}) [Zy,Z9,Qek,ldv,Ab.runT,Zy,Z9,ldv,Nat.testBit,W5,J3,Zr,Jm,loadAt,Qae,V9,BA.id,BX.id,BZ.id,Qmw]
  simp[kON,kOC,Yi,kNN,kNP,kRR,kRP,kEN,kER,Q5,Xh,Zz,kTN,kTR,kTX,kTP,kBN,kBR,kBX,kBP,kCS,kCR,kCE,kAM,Yh.putAll]
  exact fin
 ·have p4:Qxi o.kind=4:=by omega
  simp[kON,kOC,Yi,kNN,kNP,kRR,kRP,kEN,kER,Q5,Xh,Zz,kTN,kTR,kTX,kTP,kBN,kBR,kBX,kBP,kCS,kCR,kCE,kAM,Yh.putAll,p4,BA.n]
  refine Ybw b SO CA i (by omega) o.n _ fun l ov hX ps' pm sd C' v' owX => ?_
  obtain⟨RX,y1,y2⟩:=X1s RA x1 x2 v'
  have BX:Box hX h1.next o:=BA.keep (v'.same _ lA nA)
  have lX:h1.next < hX.next:=Nat.lt_of_lt_of_le lA v'.next
  have el:l=Qe3 L:=Xsi i Rl.pend.1 Rl.pend.2 pm sd
  subst el
  simp[kON,kOC,Yi,kNN,kNP,kRR,kRP,kEN,kER,Q5,Xh,Zz,kTN,kTR,kTX,kTP,kBN,kBR,kBX,kBP,kCS,kCR,kCE,kAM,Yh.putAll,BX.n]
  refine(Y6d b RX (by omega) o.n _ fun rv hZ RZ vZ owZ => ?_).ok
  have ovlo:∀ c,Qb9 ov=some c→c≠κ'∧Qb9 lv≠some c:=fun c hc=>by
   have:=(owX.from hc).1
   exact⟨by omega,fun e=>by have:=RA.rows.out e;omega⟩
  have owXZ:Own hZ hA.next 1 ov (W8 o.n (Qe3 L)).length (Xu9 (W8 o.n (Qe3 L))):=owX.keep fun c hc hl=>vZ.same c hl (ovlo c hc).1 (ovlo c hc).2
  have lids:(W8 o.n (Qe3 L)).length≤800:=by
   unfold W8 Qe3
   rw[List.length_map]
   refine Nat.le_trans (List.length_filter_le _ _) ?_
   rw[List.length_map]
   refine Nat.le_trans (List.length_filter_le _ _) ?_
   omega
  simp[kON,kOC,Yi,kNN,kNP,kRR,kRP,kEN,kER,Q5,Xh,Zz,kTN,kTR,kTX,kTP,kBN,kBR,kBX,kBP,kCS,kCR,kCE,kAM,Yh.putAll]
  refine(Yya b owXZ.sl owZ.sl (by omega) _ ?_).ok
  simp[kON,kOC,Yi,kNN,kNP,kRR,kRP,kEN,kER,Q5,Xh,Zz,kTN,kTR,kTX,kTP,kBN,kBR,kBX,kBP,kCS,kCR,kCE,kAM,Yh.putAll]
  refine(Yzu b owXZ (by omega) _ fun hF nF fF => ?_).ok
  simp[kON,kOC,Yi,kNN,kNP,kRR,kRP,kEN,kER,Q5,Xh,Zz,kTN,kTR,kTX,kTP,kBN,kBR,kBX,kBP,kCS,kCR,kCE,kAM,Yh.putAll]
  refine hk _ _ hF ?_ (Y5z i Rl o.n)
  have e1:=Qtf C
  have e2:=Qtf C'
  have e3:=Yja o.n (Qe3 L) c
  have same:∀ x,x < hX.next→(x < hA.next∨Qb9 ov≠some x)→hF.get x=hZ.get x:=fun x hx hq=>fF x fun e=>by
   rcases hq with q | q
   ·have:=(owX.from e).1;omega
   ·exact q e
  have nX:=v'.next
  have nZ:=vZ.next
  refine⟨MB,mb,ps',lv,C'.keep (by omega) fun x hx => ?_,⟨by have:=mA.next;omega,fun x hx _ => ?_,mA.sub⟩,Xe2 _ i,by omega,RZ.keep fun x hx hx2=>fF x fun e => ?_,y1,y2⟩
  ·have lx:=CA.low x hx
   rw[same x (by omega) (.inl lx),vZ.same x (by omega) (fun e=>y1 (e ▸ hx)) (fun e=>y2 x e hx)]
  ·have h1':=mA.next
   rw[same x (by omega) (.inl (by omega)),vZ.same x (by omega) (by have:=R.lo;omega) (fun e=>by have:=(R.rows.from e).1;omega),v'.same x (by omega) (fun q=>by have:=mA.sub x q;rcases this with q | q;exact q;omega),mA.same x hx id]
  ·obtain⟨o1,o2⟩:=ovlo x e
   rcases hx2 with q | q
   ·exact o1 q
   ·exact o2 q
end
end Go.Proofs.YtcokebbiblnonaaDoor
end
noncomputable section
namespace Go.Proofs.YtcokebbiblnonaaDoor
open Go Go.Ab
set_option maxRecDepth 100000
theorem l74:L74=1::1::1::1::List.replicate 32 1:=by kernel_rfl
theorem Ygv{r:CRow}(h:r.hash.length=32):Qa7 L74 r.cells r.cells=some true:=by
 have:=X1l h
 rw[l32,← l74]at this
 exact this
theorem Y8b(b:Nat){r:CRow}(h:r.hash.length=32):Xvu (E b).toEnv .neq 74 (.agg ⟨r.cells⟩) (.agg ⟨r.cells⟩)=some (.bool false):=by
 have e:∀ x y:List Value,Xvu (E b).toEnv .neq 74 (.agg ⟨x⟩) (.agg ⟨y⟩)=(Qa7 L74 x y).map (fun q => .bool (!q)):=fun x y=>by kernel_rfl
 rw[e,Ygv h]
 rfl
theorem Y77(b:Nat){r:CRow}(h:r.hash.length=32):Xvu (E b).toEnv .eql 74 (.agg ⟨r.cells⟩) (.agg ⟨r.cells⟩)=some (.bool true):=by
 have e:∀ x y:List Value,Xvu (E b).toEnv .eql 74 (.agg ⟨x⟩) (.agg ⟨y⟩)=(Qa7 L74 x y).map .bool:=fun x y=>by kernel_rfl
 rw[e,Ygv h]
 rfl
theorem Zb6(b:Nat)(x y:Bool):Xvu (E b).toEnv .eql 4 (.bool x) (.bool y)=some (.bool (x == y)):=by cases x <;> cases y <;> kernel_rfl
theorem Du.ref{h h1:Heap}{κ κ' n:Nat}{t a0 b0:Int}{c:CSt}{L:List CKept}(D:Du h h1 κ κ' t n c a0 b0 L):(∃ lv,Ref h1 h.next κ' a0 b0 lv L)∧c.rows.length≤n:=by
 obtain⟨MB,mb,ps,lv,C,m,i,hl,R, -⟩:=D
 exact⟨⟨lv,R⟩,by rw[Qtf C];exact hl⟩
theorem Y8p(b:Nat){h h1:Heap}{κ n:Nat}{t:Int}{c:CSt}(R:Rt h h1 κ t n c)(id:Int)(K:AEnd→Heap→Prop)(hk:∀ h',Old h1 h'→K (.ret (.tuple #[.agg ⟨(Ypa c id).map u8v⟩,.bool (decide (stF c id=2))])) h'):FnK Tryd.prog (E b).G 19 [.pointer (some ⟨κ,0,none⟩),.int .i64 id] h1 K:=by
 obtain⟨MB,mb,ps,C,_⟩:=R
 refine Ygn b C id K fun h' a => ?_
 have:=hk h' a
 unfold Ypa stF at this
 cases hf:Qc5 id c.rows with
 | none=>rw[hf]at this;simpa using this
 | some k =>
  rw[hf]at this
  by_cases h2:k.state=2
  ·simpa[h2]using this
  ·simpa[h2]using this
section
attribute [local simp] U5 We Jz Xv Qg Xy Yu Vw Y0 Q6 Xz Wc Qet Yl J8 Vy Vk Vx Wb U2 V8 Quy Qcz Qi5 Vz Yt Zn Qi Uw J4 Qrw Yc Va Zx Qi1 Z6 Jn Qic Jj Jt Yd Zf aop Qh nth Ab.g0 gv gs Q4 Qe aev evs evO Qk Tr.get_put St.put Tm.put flat flatA Zd Qn Qq Qp Qr Qm Qo Qs Qu Ql Q7 Q8 X6 Qa Q3 Q0 Qd Qb Qf Q1 Q2 Q9
set_option maxHeartbeats 4000000 in
theorem Yxr(b:Nat){tr:Tr Value}{h hb g:Heap}{κ κ' n:Nat}{t a0 b0:Int}{c:CSt}{L:List CKept}(D:Du h hb κ κ' t n c a0 b0 L)(Rl:Rel c a0 b0 L)(hn:n < 800)(ag:Old hb g){id:Int}(t0:tr.get 0=some (.pointer (some ⟨κ,0,none⟩)))(t1:tr.get 1=some (.pointer (some ⟨κ',0,none⟩)))(t2:tr.get 2=some (.int .i64 id))(K:AEnd→Heap→Prop)(hk:∀ h2,Old hb h2→K (.ret (.bool true)) h2) :
  Wt (E b) (Qsz Tryd.prog (E b).G) (D0 b) none Qy9 ⟨⟨109,tr⟩,[],g⟩ (X1u (E b) (DD b) Qru K):=by
 obtain⟨e1,e2,e3⟩:=Rl.same id
 have lens:=Yiy D.rt.lens id
 have lr:=CRow.len lens.1
 obtain⟨⟨lv,R0⟩,hrows⟩:=D.ref
 have hL:L.length < 900:=by rw[Rl.perm.length_eq];omega
 obtain⟨r,er⟩:∃ r,r=Xkd c id:=⟨_,rfl⟩
 obtain⟨x,ex⟩:∃ x,x=Ypa c id:=⟨_,rfl⟩
 obtain⟨st,est⟩:∃ st,st=stF c id:=⟨_,rfl⟩
 rw[← er]at lr lens
 rw[← ex]at lens
 obtain⟨zr,ezr⟩:∃ z,z=(⟨0,0,0,0,Uq⟩:CRow).cells:=⟨_,rfl⟩
 obtain⟨zh,ezh⟩:∃ z,z=Uq.map u8v:=⟨_,rfl⟩
 have lzr:zr.length=36:=by rw[ezr];rfl
 have lzh:zh.length=32:=by rw[ezh];rfl
 have alr:∀ hh,Qfm (E b).toEnv 32 hh=some (.pointer (some ⟨hh.next,0,none⟩),hh.push (.cells true 1 zr)):=fun hh=>by rw[ezr];exact Vt b hh
 have alq:∀ hh,Qfm (E b).toEnv 74 hh=some (.pointer (some ⟨hh.next,0,none⟩),hh.push (.cells true 1 zr)):=fun hh=>by rw[ezr];exact Qki b hh
 have alh:∀ hh,Qfm (E b).toEnv 30 hh=some (.pointer (some ⟨hh.next,0,none⟩),hh.push (.cells true 1 zh)):=fun hh=>by rw[ezh];exact V3 b hh
 simp[Vt,Qki,V3,kON,kOC,Yi,kNN,kNP,kRR,kRP,kEN,kER,Q5,Xh,Zz,kTN,kTR,kTX,kTP,kBN,kBR,kBX,kBP,kCS,kCR,kCE,kAM,Yh.putAll,t0,t1,t2,-Vt,-Qki,-V3]
 refine(Y31 b (D.old ag).rt id est.symm _ fun h3 a3 => ?_).ok
 rw[← er]
 obtain⟨h4,s4,a4,g4⟩:=Qza (h:=h3) (zs:=zr) (xs:=r.cells) (by rw[lr,lzr])
 simp[Vt,Qki,V3,kON,kOC,Yi,kNN,kNP,kRR,kRP,kEN,kER,Q5,Xh,Zz,kTN,kTR,kTX,kTP,kBN,kBR,kBX,kBP,kCS,kCR,kCE,kAM,Yh.putAll,t0,t1,t2,-Vt,-Qki,-V3,alr,s4,lr]
 have ag4:=(ag.trans a3).trans a4
 refine(Y6r b (R0.old ag4) (by omega) id _ fun h5 a5 => ?_).ok
 rw[e1,e2,← er,← est]
 obtain⟨h6,s6,a6,g6⟩:=Qza (h:=h5) (zs:=zr) (xs:=r.cells) (by rw[lr,lzr])
 simp[Vt,Qki,V3,kON,kOC,Yi,kNN,kNP,kRR,kRP,kEN,kER,Q5,Xh,Zz,kTN,kTR,kTX,kTP,kBN,kBR,kBX,kBP,kCS,kCR,kCE,kAM,Yh.putAll,t0,t1,t2,-Vt,-Qki,-V3,alq,s6,lr]
 have ag6:=(ag4.trans a5).trans a6
 refine(Y8p b (D.old ag6).rt id _ fun h7 a7 => ?_).ok
 rw[← ex,← est]
 obtain⟨h8,s8,a8,g8⟩:=Qza (h:=h7) (zs:=zh) (xs:=x.map u8v) (by simp[lens.2,lzh])
 simp[Vt,Qki,V3,kON,kOC,Yi,kNN,kNP,kRR,kRP,kEN,kER,Q5,Xh,Zz,kTN,kTR,kTX,kTP,kBN,kBR,kBX,kBP,kCS,kCR,kCE,kAM,Yh.putAll,t0,t1,t2,-Vt,-Qki,-V3,alh,s8,lens.2]
 have ag8:=(ag6.trans a7).trans a8
 refine(Y3x b (R0.old ag8) (by omega) id _ fun h9 a9 => ?_).ok
 rw[e2,e3,← ex,← est]
 obtain⟨hq,sq,aq,gq⟩:=Qza (h:=h9) (zs:=zh) (xs:=x.map u8v) (by simp[lens.2,lzh])
 simp[Vt,Qki,V3,kON,kOC,Yi,kNN,kNP,kRR,kRP,kEN,kER,Q5,Xh,Zz,kTN,kTR,kTX,kTP,kBN,kBR,kBX,kBP,kCS,kCR,kCE,kAM,Yh.putAll,t0,t1,t2,-Vt,-Qki,-V3,alh,sq,lens.2]
 have agq:=(ag8.trans a9).trans aq
 have g4q:=aq.get (a9.get (a8.get (a7.get (a6.get (a5.get g4)))))
 have g6q:=aq.get (a9.get (a8.get (a7.get g6)))
 have g8q:=aq.get (a9.get g8)
 obtain⟨_,hZ,k1,n1,j1,aZ⟩:=Yxs b (h:=hq) r lens.1 (fun v h'=>v=.ret (.agg ⟨r.cells⟩)∧Old hq h') (fun h' q=>⟨rfl,q⟩)
 rw[j1]at k1
 have row:∀ hh A,hh.get A=some (.cells true 1 r.cells)→Qcd hh A 0 36=some (.agg ⟨r.cells⟩):=fun hh A g=>by rw[Qb3 g (by omega),List.drop_zero,List.take_of_length_le (by omega)]
 have hsh:∀ hh A,hh.get A=some (.cells true 1 (x.map u8v))→Qcd hh A 0 32=some (.agg ⟨x.map u8v⟩):=fun hh A g=>by rw[Qb3 g (by simp[lens.2]),List.drop_zero,List.take_of_length_le (by simp[lens.2])]
 have u1:=row _ _ g4q
 have u2:=row _ _ (aZ.get g6q)
 have u3:=hsh _ _ (aZ.get g8q)
 have u4:=hsh _ _ (aZ.get gq)
 have q1:=Y77 b lens.1
 have q2:Xvu (E b).toEnv .eql 30 (.agg ⟨x.map u8v⟩) (.agg ⟨x.map u8v⟩)=some (.bool true):=by rw[Zaw b lens.2 lens.2];simp
 refine Qeu [⟨31,[.agg ⟨r.cells⟩],hq,.agg ⟨r.cells⟩,hZ,true⟩] ?_ Xje Xqo Xk9 (by simp (config:={maxSteps:=1000000}) [Ab.runT,Zy,Z9,ldv,Nat.testBit,W5,J3,Zr,Jm,loadAt,Qae,V9,Xsu,Xsk,Xsl,Xra,Xu4,Vt,Qki,V3,Ql7,u1,u2,u3,u4,q1,q2,Zb6];first | exact⟨rfl,rfl⟩ | rfl) ?_ ?_
 ·simp only[List.mem_cons,List.not_mem_nil,or_false]
  rintro e rfl
  exact⟨k1,n1,fun _ c hc=>aZ.2 c hc⟩
 ·simp (config:={maxSteps:=1000000}) [Zy,Z9,Qfd,ldv,Ab.runT,Zy,Z9,ldv,Nat.testBit,W5,J3,Zr,Jm,loadAt,Qae,V9,Vt,Qki,V3]
 simp[Vt,Qki,V3,kON,kOC,Yi,kNN,kNP,kRR,kRP,kEN,kER,Q5,Xh,Zz,kTN,kTR,kTX,kTP,kBN,kBR,kBX,kBP,kCS,kCR,kCE,kAM,Yh.putAll]
 exact hk hZ (agq.trans aZ)
end
def AlI(h hb0:Heap)(κ κ' n:Nat)(t a0 b0:Int)(c:CSt)(L:List CKept)(id:Int)(k:Nat)(s:St):Prop:=∃ (tr:Tr Value) (g:Heap) (e:Int),s=⟨⟨109,tr⟩,[],g⟩∧tr.get 0=some (.pointer (some ⟨κ,0,none⟩))∧tr.get 1=some (.pointer (some ⟨κ',0,none⟩))∧tr.get 2=some (.int .i64 id)∧tr.get 7=some (.int .i64 e) ∧ -1≤e∧e≤4∧k=(4-e).toNat∧Old hb0 g
def AlJ(hb h5:Heap)(rb κ κ':Nat)(id:Int)(rv wv:Value)(l:List CRow)(k:Nat)(s:St):Prop:=∃ (tr:Tr Value) (g:Heap) (i:Nat) (xs:List Value),s=⟨⟨109,tr⟩,[],g⟩∧tr.get 0=some (.pointer (some ⟨κ,0,none⟩))∧tr.get 1=some (.pointer (some ⟨κ',0,none⟩))∧tr.get 2=some (.int .i64 id)∧tr.get 8=some rv∧tr.get 9=some wv∧tr.get 10=some (.int .i64 (i:Int))∧i≤l.length∧k=l.length-i∧Old hb g∧Own g hb.next 36 rv l.length xs∧xs.drop (i*36)=(Qad l).drop (i*36)∧h5.next≤g.next∧∀ x,x < h5.next→Qb9 rv≠some x→g.get x=h5.get x
section
attribute [local simp] U5 We Jz Xv Qg Xy Yu Vw Y0 Q6 Xz Wc Qet Yl J8 Vy Vk Vx Wb U2 V8 Quy Qcz Qi5 Vz Yt Zn Qi Vt Uw J4 Qki Qrw Yc V3 Va Zx Qi1 Z6 Jn Qic Jj Yd Zf aop Qh nth Ab.g0 gv gs Q4 Qe aev evs evO Qk Tr.get_put St.put Tm.put flat flatA Zd Qn Qq Qp Qr Qm Qo Qs Qu Ql Q7 Q8 X6 Qa Q3 Q0 Qd Qb Qf Q1 Q2 Q9
set_option maxHeartbeats 4000000 in
theorem Yrt(b:Nat)(SO:Qmb b){h h1:Heap}{κ κ' n:Nat}{t a0 b0:Int}{c:CSt}{L:List CKept}(D:Du h h1 κ κ' t n c a0 b0 L)(Rl:Rel c a0 b0 L)(hn:n < 800)(ha:0≤a0∧a0≤Qg6)(hb':0≤b0∧b0≤Qg6)(id:Int)(K:AEnd→Heap→Prop)
  (hk:∀ h2,Du h h2 κ κ' t n c a0 b0 L→K (.ret (.bool true)) h2):CallOK Tryd.prog (E b).G 16 [.pointer (some ⟨κ,0,none⟩),.pointer (some ⟨κ',0,none⟩),.int .i64 id] h1 K:=by
 refine Xou (E b) (Qk0 _ _) (Qh9 b) (Qc4 b) mixed (Qhf b) (Jz b) X14 Yi0 Yf8 rfl ?_
 obtain⟨⟨lv,R0⟩,hrows⟩:=D.ref
 have hL:L.length < 900:=by rw[Rl.perm.length_eq];omega
 simp[Jt,kON,kOC,Yi,kNN,kNP,kRR,kRP,kEN,kER,Q5,Xh,Zz,kTN,kTR,kTX,kTP,kBN,kBR,kBX,kBP,kCS,kCR,kCE,kAM,Yh.putAll]
 refine Qgm (AlI h h1 κ κ' n t a0 b0 c L id) 5 ⟨_,h1, -1,rfl,by simp,by simp,by simp,by simp,by omega,by omega,rfl,Old.refl _⟩ ?_
 rintro k s' ⟨tr,g,e,rfl,t0,t1,t2,t7,he,he2,rfl,ag⟩ _
 by_cases hlt:e < 4
 ·have w1:IntKind.i64.wrap (e+1)=e+1:=Qa9 (by omega) (by omega)
  simp[Jt,kON,kOC,Yi,kNN,kNP,kRR,kRP,kEN,kER,Q5,Xh,Zz,kTN,kTR,kTX,kTP,kBN,kBR,kBX,kBP,kCS,kCR,kCE,kAM,Yh.putAll,t0,t1,t2,t7,hlt]
  refine(Xa4 b (D.old ag).rt e _ ?_).ok
  simp[Jt,kON,kOC,Yi,kNN,kNP,kRR,kRP,kEN,kER,Q5,Xh,Zz,kTN,kTR,kTX,kTP,kBN,kBR,kBX,kBP,kCS,kCR,kCE,kAM,Yh.putAll,t0,t1,t2,t7]
  refine(Yw8 b (R0.old ag) (by omega) e (Rl.amts D.inv) ha hb' _ fun g2 a2 => ?_).ok
  rw[Rl.bal]
  simp[Jt,kON,kOC,Yi,kNN,kNP,kRR,kRP,kEN,kER,Q5,Xh,Zz,kTN,kTR,kTX,kTP,kBN,kBR,kBX,kBP,kCS,kCR,kCE,kAM,Yh.putAll,t0,t1,t2,t7,w1]
  exact⟨(4-(e+1)).toNat,by omega,_,g2,e+1,rfl,by simp[t0],by simp[t1],by simp[t2],by simp,by omega,by omega,rfl,ag.trans a2⟩
 have Db:=D.old ag
 simp[Jt,kON,kOC,Yi,kNN,kNP,kRR,kRP,kEN,kER,Q5,Xh,Zz,kTN,kTR,kTX,kTP,kBN,kBR,kBX,kBP,kCS,kCR,kCE,kAM,Yh.putAll,t0,t1,t2,t7,hlt,-Jt]
 refine Yjg b SO Db.rt (by omega) _ fun l rv h4 pm sd hh ow4 a4 _ => ?_
 have el:l=Qe3 L:=Xsi Db.inv Rl.pend.1 Rl.pend.2 pm sd
 have pr:=Ytn Db.inv pm sd
 have lenr:∀ hx,Q2a (E b).toEnv 35 rv hx=some (.int .i64 (l.length:Int)):=fun hx=>Qk6 (T35 b) ow4.sl
 simp[Jt,kON,kOC,Yi,kNN,kNP,kRR,kRP,kEN,kER,Q5,Xh,Zz,kTN,kTR,kTX,kTP,kBN,kBR,kBX,kBP,kCS,kCR,kCE,kAM,Yh.putAll,t0,t1,t2,-Jt]
 refine(Yjk b (R0.old (ag.trans a4)) (by omega) _ fun wv h5 ow5 a5 => ?_).ok
 rw[← el]at ow5
 have lenw:∀ hx,Q2a (E b).toEnv 77 wv hx=some (.int .i64 (l.length:Int)):=fun hx=>Qk6 (T77 b) ow5.sl
 simp[Jt,kON,kOC,Yi,kNN,kNP,kRR,kRP,kEN,kER,Q5,Xh,Zz,kTN,kTR,kTX,kTP,kBN,kBR,kBX,kBP,kCS,kCR,kCE,kAM,Yh.putAll,t0,t1,t2,lenr,lenw,-Jt]
 have a45:=a4.trans a5
 refine(Ywi b (Db.old a45).rt _ ?_).ok
 simp[Jt,kON,kOC,Yi,kNN,kNP,kRR,kRP,kEN,kER,Q5,Xh,Zz,kTN,kTR,kTX,kTP,kBN,kBR,kBX,kBP,kCS,kCR,kCE,kAM,Yh.putAll,t0,t1,t2,-Jt]
 refine(Y15 b (R0.old (ag.trans a45)) (by omega) (c:=c) (by rw[← el];exact pr) _ fun h6 a6 => ?_).ok
 simp[Jt,kON,kOC,Yi,kNN,kNP,kRR,kRP,kEN,kER,Q5,Xh,Zz,kTN,kTR,kTX,kTP,kBN,kBR,kBX,kBP,kCS,kCR,kCE,kAM,Yh.putAll,t0,t1,t2,-Jt]
 have few:=pr.few
 have a46:=a45.trans a6
 refine Qgm (AlJ g h6 0 κ κ' id rv wv l) l.length ⟨_,h6,0,Qad l,rfl,by simp[t0],by simp[t1],by simp[t2],by simp,by simp,by simp,by omega,rfl,a46,Qwa a6 (Qwa a5 ow4),rfl,Nat.le_refl _,fun _ _ _=>rfl⟩ ?_
 clear t0 t1 t2 t7
 rintro k s' ⟨tr,g7,i,xs,rfl,t0,t1,t2,t8,t9,t10,hi,rfl,ag7,ow7,xd,nx,fr⟩ _
 by_cases hil:i < l.length
 ·have hil':(i:Int) < (l.length:Int):=by omega
  obtain⟨i1,e1⟩:∃ x:Nat,x=i+1:=⟨_,rfl⟩
  have w1:IntKind.i64.wrap ((i:Int)+1)=(i1:Int):=by rw[Qa9 (by omega) (by omega)];omega
  obtain⟨r,hr⟩:∃ r,l[i]? = some r:=⟨_,List.getElem?_eq_getElem hil⟩
  have hrl:=hh r (List.mem_of_getElem? hr)
  have lr:=CRow.len hrl
  have lx:xs.length=l.length*36:=ow7.len
  obtain⟨bk,hbk,ia,ca⟩:∃ bk,Qb9 rv=some bk∧J2 (E b).toEnv 35 rv (.int .i64 (i:Int))=some (.pointer (some ⟨bk,i*36,none⟩))∧Qcd g7 bk (i*36) 36=some (.agg ⟨r.cells⟩):=by
   obtain⟨bk,off,f1,f2, -,f4⟩:=Xvc (T35 b) Q21 ow7.sl (k:=.i64) (i:=(i:Int)) (by omega) (by omega)
   have eo:off=i*36:=by
    rcases ow7 with⟨_,h0,_⟩ | ⟨bk',c',z',rest,rfl, -⟩
    ·omega
    ·rw[Qgs (T35 b) Q21 ⟨by omega,by omega⟩]at f2
     simp at f2
     omega
   subst eo
   simp only[Int.toNat_natCast]at f4
   rw[xd,Qv0 l i hh r hr]at f4
   exact⟨bk,f1,f2,f4⟩
  have hbk4:bk < h4.next:=ow4.out hbk
  have ow5':Own g7 h4.next 36 wv l.length (Qad l):=(Qwa a6 ow5).keep fun c hc hl=>fr c hl fun e=>by rw[hbk]at e;cases e;have:=(ow5.from hc).1;omega
  obtain⟨bk2,off2,ia2, -,ca2⟩:=Yo7 b ow5' hh hr
  obtain⟨_,g8,k1,n1,j1,a8⟩:=Yxs b (h:=g7) r hrl (fun v h'=>v=.ret (.agg ⟨r.cells⟩)∧Old g7 h') (fun h' q=>⟨rfl,q⟩)
  rw[j1]at k1
  have ca2':Qcd g8 bk2 off2 36=some (.agg ⟨r.cells⟩):=by
   obtain⟨bk2',off2',ia2', -,q⟩:=Yo7 b (Qwa a8 ow5') hh hr
   rw[ia2]at ia2'
   cases ia2'
   exact q
  have ow8:=Qwa a8 ow7
  have li:(i+1)*36≤l.length*36:=Nat.mul_le_mul_right _ (by omega)
  obtain⟨g9,s9,o9,n9,f9⟩:=Xxd ow8 hbk (i:=i*36+2) (l:=[.int .i64 (-1)]) (by simp only[List.length_cons,List.length_nil];omega)
  have ne:=Y8b b hrl
  simp[Jt,kON,kOC,Yi,kNN,kNP,kRR,kRP,kEN,kER,Q5,Xh,Zz,kTN,kTR,kTX,kTP,kBN,kBR,kBX,kBP,kCS,kCR,kCE,kAM,Yh.putAll,t0,t1,t2,t8,t9,t10,lenr,hil',-Jt]
  refine Qeu [⟨31,[.agg ⟨r.cells⟩],g7,.agg ⟨r.cells⟩,g8,true⟩] ?_ Xpj Xqy Xjt (by simp (config:={maxSteps:=1000000}) [Ab.runT,Zy,Z9,ldv,Nat.testBit,W5,J3,Zr,Jm,loadAt,Qae,V9,Xt2,Xu7,Jt,Ql7,t8,t9,t10,ia,ca,ia2,ca2',ne];first | exact⟨rfl,rfl⟩ | rfl) ?_ ?_
  ·simp only[List.mem_cons,List.not_mem_nil,or_false]
   rintro e rfl
   exact⟨k1,n1,fun _ c hc=>a8.2 c hc⟩
  ·simp (config:={maxSteps:=1000000}) [Zy,Z9,Qfg,ldv,Ab.runT,Zy,Z9,ldv,Nat.testBit,W5,J3,Zr,Jm,loadAt,Qae,V9,Jt]
  simp[Jt,kON,kOC,Yi,kNN,kNP,kRR,kRP,kEN,kER,Q5,Xh,Zz,kTN,kTR,kTX,kTP,kBN,kBR,kBX,kBP,kCS,kCR,kCE,kAM,Yh.putAll,t0,t1,t2,t8,t9,t10,ia,s9,w1,-Jt]
  refine⟨l.length-i1,by omega,_,g9,i1,_,rfl,by simp[t0],by simp[t1],by simp[t2],by simp[t8],by simp[t9],by simp,by omega,rfl,⟨by have:=ag7.1;have:=a8.1;omega,fun x hx => ?_⟩,o9,?_,by have:=a8.1;omega,fun x hx hne => ?_⟩
  ·have h1':=ag7.1
   rw[f9 x (fun e=>by have:=(ow7.from (e ▸ hbk)).1;omega),a8.2 x (by omega),ag7.2 x hx]
  ·rw[e1]
   have q:xs.drop ((i+1)*36)=(Qad l).drop ((i+1)*36):=by
    have h1:=congrArg (List.drop 36) xd
    rw[List.drop_drop,List.drop_drop]at h1
    rw[show(i+1)*36=i*36+36 by omega]
    exact h1
   have e4:(xs.take (i*36+2) ++ [Value.int .i64 (-1)]).length=i*36+3:=by simp;omega
   have e5:(xs.take (i*36+2) ++ [Value.int .i64 (-1)]).drop ((i+1)*36)=[]:=List.drop_of_length_le (by omega)
   rw[← q,List.drop_append,e5,List.nil_append,e4,List.drop_drop]
   congr 1
   simp only[List.length_cons,List.length_nil]
   omega
  ·rw[f9 x (fun e=>hne (e ▸ hbk)),a8.2 x (by omega),fr x hx hne]
 ·have hil':¬ (i:Int) < (l.length:Int):=by omega
  simp[Jt,kON,kOC,Yi,kNN,kNP,kRR,kRP,kEN,kER,Q5,Xh,Zz,kTN,kTR,kTX,kTP,kBN,kBR,kBX,kBP,kCS,kCR,kCE,kAM,Yh.putAll,t0,t1,t2,t8,t9,t10,lenr,hil',-Jt]
  exact Yxr b (id:=id) Db Rl hn ag7 (by simp[t0]) (by simp[t1]) (by simp[t2]) K fun h2 a2=>hk h2 (Db.old a2)
end
end Go.Proofs.YtcokebbiblnonaaDoor
end
noncomputable section
namespace Go.Proofs.YtcokebbiblnonaaDoor
open Go Go.Ab
set_option maxRecDepth 100000
def COp.bytes(o:COp):Prop:=∀ y ∈ o.sec,y < 256
theorem Y83(b:Nat){h:Heap}{lv:Value}{os:List COp}(sl:Sl h 71 lv os.length (Wr os))(hos:∀ o ∈ os,o.ok∧o.bytes){i:Nat}{o:COp}(hi:os[i]? = some o) :
  ∃ bk off,J2 (E b).toEnv 22 lv (.int .i64 (i:Int))=some (.pointer (some ⟨bk,off,none⟩))∧∀ h',Old h h'→Qcd h' bk off 71=some (.agg ⟨o.cells⟩)∧Vs h' bk (off+1)=some (.int .i64 o.id)∧Vs h' bk (off+3+1)=some (.int .i64 o.row.id):=by
 obtain⟨bk,off,e2,q⟩:=Y7t b sl (fun o ho=>(hos o ho).1) hi
 refine⟨bk,off,e2,fun h' a => ?_⟩
 obtain⟨q1, -,q3, -⟩:=q h' a
 refine⟨q1,?_,q3⟩
 have hlt:i < os.length:=(List.getElem?_eq_some_iff.1 hi).1
 obtain⟨bk',off',f1,f2,f3,f4⟩:=Xvc (T22 b) Qqu (sl.old a) (k:=.i64) (i:=(i:Int)) (by omega) (by omega)
 rw[e2]at f2
 cases f2
 simp only[Int.toNat_natCast]at f3
 have w:=Xpp os i (fun r hr=>COp.len (hos r hr).1) o hi
 have g:(Wr os)[i*71+1]? = o.cells[1]? := by
  have h:=congrArg (fun z=>z[1]?) w
  simp only[List.getElem?_take,if_pos (show 1 < 71 by omega),List.getElem?_drop]at h
  exact h
 rw[f3 1 (by omega),g]
 rfl
theorem Ref.low{h:Heap}{n0 n1 κ:Nat}{a b:Int}{lv:Value}{L:List CKept}(R:Ref h n1 κ a b lv L)(hl:n0≤n1):Ref h n0 κ a b lv L:=⟨R.at',R.rows.low hl,Nat.le_trans hl R.lo,R.ap,R.each⟩
def RuI(h:Heap)(x y:Int)(os:List COp)(lv:Value)(k:Nat)(s:St):Prop:=∃ (tr:Tr Value) (g:Heap) (κ κ':Nat) (c:CSt) (L:List CKept) (i:Nat),s=⟨⟨80,tr⟩,[],g⟩∧tr.get 2=some lv∧tr.get 7=some (.pointer (some ⟨κ,0,none⟩))∧tr.get 9=some (.pointer (some ⟨κ',0,none⟩))∧tr.get 11=some (.int .i64 (i:Int))∧i≤os.length∧k=os.length-i∧Du h g κ κ' (x+y) i c x y L∧Rel c x y L
theorem Yvx(b:Nat):Xvu (E b).toEnv .eql 23 (.pointer none) (.pointer none)=some (.bool true):=by kernel_rfl
theorem Ywm(b:Nat)(a:Addr):Xvu (E b).toEnv .eql 23 (.pointer (some a)) (.pointer none)=some (.bool false):=by kernel_rfl
section
attribute [local simp] Uc Wd Xs Us Xg Qab Zq Yv Qda Ut Uh Uu Uo Yo Ug U4 Qt Xv Js Ju Vm Qax Jk Jz Um Yp Uf U3 Vq Ue Y0 Yd kON kOC Yi kNN kNP kRR kRP kEN kER Q5 Xh Zz Zf aop Qh nth Ab.g0 gv gs Q4 Qe aev evs evO Qk Tr.get_put St.put Tm.put flat flatA Zd Qn Qq Qp Qr Qm Qo Qs Qu Ql Q7 Q8 kTN kTR kTX kTP kBN kBR kBX kBP kCS kCR kCE kAM Yh.putAll X6 Qa Q3 Q0 Qd Qb Qf Q1 Q2 Q9
set_option maxHeartbeats 4000000 in
theorem Yqa(b:Nat)(SO:Qmb b){h:Heap}{lv:Value}{os:List COp}{x y:Int}(hx : -9223372036854775808≤x∧x≤9223372036854775807)(sl:Sl h 71 lv os.length (Wr os))(hos:∀ o ∈ os,o.ok∧o.bytes)(laid:Ab.LaidIn h Qbj)(K:AEnd→Heap→Prop)(hk:∀ h',Old h h'→K (.ret (.bool true)) h') :
  CallOK Tryd.prog (E b).G 4 [.int .i64 x,.int .i64 y,lv] h K:=by
 refine Xou (E b) (Qk0 _ _) (Qh9 b) (Qc4 b) mixed (Qhf b) (Xs b) Xg6 Xth Xri rfl ?_
 have len:∀ hx,Q2a (E b).toEnv 22 lv hx=some (.int .i64 (os.length:Int)):=fun hx=>Qk6 (T22 b) sl
 simp
 refine(Yka b hx _ (fun c hc h1 κ mb C a1 => ?_) (fun hc => ?_)).ok
 rotate_left
 ·simp
  refine(Yva b _ (fun c hc'=>by rw[hc]at hc';cases hc') fun _ => ?_).ok
  simp[Y8s,Yvx,Ywm,len]
  refine(Qnf b laid _ ?_).ok
  simp
  exact hk _ (Old.refl _)
 have hxy:(0≤x∧x≤Qg6)∧(0≤y∧y≤Qg6):=by
  unfold Yc7 at hc
  split at hc
  ·cases hc
  ·rename_i q
   simp only[Qg6]at q ⊢
   omega
 simp
 refine(Yva b _ (fun c2 hc2 h2 κ' R2 a2 lκ => ?_) (fun hc'=>by rw[hc]at hc';cases hc')).ok
 have lκ1:h1.next≤κ':=R2.lo
 have D2:Du h h2 κ κ' (x+y) 0 c x y []:=⟨_,mb,[],.slice none 0 0,C.old a2,⟨Nat.le_trans a1.1 a2.1,fun k hk _=>by rw[a2.2 k (Nat.lt_of_lt_of_le hk a1.1),a1.2 k hk],fun k hk => .inr hk.1⟩,Yql hc,Nat.le_refl _,R2.low a1.1,fun q=>by omega,by simp[Qb9]⟩
 by_cases hl:200 < (os.length:Int)
 ·simp[Y8s,Yvx,Ywm,len,hl]
  refine(Qnf b (LaidIn.old laid (a1.trans a2)) _ ?_).ok
  simp
  exact hk _ (a1.trans a2)
 simp[Y8s,Yvx,Ywm,len,hl]
 refine Qgm (RuI h x y os lv) os.length ⟨_,h2,κ,κ',c,[],0,rfl,by simp,by simp,by simp,by simp,by omega,rfl,D2,Y6j hc⟩ ?_
 clear D2 R2 C a1 a2 hc hc2
 rintro k s' ⟨tr,g,κ,κ',c,L,i,rfl,t2,t7,t9,t11,hi,rfl,D,Rl⟩ _
 by_cases hlt:i < os.length
 rotate_left
 ·have hlt':¬ (i:Int) < (os.length:Int):=by omega
  simp[t2,t7,t9,t11,len,hlt']
  refine(Qnf b (LaidIn.old laid D.start) _ ?_).ok
  simp
  exact hk _ D.start
 have hlt':(i:Int) < (os.length:Int):=by omega
 obtain⟨o,ho⟩:∃ o,os[i]? = some o:=⟨_,List.getElem?_eq_getElem hlt⟩
 obtain⟨ook,o8⟩:=hos o (List.mem_of_getElem? ho)
 obtain⟨bk,off,b2,bh⟩:=Y83 b sl hos ho
 obtain⟨q1, -, -⟩:=bh g D.start
 obtain⟨i1,e1⟩:∃ x:Nat,x=i+1:=⟨_,rfl⟩
 have w1:IntKind.i64.wrap ((i:Int)+1)=(i1:Int):=by rw[Qa9 (by omega) (by omega)];omega
 simp[t2,t7,t9,t11,len,hlt',b2,q1]
 refine Y4m b SO D Rl laid (by omega) hxy.1 hxy.2 ook o8 _ fun c' L' g2 D' Rl' => ?_
 obtain⟨-,q2, -⟩:=bh g2 D'.start
 simp[t2,t7,t9,t11,b2,q2]
 refine Yrt b SO D' Rl' (by omega) hxy.1 hxy.2 o.id _ fun g3 D3 => ?_
 obtain⟨-, -,q3⟩:=bh g3 D3.start
 simp[t2,t7,t9,t11,b2,q3]
 refine Yrt b SO D3 Rl' (by omega) hxy.1 hxy.2 o.row.id _ fun g4 D4 => ?_
 simp[t2,t7,t9,t11,w1]
 exact⟨os.length-i1,by omega,_,g4,κ,κ',c',L',i1,rfl,by simp[t2],by simp[t7],by simp[t9],by simp,by omega,rfl,by rw[e1];exact D4,Rl'⟩
end
end Go.Proofs.YtcokebbiblnonaaDoor
end
