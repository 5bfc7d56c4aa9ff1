/-
  ChannelKnown: what is built of what.
-/
import Derived.Test.YtcokebbiblnonaaDoorCrZ
import Derived.Test.YtcokebbiblnonaaDoorFactsU
set_option linter.all false
noncomputable section
namespace Go.Proofs.YtcokebbiblnonaaDoor
open Go Go.Ab
set_option maxRecDepth 100000
theorem Xec{place:Nat→Option (Nat × Nat)}{pre mid post l:List Value}{i off size:Nat}(hp:place i=some (off,size))(h1:pre.length=off)(h2:mid.length=size)(h3:l.length=size)(r:List (Nat × Value)):Q0t place (pre++mid++post) ((i,.agg ⟨l⟩)::r)=Q0t place (pre++l++post) r:=by
 have hc:(Value.agg ⟨l⟩).cells.toList=l:=rfl
 have hs:(Value.agg ⟨l⟩).cells.size=l.length:=rfl
 have b1:(Qi8 (.agg ⟨l⟩) && (Value.agg ⟨l⟩).cells.size == size && Nat.ble (off+size) (pre++mid++post).length)=true:=by
  rw[hs,h3]
  simp[Qi8,h1,h2,Q26]
 have p1:Qm3 (pre++mid++post) off l=some (pre++l++post):=by
  rw[Qr1 (by simp[h1,h2,h3])]
  subst h1
  simp[h3,← h2]
 simp only[Q0t,hp,b1,if_true,hc,p1]
theorem Xw0(b:Nat)(w x y z:Int){l:List Value}(hl:l.length=32):Qd0 (E b).toEnv 32 [(0,.int .i64 w),(1,.int .i64 x),(2,.int .i64 y),(3,.int .i64 z),(4,.agg ⟨l⟩)]=some (.agg ⟨.int .i64 w :: .int .i64 x :: .int .i64 y :: .int .i64 z::l⟩):=by
 obtain⟨Z,eZ⟩:∃ Z:List Value,Z=Uq.map u8v:=⟨_,rfl⟩
 have lZ:Z.length=32:=by rw[eZ];rfl
 have e:Qd0 (E b).toEnv 32 [(0,.int .i64 w),(1,.int .i64 x),(2,.int .i64 y),(3,.int .i64 z),(4,.agg ⟨l⟩)]=(Q0t (nth [(0,1),(1,1),(2,1),(3,1),(4,32)]) ([.int .i64 w,.int .i64 x,.int .i64 y,.int .i64 z]++Z ++ []) [(4,.agg ⟨l⟩)]).map fun c => .agg c.toArray:=by rw[eZ];kernel_rfl
 rw[e,Xec (off:=4) (size:=32) rfl rfl lZ hl,List.append_nil]
 rfl
theorem Yp6(b:Nat)(w x y z:Int):Qd0 (E b).toEnv 32 [(0,.int .i64 w),(1,.int .i64 x),(2,.int .i64 y),(3,.int .i64 z)]=some (.agg ⟨(CRow.mk w x y z Uq).cells⟩):=by kernel_rfl
def Xof:CRow:=⟨0,0,0,0,Uq⟩
theorem X1x(b:Nat){l:List Value}(hl:l.length=36):Qd0 (E b).toEnv 34 [(3,.agg ⟨l⟩)]=some (.agg ⟨.int .i64 0 :: .int .i64 0 :: .int .i64 0::(l++Uq.map u8v)⟩):=by
 obtain⟨Z,eZ⟩:∃ Z:List Value,Z=Xof.cells:=⟨_,rfl⟩
 obtain⟨Y,eY⟩:∃ Y:List Value,Y=Uq.map u8v:=⟨_,rfl⟩
 have lZ:Z.length=36:=by rw[eZ];rfl
 have e:Qd0 (E b).toEnv 34 [(3,.agg ⟨l⟩)]=(Q0t (nth [(0,1),(1,1),(2,1),(3,36),(39,32)]) ([.int .i64 0,.int .i64 0,.int .i64 0]++Z++Y) [(3,.agg ⟨l⟩)]).map fun c => .agg c.toArray:=by rw[eZ,eY];kernel_rfl
 rw[e,Xec (off:=3) (size:=36) rfl rfl lZ hl,← eY]
 rfl
theorem Ylh(b:Nat)(k x:Int){l:List Value}(hl:l.length=32):Qd0 (E b).toEnv 34 [(0,.int .i64 k),(1,.int .i64 x),(4,.agg ⟨l⟩)]=some (.agg ⟨.int .i64 k :: .int .i64 x :: .int .i64 0::(Xof.cells++l)⟩):=by
 obtain⟨Z,eZ⟩:∃ Z:List Value,Z=Xof.cells:=⟨_,rfl⟩
 obtain⟨Y,eY⟩:∃ Y:List Value,Y=Uq.map u8v:=⟨_,rfl⟩
 have lZ:Z.length=36:=by rw[eZ];rfl
 have lY:Y.length=32:=by rw[eY];rfl
 have e:Qd0 (E b).toEnv 34 [(0,.int .i64 k),(1,.int .i64 x),(4,.agg ⟨l⟩)]=(Q0t (nth [(0,1),(1,1),(2,1),(3,36),(39,32)]) ((.int .i64 k :: .int .i64 x :: .int .i64 0::Z)++Y ++ []) [(4,.agg ⟨l⟩)]).map fun c => .agg c.toArray:=by rw[eZ,eY];kernel_rfl
 rw[e,Xec (off:=39) (size:=32) rfl (by simp[lZ]) lY hl,List.append_nil,← eZ]
 rfl
theorem Yfu(b:Nat)(k x:Int):Qd0 (E b).toEnv 34 [(0,.int .i64 k),(1,.int .i64 x)]=some (.agg ⟨(COp.mk k x 0 Xof Uq).cells⟩):=by kernel_rfl
theorem Yn2(b:Nat)(k x:Int):Qd0 (E b).toEnv 34 [(0,.int .i64 k),(2,.int .i64 x)]=some (.agg ⟨(COp.mk k 0 x Xof Uq).cells⟩):=by kernel_rfl
def Yor:List Nat:=4::List.replicate 31 0
theorem Y0a(b:Nat):Qd0 (E b).toEnv 30 [(0,.int .u8 4)]=some (.agg ⟨Yor.map u8v⟩):=by kernel_rfl
def X43:Nat→List COp→List (Nat × Value)
 | _,[]=>[]
 | i,o::l=>(i,.agg ⟨o.cells⟩)::X43 (i+1) l
theorem Yn4:∀ (os:List COp) (pre:List Value) (rest:List Value) (i:Nat),(∀ o ∈ os,o.ok)→pre.length=i*71→rest.length=os.length*71→Q0t (fun i=>some (i*71,71)) (pre++rest) (X43 i os)=some (pre++Wr os)
 | [],pre,rest,i,_,_,hr=>by
  have : rest=[]:=List.length_eq_zero_iff.1 (by simpa using hr)
  subst this
  simp[X43,Q0t,Wr]
 | o::os,pre,rest,i,hos,hp,hr=>by
  have lo:o.cells.length=71:=COp.len (hos o (by simp))
  have hr':rest.length=os.length*71+71:=by simpa[Nat.add_mul]using hr
  have e:pre++rest=pre++rest.take 71++rest.drop 71:=by simp
  rw[X43,e,Xec (off:=i*71) (size:=71) rfl hp (by simp;omega) lo]
  have ih:=Yn4 os (pre++o.cells) (rest.drop 71) (i+1) (fun q hq=>hos q (by simp[hq])) (by simp[hp,lo,Nat.add_mul]) (by simp;omega)
  rw[ih]
  simp[Wr]
theorem X5s(l:List Value):∀ n,(Qbc l n).length=n*l.length
 | 0=>by simp[Qbc]
 | n+1=>by simp[Qbc,X5s l n,Nat.add_mul];omega
theorem X2u(b:Nat){n:Nat}{os:List COp}(hn:os.length=n)(hn2:n≤1000)(hos:∀ o ∈ os,o.ok){parts:List (Nat × Value)}(hp:parts=X43 0 os){h:Heap}:Ub (E b).toEnv 22 n parts h=some (.slice (some ⟨h.next,0,none⟩) n n,h.push (.cells true 1 (Wr os))):=by
 have T:=T22 b
 have hz:=Qqu
 obtain⟨-,i, -, -, -, -, -, -,hzc, -⟩:=(E b).toEnv.tyok _ _ T.e
 have e1:(Nat.ble (n*R34.size) 16777216 && Nat.ble 1 R34.size)=true:=by rw[hz,Q26 (by omega),Q26 (by omega)];rfl
 have e2:(Qbc R34.zero.cells.toList n).length=os.length*71:=by rw[X5s,hn];simp[hzc,hz]
 have e3:=Yn4 os [] (Qbc R34.zero.cells.toList n) 0 hos rfl e2
 rw[List.nil_append,List.nil_append]at e3
 subst hp
 rw[hz]at e1
 simp only[Ub,T.s,T.d,T.e,hz,e1,if_true,e3,Option.map_some]
def Y3g:List Int:=[-9223372036854775808, -1,0,1,2,3,1073741824,1073741825,562949953421312,1125899906842624,1125899906842625,9223372036854775807]
theorem Ytw(b:Nat)(h:Heap):Ub (E b).toEnv 53 12 [(0,.int .i64 (-9223372036854775808)),(1,.int .i64 (-1)),(2,.int .i64 0),(3,.int .i64 1),(4,.int .i64 2),(5,.int .i64 3),(6,.int .i64 1073741824),(7,.int .i64 1073741825),(8,.int .i64 562949953421312),(9,.int .i64 1125899906842624),(10,.int .i64 1125899906842625),(11,.int .i64 9223372036854775807)] h=some (.slice (some ⟨h.next,0,none⟩) 12 12,h.push (.cells true 1 (Xu9 Y3g))):=by kernel_rfl
end Go.Proofs.YtcokebbiblnonaaDoor
end
noncomputable section
namespace Go.Proofs.YtcokebbiblnonaaDoor
open Go Go.Ab
set_option maxRecDepth 100000
section
attribute [local simp] Ye Xt Y6 Y1 V3 Va Yg Vv Xv V2 Jk Jn Xs Xd Xc Qc Xp Xq Xm Xn Xl Y0 Ve Yr Js Ju Qt Xr Xj Xi Xf Xo Yd kON kOC Yi kNN kNP kRR kRP kEN kER Q5 Xh Zz Zf aop Qh nth Ab.g0 gv gs Q4 Qe aev evs evO Qk Tr.get_put St.put Tm.put flat flatA Zd Qn Qq Qp Qr Qm Qo Qs Qu Ql Q7 Q8 kTN kTR kTX kTP kBN kBR kBX kBP kCS kCR kCE kAM Yh.putAll X6 Qa Q3 Q0 Qd Qb Qf Q1 Q2 Q9
set_option maxHeartbeats 4000000 in
theorem Zae(b:Nat)(SO:Qmb b){h0 h:Heap}(laid:Ab.LaidIn h0 Qbj){nsl lv lv6:Value}{N i k:Nat}{ni nk:Int}{os:List COp}{F:St→Prop}
  (hni : -9223372036854775808≤ni∧ni≤9223372036854775807) (a0:Old h0 h) (hos:∀ o ∈ os,o.ok∧o.bytes) (sl:Sl h 71 lv os.length (Wr os)) (ian:J2 (E b).toEnv 53 nsl (.int .i64 (i:Int))=some (.pointer (some ⟨N,i,none⟩))) (iak:J2 (E b).toEnv 53 nsl (.int .i64 (k:Int))=some (.pointer (some ⟨N,k,none⟩))) (cni:∀ h',Old h0 h'→Vs h' N i=some (.int .i64 ni)) (cnk:∀ h',Old h0 h'→Vs h' N k=some (.int .i64 nk)) {tr:Tr Value} (t3:tr.get 3=some nsl) (t4:tr.get 4=some (.int .i64 (i:Int))) (t5:tr.get 5=some (.int .i64 (k:Int))) (t6:tr.get 6=some lv) {os6:List COp} (hos6:∀ o ∈ os6,o.ok) (sl6:Sl h 71 lv6 os6.length (Wr os6)) (t99:tr.get 99=some (.bool false)) (t100:tr.get 98=some (.bool false)) (t101:tr.get 101=some lv6) (t105:tr.get 105=some (.int .i64 ni)) (hF:∀ tr' h',Old h h'→tr'.get 1=tr.get 1→tr'.get 2=tr.get 2→tr'.get 3=some nsl→tr'.get 4=some (.int .i64 (i:Int))→tr'.get 5=some (.int .i64 (k:Int))→tr'.get 108=some (.bool false)→F ⟨⟨149,tr'⟩,[],h'⟩):Xj0 (E b) (Qsz Tryd.prog (E b).G) Qc0 Ye F 3 (lb 44 2199023255551) ⟨⟨149,tr⟩,[],h⟩:=by
 refine Qjy 41 (by kernel_rfl) (listed':=lb 44 4398046511103) (by kernel_rfl) ?_
 rw[Vf rfl]
 simp[t3,t4,t5,t6,ian,iak,t99,t101,t105]
 refine Yww b SO (by omega) sl6 hos6 (LaidIn.old laid a0) _ fun h2 a2 => ?_
 simp
 refine Qjy 42 (by kernel_rfl) (listed':=lb 44 8796093022207) (by kernel_rfl) ?_
 rw[Vf rfl]
 simp[t3,t4,t5,t6,ian,iak,t99]
 refine Qjy 43 (by kernel_rfl) (listed':=lb 44 17592186044415) (by kernel_rfl) ?_
 rw[Vf rfl]
 simp[t3,t4,t5,t6,ian,iak,t99]
 refine Ymx (by kernel_rfl) ?_
 exact hF _ _ a2 (by simp) (by simp) (by simp[t3]) (by simp[t4]) (by simp[t5]) (by simp)
end
section
attribute [local simp] Yd kON kOC Yi kNN kNP kRR kRP kEN kER Q5 Xh Zz Zf aop Qh nth Ab.g0 gv gs Q4 Qe aev evs evO Qk Tr.get_put St.put Tm.put flat flatA Zd Qn Qq Qp Qr Qm Qo Qs Qu Ql Q7 Q8 kTN kTR kTX kTP kBN kBR kBX kBP kCS kCR kCE kAM Yh.putAll X6 Qa Q3 Q0 Qd Qb Qf Q1 Q2 Q9
set_option maxHeartbeats 8000000 in
theorem Zaj(b:Nat)(SO:Qmb b){h0 h:Heap}(laid:Ab.LaidIn h0 Qbj){nsl lv lv6:Value}{N i k:Nat}{ni nk:Int}{os:List COp}{F:St→Prop}
  (hni : -9223372036854775808≤ni∧ni≤9223372036854775807) (a0:Old h0 h) (hos:∀ o ∈ os,o.ok∧o.bytes) (sl:Sl h 71 lv os.length (Wr os)) (ian:J2 (E b).toEnv 53 nsl (.int .i64 (i:Int))=some (.pointer (some ⟨N,i,none⟩))) (iak:J2 (E b).toEnv 53 nsl (.int .i64 (k:Int))=some (.pointer (some ⟨N,k,none⟩))) (cni:∀ h',Old h0 h'→Vs h' N i=some (.int .i64 ni)) (cnk:∀ h',Old h0 h'→Vs h' N k=some (.int .i64 nk)) {tr:Tr Value} (t3:tr.get 3=some nsl) (t4:tr.get 4=some (.int .i64 (i:Int))) (t5:tr.get 5=some (.int .i64 (k:Int))) (t6:tr.get 6=some lv) (hnk : -9223372036854775808≤nk∧nk≤9223372036854775807) {os6:List COp} (hos6:∀ o ∈ os6,o.ok) (sl6:Sl h 71 lv6 os6.length (Wr os6)) (cut:∀ h',Qf8 (E b).toEnv 22 lv none (some (.int .i64 6)) none h'=some (lv6,h')) (t68:tr.get 68=some (.int .i64 ni)) (t72:tr.get 72=some (.int .i64 nk)) (t73:tr.get 73=some lv) (hF:∀ tr' h',Old h h'→tr'.get 1=tr.get 1→tr'.get 2=tr.get 2→tr'.get 3=some nsl→tr'.get 4=some (.int .i64 (i:Int))→tr'.get 5=some (.int .i64 (k:Int))→tr'.get 108=some (.bool false)→F ⟨⟨149,tr'⟩,[],h'⟩):Xj0 (E b) (Qsz Tryd.prog (E b).G) Qc0 Ye F 35 (lb 44 511) ⟨⟨149,tr⟩,[],h⟩:=by
 have os1:∀ o ∈ os,o.ok:=fun o ho=>(hos o ho).1
 refine Qjy 9 (by kernel_rfl) (listed':=lb 44 1023) (by kernel_rfl) ?_
 rw[Vf rfl]
 simp[Ye,Xt,Y6,Y1,V3,Va,Yg,Vv,Xv,V2,Jk,Jn,Xs,Xd,Xc,Qc,Xp,Xq,Xm,Xn,Xl,Y0,Ve,Yr,Js,Ju,Qt,Xr,Xj,Xi,Xf,Xo,t3,t4,t5,t6,ian,iak,t68,t72,t73]
 refine Yqa b SO hni sl hos (LaidIn.old laid a0) _ fun h2 a2 => ?_
 simp[Ye,Xt,Y6,Y1,V3,Va,Yg,Vv,Xv,V2,Jk,Jn,Xs,Xd,Xc,Qc,Xp,Xq,Xm,Xn,Xl,Y0,Ve,Yr,Js,Ju,Qt,Xr,Xj,Xi,Xf,Xo]
 refine Qjy 10 (by kernel_rfl) (listed':=lb 44 2047) (by kernel_rfl) ?_
 rw[Vf rfl]
 simp[Ye,Xt,Y6,Y1,V3,Va,Yg,Vv,Xv,V2,Jk,Jn,Xs,Xd,Xc,Qc,Xp,Xq,Xm,Xn,Xl,Y0,Ve,Yr,Js,Ju,Qt,Xr,Xj,Xi,Xf,Xo,t3,t4,t5,t6,ian,iak]
 refine Qfl 11 (h1:=rfl) rfl (by kernel_rfl) (by kernel_rfl) (by kernel_rfl) (by simp[Ye]) (by simp[Xt,Y6,Y1,V3,Va,Yg,Vv,Xv,V2,Jk,Jn,Xs,Xd,Xc,Qc,Xp,Xq,Xm,Xn,Xl,Y0,Ve,Yr,Js,Ju,Qt,Xr,Xj,Xi,Xf,Xo,t3,t4,t5,t6,ian,iak];rfl) rfl (listed':=lb 44 4095) (by kernel_rfl) ?_
 simp only[Q4,St.put,Tm.put]
 refine Qfl 12 (h1:=rfl) rfl (by kernel_rfl) (by kernel_rfl) (by kernel_rfl) (by simp[Ye]) (by simp[Xt,Y6,Y1,V3,Va,Yg,Vv,Xv,V2,Jk,Jn,Xs,Xd,Xc,Qc,Xp,Xq,Xm,Xn,Xl,Y0,Ve,Yr,Js,Ju,Qt,Xr,Xj,Xi,Xf,Xo,t3,t4,t5,t6,ian,iak];rfl) rfl (listed':=lb 44 8191) (by kernel_rfl) ?_
 simp only[Q4,St.put,Tm.put]
 refine Qjy 13 (by kernel_rfl) (listed':=lb 44 16383) (by kernel_rfl) ?_
 rw[Vf rfl]
 simp[Ye,Xt,Y6,Y1,V3,Va,Yg,Vv,Xv,V2,Jk,Jn,Xs,Xd,Xc,Qc,Xp,Xq,Xm,Xn,Xl,Y0,Ve,Yr,Js,Ju,Qt,Xr,Xj,Xi,Xf,Xo,t3,t4,t5,t6,ian,iak]
 refine Yqa b SO (by omega) (sl.old a2) hos (LaidIn.old laid (a0.trans a2)) _ fun h3 a3' => ?_
 simp[Ye,Xt,Y6,Y1,V3,Va,Yg,Vv,Xv,V2,Jk,Jn,Xs,Xd,Xc,Qc,Xp,Xq,Xm,Xn,Xl,Y0,Ve,Yr,Js,Ju,Qt,Xr,Xj,Xi,Xf,Xo]
 have a3:=a2.trans a3'
 refine Qjy 14 (by kernel_rfl) (listed':=lb 44 32767) (by kernel_rfl) ?_
 rw[Vf rfl]
 simp[Ye,Xt,Y6,Y1,V3,Va,Yg,Vv,Xv,V2,Jk,Jn,Xs,Xd,Xc,Qc,Xp,Xq,Xm,Xn,Xl,Y0,Ve,Yr,Js,Ju,Qt,Xr,Xj,Xi,Xf,Xo,t3,t4,t5,t6,ian,iak]
 refine Qjy 15 (by kernel_rfl) (listed':=lb 44 65535) (by kernel_rfl) ?_
 rw[Vf rfl]
 simp[Ye,Xt,Y6,Y1,V3,Va,Yg,Vv,Xv,V2,Jk,Jn,Xs,Xd,Xc,Qc,Xp,Xq,Xm,Xn,Xl,Y0,Ve,Yr,Js,Ju,Qt,Xr,Xj,Xi,Xf,Xo,t3,t4,t5,t6,ian,iak]
 refine Qfl 16 (h1:=rfl) rfl (by kernel_rfl) (by kernel_rfl) (by kernel_rfl) (by simp[Ye]) (by simp[Xt,Y6,Y1,V3,Va,Yg,Vv,Xv,V2,Jk,Jn,Xs,Xd,Xc,Qc,Xp,Xq,Xm,Xn,Xl,Y0,Ve,Yr,Js,Ju,Qt,Xr,Xj,Xi,Xf,Xo,t3,t4,t5,t6,ian,iak];rfl) rfl (listed':=lb 44 131071) (by kernel_rfl) ?_
 simp only[Q4,St.put,Tm.put]
 refine Qfl 17 (h1:=rfl) rfl (by kernel_rfl) (by kernel_rfl) (by kernel_rfl) (by simp[Ye]) (by simp[Xt,Y6,Y1,V3,Va,Yg,Vv,Xv,V2,Jk,Jn,Xs,Xd,Xc,Qc,Xp,Xq,Xm,Xn,Xl,Y0,Ve,Yr,Js,Ju,Qt,Xr,Xj,Xi,Xf,Xo,t3,t4,t5,t6,ian,iak];rfl) rfl (listed':=lb 44 262143) (by kernel_rfl) ?_
 simp only[Q4,St.put,Tm.put]
 refine Qfl 18 (h1:=rfl) rfl (by kernel_rfl) (by kernel_rfl) (by kernel_rfl) (by simp[Ye]) (by simp[Xt,Y6,Y1,V3,Va,Yg,Vv,Xv,V2,Jk,Jn,Xs,Xd,Xc,Qc,Xp,Xq,Xm,Xn,Xl,Y0,Ve,Yr,Js,Ju,Qt,Xr,Xj,Xi,Xf,Xo,t3,t4,t5,t6,ian,iak];rfl) rfl (listed':=lb 44 524287) (by kernel_rfl) ?_
 simp only[Q4,St.put,Tm.put]
 refine Qfl 19 (h1:=rfl) rfl (by kernel_rfl) (by kernel_rfl) (by kernel_rfl) (by simp[Ye]) (by simp[Xt,Y6,Y1,V3,Va,Yg,Vv,Xv,V2,Jk,Jn,Xs,Xd,Xc,Qc,Xp,Xq,Xm,Xn,Xl,Y0,Ve,Yr,Js,Ju,Qt,Xr,Xj,Xi,Xf,Xo,t3,t4,t5,t6,ian,iak];rfl) rfl (listed':=lb 44 1048575) (by kernel_rfl) ?_
 simp only[Q4,St.put,Tm.put]
 refine Qfl 21 (h1:=rfl) rfl (by kernel_rfl) (by kernel_rfl) (by kernel_rfl) (by simp[Ye]) (by simp[Xt,Y6,Y1,V3,Va,Yg,Vv,Xv,V2,Jk,Jn,Xs,Xd,Xc,Qc,Xp,Xq,Xm,Xn,Xl,Y0,Ve,Yr,Js,Ju,Qt,Xr,Xj,Xi,Xf,Xo,t3,t4,t5,t6,ian,iak];rfl) rfl (listed':=lb 44 3145727) (by kernel_rfl) ?_
 simp only[Q4,St.put,Tm.put]
 have c3:=cni h3 (a0.trans a3)
 refine Qjy 20 (by kernel_rfl) (listed':=lb 44 4194303) (by kernel_rfl) ?_
 rw[Vf rfl]
 simp[Ye,Xt,Y6,Y1,V3,Va,Yg,Vv,Xv,V2,Jk,Jn,Xs,Xd,Xc,Qc,Xp,Xq,Xm,Xn,Xl,Y0,Ve,Yr,Js,Ju,Qt,Xr,Xj,Xi,Xf,Xo,t3,t4,t5,t6,ian,iak,c3]
 refine Qjy 22 (by kernel_rfl) (listed':=lb 44 8388607) (by kernel_rfl) ?_
 rw[Vf rfl]
 simp[Ye,Xt,Y6,Y1,V3,Va,Yg,Vv,Xv,V2,Jk,Jn,Xs,Xd,Xc,Qc,Xp,Xq,Xm,Xn,Xl,Y0,Ve,Yr,Js,Ju,Qt,Xr,Xj,Xi,Xf,Xo,t3,t4,t5,t6,ian,iak]
 refine Yro b SO hni (sl.old a3) os1 (LaidIn.old laid (a0.trans a3)) _ fun h4 a4' => ?_
 simp[Ye,Xt,Y6,Y1,V3,Va,Yg,Vv,Xv,V2,Jk,Jn,Xs,Xd,Xc,Qc,Xp,Xq,Xm,Xn,Xl,Y0,Ve,Yr,Js,Ju,Qt,Xr,Xj,Xi,Xf,Xo]
 have a4:=a3.trans a4'
 refine Qjy 23 (by kernel_rfl) (listed':=lb 44 16777215) (by kernel_rfl) ?_
 rw[Vf rfl]
 simp[Ye,Xt,Y6,Y1,V3,Va,Yg,Vv,Xv,V2,Jk,Jn,Xs,Xd,Xc,Qc,Xp,Xq,Xm,Xn,Xl,Y0,Ve,Yr,Js,Ju,Qt,Xr,Xj,Xi,Xf,Xo,t3,t4,t5,t6,ian,iak]
 refine Qjy 24 (by kernel_rfl) (listed':=lb 44 33554431) (by kernel_rfl) ?_
 rw[Vf rfl]
 simp[Ye,Xt,Y6,Y1,V3,Va,Yg,Vv,Xv,V2,Jk,Jn,Xs,Xd,Xc,Qc,Xp,Xq,Xm,Xn,Xl,Y0,Ve,Yr,Js,Ju,Qt,Xr,Xj,Xi,Xf,Xo,t3,t4,t5,t6,ian,iak]
 refine Qfl 25 (h1:=rfl) rfl (by kernel_rfl) (by kernel_rfl) (by kernel_rfl) (by simp[Ye]) (by simp[Xt,Y6,Y1,V3,Va,Yg,Vv,Xv,V2,Jk,Jn,Xs,Xd,Xc,Qc,Xp,Xq,Xm,Xn,Xl,Y0,Ve,Yr,Js,Ju,Qt,Xr,Xj,Xi,Xf,Xo,t3,t4,t5,t6,ian,iak];rfl) rfl (listed':=lb 44 67108863) (by kernel_rfl) ?_
 simp only[Q4,St.put,Tm.put]
 refine Qfl 26 (h1:=rfl) rfl (by kernel_rfl) (by kernel_rfl) (by kernel_rfl) (by simp[Ye]) (by simp[Xt,Y6,Y1,V3,Va,Yg,Vv,Xv,V2,Jk,Jn,Xs,Xd,Xc,Qc,Xp,Xq,Xm,Xn,Xl,Y0,Ve,Yr,Js,Ju,Qt,Xr,Xj,Xi,Xf,Xo,t3,t4,t5,t6,ian,iak];rfl) rfl (listed':=lb 44 134217727) (by kernel_rfl) ?_
 simp only[Q4,St.put,Tm.put]
 refine Qfl 27 (h1:=rfl) rfl (by kernel_rfl) (by kernel_rfl) (by kernel_rfl) (by simp[Ye]) (by simp[Xt,Y6,Y1,V3,Va,Yg,Vv,Xv,V2,Jk,Jn,Xs,Xd,Xc,Qc,Xp,Xq,Xm,Xn,Xl,Y0,Ve,Yr,Js,Ju,Qt,Xr,Xj,Xi,Xf,Xo,t3,t4,t5,t6,ian,iak];rfl) rfl (listed':=lb 44 268435455) (by kernel_rfl) ?_
 simp only[Q4,St.put,Tm.put]
 refine Qfl 28 (h1:=rfl) rfl (by kernel_rfl) (by kernel_rfl) (by kernel_rfl) (by simp[Ye]) (by simp[Xt,Y6,Y1,V3,Va,Yg,Vv,Xv,V2,Jk,Jn,Xs,Xd,Xc,Qc,Xp,Xq,Xm,Xn,Xl,Y0,Ve,Yr,Js,Ju,Qt,Xr,Xj,Xi,Xf,Xo,t3,t4,t5,t6,ian,iak];rfl) rfl (listed':=lb 44 536870911) (by kernel_rfl) ?_
 simp only[Q4,St.put,Tm.put]
 refine Qfl 29 (h1:=rfl) rfl (by kernel_rfl) (by kernel_rfl) (by kernel_rfl) (by simp[Ye]) (by simp[Xt,Y6,Y1,V3,Va,Yg,Vv,Xv,V2,Jk,Jn,Xs,Xd,Xc,Qc,Xp,Xq,Xm,Xn,Xl,Y0,Ve,Yr,Js,Ju,Qt,Xr,Xj,Xi,Xf,Xo,t3,t4,t5,t6,ian,iak];rfl) rfl (listed':=lb 44 1073741823) (by kernel_rfl) ?_
 simp only[Q4,St.put,Tm.put]
 have c4:=cnk h4 (a0.trans a4)
 refine Qjy 30 (by kernel_rfl) (listed':=lb 44 2147483647) (by kernel_rfl) ?_
 rw[Vf rfl]
 simp[Ye,Xt,Y6,Y1,V3,Va,Yg,Vv,Xv,V2,Jk,Jn,Xs,Xd,Xc,Qc,Xp,Xq,Xm,Xn,Xl,Y0,Ve,Yr,Js,Ju,Qt,Xr,Xj,Xi,Xf,Xo,t3,t4,t5,t6,ian,iak,c4]
 refine Qjy 31 (by kernel_rfl) (listed':=lb 44 4294967295) (by kernel_rfl) ?_
 rw[Vf rfl]
 simp[Ye,Xt,Y6,Y1,V3,Va,Yg,Vv,Xv,V2,Jk,Jn,Xs,Xd,Xc,Qc,Xp,Xq,Xm,Xn,Xl,Y0,Ve,Yr,Js,Ju,Qt,Xr,Xj,Xi,Xf,Xo,t3,t4,t5,t6,ian,iak]
 refine Y4i b SO (by omega) (sl.old a4) os1 (LaidIn.old laid (a0.trans a4)) _ fun h5 a5' => ?_
 simp[Ye,Xt,Y6,Y1,V3,Va,Yg,Vv,Xv,V2,Jk,Jn,Xs,Xd,Xc,Qc,Xp,Xq,Xm,Xn,Xl,Y0,Ve,Yr,Js,Ju,Qt,Xr,Xj,Xi,Xf,Xo]
 have a5:=a4.trans a5'
 refine Qjy 32 (by kernel_rfl) (listed':=lb 44 8589934591) (by kernel_rfl) ?_
 rw[Vf rfl]
 simp[Ye,Xt,Y6,Y1,V3,Va,Yg,Vv,Xv,V2,Jk,Jn,Xs,Xd,Xc,Qc,Xp,Xq,Xm,Xn,Xl,Y0,Ve,Yr,Js,Ju,Qt,Xr,Xj,Xi,Xf,Xo,t3,t4,t5,t6,ian,iak]
 refine Qjy 33 (by kernel_rfl) (listed':=lb 44 17179869183) (by kernel_rfl) ?_
 rw[Vf rfl]
 simp[Ye,Xt,Y6,Y1,V3,Va,Yg,Vv,Xv,V2,Jk,Jn,Xs,Xd,Xc,Qc,Xp,Xq,Xm,Xn,Xl,Y0,Ve,Yr,Js,Ju,Qt,Xr,Xj,Xi,Xf,Xo,t3,t4,t5,t6,ian,iak]
 refine Qfl 34 (h1:=rfl) rfl (by kernel_rfl) (by kernel_rfl) (by kernel_rfl) (by simp[Ye]) (by simp[Xt,Y6,Y1,V3,Va,Yg,Vv,Xv,V2,Jk,Jn,Xs,Xd,Xc,Qc,Xp,Xq,Xm,Xn,Xl,Y0,Ve,Yr,Js,Ju,Qt,Xr,Xj,Xi,Xf,Xo,t3,t4,t5,t6,ian,iak];rfl) rfl (listed':=lb 44 34359738367) (by kernel_rfl) ?_
 simp only[Q4,St.put,Tm.put]
 refine Qfl 35 (h1:=rfl) rfl (by kernel_rfl) (by kernel_rfl) (by kernel_rfl) (by simp[Ye]) (by simp[Xt,Y6,Y1,V3,Va,Yg,Vv,Xv,V2,Jk,Jn,Xs,Xd,Xc,Qc,Xp,Xq,Xm,Xn,Xl,Y0,Ve,Yr,Js,Ju,Qt,Xr,Xj,Xi,Xf,Xo,t3,t4,t5,t6,ian,iak];rfl) rfl (listed':=lb 44 68719476735) (by kernel_rfl) ?_
 simp only[Q4,St.put,Tm.put]
 refine Qfl 37 (h1:=rfl) rfl (by kernel_rfl) (by kernel_rfl) (by kernel_rfl) (by simp[Ye]) (by simp[Xt,Y6,Y1,V3,Va,Yg,Vv,Xv,V2,Jk,Jn,Xs,Xd,Xc,Qc,Xp,Xq,Xm,Xn,Xl,Y0,Ve,Yr,Js,Ju,Qt,Xr,Xj,Xi,Xf,Xo,t3,t4,t5,t6,ian,iak];rfl) rfl (listed':=lb 44 206158430207) (by kernel_rfl) ?_
 simp only[Q4,St.put,Tm.put]
 refine Qfl 38 (h1:=rfl) rfl (by kernel_rfl) (by kernel_rfl) (by kernel_rfl) (by simp[Ye]) (by simp[Xt,Y6,Y1,V3,Va,Yg,Vv,Xv,V2,Jk,Jn,Xs,Xd,Xc,Qc,Xp,Xq,Xm,Xn,Xl,Y0,Ve,Yr,Js,Ju,Qt,Xr,Xj,Xi,Xf,Xo,t3,t4,t5,t6,ian,iak];rfl) rfl (listed':=lb 44 481036337151) (by kernel_rfl) ?_
 simp only[Q4,St.put,Tm.put]
 refine Qfl 39 (h1:=rfl) rfl (by kernel_rfl) (by kernel_rfl) (by kernel_rfl) (by simp[Ye]) (by simp[Xt,Y6,Y1,V3,Va,Yg,Vv,Xv,V2,Jk,Jn,Xs,Xd,Xc,Qc,Xp,Xq,Xm,Xn,Xl,Y0,Ve,Yr,Js,Ju,Qt,Xr,Xj,Xi,Xf,Xo,t3,t4,t5,t6,ian,iak];rfl) rfl (listed':=lb 44 1030792151039) (by kernel_rfl) ?_
 simp only[Q4,St.put,Tm.put]
 have c5:=cni h5 (a0.trans a5)
 refine Yvd 36 40 (by kernel_rfl) (by kernel_rfl:_=lb 44 1099511627775) (by kernel_rfl:_=lb 44 2130303778815) ?_ ?_
 ·skip
  rw[Vf rfl]
  simp[Ye,Xt,Y6,Y1,V3,Va,Yg,Vv,Xv,V2,Jk,Jn,Xs,Xd,Xc,Qc,Xp,Xq,Xm,Xn,Xl,Y0,Ve,Yr,Js,Ju,Qt,Xr,Xj,Xi,Xf,Xo,t3,t4,t5,t6,ian,iak,cut,c5]
  refine Qjy 40 (by kernel_rfl) (listed':=lb 44 2199023255551) (by kernel_rfl) ?_
  rw[Vf rfl]
  simp[Ye,Xt,Y6,Y1,V3,Va,Yg,Vv,Xv,V2,Jk,Jn,Xs,Xd,Xc,Qc,Xp,Xq,Xm,Xn,Xl,Y0,Ve,Yr,Js,Ju,Qt,Xr,Xj,Xi,Xf,Xo,t3,t4,t5,t6,ian,iak,cut,c5]
  refine Zae b SO laid hni (a0.trans a5) hos (sl.old a5) ian iak cni cnk (by simp[t3]) (by simp[t4]) (by simp[t5]) (by simp[t6]) hos6 (sl6.old a5) (by simp) (by simp) (by simp) (by simp) fun tr' h' a e1 e2 e3 e4 e5 e6=>hF tr' h' (a5.trans a) ?_ ?_ e3 e4 e5 e6
  ·rw[e1];simp
  ·rw[e2];simp
 ·skip
  rw[Vf rfl]
  simp[Ye,Xt,Y6,Y1,V3,Va,Yg,Vv,Xv,V2,Jk,Jn,Xs,Xd,Xc,Qc,Xp,Xq,Xm,Xn,Xl,Y0,Ve,Yr,Js,Ju,Qt,Xr,Xj,Xi,Xf,Xo,t3,t4,t5,t6,ian,iak,cut,c5]
  refine Qjy 36 (by kernel_rfl) (listed':=lb 44 2199023255551) (by kernel_rfl) ?_
  rw[Vf rfl]
  simp[Ye,Xt,Y6,Y1,V3,Va,Yg,Vv,Xv,V2,Jk,Jn,Xs,Xd,Xc,Qc,Xp,Xq,Xm,Xn,Xl,Y0,Ve,Yr,Js,Ju,Qt,Xr,Xj,Xi,Xf,Xo,t3,t4,t5,t6,ian,iak,cut,c5]
  refine Zae b SO laid hni (a0.trans a5) hos (sl.old a5) ian iak cni cnk (by simp[t3]) (by simp[t4]) (by simp[t5]) (by simp[t6]) hos6 (sl6.old a5) (by simp) (by simp) (by simp) (by simp) fun tr' h' a e1 e2 e3 e4 e5 e6=>hF tr' h' (a5.trans a) ?_ ?_ e3 e4 e5 e6
  ·rw[e1];simp
  ·rw[e2];simp
set_option maxHeartbeats 8000000 in
theorem Zay(b:Nat)(SO:Qmb b){h0 h:Heap}(laid:Ab.LaidIn h0 Qbj){nsl lv lv6:Value}{N i k:Nat}{ni nk:Int}{os:List COp}{F:St→Prop}
  (hni : -9223372036854775808≤ni∧ni≤9223372036854775807) (a0:Old h0 h) (hos:∀ o ∈ os,o.ok∧o.bytes) (sl:Sl h 71 lv os.length (Wr os)) (ian:J2 (E b).toEnv 53 nsl (.int .i64 (i:Int))=some (.pointer (some ⟨N,i,none⟩))) (iak:J2 (E b).toEnv 53 nsl (.int .i64 (k:Int))=some (.pointer (some ⟨N,k,none⟩))) (cni:∀ h',Old h0 h'→Vs h' N i=some (.int .i64 ni)) (cnk:∀ h',Old h0 h'→Vs h' N k=some (.int .i64 nk)) {tr:Tr Value} (t3:tr.get 3=some nsl) (t4:tr.get 4=some (.int .i64 (i:Int))) (t5:tr.get 5=some (.int .i64 (k:Int))) (t6:tr.get 6=some lv) (hnk : -9223372036854775808≤nk∧nk≤9223372036854775807) {os6:List COp} (hos6:∀ o ∈ os6,o.ok) (sl6:Sl h 71 lv6 os6.length (Wr os6)) (cut:∀ h',Qf8 (E b).toEnv 22 lv none (some (.int .i64 6)) none h'=some (lv6,h')) (hF:∀ tr' h',Old h h'→tr'.get 1=tr.get 1→tr'.get 2=tr.get 2→tr'.get 3=some nsl→tr'.get 4=some (.int .i64 (i:Int))→tr'.get 5=some (.int .i64 (k:Int))→tr'.get 108=some (.bool false)→F ⟨⟨149,tr'⟩,[],h'⟩):Xj0 (E b) (Qsz Tryd.prog (E b).G) Qc0 Ye F 44 (lb 44 0) ⟨⟨149,tr⟩,[],h⟩:=by
 refine Qfl 0 (h1:=rfl) rfl (by kernel_rfl) (by kernel_rfl) (by kernel_rfl) (by simp[Ye]) (by simp[Xt,Y6,Y1,V3,Va,Yg,Vv,Xv,V2,Jk,Jn,Xs,Xd,Xc,Qc,Xp,Xq,Xm,Xn,Xl,Y0,Ve,Yr,Js,Ju,Qt,Xr,Xj,Xi,Xf,Xo,t3,t4,t5,t6,ian,iak];rfl) rfl (listed':=lb 44 1) (by kernel_rfl) ?_
 simp only[Q4,St.put,Tm.put]
 refine Qfl 1 (h1:=rfl) rfl (by kernel_rfl) (by kernel_rfl) (by kernel_rfl) (by simp[Ye]) (by simp[Xt,Y6,Y1,V3,Va,Yg,Vv,Xv,V2,Jk,Jn,Xs,Xd,Xc,Qc,Xp,Xq,Xm,Xn,Xl,Y0,Ve,Yr,Js,Ju,Qt,Xr,Xj,Xi,Xf,Xo,t3,t4,t5,t6,ian,iak];rfl) rfl (listed':=lb 44 3) (by kernel_rfl) ?_
 simp only[Q4,St.put,Tm.put]
 refine Qfl 2 (h1:=rfl) rfl (by kernel_rfl) (by kernel_rfl) (by kernel_rfl) (by simp[Ye]) (by simp[Xt,Y6,Y1,V3,Va,Yg,Vv,Xv,V2,Jk,Jn,Xs,Xd,Xc,Qc,Xp,Xq,Xm,Xn,Xl,Y0,Ve,Yr,Js,Ju,Qt,Xr,Xj,Xi,Xf,Xo,t3,t4,t5,t6,ian,iak];rfl) rfl (listed':=lb 44 7) (by kernel_rfl) ?_
 simp only[Q4,St.put,Tm.put]
 refine Qfl 4 (h1:=rfl) rfl (by kernel_rfl) (by kernel_rfl) (by kernel_rfl) (by simp[Ye]) (by simp[Xt,Y6,Y1,V3,Va,Yg,Vv,Xv,V2,Jk,Jn,Xs,Xd,Xc,Qc,Xp,Xq,Xm,Xn,Xl,Y0,Ve,Yr,Js,Ju,Qt,Xr,Xj,Xi,Xf,Xo,t3,t4,t5,t6,ian,iak];rfl) rfl (listed':=lb 44 23) (by kernel_rfl) ?_
 simp only[Q4,St.put,Tm.put]
 refine Qfl 5 (h1:=rfl) rfl (by kernel_rfl) (by kernel_rfl) (by kernel_rfl) (by simp[Ye]) (by simp[Xt,Y6,Y1,V3,Va,Yg,Vv,Xv,V2,Jk,Jn,Xs,Xd,Xc,Qc,Xp,Xq,Xm,Xn,Xl,Y0,Ve,Yr,Js,Ju,Qt,Xr,Xj,Xi,Xf,Xo,t3,t4,t5,t6,ian,iak];rfl) rfl (listed':=lb 44 55) (by kernel_rfl) ?_
 simp only[Q4,St.put,Tm.put]
 refine Qfl 6 (h1:=rfl) rfl (by kernel_rfl) (by kernel_rfl) (by kernel_rfl) (by simp[Ye]) (by simp[Xt,Y6,Y1,V3,Va,Yg,Vv,Xv,V2,Jk,Jn,Xs,Xd,Xc,Qc,Xp,Xq,Xm,Xn,Xl,Y0,Ve,Yr,Js,Ju,Qt,Xr,Xj,Xi,Xf,Xo,t3,t4,t5,t6,ian,iak];rfl) rfl (listed':=lb 44 119) (by kernel_rfl) ?_
 simp only[Q4,St.put,Tm.put]
 refine Qfl 8 (h1:=rfl) rfl (by kernel_rfl) (by kernel_rfl) (by kernel_rfl) (by simp[Ye]) (by simp[Xt,Y6,Y1,V3,Va,Yg,Vv,Xv,V2,Jk,Jn,Xs,Xd,Xc,Qc,Xp,Xq,Xm,Xn,Xl,Y0,Ve,Yr,Js,Ju,Qt,Xr,Xj,Xi,Xf,Xo,t3,t4,t5,t6,ian,iak];rfl) rfl (listed':=lb 44 375) (by kernel_rfl) ?_
 simp only[Q4,St.put,Tm.put]
 have c0:=cni h a0
 have c1:=cnk h a0
 refine Yvd 3 7 (by kernel_rfl) (by kernel_rfl:_=lb 44 383) (by kernel_rfl:_=lb 44 503) ?_ ?_
 ·skip
  rw[Vf rfl]
  simp[Ye,Xt,Y6,Y1,V3,Va,Yg,Vv,Xv,V2,Jk,Jn,Xs,Xd,Xc,Qc,Xp,Xq,Xm,Xn,Xl,Y0,Ve,Yr,Js,Ju,Qt,Xr,Xj,Xi,Xf,Xo,t3,t4,t5,t6,ian,iak,c0,c1]
  refine Qjy 7 (by kernel_rfl) (listed':=lb 44 511) (by kernel_rfl) ?_
  rw[Vf rfl]
  simp[Ye,Xt,Y6,Y1,V3,Va,Yg,Vv,Xv,V2,Jk,Jn,Xs,Xd,Xc,Qc,Xp,Xq,Xm,Xn,Xl,Y0,Ve,Yr,Js,Ju,Qt,Xr,Xj,Xi,Xf,Xo,t3,t4,t5,t6,ian,iak,c0,c1]
  refine Zaj b SO laid hni a0 hos sl ian iak cni cnk (by simp[t3]) (by simp[t4]) (by simp[t5]) (by simp[t6]) hnk hos6 sl6 cut (by simp) (by simp) (by simp) fun tr' h' a e1 e2 e3 e4 e5 e6=>hF tr' h' a ?_ ?_ e3 e4 e5 e6
  ·rw[e1];simp
  ·rw[e2];simp
 ·skip
  rw[Vf rfl]
  simp[Ye,Xt,Y6,Y1,V3,Va,Yg,Vv,Xv,V2,Jk,Jn,Xs,Xd,Xc,Qc,Xp,Xq,Xm,Xn,Xl,Y0,Ve,Yr,Js,Ju,Qt,Xr,Xj,Xi,Xf,Xo,t3,t4,t5,t6,ian,iak,c0,c1]
  refine Qjy 3 (by kernel_rfl) (listed':=lb 44 511) (by kernel_rfl) ?_
  rw[Vf rfl]
  simp[Ye,Xt,Y6,Y1,V3,Va,Yg,Vv,Xv,V2,Jk,Jn,Xs,Xd,Xc,Qc,Xp,Xq,Xm,Xn,Xl,Y0,Ve,Yr,Js,Ju,Qt,Xr,Xj,Xi,Xf,Xo,t3,t4,t5,t6,ian,iak,c0,c1]
  refine Zaj b SO laid hni a0 hos sl ian iak cni cnk (by simp[t3]) (by simp[t4]) (by simp[t5]) (by simp[t6]) hnk hos6 sl6 cut (by simp) (by simp) (by simp) fun tr' h' a e1 e2 e3 e4 e5 e6=>hF tr' h' a ?_ ?_ e3 e4 e5 e6
  ·rw[e1];simp
  ·rw[e2];simp
end
end Go.Proofs.YtcokebbiblnonaaDoor
end
noncomputable section
namespace Go.Proofs.YtcokebbiblnonaaDoor
open Go Go.Ab
set_option maxRecDepth 100000
theorem Zaz(b bk:Nat)(h:Heap):Qf8 (E b).toEnv 22 (.slice (some ⟨bk,0,none⟩) 8 8) none (some (.int .i64 6)) none h=some (.slice (some ⟨bk,0,none⟩) 6 8,h):=by kernel_rfl
theorem Q5i:Xof.hash.length=32∧Uq.length=32∧Yor.length=32∧(∀ y ∈ Uq,y < 256)∧∀ y ∈ Yor,y < 256:=⟨rfl,rfl,rfl,by decide,by decide⟩
def Y3h(ni nk:Int)(hs:List Nat):List COp:=[⟨0,0,0,⟨1,7,nk,20,hs⟩,Uq⟩,⟨0,0,0,⟨nk,8,1,ni,Uq⟩,Uq⟩,⟨0,0,0,⟨2,nk,1,5,hs⟩,Uq⟩,⟨2,7,0,Xof,Yor⟩,⟨2,nk,0,Xof,Yor⟩,⟨3,8,0,Xof,Uq⟩,⟨4,0,ni,Xof,Uq⟩,⟨3,7,0,Xof,Uq⟩]
theorem Y07(ni nk:Int){hs:List Nat}(lh:hs.length=32):∀ o ∈ Y3h ni nk hs,o.ok∧o.bytes:=by
 obtain⟨z1,z2,z3,z4,z5⟩:=Q5i
 intro o ho
 simp only[Y3h,List.mem_cons,List.not_mem_nil,or_false]at ho
 rcases ho with rfl | rfl | rfl | rfl | rfl | rfl | rfl | rfl
 ·exact⟨⟨lh,z2⟩,z4⟩
 ·exact⟨⟨z2,z2⟩,z4⟩
 ·exact⟨⟨lh,z2⟩,z4⟩
 ·exact⟨⟨z1,z3⟩,z5⟩
 ·exact⟨⟨z1,z3⟩,z5⟩
 ·exact⟨⟨z1,z2⟩,z4⟩
 ·exact⟨⟨z1,z2⟩,z4⟩
 ·exact⟨⟨z1,z2⟩,z4⟩
section
attribute [local simp] Ab.runT Zy Z9 ldv W5 J3 Zr Jm loadAt Qae V9 aop Qh nth Ab.g0 gv gs Q4 Qe Yd aev evs evO Qk Tr.get_put St.put Tm.put flat flatA Zd Qn Qq Qp Qr Qm Qo Qs Qu Zf Ql Q7 Q8 X6 Qa Q3 Q0 Qd Qb Qf Q1 Q2 Q9 Xt Y6 Y1 V3 Va Yg Vv Xv V2 Jk Jn Xs Xd Xc Qc Xp Xq Xm Xn Xl Y0 Ve Yr Js Ju Qt Xr Xj Xi Xf Xo Yd kON kOC Yi kNN kNP kRR kRP kEN kER Q5 Xh Zz Zf aop Qh nth Ab.g0 gv gs Q4 Qe aev evs evO Qk Tr.get_put St.put Tm.put flat flatA Zd Qn Qq Qp Qr Qm Qo Qs Qu Ql Q7 Q8 kTN kTR kTX kTP kBN kBR kBX kBP kCS kCR kCE kAM Yh.putAll X6 Qa Q3 Q0 Qd Qb Qf Q1 Q2 Q9
set_option maxHeartbeats 8000000 in
theorem Y4q(b:Nat)(SO:Qmb b){h0 h:Heap}(laid:Ab.LaidIn h0 Qbj){nsl:Value}{N B1 B2 i k:Nat}{ni nk:Int}{hs:List Nat}(lh:hs.length=32)(hni : -9223372036854775808≤ni∧ni≤9223372036854775807)(hnk : -9223372036854775808≤nk∧nk≤9223372036854775807)(a0:Old h0 h)
  (ian:J2 (E b).toEnv 53 nsl (.int .i64 (i:Int))=some (.pointer (some ⟨N,i,none⟩))) (iak:J2 (E b).toEnv 53 nsl (.int .i64 (k:Int))=some (.pointer (some ⟨N,k,none⟩))) (cni:∀ h',Old h0 h'→Vs h' N i=some (.int .i64 ni)) (cnk:∀ h',Old h0 h'→Vs h' N k=some (.int .i64 nk)) (g1:∀ h',Old h0 h'→Qcd h' B1 0 32=some (.agg ⟨Yor.map u8v⟩)) (g2:∀ h',Old h0 h'→Qcd h' B2 0 32=some (.agg ⟨hs.map u8v⟩))
  {tr:Tr Value} (t1:tr.get 1=some (.pointer (some ⟨B1,0,none⟩))) (t2:tr.get 2=some (.pointer (some ⟨B2,0,none⟩))) (t3:tr.get 3=some nsl) (t4:tr.get 4=some (.int .i64 (i:Int))) (t5:tr.get 5=some (.int .i64 (k:Int))) {K:Exit→St→Prop}
  (hK:∀ tr' h',Old h h'→tr'.get 1=some (.pointer (some ⟨B1,0,none⟩))→tr'.get 2=some (.pointer (some ⟨B2,0,none⟩))→tr'.get 3=some nsl→tr'.get 4=some (.int .i64 (i:Int))→tr'.get 5=some (.int .i64 (k:Int))→K .normal ⟨⟨149,tr'⟩,[],h'⟩) :
  Wt (E b) (Qsz Tryd.prog (E b).G) (D0 b) none Qlo ⟨⟨149,tr⟩,[],h⟩ K:=by
 have oks:=Y07 ni nk lh
 obtain⟨z1,z2,z3, -, -⟩:=Q5i
 have lc:∀ (w x y z:Int) (l:List Nat),l.length=32→(CRow.mk w x y z l).cells.length=36:=fun w x y z l hl=>CRow.len hl
 obtain⟨r1,er1⟩:∃ r:CRow,r=⟨1,7,nk,20,hs⟩:=⟨_,rfl⟩
 obtain⟨r2,er2⟩:∃ r:CRow,r=⟨nk,8,1,ni,Uq⟩:=⟨_,rfl⟩
 obtain⟨r3,er3⟩:∃ r:CRow,r=⟨2,nk,1,5,hs⟩:=⟨_,rfl⟩
 obtain⟨o1,eo1⟩:∃ o:COp,o=⟨0,0,0,r1,Uq⟩:=⟨_,rfl⟩
 obtain⟨o2,eo2⟩:∃ o:COp,o=⟨0,0,0,r2,Uq⟩:=⟨_,rfl⟩
 obtain⟨o3,eo3⟩:∃ o:COp,o=⟨0,0,0,r3,Uq⟩:=⟨_,rfl⟩
 obtain⟨o4,eo4⟩:∃ o:COp,o=⟨2,7,0,Xof,Yor⟩:=⟨_,rfl⟩
 obtain⟨o5,eo5⟩:∃ o:COp,o=⟨2,nk,0,Xof,Yor⟩:=⟨_,rfl⟩
 obtain⟨o6,eo6⟩:∃ o:COp,o=⟨3,8,0,Xof,Uq⟩:=⟨_,rfl⟩
 obtain⟨o7,eo7⟩:∃ o:COp,o=⟨4,0,ni,Xof,Uq⟩:=⟨_,rfl⟩
 obtain⟨o8,eo8⟩:∃ o:COp,o=⟨3,7,0,Xof,Uq⟩:=⟨_,rfl⟩
 have el:Y3h ni nk hs=[o1,o2,o3,o4,o5,o6,o7,o8]:=by rw[eo1,eo2,eo3,eo4,eo5,eo6,eo7,eo8,er1,er2,er3];rfl
 have b1:Qd0 (E b).toEnv 32 [(0,.int .i64 1),(1,.int .i64 7),(2,.int .i64 nk),(3,.int .i64 20),(4,.agg ⟨hs.map u8v⟩)]=some (.agg ⟨r1.cells⟩):=by rw[er1];exact Xw0 b 1 7 nk 20 (by simp[lh])
 have b2:Qd0 (E b).toEnv 32 [(0,.int .i64 nk),(1,.int .i64 8),(2,.int .i64 1),(3,.int .i64 ni)]=some (.agg ⟨r2.cells⟩):=by rw[er2];exact Yp6 b nk 8 1 ni
 have b3:Qd0 (E b).toEnv 32 [(0,.int .i64 2),(1,.int .i64 nk),(2,.int .i64 1),(3,.int .i64 5),(4,.agg ⟨hs.map u8v⟩)]=some (.agg ⟨r3.cells⟩):=by rw[er3];exact Xw0 b 2 nk 1 5 (by simp[lh])
 have c1:Qd0 (E b).toEnv 34 [(3,.agg ⟨r1.cells⟩)]=some (.agg ⟨o1.cells⟩):=by rw[eo1];exact X1x b (by rw[er1];exact lc _ _ _ _ _ lh)
 have c2:Qd0 (E b).toEnv 34 [(3,.agg ⟨r2.cells⟩)]=some (.agg ⟨o2.cells⟩):=by rw[eo2];exact X1x b (by rw[er2];exact lc _ _ _ _ _ z2)
 have c3:Qd0 (E b).toEnv 34 [(3,.agg ⟨r3.cells⟩)]=some (.agg ⟨o3.cells⟩):=by rw[eo3];exact X1x b (by rw[er3];exact lc _ _ _ _ _ lh)
 have c4:Qd0 (E b).toEnv 34 [(0,.int .i64 2),(1,.int .i64 7),(4,.agg ⟨Yor.map u8v⟩)]=some (.agg ⟨o4.cells⟩):=by rw[eo4];exact Ylh b 2 7 (by simp[z3])
 have c5:Qd0 (E b).toEnv 34 [(0,.int .i64 2),(1,.int .i64 nk),(4,.agg ⟨Yor.map u8v⟩)]=some (.agg ⟨o5.cells⟩):=by rw[eo5];exact Ylh b 2 nk (by simp[z3])
 have c6:Qd0 (E b).toEnv 34 [(0,.int .i64 3),(1,.int .i64 8)]=some (.agg ⟨o6.cells⟩):=by rw[eo6];exact Yfu b 3 8
 have c7:Qd0 (E b).toEnv 34 [(0,.int .i64 4),(2,.int .i64 ni)]=some (.agg ⟨o7.cells⟩):=by rw[eo7];exact Yn2 b 4 ni
 have c8:Qd0 (E b).toEnv 34 [(0,.int .i64 3),(1,.int .i64 7)]=some (.agg ⟨o8.cells⟩):=by rw[eo8];exact Yfu b 3 7
 rw[el]at oks
 have bs:∀ hh,Ub (E b).toEnv 22 8 [(0,.agg ⟨o1.cells⟩),(1,.agg ⟨o2.cells⟩),(2,.agg ⟨o3.cells⟩),(3,.agg ⟨o4.cells⟩),(4,.agg ⟨o5.cells⟩),(5,.agg ⟨o6.cells⟩),(6,.agg ⟨o7.cells⟩),(7,.agg ⟨o8.cells⟩)] hh=some (.slice (some ⟨hh.next,0,none⟩) 8 8,hh.push (.cells true 1 (Wr [o1,o2,o3,o4,o5,o6,o7,o8]))):=fun hh=>X2u b (n:=8) rfl (by decide) (fun o ho=>(oks o ho).1) rfl
 clear eo1 eo2 eo3 eo4 eo5 eo6 eo7 eo8 er1 er2 er3 el
 have ci:=cni h a0
 have ck:=cnk h a0
 have d1:=g1 h a0
 have d2:=g2 h a0
 simp only[Xl]
 refine Qeu [] (by simp) Qwd Qxt Qwo (by simp[Nat.testBit,Q1b,t1,t2,t3,t4,t5,ian,iak,ci,ck,d1,d2,b1,b2,b3,c1,c2,c3,c4,c5,c6,c7,c8,bs];exact⟨rfl,rfl⟩) ?_ ?_
 ·simp[Qdr,Nat.testBit,ci,ck,d1,d2,Qmw]
 simp only[Xn7,Y6y,Xn,Qlz]
 obtain⟨hp,ehp⟩:∃ x,x=h.push (.cells true 1 (Wr [o1,o2,o3,o4,o5,o6,o7,o8])):=⟨_,rfl⟩
 have ap:Old h hp:=by rw[ehp];exact Old.push _ _
 have gp:hp.get h.next=some (.cells true 1 (Wr [o1,o2,o3,o4,o5,o6,o7,o8])):=by rw[ehp,Heap.get_push,if_pos rfl]
 have len8:(Wr [o1,o2,o3,o4,o5,o6,o7,o8]).length=8*71:=by
  have l:=fun o ho=>COp.len (oks o ho).1
  simp at l
  simp[Wr,l]
 have len6:(Wr [o1,o2,o3,o4,o5,o6]).length=6*71:=by
  have l:=fun o ho=>COp.len (oks o ho).1
  simp at l
  simp[Wr,l]
 have sl8:Sl hp 71 (.slice (some ⟨h.next,0,none⟩) 8 8) 8 (Wr [o1,o2,o3,o4,o5,o6,o7,o8]):=.inr ⟨h.next,0,8,true,1,[],[],rfl,by simpa using gp,rfl,len8,by omega,by unfold Qg5;omega,fun q=>by unfold Qg5 at q;omega⟩
 have sl6:Sl hp 71 (.slice (some ⟨h.next,0,none⟩) 6 8) 6 (Wr [o1,o2,o3,o4,o5,o6]):=.inr ⟨h.next,0,8,true,1,[],Wr [o7,o8],rfl,by rw[gp];simp[Wr],rfl,len6,by omega,by unfold Qg5;omega,fun q=>by unfold Qg5 at q;omega⟩
 rw[← ehp]
 clear ehp
 refine Y2n rfl Qw5 ?_
 rw[show Qc0.size=44 by kernel_rfl,show Array.replicate 44 false=lb 44 0 by kernel_rfl]
 refine Zay b SO laid hni (a0.trans ap) oks sl8 ian iak cni cnk (by simp[t3]) (by simp[t4]) (by simp[t5]) (by simp) hnk (os6:=[o1,o2,o3,o4,o5,o6]) (fun o ho=>(oks o (by simp only[List.mem_cons,List.not_mem_nil,or_false]at ho ⊢;rcases ho with q | q | q | q | q | q <;> simp[q])).1) sl6 (Zaz b h.next) fun tr' h' a e1 e2 e3 e4 e5 e6 => ?_
 simp only[X4w,Xn7,Y6y]
 rw[Xm (h:=by simp[e6])]
 exact hK tr' h' (ap.trans a) (by rw[e1];simp[t1]) (by rw[e2];simp[t2]) e3 e4 e5
end
end Go.Proofs.YtcokebbiblnonaaDoor
end
noncomputable section
namespace Go.Proofs.YtcokebbiblnonaaDoor
open Go Go.Ab
set_option maxRecDepth 100000
def kop(hs:List Nat)(i:Nat):COp:=⟨0,0,0,⟨1+((i % 2:Nat):Int),20-(i:Int),1,(i:Int),hs⟩,Uq⟩
def Yqg(hs:List Nat)(m:Nat):List COp:=(List.range m).map fun q=>kop hs (q+1)
theorem Y0e(hs:List Nat)(m:Nat):(Yqg hs m).length=m:=by simp[Yqg]
theorem Yyx(hs:List Nat)(m:Nat):Yqg hs (m+1)=Yqg hs m ++ [kop hs (m+1)]:=by simp[Yqg,List.range_succ]
theorem Yrr{hs:List Nat}(kl:hs.length=32)(i:Nat):(kop hs i).ok∧(kop hs i).bytes:=⟨⟨kl,Q5i.2.1⟩,Q5i.2.2.2.1⟩
theorem Y5e{hs:List Nat}(kl:hs.length=32)(m:Nat):∀ o ∈ Yqg hs m,o.ok∧o.bytes:=fun o ho=>by
 obtain⟨q, -,rfl⟩:=List.mem_map.1 ho
 exact Yrr kl _
theorem Ywz(hs:List Nat){m i:Nat}(hi:i < m):(Yqg hs m)[i]? = some (kop hs (i+1)):=by simp[Yqg,hi]
theorem X44(l r:List COp):Wr (l++r)=Wr l++Wr r:=by simp[Wr]
def KnF(h0:Heap)(B2:Nat)(hs:List Nat)(k:Nat)(s:St):Prop:=∃ (tr:Tr Value) (g:Heap) (lv:Value) (i m:Nat),s=⟨⟨149,tr⟩,[],g⟩∧tr.get 2=some (.pointer (some ⟨B2,0,none⟩))∧tr.get 7=some lv∧tr.get 8=some (.int .i64 (i:Int))∧i=m+1∧m≤19∧k=19-m∧Old h0 g∧Own g h0.next 71 lv m (Wr (Yqg hs m))
section
attribute [local simp] Xt Y6 Y1 V3 Va Yg Vv Xv V2 Jk Jn Xs Xd Xc Qc Xp Xq Xm Xn Xl Y0 Ve Yr Js Ju Qt Xr Xj Xi Xf Xo Yd kON kOC Yi kNN kNP kRR kRP kEN kER Q5 Xh Zz Zf aop Qh nth Ab.g0 gv gs Q4 Qe aev evs evO Qk Tr.get_put St.put Tm.put flat flatA Zd Qn Qq Qp Qr Qm Qo Qs Qu Ql Q7 Q8 kTN kTR kTX kTP kBN kBR kBX kBP kCS kCR kCE kAM Yh.putAll X6 Qa Q3 Q0 Qd Qb Qf Q1 Q2 Q9
set_option maxHeartbeats 8000000 in
theorem Y7b(b:Nat)(SO:Qmb b){h0 g:Heap}(L0:Ab.LaidIn h0 Qbj)(ag:Old h0 g){B2:Nat}{hs:List Nat}(kl:hs.length=32)(G2:∀ h',Old h0 h'→Qcd h' B2 0 32=some (.agg ⟨hs.map u8v⟩)){tr:Tr Value}(t2:tr.get 2=some (.pointer (some ⟨B2,0,none⟩)))(K:AEnd→Heap→Prop)(hk:∀ h',K (.ret (.bool true)) h') :
  Wt (E b) (Qsz Tryd.prog (E b).G) (D0 b) none Qlr ⟨⟨149,tr⟩,[],g⟩ (X1u (E b) (DD b) Qgp K):=by
 simp[t2]
 refine Qgm (KnF h0 B2 hs) 19 ⟨_,g,.slice none 0 0,1,0,rfl,by simp[t2],by simp,by simp,rfl,by omega,rfl,ag,by simpa[Yqg,Wr]using Own.nil⟩ ?_
 clear t2 ag
 rintro k s' ⟨tr,g,lv,i,m,rfl,t2,t7,t8,ei,hm,rfl,ag,ow⟩ _
 by_cases hlt:m < 19
 ·have hlt':(i:Int) < 20:=by omega
  obtain⟨i1,ei1⟩:∃ x:Nat,x=i+1:=⟨_,rfl⟩
  have w1:IntKind.i64.wrap ((i:Int)+1)=(i1:Int):=by rw[Qa9 (by omega) (by omega)];omega
  have w2:IntKind.i64.wrap (20-(i:Int))=20-(i:Int):=Qa9 (by omega) (by omega)
  have d2:=G2 g ag
  obtain⟨f,ef⟩:∃ f:Int,f=1+((i % 2:Nat):Int):=⟨_,rfl⟩
  have wt:IntKind.i64.wrap (1+(i:Int).tmod 2)=f:=by
   rw[Int.tmod_eq_emod_of_nonneg (by omega),Qa9 (by omega) (by omega)]
   omega
  obtain⟨r,er⟩:∃ r:CRow,r=⟨f,20-(i:Int),1,(i:Int),hs⟩:=⟨_,rfl⟩
  obtain⟨o,eo⟩:∃ o:COp,o=kop hs i:=⟨_,rfl⟩
  have eo':o=kop hs (m+1):=by rw[eo,ei]
  have ook:o.ok:=by rw[eo];exact(Yrr kl i).1
  have b1:Qd0 (E b).toEnv 32 [(0,.int .i64 f),(1,.int .i64 (20-(i:Int))),(2,.int .i64 1),(3,.int .i64 (i:Int)),(4,.agg ⟨hs.map u8v⟩)]=some (.agg ⟨r.cells⟩):=by rw[er];exact Xw0 b _ _ _ _ (by simp[kl])
  have c1:Qd0 (E b).toEnv 34 [(3,.agg ⟨r.cells⟩)]=some (.agg ⟨o.cells⟩):=by rw[eo,kop,← ef,← er];exact X1x b (by rw[er];exact CRow.len kl)
  have bs:∀ hh,Ub (E b).toEnv 22 1 [(0,.agg ⟨o.cells⟩)] hh=some (.slice (some ⟨hh.next,0,none⟩) 1 1,hh.push (.cells true 1 (Wr [o]))):=fun hh=>X2u b (n:=1) (os:=[o]) rfl (by decide) (fun q hq=>by rw[List.mem_singleton]at hq;rw[hq];exact ook) rfl
  have hR:R34.bytes=120:=by kernel_rfl
  have lo:(Wr [o]).length=71:=by simp[Wr,COp.len ook]
  obtain⟨v',h6,q1,q2,q3⟩:=Yst (T22 b) Qqu (by omega) ow ag.1 (ys:=Wr [o]) lo (by rw[hR];omega) (by omega)
  have a6:Old h0 h6:=Beyond.old ag ow q3
  simp[t2,t7,t8,hlt',w1,w2,wt,d2,b1,c1,bs,q1]
  exact⟨19-(m+1),by omega,_,h6,v',i1,m+1,rfl,by simp[t2],by simp,by simp,by omega,by omega,rfl,a6,by rw[Yyx,X44,← eo'];exact q2⟩
 have hlt':¬ (i:Int) < 20:=by omega
 simp[t2,t7,t8,hlt']
 have em:m=19:=by omega
 subst em
 have l19:=Y5e kl 19
 have n19:=Y0e hs 19
 obtain⟨k1,u1, -,f1,f2⟩:=Y1i b (i:=18) (o:=kop hs 19) (by rw[n19];exact ow.sl) (fun o ho=>(l19 o ho).1) (Ywz hs (by omega))
 obtain⟨k2,u2, -,f3,f4⟩:=Y1i b (i:=17) (o:=kop hs 18) (by rw[n19];exact ow.sl) (fun o ho=>(l19 o ho).1) (Ywz hs (by omega))
 obtain⟨oA,eA⟩:∃ o,o=kop hs 19:=⟨_,rfl⟩
 obtain⟨oB,eB⟩:∃ o,o=kop hs 18:=⟨_,rfl⟩
 obtain⟨oE,eE⟩:∃ o,o=COp.mk 4 0 9 Xof Uq:=⟨_,rfl⟩
 have okA:oA.ok∧oA.bytes:=by rw[eA];exact Yrr kl _
 have okB:oB.ok∧oB.bytes:=by rw[eB];exact Yrr kl _
 have okE:oE.ok∧oE.bytes:=by rw[eE];exact⟨⟨Q5i.1,Q5i.2.1⟩,Q5i.2.2.2.1⟩
 have f1:J2 (E b).toEnv 22 lv (.int .i64 18)=some (.pointer (some ⟨k1,u1,none⟩)):=f1
 have f3:J2 (E b).toEnv 22 lv (.int .i64 17)=some (.pointer (some ⟨k2,u2,none⟩)):=f3
 rw[← eA]at f2
 rw[← eB]at f4
 have bE:Qd0 (E b).toEnv 34 [(0,.int .i64 4),(2,.int .i64 9)]=some (.agg ⟨oE.cells⟩):=by rw[eE];exact Yn2 b 4 9
 have ok3:∀ o ∈ [oE,oA,oB],o.ok∧o.bytes:=fun o ho=>by
  simp only[List.mem_cons,List.not_mem_nil,or_false]at ho
  rcases ho with rfl | rfl | rfl
  ·exact okE
  ·exact okA
  ·exact okB
 have bs:∀ hh,Ub (E b).toEnv 22 3 [(0,.agg ⟨oE.cells⟩),(1,.agg ⟨oA.cells⟩),(2,.agg ⟨oB.cells⟩)] hh=some (.slice (some ⟨hh.next,0,none⟩) 3 3,hh.push (.cells true 1 (Wr [oE,oA,oB]))):=fun hh=>X2u b (n:=3) (os:=[oE,oA,oB]) rfl (by decide) (fun q hq=>(ok3 q hq).1) rfl
 have l3:(Wr [oE,oA,oB]).length=3*71:=by simp[Wr,COp.len okE.1,COp.len okA.1,COp.len okB.1]
 obtain⟨gp,egp⟩:∃ x,x=g.push (.cells true 1 (Wr [oE,oA,oB])):=⟨_,rfl⟩
 have ap:Old g gp:=by rw[egp];exact Old.push _ _
 have g3:gp.get g.next=some (.cells true 1 (Wr [oE,oA,oB])):=by rw[egp,Heap.get_push,if_pos rfl]
 have sl3:Sl gp 71 (.slice (some ⟨g.next,0,none⟩) 3 3) 3 (Wr [oE,oA,oB]):=.inr ⟨g.next,0,3,true,1,[],[],rfl,by simpa using g3,rfl,l3,by omega,by unfold Qg5;omega,fun q=>by unfold Qg5 at q;omega⟩
 have hR:R34.bytes=120:=by kernel_rfl
 obtain⟨v',h6,q1,q2,q3⟩:=Qt1 (T22 b) Qqu (by omega) (ow.keep (h':=gp) fun c _ hc=>ap.2 c hc) (ag.trans ap).1 (Xcu (T22 b) Qqu sl3) l3 (by rw[hR];omega) (by omega)
 rw[egp]at q1
 have a6:Old h0 h6:=Beyond.old (ag.trans ap) (ow.keep (h':=gp) fun c _ hc=>ap.2 c hc) q3
 refine Qeu [] (by simp) Qw6 Qxo Qwk (by simp[Ab.runT,Zy,Z9,ldv,Nat.testBit,W5,J3,Zr,Jm,loadAt,Qae,V9,Q0z,Q5k,t2,t7,t8,f1,f2,f3,f4,bE,bs,q1];exact⟨rfl,rfl⟩) ?_ ?_
 ·simp[Zy,Z9,Qb6,ldv,Ab.runT,Zy,Z9,ldv,Nat.testBit,W5,J3,Zr,Jm,loadAt,Qae,V9,f1,f2,f3,f4,Qmw]
 obtain⟨L,eL⟩:∃ L,L=Yqg hs 19 ++ [oE,oA,oB]:=⟨_,rfl⟩
 have okL:∀ o ∈ L,o.ok∧o.bytes:=fun o ho=>by
  rw[eL,List.mem_append]at ho
  exact ho.elim (l19 o) (ok3 o)
 have lenL:L.length=22:=by rw[eL];simp[n19]
 have cL:Wr L=Wr (Yqg hs 19)++Wr [oE,oA,oB]:=by rw[eL,X44]
 have c19:(Wr (Yqg hs 19)).length=19*71:=by
  have:=ow.sl.len
  exact this
 have sl22:Sl h6 71 v' L.length (Wr L):=by rw[lenL,cL];exact q2.sl
 clear q1 q2 q3 bs bE f1 f2 f3 f4
 simp
 refine Yqa b SO (by omega) sl22 okL (LaidIn.old L0 a6) _ fun h7 a7 => ?_
 simp
 refine Yro b SO (by omega) (sl22.old a7) (fun o ho=>(okL o ho).1) (LaidIn.old L0 (a6.trans a7)) _ fun h8 a8 => ?_
 obtain⟨v19,hx,s1,s2, -, -,s5⟩:=Yym (T22 b) Qqu (by omega) (sl22.old (a7.trans a8)) (lo:=none) (hi:=some (.int .i64 19)) (l:=0) (hh:=19) rfl (fun room hr=>by rw[lenL]at hr ⊢;simp[Qep];omega) (by omega) (by rw[lenL];omega)
 obtain rfl:hx=h8:=(s5 rfl).1
 have sl19:Sl hx 71 v19 (Yqg hs 19).length (Wr (Yqg hs 19)):=by
  rw[Nat.zero_mul,List.drop_zero,Nat.sub_zero,cL,List.take_append_of_le_length (by omega),List.take_of_length_le (by omega)]at s2
  rw[n19]
  exact s2
 simp[s1]
 refine Yww b SO (by omega) sl19 (fun o ho=>(l19 o ho).1) (LaidIn.old L0 ((a6.trans a7).trans a8)) _ fun h9 a9 => ?_
 simp
 refine(Qnf b (LaidIn.old L0 (((a6.trans a7).trans a8).trans a9)) _ ?_).ok
 simp
 exact hk _
end
end Go.Proofs.YtcokebbiblnonaaDoor
end
noncomputable section
namespace Go.Proofs.YtcokebbiblnonaaDoor
open Go Go.Ab
set_option maxRecDepth 100000
def KnI(h0:Heap)(nsl:Value)(B1 B2:Nat)(k:Nat)(s:St):Prop:=∃ (tr:Tr Value) (g:Heap) (i:Nat),s=⟨⟨149,tr⟩,[],g⟩∧tr.get 1=some (.pointer (some ⟨B1,0,none⟩))∧tr.get 2=some (.pointer (some ⟨B2,0,none⟩))∧tr.get 3=some nsl∧tr.get 4=some (.int .i64 (i:Int))∧i≤12∧k=12-i∧Old h0 g
def KnJ(h0:Heap)(nsl:Value)(B1 B2 i:Nat)(k:Nat)(s:St):Prop:=∃ (tr:Tr Value) (g:Heap) (j:Nat),s=⟨⟨149,tr⟩,[],g⟩∧tr.get 1=some (.pointer (some ⟨B1,0,none⟩))∧tr.get 2=some (.pointer (some ⟨B2,0,none⟩))∧tr.get 3=some nsl∧tr.get 4=some (.int .i64 (i:Int))∧tr.get 5=some (.int .i64 (j:Int))∧j≤12∧k=12-j∧Old h0 g
theorem Y5u:∀ x ∈ Y3g, -9223372036854775808≤x∧x≤9223372036854775807:=by decide
theorem Yz4{i:Nat}(hi:i < 12):∃ x,Y3g[i]? = some x ∧ -9223372036854775808≤x∧x≤9223372036854775807:=by
 have hl:i < Y3g.length:=hi
 exact⟨Y3g[i],List.getElem?_eq_getElem hl,Y5u _ (List.getElem_mem hl)⟩
section
attribute [local simp] Xt Y6 Y1 Va Yg Vv Xv V2 Jk Jn Xs Xd Xc Qc Xp Xq Xm Xn Y0 Ve Yr Js Ju Qt Xr Xj Xi Xf Yd kON kOC Yi kNN kNP kRR kRP kEN kER Q5 Xh Zz Zf aop Qh nth Ab.g0 gv gs Q4 Qe aev evs evO Qk Tr.get_put St.put Tm.put flat flatA Zd Qn Qq Qp Qr Qm Qo Qs Qu Ql Q7 Q8 kTN kTR kTX kTP kBN kBR kBX kBP kCS kCR kCE kAM Yh.putAll X6 Qa Q3 Q0 Qd Qb Qf Q1 Q2 Q9
set_option maxHeartbeats 8000000 in
theorem Y0z(b:Nat)(SO:Qmb b){h:Heap}(laid:Ab.LaidIn h Qbj)(K:AEnd→Heap→Prop)(hk:∀ h',K (.ret (.bool true)) h'):CallOK Tryd.prog (E b).G 7 [] h K:=by
 refine Xou (E b) (Qk0 _ _) (Qh9 b) (Qc4 b) mixed (Qhf b) (Y1 b) Xb3 Xrq Xpc rfl ?_
 obtain⟨zz,ez⟩:∃ z:List Value,z=Uq.map u8v:=⟨_,rfl⟩
 have alH:∀ hh,Qfm (E b).toEnv 30 hh=some (.pointer (some ⟨hh.next,0,none⟩),hh.push (.cells true 1 zz)):=fun hh=>by rw[ez];exact V3 b hh
 have lz:zz.length=32:=by rw[ez];rfl
 obtain⟨xs4,e4⟩:∃ z:List Value,z=Yor.map u8v:=⟨_,rfl⟩
 have l4:xs4.length=32:=by rw[e4];rfl
 have bh:Qd0 (E b).toEnv 30 [(0,.int .u8 4)]=some (.agg ⟨xs4⟩):=by rw[e4];exact Y0a b
 obtain⟨h1,s1,a1,g1⟩:=Qza (h:=h) (zs:=zz) (xs:=xs4) (l4.trans lz.symm)
 simp[V3,Xl,Xo,-V3,alH,bh,s1,l4,Ybf]
 have sA:SN h1 (.slice (some ⟨h.next,0,none⟩) 32 32) Yor:=.inr ⟨h.next,0,32,true,1,[],[],rfl,by rw[g1,e4];simp,rfl,by simp[Q5i.2.2.1],by have:=Q5i.2.2.1;omega,by unfold Qg5;omega,fun q=>by unfold Qg5 at q;omega⟩
 refine(Yx7 b (LaidIn.old laid a1) sA (by rw[Q5i.2.2.1];omega) _ fun h2 a2 => ?_).ok
 have kl:(Bl.keyed1 [] Yor).length=32:=Qta _
 obtain⟨hs,ehs⟩:∃ x,x=Bl.keyed1 [] Yor:=⟨_,rfl⟩
 rw[← ehs]at kl ⊢
 obtain⟨h3,s3,a3,g3⟩:=Qza (h:=h2) (zs:=zz) (xs:=hs.map u8v) (by rw[List.length_map,kl,lz])
 simp[V3,Xl,Xo,-V3,alH,s3,kl,Ytw]
 obtain⟨h0,eh0⟩:∃ x,x=h3.push (.cells true 1 (Xu9 Y3g)):=⟨_,rfl⟩
 have a0:Old h3 h0:=by rw[eh0];exact Old.push _ _
 have gN:h0.get h3.next=some (.cells true 1 (Xu9 Y3g)):=by rw[eh0,Heap.get_push,if_pos rfl]
 obtain⟨nsl,en⟩:∃ x:Value,x=.slice (some ⟨h3.next,0,none⟩) 12 12:=⟨_,rfl⟩
 have G1:∀ h',Old h0 h'→Qcd h' h.next 0 32=some (.agg ⟨Yor.map u8v⟩):=fun h' a=>by
  rw[Qb3 (a.get (a0.get (a3.get (a2.get g1)))) (by omega),← e4,List.drop_zero,List.take_of_length_le (by omega)]
 have G2:∀ h',Old h0 h'→Qcd h' h2.next 0 32=some (.agg ⟨hs.map u8v⟩):=fun h' a=>by
  rw[Qb3 (a.get (a0.get g3)) (by simp[kl]),List.drop_zero,List.take_of_length_le (by simp[kl])]
 have IA:∀ i:Nat,i < 12→J2 (E b).toEnv 53 nsl (.int .i64 (i:Int))=some (.pointer (some ⟨h3.next,i,none⟩)):=fun i hi=>by
  rw[en,V2 b (by omega)]
  simp
 have LN:∀ hx,Q2a (E b).toEnv 53 nsl hx=some (.int .i64 12):=fun hx=>by rw[en];exact Vv b _ _ _ _
 have CN:∀ (i:Nat) (x:Int),Y3g[i]? = some x→∀ h',Old h0 h'→Vs h' h3.next i=some (.int .i64 x):=fun i x hx h' a=>by
  have q:=Ypy hx
  rw[Nat.mul_one,Nat.add_zero]at q
  rw[Qai (a.get gN),q]
 have L0:Ab.LaidIn h0 Qbj:=LaidIn.old laid (((a1.trans a2).trans a3).trans a0)
 rw[← eh0,← en]
 refine Qgm (KnI h0 nsl h.next h2.next) 12 ⟨_,h0,0,rfl,by simp,by simp,by simp,by simp,by omega,rfl,Old.refl _⟩ ?_
 clear s1 s3 g1 g3 eh0 en sA gN
 rintro k s' ⟨tr,g,i,rfl,t1,t2,t3,t4,hi,rfl,ag⟩ _
 by_cases hlt:i < 12
 ·have hlt':(i:Int) < 12:=by omega
  obtain⟨ni,hni,rni⟩:=Yz4 hlt
  simp[V3,Xl,Xo,-V3,t1,t2,t3,t4,LN,hlt',-Xl]
  refine Qgm (KnJ h0 nsl h.next h2.next i) 12 ⟨_,g,0,rfl,by simp[t1],by simp[t2],by simp[t3],by simp[t4],by simp,by omega,rfl,ag⟩ ?_
  clear t1 t2 t3 t4
  rintro k s' ⟨tr,g',j,rfl,t1,t2,t3,t4,t5,hj,rfl,ag'⟩ _
  by_cases hjl:j < 12
  ·have hjl':(j:Int) < 12:=by omega
   obtain⟨nk,hnk,rnk⟩:=Yz4 hjl
   obtain⟨j1,ej⟩:∃ x:Nat,x=j+1:=⟨_,rfl⟩
   have w1:IntKind.i64.wrap ((j:Int)+1)=(j1:Int):=by rw[Qa9 (by omega) (by omega)];omega
   simp[V3,Xl,Xo,-V3,t1,t2,t3,t4,t5,LN,hjl',-Xl]
   refine Y4q b SO L0 kl rni rnk ag' (IA i hlt) (IA j hjl) (CN i ni hni) (CN j nk hnk) G1 G2 (by simp[t1]) (by simp[t2]) (by simp[t3]) (by simp[t4]) (by simp[t5]) fun tr' h' a f1 f2 f3 f4 f5 => ?_
   simp[V3,Xl,Xo,-V3,f1,f2,f3,f4,f5,w1]
   exact⟨12-j1,by omega,_,h',j1,rfl,by simp[f1],by simp[f2],by simp[f3],by simp[f4],by simp,by omega,rfl,ag'.trans a⟩
  ·have hjl':¬ (j:Int) < 12:=by omega
   obtain⟨i1,ei⟩:∃ x:Nat,x=i+1:=⟨_,rfl⟩
   have w1:IntKind.i64.wrap ((i:Int)+1)=(i1:Int):=by rw[Qa9 (by omega) (by omega)];omega
   simp[V3,Xl,Xo,-V3,t1,t2,t3,t4,t5,LN,hjl',w1]
   exact⟨12-i1,by omega,_,g',i1,rfl,by simp[t1],by simp[t2],by simp[t3],by simp,by omega,rfl,ag'⟩
 have hlt':¬ (i:Int) < 12:=by omega
 simp[V3,Xl,Xo,-V3,t1,t2,t3,t4,LN,hlt',-Xo]
 exact Y7b b SO L0 ag kl G2 (by simp[t2]) K hk
end
end Go.Proofs.YtcokebbiblnonaaDoor
end
