import Derived.Test.YtgeeklmjfbiieaaDoorFA
import Derived.Test.YtgeeklmjfbiieaaDoorScB
import Derived.Test.YtgeeklmjfbiieaaDoorRfA
import Derived.Test.YtgeeklmjfbiieaaDoorScA
set_option linter.all false
noncomputable section
namespace Go.Proofs.YtgeeklmjfbiieaaDoor
open Go Go.Ab
set_option maxRecDepth 100000
structure RAt (h:Heap) (MB:Nat→Prop) (μ:Nat) (e:Menv) (ps:List (Value × List Int)) (on had:List Bool) (sv ov dv:Value) (z:Nat):Prop where
 at':h.get μ=some (.cells true z (e.cells ++ [sv,ov,dv]))
 mb:MB μ
 st:Sl h 1 sv ps.length (ps.reverse.map (·.1))
 on:Own h 0 1 ov on.length (on.reverse.map .bool)
 hd:Own h 0 1 dv had.length (had.reverse.map .bool)
 ms:∀ c,U7 sv=some c→¬ MB c
 mo:∀ c,U7 ov=some c→MB c∧c≠μ
 md:∀ c,U7 dv=some c→MB c∧c≠μ∧U7 ov≠some c
 its:∀ p ∈ ps,SB h p.1 p.2∧Bytes p.2∧∀ c,U7 p.1=some c→¬ MB c
 low:∀ c,MB c→c < h.next
def RMach(h:Heap)(MB:Nat→Prop)(μ:Nat)(e:Menv)(ps:List (Value × List Int))(on had:List Bool):Prop:=∃ sv ov dv z,RAt h MB μ e ps on had sv ov dv z
section
variable{h:Heap}{MB:Nat→Prop}{μ:Nat}{e:Menv}{ps:List (Value × List Int)}{on had:List Bool}{sv ov dv:Value}{z:Nat}
theorem RAt.c34(r:RAt h MB μ e ps on had sv ov dv z):V2 h μ 34=some sv:=by
 rw[Up r.at',List.getElem?_append_right (by rw[e.len];omega),e.len];rfl
theorem RAt.c35(r:RAt h MB μ e ps on had sv ov dv z):V2 h μ 35=some ov:=by
 rw[Up r.at',List.getElem?_append_right (by rw[e.len];omega),e.len];rfl
theorem RAt.c36(r:RAt h MB μ e ps on had sv ov dv z):V2 h μ 36=some dv:=by
 rw[Up r.at',List.getElem?_append_right (by rw[e.len];omega),e.len];rfl
theorem RAt.old{h':Heap}(r:RAt h MB μ e ps on had sv ov dv z)(a:Old h h'):RAt h' MB μ e ps on had sv ov dv z :=
 ⟨a.get r.at',r.mb,r.st.old a,r.on.keep fun c _ hc=>a.2 c hc,r.hd.keep fun c _ hc=>a.2 c hc,r.ms,r.mo,r.md,fun p hp=>⟨(r.its p hp).1.old a,(r.its p hp).2⟩,fun c hc=>Nat.lt_of_lt_of_le (r.low c hc) a.1⟩
theorem RMach.old{h':Heap}(r:RMach h MB μ e ps on had)(a:Old h h'):RMach h' MB μ e ps on had:=by
 obtain⟨sv,ov,dv,z,r⟩:=r
 exact⟨sv,ov,dv,z,r.old a⟩
end
def RTI(v:Value)(xs:List Int)(h:Heap)(k:Nat)(s:St):Prop:=∃ (t:Tr Value) (i:Nat),s=⟨⟨15,t⟩,[],h⟩∧t.get 0=some v∧t.get 3=some (.int .i64 (i:Int))∧i≤xs.length∧k=xs.length-i∧isT xs=isT (xs.drop i)
section
attribute [local simp] Qmh Qvz Xy Yj Xw Uh Qd8 Y4h Yi Qoa Xp kON kOC Xt kNN kNP kRR kRP kEN kER Q4 Xf Z4 Yt aop Qg nth Ab.g0 gv gs Q7 Qd aev evs evO Qi Tr.get_put St.put Tm.put flat flatA Yu Qp Qo Qm Qq Ql Qn Qk X3 Qj Q5 Q6 kTN kTR kTX kTP kBN kBR kBX kBP kCS kCR kCE kAM Xs.putAll X7 Qc Q2 Q1 Qa Qb Q9 Q0 Q3 Q8
theorem Ypl(b:Nat){h:Heap}{v:Value}{xs:List Int}(s:SB h v xs)(hn:xs.length < 1000000000)(K:AEnd→Heap→Prop)(hk:K (.ret (.bool (isT xs))) h):FnK Tryd.prog (E b).G 61 [v] h K:=by
 refine Ur (E b) (Qa1 b) (Vj b) Wf (Qa5 b) (Us b) (Xy b) Yca Yx5 Yry rfl ?_
 simp
 refine Qfy (RTI v xs h) xs.length ⟨_,0,rfl,by simp,by simp,by omega,rfl,by simp⟩ ?_
 rintro k s' ⟨t,i,rfl,t0,t3,hi,rfl,hT⟩ _
 by_cases hlt:i < xs.length
 ·have hlt':(i:Int) < (xs.length:Int):=by omega
  obtain⟨bk,off, -,hix,hld⟩:=Xnf (b:=b) s (k:=.i64) (List.getElem?_eq_getElem hlt)
  have hw:IntKind.i64.wrap ((i:Int)+1)=((i+1:Nat):Int):=by rw[Ug (by omega) (by omega)];omega
  have hd:xs.drop i=xs[i]::xs.drop (i+1):=List.drop_eq_getElem_cons hlt
  simp only[i8]at hld
  by_cases hz:xs[i]=0
  ·simp[t0,t3,Qcp s,hlt',hix,hld,hz,hw]
   refine⟨xs.length-(i+1),by omega,_,i+1,rfl,by simp[t0],by simp,by omega,rfl,?_⟩
   rw[hT,hd]
   show(xs[i] != 0 || isT (xs.drop (i+1)))=_
   rw[hz]
   rfl
  ·simp[t0,t3,Qcp s,hlt',hix,hld,hz]
   have : isT xs=true:=by
    rw[hT,hd]
    show(xs[i] != 0 || isT (xs.drop (i+1)))=true
    simp[hz]
   rw[this]at hk
   exact hk
 ·have hlt':¬ (i:Int) < (xs.length:Int):=by omega
  have : i=xs.length:=by omega
  subst this
  simp[t0,t3,Qcp s]
  have : isT xs=false:=by rw[hT,List.drop_length];rfl
  rw[this]at hk
  exact hk
end
def ONI(μ:Nat)(on:List Bool)(h:Heap)(k:Nat)(s:St):Prop:=∃ (t:Tr Value) (i:Nat),s=⟨⟨19,t⟩,[],h⟩∧t.get 0=some (.pointer (some ⟨μ,0,none⟩))∧t.get 1=some (.int .i64 (on.length:Int))∧t.get 5=some (.int .i64 (i:Int))∧i≤on.length∧k=on.length-i∧on.all id=(on.reverse.drop i).all id
section
attribute [local simp] Xp kON kOC Xt kNN kNP kRR kRP kEN kER Q4 Xf Z4 Yt aop Qg nth Ab.g0 gv gs Q7 Qd aev evs evO Qi Tr.get_put St.put Tm.put flat flatA Yu Qp Qo Qm Qq Ql Qn Qk X3 Qj Q5 Q6 kTN kTR kTX kTP kBN kBR kBX kBP kCS kCR kCE kAM Xs.putAll X7 Qc Q2 Q1 Qa Qb Q9 Q0 Q3 Q8
theorem Zbd(b:Nat){h:Heap}{MB:Nat→Prop}{μ:Nat}{e:Menv}{ps:List (Value × List Int)}{on had:List Bool}(M:RMach h MB μ e ps on had)(hn:on.length < 1000)(K:AEnd→Heap→Prop)(hk:K (.ret (.bool (on.all id))) h) :
  FnK Tryd.prog (E b).G 58 [.pointer (some ⟨μ,0,none⟩),.int .i64 (on.length:Int)] h K:=by
 obtain⟨sv,ov,dv,z,r⟩:=M
 refine Ur (E b) (Qa1 b) (Vj b) Wf (Qa5 b) (Us b) (Y9 b) Xgx Xu2 Xq4 rfl ?_
 simp[Qfq,Qk2,Y9,Xw,Uf,Qgq,Xfj,Qs7,Qhf,Yi]
 refine Qfy (ONI μ on h) on.length ⟨_,0,rfl,by simp,by simp,by simp,by omega,rfl,by simp⟩ ?_
 rintro k s' ⟨t,i,rfl,t0,t1,t5,hi,rfl,hA⟩ _
 by_cases hlt:i < on.length
 ·have hlt':(i:Int) < (on.length:Int):=by omega
  have hl:i < on.reverse.length:=by simpa using hlt
  obtain⟨x,hx⟩:∃ x,on.reverse[i]? = some x:=⟨_,List.getElem?_eq_getElem hl⟩
  obtain⟨bk,off,q1,q2,q3, -⟩:=Xfu (T86 b) Q1m r.on.sl (k:=.i64) (i:=(i:Int)) (by omega) (by omega)
  have q4:V2 h bk off=some (.bool x):=by
   have:=q3 0 (by omega)
   have e1:(on.reverse.map Value.bool)[i]? = some (.bool x):=by rw[List.getElem?_map,hx];rfl
   simp only[Int.toNat_natCast,Nat.mul_one,Nat.add_zero]at this
   rw[this,e1]
  have hw:IntKind.i64.wrap ((i:Int)+1)=((i+1:Nat):Int):=by rw[Ug (by omega) (by omega)];omega
  have hd:on.reverse.drop i=x::on.reverse.drop (i+1):=by
   rw[List.drop_eq_getElem_cons hl]
   rw[List.getElem?_eq_getElem hl]at hx
   rw[Option.some.inj hx]
  rw[hd]at hA
  cases x with
  | true =>
   simp[Qfq,Qk2,Y9,Xw,Uf,Qgq,Xfj,Qs7,Qhf,Yi,t0,t1,t5,hlt',Qax,r.c35,q2,q4,hw]
   exact⟨on.length-(i+1),by omega,_,i+1,rfl,by simp[t0],by simp[t1],by simp,by omega,rfl,by rw[hA];rfl⟩
  | false =>
   simp[Qfq,Qk2,Y9,Xw,Uf,Qgq,Xfj,Qs7,Qhf,Yi,t0,t1,t5,hlt',Qax,r.c35,q2,q4]
   have : on.all id=false:=by rw[hA];rfl
   rw[this]at hk
   exact hk
 ·have hlt':¬ (i:Int) < (on.length:Int):=by omega
  have : i=on.length:=by omega
  subst this
  simp[Qfq,Qk2,Y9,Xw,Uf,Qgq,Xfj,Qs7,Qhf,Yi,t0,t1,t5]
  have : on.all id=true:=by rw[hA,List.drop_of_length_le (by simp)];rfl
  rw[this]at hk
  exact hk
theorem Qp7(b:Nat){h:Heap}{MB:Nat→Prop}{μ:Nat}{e:Menv}{ps:List (Value × List Int)}{on had:List Bool}(M:RMach h MB μ e ps on had){n:Nat}{p:Value × List Int}(hp:ps[n]? = some p)(hn:ps.length < 1000)(K:AEnd→Heap→Prop)(hk:K (.ret p.1) h) :
  FnK Tryd.prog (E b).G 62 [.pointer (some ⟨μ,0,none⟩),.int .i64 (n:Int)] h K:=by
 obtain⟨sv,ov,dv,z,r⟩:=M
 have hlt:n < ps.length:=(List.getElem?_eq_some_iff.1 hp).1
 refine Ur (E b) (Qa1 b) (Vj b) Wf (Qa5 b) (Us b) (X1 b) Xco Xs3 Xnh rfl ?_
 have lenS:∀ hx,Qkb (E b).toEnv 43 sv hx=some (.int .i64 (ps.length:Int)):=fun hx=>Qdf (T43 b) r.st
 have w1:IntKind.i64.wrap ((ps.length:Int)-1)=(ps.length:Int)-1:=Ug (by omega) (by omega)
 have w2:IntKind.i64.wrap ((ps.length:Int)-1-(n:Int))=(ps.length:Int)-1-(n:Int):=Ug (by omega) (by omega)
 obtain⟨bk,off,q1,q2,q3, -⟩:=Xfu (T43 b) Qdj r.st (k:=.i64) (i:=(ps.length:Int)-1-(n:Int)) (by omega) (by omega)
 have q4:V2 h bk off=some p.1:=by
  have:=q3 0 (by omega)
  have e1:((ps.length:Int)-1-(n:Int)).toNat=ps.length-1-n:=by omega
  have e2:(ps.reverse.map (·.1))[ps.length-1-n]? = some p.1:=by
   rw[List.getElem?_map,List.getElem?_reverse (by omega),show ps.length-1-(ps.length-1-n)=n by omega,hp];rfl
  rw[e1,Nat.mul_one,Nat.add_zero,Nat.add_zero]at this
  rw[this,e2]
 simp[Qf2,Qix,X1,Ze,Vr,V4,Vq,Qai,Z8]
 refine Qeo [] (by simp) Qzl Q2l Q0e (by simp[Ab.runT,Z2,Yp,ldv,Nat.testBit,Vu,Zc,Yy,Zf,loadAt,Qa6,J9,Q40,Qf2,Qix,X1,Ze,Vr,V4,Vq,Qai,Z8,Qax,r.c34,lenS,w1,w2,q2,q4];first | exact⟨rfl,rfl⟩ | rfl) ?_ ?_
 ·simp[Z2,Yp,Qez,ldv,Ab.runT,Z2,Yp,ldv,Nat.testBit,Vu,Zc,Yy,Zf,loadAt,Qa6,J9,Qf2,Qix,X1,Ze,Vr,V4,Vq,Qai,Z8]
 simp[Qf2,Qix,X1,Ze,Vr,V4,Vq,Qai,Z8]
 exact hk
theorem RAt.setS{h:Heap}{MB:Nat→Prop}{μ:Nat}{e:Menv}{ps:List (Value × List Int)}{on had:List Bool}{sv ov dv:Value}{z:Nat}(r:RAt h MB μ e ps on had sv ov dv z){sv':Value}{ps':List (Value × List Int)}
  (st:Sl h 1 sv' ps'.length (ps'.reverse.map (·.1))) (ms:∀ c,U7 sv'=some c→¬ MB c) (its:∀ p ∈ ps',SB h p.1 p.2∧Bytes p.2∧∀ c,U7 p.1=some c→¬ MB c) :
  ∃ h',Wg h μ 34 [sv']=some h'∧RAt h' MB μ e ps' on had sv' ov dv z∧Mv MB MB h h':=by
 have hlt:=Heap.get_lt r.at'
 have es:(e.cells ++ [sv,ov,dv]).set 34 sv'=e.cells ++ [sv',ov,dv]:=by rw[List.set_append_right _ _ (by rw[e.len];omega),e.len];rfl
 refine⟨_,Qbz r.at' (by simp[e.len]),?_,⟨Nat.le_refl _,fun c hc hn=>by rw[Heap.get_set _ _ _ _ hlt,if_neg (fun q:μ=c=>hn (by rw[← q];exact r.mb))],fun c hc => .inl hc⟩⟩
 have keep:∀ c,c≠μ→(h.set μ (some (.cells true z ((e.cells ++ [sv,ov,dv]).set 34 sv')))).get c=h.get c:=fun c hc=>by rw[Heap.get_set _ _ _ _ hlt,if_neg (Ne.symm hc)]
 refine⟨by rw[Heap.get_set _ _ _ _ hlt,if_pos rfl,es],r.mb,st.keep fun c hc _=>keep c fun q=>ms c hc (by rw[q];exact r.mb),r.on.keep fun c hc _=>keep c (r.mo c hc).2,r.hd.keep fun c hc _=>keep c (r.md c hc).2.1,ms,r.mo,r.md,fun p hp => ?_,r.low⟩
 obtain⟨h1,h2,h3⟩:=its p hp
 exact⟨h1.keep fun c hc _=>keep c fun q=>h3 c hc (by rw[q];exact r.mb),h2,h3⟩
theorem Q9u(b:Nat){h:Heap}{MB:Nat→Prop}{μ:Nat}{e:Menv}{ps:List (Value × List Int)}{on had:List Bool}(M:RMach h MB μ e ps on had){n:Nat}(hp:n≤ps.length)(hn:ps.length < 1000)(K:AEnd→Heap→Prop)(hk:∀ h',RMach h' MB μ e (ps.drop n) on had→Mv MB MB h h'→K (.ret (.tuple #[])) h') :
  FnK Tryd.prog (E b).G 94 [.pointer (some ⟨μ,0,none⟩),.int .i64 (n:Int)] h K:=by
 obtain⟨sv,ov,dv,z,r⟩:=M
 refine Ur (E b) (Qa1 b) (Vj b) Wf (Qa5 b) (Us b) (Xh b) Q81 Xnm Xg3 rfl ?_
 have lenS:∀ hx,Qkb (E b).toEnv 43 sv hx=some (.int .i64 (ps.length:Int)):=fun hx=>Qdf (T43 b) r.st
 have w1:IntKind.i64.wrap ((ps.length:Int)-(n:Int))=(ps.length:Int)-(n:Int):=Ug (by omega) (by omega)
 obtain⟨sv',k1,k2,k3⟩:=Zjl (T43 b) (k:=.i64) (i:=(ps.length:Int)-(n:Int)) Qdj (by omega) r.st (by omega) (by omega)
 have e1:((ps.length:Int)-(n:Int)).toNat=(ps.drop n).length:=by rw[List.length_drop];omega
 have e2:(ps.reverse.map (·.1)).take ((ps.drop n).length*1)=(ps.drop n).reverse.map (·.1):=by
  rw[Nat.mul_one,List.length_drop,← List.map_take,List.take_reverse]
  congr 3
  omega
 rw[e1,e2]at k2
 obtain⟨h',s1,r',m⟩:=r.setS k2 (fun c hc=>r.ms c (by rw[← k3];exact hc)) (fun p hp=>r.its p (List.mem_of_mem_drop hp))
 simp[Qea,Qhz,Xh,Ze,Vr,V4,Vq,Qjb]
 refine Qeo [] (by simp) Qyu Qzx Qyh (by simp[Ab.runT,Z2,Yp,ldv,Nat.testBit,Vu,Zc,Yy,Zf,loadAt,Qa6,J9,Q2a,Q1p,Qea,Qhz,Xh,Ze,Vr,V4,Vq,Qjb,Qax,r.c34,lenS,w1,k1,Zcj b h μ 34 sv' k2.one,s1];first | exact⟨rfl,rfl⟩ | rfl) ?_ ?_
 ·simp[Z2,Yp,Qbk,ldv,Ab.runT,Z2,Yp,ldv,Nat.testBit,Vu,Zc,Yy,Zf,loadAt,Qa6,J9,Qea,Qhz,Xh,Ze,Vr,V4,Vq,Qjb]
 simp[Qea,Qhz,Xh,Ze,Vr,V4,Vq,Qjb]
 exact hk h' ⟨_,_,_,_,r'⟩ m
end
end Go.Proofs.YtgeeklmjfbiieaaDoor
end
noncomputable section
namespace Go.Proofs.YtgeeklmjfbiieaaDoor
open Go Go.Ab
set_option maxRecDepth 100000
section
variable{h:Heap}{MB:Nat→Prop}{μ:Nat}{e:Menv}{ps:List (Value × List Int)}{on had:List Bool}{sv ov dv:Value}{z:Nat}
theorem RAt.far(r:RAt h MB μ e ps on had sv ov dv z){c:Nat}(hc:h.next≤c):¬ MB c:=fun q=>by have:=r.low c q;omega
theorem RAt.to(r:RAt h MB μ e ps on had sv ov dv z){h2:Heap}{MB':Nat→Prop}{on' had':List Bool}{ov' dv':Value}(m:Mv MB MB' h h2)(at2:h2.get μ=some (.cells true z (e.cells ++ [sv,ov',dv'])))(on2:Own h2 0 1 ov' on'.length (on'.reverse.map .bool))(hd2:Own h2 0 1 dv' had'.length (had'.reverse.map .bool))
  (mb2:MB' μ) (mo2:∀ c,U7 ov'=some c→MB' c∧c≠μ) (md2:∀ c,U7 dv'=some c→MB' c∧c≠μ∧U7 ov'≠some c) (low2:∀ c,MB' c→c < h2.next):RAt h2 MB' μ e ps on' had' sv ov' dv' z:=by
 have no:∀ c,c < h.next→¬ MB c→¬ MB' c:=fun c hc hn q=>by
  rcases m.sub c q with q | q
  ·exact hn q
  ·omega
 refine⟨at2,mb2,r.st.keep fun c hc hl=>m.same c hl (r.ms c hc),on2,hd2,fun c hc=>no c (r.st.blk hc) (r.ms c hc),mo2,md2,fun p hp => ?_,low2⟩
 obtain⟨h1,h3,h4⟩:=r.its p hp
 exact⟨h1.keep fun c hc hl=>m.same c hl (h4 c hc),h3,fun c hc=>no c (h1.blk hc) (h4 c hc)⟩
theorem RAt.appO(b:Nat)(r:RAt h MB μ e ps on had sv ov dv z)(hl:on.length < 1000)(x:Bool):∃ ov' h1 h2 MB',Jp (E b).toEnv 86 1 [(0,.bool x)] h=some (.slice (some ⟨h.next,0,none⟩) 1 1,h.push (.cells true 1 [.bool x]))∧Qhb (E b).toEnv 86 86 ov (.slice (some ⟨h.next,0,none⟩) 1 1) (h.push (.cells true 1 [.bool x]))=some (ov',h1) ∧
    Yhp ov'=true∧Wg h1 μ 35 [ov']=some h2∧RAt h2 MB' μ e ps (x::on) had sv ov' dv z∧Mv MB MB' h h2:=by
  have bl:=Q4t (T86 b) (z:=1) Q1m (by omega) (by omega) (y:=.bool x) rfl (ys:=[.bool x]) rfl rfl (h:=h)
  obtain⟨ov',h1,a1,a2,a3,a4⟩:=Qns (T86 b) Q1m (by omega) r.on (Nat.zero_le _) (ys:=[.bool x]) rfl (by rw[Y5a];omega) (by omega)
  have hlt:=Heap.get_lt r.at'
  have g1:h1.get μ=some (.cells true z (e.cells ++ [sv,ov,dv])):=by rw[a3.2 μ hlt fun q=>(r.mo _ q).2 rfl];exact r.at'
  have hlt1:=Heap.get_lt g1
  have es:(e.cells ++ [sv,ov,dv]).set 35 ov'=e.cells ++ [sv,ov',dv]:=by rw[List.set_append_right _ _ (by rw[e.len];omega),e.len];rfl
  have nμ:∀ c,U7 ov'=some c→c≠μ:=fun c hc=>by
    rcases a4 c hc with q | q
    · exact(r.mo c q).2
    · omega
  have mv:Mv MB (fun c=>MB c∨U7 ov'=some c) h (h1.set μ (some (.cells true z ((e.cells ++ [sv,ov,dv]).set 35 ov')))) :=
    ⟨a3.1,fun c hc hn=>by rw[Heap.get_set _ _ _ _ hlt1,if_neg (fun q:μ=c=>hn (by rw[← q];exact r.mb)),a3.2 c hc (fun q=>hn (r.mo c q).1)],
     fun c hc=>by
      rcases hc with hc | hc
      · exact .inl hc
      · rcases a4 c hc with q | q
        · exact .inl (r.mo c q).1
        · exact .inr q⟩
  refine⟨ov',h1,_,fun c=>MB c∨U7 ov'=some c,bl,a1,a2.one,Qbz g1 (by simp[e.len]),r.to mv (by rw[Heap.get_set _ _ _ _ hlt1,if_pos rfl,es]) ?_ ?_ (.inl r.mb) (fun c hc=>⟨.inr hc,nμ c hc⟩) (fun c hc=>⟨.inl (r.md c hc).1,(r.md c hc).2.1,fun q => ?_⟩) ?_,mv⟩
  · have : Own h1 0 1 ov' (x::on).length ((x::on).reverse.map .bool):=by simpa using a2
    exact this.keep fun c hc _=>by rw[Heap.get_set _ _ _ _ hlt1,if_neg (Ne.symm (nμ c hc))]
  · exact r.hd.keep fun c hc hl=>by rw[Heap.get_set _ _ _ _ hlt1,if_neg (Ne.symm (r.md c hc).2.1),a3.2 c hl (r.md c hc).2.2]
  · rcases a4 c q with q | q
    · exact(r.md c hc).2.2 q
    · have:=r.hd.out hc;omega
  · rintro c (hc | hc)
    · exact Nat.lt_of_lt_of_le (r.low c hc) a3.1
    · exact a2.out hc
theorem RAt.appD(b:Nat)(r:RAt h MB μ e ps on had sv ov dv z)(hl:had.length < 1000)(x:Bool):∃ dv' h1 h2 MB',Jp (E b).toEnv 86 1 [(0,.bool x)] h=some (.slice (some ⟨h.next,0,none⟩) 1 1,h.push (.cells true 1 [.bool x]))∧Qhb (E b).toEnv 86 86 dv (.slice (some ⟨h.next,0,none⟩) 1 1) (h.push (.cells true 1 [.bool x]))=some (dv',h1) ∧
    Yhp dv'=true∧Wg h1 μ 36 [dv']=some h2∧RAt h2 MB' μ e ps on (x::had) sv ov dv' z∧Mv MB MB' h h2:=by
  have bl:=Q4t (T86 b) (z:=1) Q1m (by omega) (by omega) (y:=.bool x) rfl (ys:=[.bool x]) rfl rfl (h:=h)
  obtain⟨dv',h1,a1,a2,a3,a4⟩:=Qns (T86 b) Q1m (by omega) r.hd (Nat.zero_le _) (ys:=[.bool x]) rfl (by rw[Y5a];omega) (by omega)
  have hlt:=Heap.get_lt r.at'
  have g1:h1.get μ=some (.cells true z (e.cells ++ [sv,ov,dv])):=by rw[a3.2 μ hlt fun q=>(r.md _ q).2.1 rfl];exact r.at'
  have hlt1:=Heap.get_lt g1
  have es:(e.cells ++ [sv,ov,dv]).set 36 dv'=e.cells ++ [sv,ov,dv']:=by rw[List.set_append_right _ _ (by rw[e.len];omega),e.len];rfl
  have nμ:∀ c,U7 dv'=some c→c≠μ:=fun c hc=>by
    rcases a4 c hc with q | q
    · exact(r.md c q).2.1
    · omega
  have mv:Mv MB (fun c=>MB c∨U7 dv'=some c) h (h1.set μ (some (.cells true z ((e.cells ++ [sv,ov,dv]).set 36 dv')))) :=
    ⟨a3.1,fun c hc hn=>by rw[Heap.get_set _ _ _ _ hlt1,if_neg (fun q:μ=c=>hn (by rw[← q];exact r.mb)),a3.2 c hc (fun q=>hn (r.md c q).1)],
     fun c hc=>by
      rcases hc with hc | hc
      · exact .inl hc
      · rcases a4 c hc with q | q
        · exact .inl (r.md c q).1
        · exact .inr q⟩
  refine⟨dv',h1,_,fun c=>MB c∨U7 dv'=some c,bl,a1,a2.one,Qbz g1 (by simp[e.len]),r.to mv (by rw[Heap.get_set _ _ _ _ hlt1,if_pos rfl,es]) ?_ ?_ (.inl r.mb) (fun c hc=>⟨.inl (r.mo c hc).1,(r.mo c hc).2⟩) (fun c hc=>⟨.inr hc,nμ c hc,fun q => ?_⟩) ?_,mv⟩
  · exact r.on.keep fun c hc hl=>by rw[Heap.get_set _ _ _ _ hlt1,if_neg (Ne.symm (r.mo c hc).2),a3.2 c hl (fun q=>(r.md c q).2.2 hc)]
  · have : Own h1 0 1 dv' (x::had).length ((x::had).reverse.map .bool):=by simpa using a2
    exact this.keep fun c hc _=>by rw[Heap.get_set _ _ _ _ hlt1,if_neg (Ne.symm (nμ c hc))]
  · rcases a4 c hc with q' | q'
    · exact(r.md c q').2.2 q
    · have:=r.on.out q;omega
  · rintro c (hc | hc)
    · exact Nat.lt_of_lt_of_le (r.low c hc) a3.1
    · exact a2.out hc
end
section
variable{h:Heap}{MB:Nat→Prop}{μ:Nat}{e:Menv}{ps:List (Value × List Int)}{x y:Bool}{on had:List Bool}{sv ov dv:Value}{z:Nat}
theorem RAt.cutO(b:Nat){had:List Bool}(r:RAt h MB μ e ps (x::on) had sv ov dv z):∃ ov' h2,Qcd (E b).toEnv 86 ov none (some (.int .i64 (on.length:Int))) none h=some (ov',h)∧Yhp ov'=true∧Wg h μ 35 [ov']=some h2∧RAt h2 MB μ e ps on had sv ov' dv z∧Mv MB MB h h2:=by
 obtain⟨ov',k1,k2,k3⟩:=Ynn (T86 b) (k:=.i64) (i:=(on.length:Int)) Q1m (by omega) r.on (by omega) (by simp;omega)
 have e1:((x::on).reverse.map Value.bool).take ((on.length:Int).toNat*1)=on.reverse.map Value.bool:=by simp
 rw[e1,Int.toNat_natCast]at k2
 have hlt:=Heap.get_lt r.at'
 have es:(e.cells ++ [sv,ov,dv]).set 35 ov'=e.cells ++ [sv,ov',dv]:=by rw[List.set_append_right _ _ (by rw[e.len];omega),e.len];rfl
 have mv:Mv MB MB h (h.set μ (some (.cells true z ((e.cells ++ [sv,ov,dv]).set 35 ov')))):=⟨Nat.le_refl _,fun c hc hn=>by rw[Heap.get_set _ _ _ _ hlt,if_neg (fun q:μ=c=>hn (by rw[← q];exact r.mb))],fun c hc => .inl hc⟩
 refine⟨ov',_,k1,k2.one,Qbz r.at' (by simp[e.len]),r.to mv (by rw[Heap.get_set _ _ _ _ hlt,if_pos rfl,es]) ?_ ?_ r.mb (fun c hc=>r.mo c (by rw[← k3];exact hc)) (fun c hc=>⟨(r.md c hc).1,(r.md c hc).2.1,by rw[k3];exact(r.md c hc).2.2⟩) r.low,mv⟩
 ·exact k2.keep fun c hc _=>by rw[Heap.get_set _ _ _ _ hlt,if_neg (Ne.symm (r.mo c (by rw[← k3];exact hc)).2)]
 ·exact r.hd.keep fun c hc _=>by rw[Heap.get_set _ _ _ _ hlt,if_neg (Ne.symm (r.md c hc).2.1)]
theorem RAt.cutD(b:Nat){on:List Bool}(r:RAt h MB μ e ps on (x::had) sv ov dv z):∃ dv' h2,Qcd (E b).toEnv 86 dv none (some (.int .i64 (had.length:Int))) none h=some (dv',h)∧Yhp dv'=true∧Wg h μ 36 [dv']=some h2∧RAt h2 MB μ e ps on had sv ov dv' z∧Mv MB MB h h2:=by
 obtain⟨dv',k1,k2,k3⟩:=Ynn (T86 b) (k:=.i64) (i:=(had.length:Int)) Q1m (by omega) r.hd (by omega) (by simp;omega)
 have e1:((x::had).reverse.map Value.bool).take ((had.length:Int).toNat*1)=had.reverse.map Value.bool:=by simp
 rw[e1,Int.toNat_natCast]at k2
 have hlt:=Heap.get_lt r.at'
 have es:(e.cells ++ [sv,ov,dv]).set 36 dv'=e.cells ++ [sv,ov,dv']:=by rw[List.set_append_right _ _ (by rw[e.len];omega),e.len];rfl
 have mv:Mv MB MB h (h.set μ (some (.cells true z ((e.cells ++ [sv,ov,dv]).set 36 dv')))):=⟨Nat.le_refl _,fun c hc hn=>by rw[Heap.get_set _ _ _ _ hlt,if_neg (fun q:μ=c=>hn (by rw[← q];exact r.mb))],fun c hc => .inl hc⟩
 refine⟨dv',_,k1,k2.one,Qbz r.at' (by simp[e.len]),r.to mv (by rw[Heap.get_set _ _ _ _ hlt,if_pos rfl,es]) ?_ ?_ r.mb r.mo (fun c hc=>r.md c (by rw[← k3];exact hc)) r.low,mv⟩
 ·exact r.on.keep fun c hc _=>by rw[Heap.get_set _ _ _ _ hlt,if_neg (Ne.symm (r.mo c hc).2)]
 ·exact k2.keep fun c hc _=>by rw[Heap.get_set _ _ _ _ hlt,if_neg (Ne.symm (r.md c (by rw[← k3];exact hc)).2.1)]
theorem Y3y(b:Nat){v:Value}{l:List Bool}(o:Own h 0 1 v (x::l).length ((x::l).reverse.map .bool))(w:Bool):∃ bk h2,U7 v=some bk∧Zn (E b).toEnv 86 v (.int .i64 (l.length:Int))=some (.pointer (some ⟨bk,l.length,none⟩))∧V2 h bk l.length=some (.bool x)∧Wg h bk l.length [.bool w]=some h2∧Own h2 0 1 v (w::l).length ((w::l).reverse.map .bool)∧h2.next=h.next∧∀ c,c≠bk→h2.get c=h.get c:=by
 obtain⟨bk,y1,y2,y3⟩:=Zml (T86 b) Q1m o (k:=.i64) (i:=(l.length:Int)) (by omega) (by simp;omega)
 obtain⟨h2,s1,s2,s3,s4⟩:=Qq6 o y1 (i:=l.length) (by simp) (.bool w)
 have e2:((x::l).reverse.map Value.bool).set l.length (.bool w)=(w::l).reverse.map Value.bool:=by simp
 rw[e2]at s2
 refine⟨bk,h2,y1,by simpa using y2,?_,s1,by simpa using s2,s3,s4⟩
 have:=y3 0 (by simp)
 simp only[Int.toNat_natCast,Nat.mul_one,Nat.add_zero]at this
 rw[this]
 simp
theorem RAt.flipO(b:Nat){had:List Bool}(r:RAt h MB μ e ps (x::on) had sv ov dv z)(w:Bool):∃ bk h2,Zn (E b).toEnv 86 ov (.int .i64 (on.length:Int))=some (.pointer (some ⟨bk,on.length,none⟩))∧V2 h bk on.length=some (.bool x)∧Wg h bk on.length [.bool w]=some h2∧RAt h2 MB μ e ps (w::on) had sv ov dv z∧Mv MB MB h h2:=by
 obtain⟨bk,h2,y1,y2,y3,y4,y5,y6,y7⟩:=Y3y b r.on w
 obtain⟨m1,m2⟩:=r.mo bk y1
 have mv:Mv MB MB h h2:=⟨by omega,fun c hc hn=>y7 c fun q=>hn (by rw[q];exact m1),fun c hc => .inl hc⟩
 exact⟨bk,h2,y2,y3,y4,r.to mv (by rw[y7 μ (Ne.symm m2)];exact r.at') y5 (r.hd.keep fun c hc _=>y7 c fun q=>(r.md c hc).2.2 (by rw[q];exact y1)) r.mb r.mo r.md (fun c hc=>by rw[y6];exact r.low c hc),mv⟩
theorem RAt.flipD(b:Nat){on:List Bool}(r:RAt h MB μ e ps on (x::had) sv ov dv z)(w:Bool):∃ bk h2,Zn (E b).toEnv 86 dv (.int .i64 (had.length:Int))=some (.pointer (some ⟨bk,had.length,none⟩))∧V2 h bk had.length=some (.bool x)∧Wg h bk had.length [.bool w]=some h2∧RAt h2 MB μ e ps on (w::had) sv ov dv z∧Mv MB MB h h2:=by
 obtain⟨bk,h2,y1,y2,y3,y4,y5,y6,y7⟩:=Y3y b r.hd w
 obtain⟨m1,m2,m3⟩:=r.md bk y1
 have mv:Mv MB MB h h2:=⟨by omega,fun c hc hn=>y7 c fun q=>hn (by rw[q];exact m1),fun c hc => .inl hc⟩
 exact⟨bk,h2,y2,y3,y4,r.to mv (by rw[y7 μ (Ne.symm m2)];exact r.at') (r.on.keep fun c hc _=>y7 c fun q=>m3 (by rw[← q];exact hc)) y5 r.mb r.mo r.md (fun c hc=>by rw[y6];exact r.low c hc),mv⟩
end
def X89(x:Bool):Int:=if x then 0 else 16
theorem Q2e(b:Nat)(x:Bool)(h:Heap)(K:AEnd→Heap→Prop)(hk:K (.ret (.int .i64 (X89 x))) h):FnK Tryd.prog (E b).G 60 [.bool x] h K:=by
 refine Ur (E b) (Qa1 b) (Vj b) Wf (Qa5 b) (Us b) (Y2 b) X9k Ywm Yol rfl ?_
 cases x <;> simp[Xi7,Yqx,Y2,X9h,Yft,Xp,kON,kOC,Xt,kNN,kNP,kRR,kRP,kEN,kER,Q4,Xf,Z4,Yt,aop,Qg,nth,Ab.g0,gv,gs,Q7,Qd,aev,evs,evO,Qi,Tr.get_put,St.put,Tm.put,flat,flatA,Yu,Qp,Qo,Qm,Qq,Ql,Qn,Qk,X3,Qj,Q5,Q6,kTN,kTR,kTX,kTP,kBN,kBR,kBX,kBP,kCS,kCR,kCE,kAM,Xs.putAll,X7,Qc,Q2,Q1,Qa,Qb,Q9,Q0,Q3,Q8] <;> exact hk
def Q2y(c:Int):Nat:=if c≤64 then 0 else if c=132∨c=134 then 2 else 1
section
attribute [local simp] Xp kON kOC Xt kNN kNP kRR kRP kEN kER Q4 Xf Z4 Yt aop Qg nth Ab.g0 gv gs Q7 Qd aev evs evO Qi Tr.get_put St.put Tm.put flat flatA Yu Qp Qo Qm Qq Ql Qn Qk X3 Qj Q5 Q6 kTN kTR kTX kTP kBN kBR kBX kBP kCS kCR kCE kAM Xs.putAll X7 Qc Q2 Q1 Qa Qb Q9 Q0 Q3 Q8
theorem Zfy(b:Nat)(c:Int)(h:Heap)(K:AEnd→Heap→Prop)(hk:K (.ret (.int .i64 (Q2y c:Int))) h):FnK Tryd.prog (E b).G 95 [.int .i64 c] h K:=by
 refine Ur (E b) (Qa1 b) (Vj b) Wf (Qa5 b) (Us b) (Z3 b) X50 Ysg Yia rfl ?_
 unfold Q2y at hk
 by_cases p1:c≤64
 ·simp[Qkc,Qs5,Z3,Wq,Qob,Y4,Qo6,Qmq,p1]
  simpa[p1]using hk
 ·by_cases p2:c=132
  ·simp[Qkc,Qs5,Z3,Wq,Qob,Y4,Qo6,Qmq,p2]
   simpa[p2]using hk
  ·by_cases p3:c=134
   ·simp[Qkc,Qs5,Z3,Wq,Qob,Y4,Qo6,Qmq,p3]
    simpa[p3]using hk
   ·simp[Qkc,Qs5,Z3,Wq,Qob,Y4,Qo6,Qmq,p1,p2,p3]
    simpa[p1,p2,p3]using hk
theorem Xls(b:Nat){h:Heap}{MB:Nat→Prop}{μ:Nat}{e:Menv}{ps:List (Value × List Int)}{on had:List Bool}(M:RMach h MB μ e ps on had)(hn:ps.length < 1000)(hl:∀ p ∈ ps,p.2.length < 1000000000){v:Value}{x:List Int}(s:SB h v x)(bx:Bytes x)(nv':∀ c,U7 v=some c→¬ MB c)
  (K:AEnd→Heap→Prop) (hk:∀ h' ps',ps'.map (·.2)=x::ps.map (·.2)→RMach h' MB μ e ps' on had→Mv MB MB h h'→K (.ret (.bool (decide ((ps.length:Int)+1≤16)))) h') :
  FnK Tryd.prog (E b).G 96 [.pointer (some ⟨μ,0,none⟩),v] h K:=by
 obtain⟨sv,ov,dv,z,r⟩:=M
 refine Ur (E b) (Qa1 b) (Vj b) Wf (Qa5 b) (Us b) (Y0 b) Q63 Xmp Xig rfl ?_
 simp[Qk5,Qt8,Y0,Qpj,Ze,Vr,Yr,Qjb,V4,Wq,Qax,r.c34]
 refine Xyj b (items:=ps.reverse) (by simpa using r.st) (by simp;omega) (fun p hp=>⟨(r.its p (by simpa using hp)).1,(r.its p (by simpa using hp)).2.1⟩) (fun p hp=>hl p (by simpa using hp)) _ fun o out h1 oo eo io fo a1 => ?_
 obtain⟨bl, -⟩:=Yoa b h1 v s.one
 have lo:out.length=ps.length:=by have:=congrArg List.length eo;simpa using this
 obtain⟨o',h2,k1,k2,k3,k4⟩:=Qns (T43 b) Qdj (by omega) oo a1.1 (ys:=[v]) rfl (by rw[Xve];simp;omega) (by simp;omega)
 have a2:Old h h2:=k3.old a1 oo
 have r2:=r.old a2
 have st2:Sl h2 1 o' ((v,x)::out.reverse).length (((v,x)::out.reverse).reverse.map (·.1)):=by
  have:=k2.sl
  simpa[lo]using this
 have far:∀ c,h.next≤c→¬ MB c:=fun c hc=>r.far hc
 have ms2:∀ c,U7 o'=some c→¬ MB c:=fun c hc=>far c (k2.from hc).1
 obtain⟨h3,s3,r3,m3⟩:=r2.setS st2 ms2 (fun p hp=>by
  rcases List.mem_cons.1 hp with rfl | hp
  ·exact⟨s.old a2,bx,nv'⟩
  ·have hp':p ∈ out:=by simpa using hp
   refine⟨(io p hp').1.keep fun c hc hlt=>k3.2 c hlt (fo p hp' c hc).2,(io p hp').2,fun c hc=>far c (fo p hp' c hc).1⟩)
 have l3:∀ hx,Qkb (E b).toEnv 43 o' hx=some (.int .i64 ((ps.length:Int)+1)):=fun hx=>by
  have:=Qdf (T43 b) k2.sl (h1:=hx)
  rw[this];simp
 simp[Qk5,Qt8,Y0,Qpj,Ze,Vr,Yr,Qjb,V4,Wq,Qax,bl,k1,Zcj b h2 μ 34 o' k2.one,s3,r3.c34,l3]
 exact hk h3 _ (by simp only[List.map_cons,List.map_reverse,eo];simp) ⟨_,_,_,_,r3⟩ ⟨Nat.le_trans a2.1 m3.next,fun c hc hn=>by rw[m3.same c (Nat.lt_of_lt_of_le hc a2.1) hn,a2.2 c hc],fun c hc => .inl hc⟩
theorem Y3h(b:Nat){h:Heap}{MB:Nat→Prop}{μ:Nat}{e:Menv}{ps:List (Value × List Int)}{on had:List Bool}(M:RMach h MB μ e ps on had)(hn:ps.length < 1000)(hl:∀ p ∈ ps,p.2.length < 1000000000)(x:Bool)
  (K:AEnd→Heap→Prop) (hk:∀ h' ps',ps'.map (·.2)=Y6f x::ps.map (·.2)→RMach h' MB μ e ps' on had→Mv MB MB h h'→K (.ret (.bool (decide ((ps.length:Int)+1≤16)))) h') :
  FnK Tryd.prog (E b).G 98 [.pointer (some ⟨μ,0,none⟩),.bool x] h K:=by
 refine Ur (E b) (Qa1 b) (Vj b) Wf (Qa5 b) (Us b) (Xr b) Q5t Xmm Xhc rfl ?_
 cases x with
 | true =>
  have aA:Old h (h.push (.cells true 1 [i8 1])):=Old.push _ _
  simp[Qed,Qhw,Xr,Qgo,Y0,Qvn]
  refine Xls b (M.old aA) hn hl (v:=.slice (some ⟨h.next,0,none⟩) 1 1) (x:=[1]) (SB.push (xs:=[1]) (by simp)) (by intro z hz;simp at hz;omega) (fun c hc q => ?_) _ fun h1 ps1 q1 M1 m1 => ?_
  ·obtain⟨_,_,_,_,r⟩:=M
   simp[U7]at hc
   have:=r.low c q
   omega
  ·simp[Qed,Qhw,Xr,Qgo,Y0]
   have:=hk h1 ps1 q1 M1 ⟨Nat.le_trans aA.1 m1.next,fun c hc hn=>by rw[m1.same c (Nat.lt_of_lt_of_le hc aA.1) hn,aA.2 c hc],fun c hc => .inl hc⟩
   simpa using this
 | false =>
  simp[Qed,Qhw,Xr,Qgo,Y0]
  refine Xls b M hn hl (v:=.slice none 0 0) (x:=[]) Sl.nil (by intro z hz;cases hz) (fun c hc=>by simp[U7]at hc) _ fun h1 ps1 q1 M1 m1 => ?_
  simp[Qed,Qhw,Xr,Qgo,Y0]
  have:=hk h1 ps1 q1 M1 m1
  simpa using this
end
end Go.Proofs.YtgeeklmjfbiieaaDoor
end
noncomputable section
namespace Go.Proofs.YtgeeklmjfbiieaaDoor
open Go Go.Ab
set_option maxRecDepth 100000
def Yu8(code:Int)(st:List (List Int))(on had:List Bool):Except Int (List (List Int) × List Bool × List Bool) :=
 if code=136 then(if on.all id then(match st with | [] => .error 16 | x::r => .ok (r,isT x::on,false::had))else .ok (st,true::on,false::had))
 else match on,had with
  | x::o,y::d=>if code=137 then(if y then .error 16 else .ok (st,(!x)::o,true::d))else .ok (st,o,d)
  | _,_ => .error 16
section
attribute [local simp] Vc Ub Y8 Uf Qgq Qhm Y4 Y9 Ze Vr V4 Xw X1 Xy Xh Qpt Qlb Vd Vq Xfj Qs7 Vi V7 V6 Vg Qde Vh Vf Xp kON kOC Xt kNN kNP kRR kRP kEN kER Q4 Xf Z4 Yt aop Qg nth Ab.g0 gv gs Q7 Qd aev evs evO Qi Tr.get_put St.put Tm.put flat flatA Yu Qp Qo Qm Qq Ql Qn Qk X3 Qj Q5 Q6 kTN kTR kTX kTP kBN kBR kBX kBP kCS kCR kCE kAM Xs.putAll X7 Qc Q2 Q1 Qa Qb Q9 Q0 Q3 Q8
theorem Zgs(b:Nat){h:Heap}{MB:Nat→Prop}{μ:Nat}{e:Menv}{ps:List (Value × List Int)}{on had:List Bool}(M:RMach h MB μ e ps on had)(hn:on.length < 900)(hl:had.length < 900)(hp:ps.length < 900)(hi:∀ p ∈ ps,p.2.length < 1000000000)(K:AEnd→Heap→Prop)
  (hk0:Yu8 136 (ps.map (·.2)) on had=.error 16→K (.ret (.int .i64 16)) h)
  (hk:∀ st' on' had',Yu8 136 (ps.map (·.2)) on had=.ok (st',on',had')→∀ h' MB' ps',ps'.map (·.2)=st'→RMach h' MB' μ e ps' on' had'→Mv MB MB' h h'→K (.ret (.int .i64 0)) h') :
  FnK Tryd.prog (E b).G 57 [.pointer (some ⟨μ,0,none⟩),.int .i64 136] h K:=by
 have M0:=M
 obtain⟨sv,ov,dv,z,r⟩:=M0
 refine Ur (E b) (Qa1 b) (Vj b) Wf (Qa5 b) (Us b) (Y8 b) Qqv Qyf Qul rfl ?_
 have lenO:∀ hx,Qkb (E b).toEnv 86 ov hx=some (.int .i64 (on.length:Int)):=fun hx=>Qdf (T86 b) r.on.sl
 have lenS:∀ hx,Qkb (E b).toEnv 43 sv hx=some (.int .i64 (ps.length:Int)):=fun hx=>Qdf (T43 b) r.st
 simp[Qax,r.c35,lenO]
 refine Zbd b M (by omega) _ ?_
 cases hall:on.all id with
 | false =>
  obtain⟨ov',h1',h2',MB2,a1,a2,a3,a4,r2,m2⟩:=r.appO b (by omega) true
  obtain⟨dv',h3',h4',MB4,c1,c2,c3,c4,r4,m4⟩:=r2.appD b (by omega) false
  simp[Qax,r.c35,a1,a2,Y7f b h1' μ 35 ov' a3,a4,r2.c36,c1,c2,Y7f b h3' μ 36 dv' c3,c4]
  exact hk _ _ _ (by simp only[Yu8,hall];rfl) h4' MB4 _ rfl ⟨_,_,_,_,r4⟩ ((m2.trans m4))
 | true =>
  cases ps with
  | nil =>
   have lenS':∀ hx,Qkb (E b).toEnv 43 sv hx=some (.int .i64 0):=lenS
   simp[Qax,r.c34,lenS']
   exact hk0 (by simp only[Yu8,hall];rfl)
  | cons p pr =>
   have lenS':∀ hx,Qkb (E b).toEnv 43 sv hx=some (.int .i64 ((pr.length:Int)+1)):=fun hx=>by have:=lenS hx;simpa using this
   have h1:¬ (pr.length:Int)+1 < 1:=by omega
   simp[Qax,r.c34,lenS',h1]
   refine Qp7 b M (n:=0) (p:=p) rfl (by omega) _ ?_
   simp
   refine Ypl b (r.its p (by simp)).1 (hi p (by simp)) _ ?_
   simp
   refine Q9u b M (n:=1) (by simp) (by omega) _ fun h5 M5 m5 => ?_
   obtain⟨sv5,ov5,dv5,z5,r5⟩:=M5
   obtain⟨ov',h1',h2',MB2,a1,a2,a3,a4,r2,m2⟩:=r5.appO b (by omega) (isT p.2)
   obtain⟨dv',h3',h4',MB4,c1,c2,c3,c4,r4,m4⟩:=r2.appD b (by omega) false
   simp[Qax,r5.c35,a1,a2,Y7f b h1' μ 35 ov' a3,a4,r2.c36,c1,c2,Y7f b h3' μ 36 dv' c3,c4]
   exact hk _ _ _ (by simp only[Yu8,hall,List.map_cons];rfl) h4' MB4 _ rfl ⟨_,_,_,_,r4⟩ (m5.trans (m2.trans m4))
theorem Y4o(b:Nat){h:Heap}{MB:Nat→Prop}{μ:Nat}{e:Menv}{ps:List (Value × List Int)}{on had:List Bool}(M:RMach h MB μ e ps on had)(hn:on.length < 900)(hl:had.length=on.length)(K:AEnd→Heap→Prop){c:Int}(hc:c=137∨c=138)
  (hk0:Yu8 c (ps.map (·.2)) on had=.error 16→K (.ret (.int .i64 16)) h)
  (hk:∀ st' on' had',Yu8 c (ps.map (·.2)) on had=.ok (st',on',had')→∀ h' MB' ps',ps'.map (·.2)=st'→RMach h' MB' μ e ps' on' had'→Mv MB MB' h h'→K (.ret (.int .i64 0)) h') :
  FnK Tryd.prog (E b).G 57 [.pointer (some ⟨μ,0,none⟩),.int .i64 c] h K:=by
 obtain⟨sv,ov,dv,z,r⟩:=M
 refine Ur (E b) (Qa1 b) (Vj b) Wf (Qa5 b) (Us b) (Y8 b) Qqv Qyf Qul rfl ?_
 have lenO:∀ hx,Qkb (E b).toEnv 86 ov hx=some (.int .i64 (on.length:Int)):=fun hx=>Qdf (T86 b) r.on.sl
 have c1:¬ c=136:=by omega
 cases on with
 | nil =>
  have lenO':∀ hx,Qkb (E b).toEnv 86 ov hx=some (.int .i64 0):=lenO
  simp[Qax,r.c35,lenO',c1]
  exact hk0 (by simp only[Yu8,if_neg c1])
 | cons x on =>
  cases had with
  | nil=>simp at hl
  | cons y had =>
   have el:had.length=on.length:=by simpa using hl
   have lenO':∀ hx,Qkb (E b).toEnv 86 ov hx=some (.int .i64 ((on.length:Int)+1)):=fun hx=>by have:=lenO hx;simpa using this
   have n0:¬ (on.length:Int)+1=0:=by omega
   have hw:IntKind.i64.wrap (on.length:Int)=(on.length:Int):=Ug (by omega) (by simp at hn;omega)
   rcases hc with rfl | rfl
   ·obtain⟨bk,h2,y1,y2,y3,r2,m2⟩:=r.flipD b true
    rw[el]at y1 y2 y3
    cases y with
    | true =>
     simp[Qax,r.c35,r.c36,lenO',n0,hw,y1,y2]
     exact hk0 rfl
    | false =>
     obtain⟨bk2,h3,z1,z2,z3,r3,m3⟩:=r.flipO b (!x)
     obtain⟨bk4,h4,w1,w2,w3,r4,m4⟩:=r3.flipD b true
     rw[el]at w1 w2 w3
     simp[Qax,r.c35,r.c36,lenO',n0,hw,y1,y2]
     refine Qeo [] (by simp) Qxc Qzc Qy3 (by simp[Ab.runT,Z2,Yp,ldv,Nat.testBit,Vu,Zc,Yy,Zf,loadAt,Qa6,J9,Q1s,Q1g,Qax,r.c35,hw,z1,z2,z3];first | exact⟨rfl,rfl⟩ | rfl) ?_ ?_
     ·simp[Z2,Yp,Qbp,ldv,Ab.runT,Z2,Yp,ldv,Nat.testBit,Vu,Zc,Yy,Zf,loadAt,Qa6,J9]
     simp[Qax,r3.c36,hw,w1,w3]
     exact hk _ _ _ rfl h4 MB ps rfl ⟨_,_,_,_,r4⟩ (m3.trans m4)
   ·obtain⟨ov2,h2,y1,y2,y3,r2,m2⟩:=r.cutO b
    obtain⟨dv3,h3,z1,z2,z3,r3,m3⟩:=r2.cutD b
    rw[el]at z1
    simp[Qax,r.c35,lenO',n0,hw,y1,Y7f b h μ 35 ov2 y2,y3,r2.c36,z1,Y7f b h2 μ 36 dv3 z2,z3]
    exact hk _ _ _ rfl h3 MB ps rfl ⟨_,_,_,_,r3⟩ (m2.trans m3)
end
end Go.Proofs.YtgeeklmjfbiieaaDoor
end
noncomputable section
namespace Go.Proofs.YtgeeklmjfbiieaaDoor
open Go Go.Ab
set_option maxRecDepth 100000
section
attribute [local simp] Jw Vv Zl Yj Zk Je Xw Yo Wz Uq Vx Qag Wr J6 Y4 Jt Ji Yi Qa4 Qa3 Yw Zs Qad Ju Qab Uv Uw Qaf Qac Qhk Qaw Ui Zp Jm J1 Xp kON kOC Xt kNN kNP kRR kRP kEN kER Q4 Xf Z4 Yt aop Qg nth Ab.g0 gv gs Q7 Qd aev evs evO Qi Tr.get_put St.put Tm.put flat flatA Yu Qp Qo Qm Qq Ql Qn Qk X3 Qj Q5 Q6 kTN kTR kTX kTP kBN kBR kBX kBP kCS kCR kCE kAM Xs.putAll X7 Qc Q2 Q1 Qa Qb Q9 Q0 Q3 Q8
theorem Y5z(b:Nat){h:Heap}{kv tv:Value}{key l:List Nat}(sk:SN h kv key)(sl:SN h tv l)(hkl:key.length < 100000000)(hl:l.length < 100000000)(bk:∀ x ∈ key,x < 256)(bl:∀ x ∈ l,x < 256)(K:AEnd→Heap→Prop)(hk:∀ h',Old h h'→K (.ret (.agg ⟨(Bl.keyed key l).map u8v⟩)) h') :
  FnK Tryd.prog (E b).G 82 [kv,tv] h K:=by
 by_cases h32:key.length≤32
 ·have e:Bl.keyed key l=Bl.keyed1 key l:=by unfold Bl.keyed;rw[Q3g h32]
  rw[e]at hk
  exact Xkz b sk sl h32 hl bk bl K hk
 ·have e:Bl.keyed key l=Bl.keyed1 (Bl.keyed1 [] key) l:=by
   unfold Bl.keyed
   have : Nat.ble key.length 32=false:=by
    cases hq:Nat.ble key.length 32 with
    | false=>rfl
    | true=>rw[Nat.ble_eq]at hq;omega
   rw[this]
  rw[e]at hk
  refine Ur (E b) (Qa1 b) (Vj b) Wf (Qa5 b) (Us b) (Zl b) Xb6 Xti Xpa rfl ?_
  have lenk:∀ hx,Qkb (E b).toEnv 47 kv hx=some (.int .i64 (key.length:Int)):=fun hx=>Qdf (T47 b) sk
  have h32':(32:Int) < (key.length:Int):=by omega
  obtain⟨hA,eA⟩:∃ hA,hA=h.push (.cells true 1 z32):=⟨_,rfl⟩
  have aA:Old h hA:=by rw[eA];exact Old.push _ _
  have gA:hA.get h.next=some (.cells true 1 z32):=by rw[eA,Heap.get_push,if_pos rfl]
  have alA:Qe4 (E b).toEnv 23 h=some (.pointer (some ⟨h.next,0,none⟩),hA):=by rw[eA];exact Zt b h
  simp[Zt,-Zt,alA,lenk,h32']
  refine Xkz b (kv:=.slice none 0 0) (key:=[]) Sl.nil (sk.old aA) (by simp) hkl (by simp) bk _ fun h2 a2 => ?_
  obtain⟨dg,hdg⟩:∃ d,d=Bl.keyed1 [] key:=⟨_,rfl⟩
  rw[← hdg]at hk ⊢
  have kl:dg.length=32:=by rw[hdg];exact Qj0 _
  have bd:∀ x ∈ dg,x < 256:=by rw[hdg];exact Yuo _
  obtain⟨hB,eB⟩:∃ hB,hB=h2.push (.cells true 1 z32):=⟨_,rfl⟩
  have alB:Qe4 (E b).toEnv 23 h2=some (.pointer (some ⟨h2.next,0,none⟩),hB):=by rw[eB];exact Zt b h2
  have gB:hB.get h2.next=some (.cells true 1 z32):=by rw[eB,Heap.get_push,if_pos rfl]
  have lB:=Heap.get_lt gB
  obtain⟨hC,eC⟩:∃ hC,hC=hB.set h2.next (some (.cells true 1 (dg.map u8v))):=⟨_,rfl⟩
  have stC:Wg hB h2.next 0 (dg.map u8v)=some hC:=by
   rw[Qd2 gB (by simp[z32,kl]),eC]
   congr 4
   simp[z32,kl]
  have gC:hC.get h2.next=some (.cells true 1 (dg.map u8v)):=by rw[eC,Heap.get_set _ _ _ _ lB,if_pos rfl]
  have aC:Old h2 hC:=by rw[eC,eB];exact(Old.push _ _).set _ (Nat.le_refl _) (by rw[← eB];exact lB)
  have sC:SN hC (.slice (some ⟨h2.next,0,none⟩) 32 32) dg:=by
   have:=(Own.new (n0:=0) (z:=1) (n:=32) (c:=32) (Nat.zero_le _) gC (by simp[kl]) (by decide) (.inr rfl)).sl
   rw[SN,kl]
   exact this
  simp[Zt,-Zt,alB,kl,stC,X6w]
  refine Xkz b sC (sl.old (aA.trans (a2.trans aC))) (by omega) hl bd bl _ fun h5 a5 => ?_
  obtain⟨d2,hd2⟩:∃ d,d=Bl.keyed1 dg l:=⟨_,rfl⟩
  rw[← hd2]at hk ⊢
  have kl2:d2.length=32:=by rw[hd2];exact Qj0 _
  have aA5:=(a2.trans aC).trans a5
  have g5:=aA5.get gA
  have l5:=Heap.get_lt g5
  obtain⟨h6,e6⟩:∃ h6,h6=h5.set h.next (some (.cells true 1 (d2.map u8v))):=⟨_,rfl⟩
  have st6:Wg h5 h.next 0 (d2.map u8v)=some h6:=by
   rw[Qd2 g5 (by simp[z32,kl2]),e6]
   congr 4
   simp[z32,kl2]
  have ld6:Qgi h6 h.next 0 32=some (.agg ⟨d2.map u8v⟩):=by
   rw[Qan (by rw[e6,Heap.get_set _ _ _ _ l5,if_pos rfl]) (by simp[kl2]),List.drop_zero,List.take_of_length_le (by simp[kl2])]
  simp[Zt,kl2,st6,ld6]
  exact hk h6 (by rw[e6];exact(aA.trans aA5).set _ (Nat.le_refl _) l5)
end
section
attribute [local simp] Xp kON kOC Xt kNN kNP kRR kRP kEN kER Q4 Xf Z4 Yt aop Qg nth Ab.g0 gv gs Q7 Qd aev evs evO Qi Tr.get_put St.put Tm.put flat flatA Yu Qp Qo Qm Qq Ql Qn Qk X3 Qj Q5 Q6 kTN kTR kTX kTP kBN kBR kBX kBP kCS kCR kCE kAM Xs.putAll X7 Qc Q2 Q1 Qa Qb Q9 Q0 Q3 Q8
theorem Y69(b:Nat){h:Heap}{bv:Value}{xs:List Int}(s:SB h bv xs){n:Nat}(hn:n < 253)(hl:xs.length < 999999999)(K:AEnd→Heap→Prop)(hk:∀ v h',OB h' h.next v (xs ++ [(n:Int)])→Old h h'→K (.ret v) h') :
  FnK Tryd.prog (E b).G 120 [bv,.int .i64 (n:Int)] h K:=by
 refine Ur (E b) (Qa1 b) (Vj b) Wf (Qa5 b) (Us b) (Qjl b) Yk6 Y1l Yxf rfl ?_
 have w2:IntKind.u8.wrap (n:Int)=(n:Int):=Zap (by omega)
 have c0:(0:Int)≤(n:Int):=by omega
 have c1:(n:Int) < 253:=by omega
 have c2:n < 253:=hn
 simp[Q1k,X0p,Qjl,Xoy,Jg,Qcf,Xw,Xpk,Xit,J7,J8,Xgn,Xaj,X18,Xli,Xba]
 refine Xj8 b s (by omega) _ fun o h1 oo a1 => ?_
 obtain⟨v',h',k1,k2,k3⟩:=Yto (b:=b) oo a1.1 (by omega) (n:Int)
 simp only[i8]at k1
 simp[Q1k,X0p,Qjl,Xoy,Jg,Qcf,Xw,Xpk,Xit,J7,J8,Xgn,Xaj,X18,Xli,Xba,c0,c1,c2,w2,Qvn,i8,k1]
 exact hk v' h' k2 (k3.old a1 oo)
theorem Zd1(b:Nat)(o:Value)(n1:Qgc o=true)(c1:o.cells = #[o]):Qr0 (E b).toEnv 126 [(0,o)]=some (.agg ⟨[o]⟩):=by
 have e:Qr0 (E b).toEnv 126 [(0,o)]=(Xej (nth [(0,1)]) [.slice none 0 0] [(0,o)]).map fun c => .agg c.toArray:=by kernel_rfl
 rw[e]
 simp[Xej,n1,c1,Qjp,over,Nat.ble]
theorem Y9o(b:Nat){h:Heap}{sv:Value}{seed:List Int}(s:SB h sv seed)(hl:seed.length < 1000000000)(K:AEnd→Heap→Prop)(hk:∀ ν v h',h'.get ν=some (.cells true 1 [v])→SB h' v seed→h.next≤ν→(∀ c,U7 v=some c→h.next≤c)→Old h h'→K (.ret (.pointer (some ⟨ν,0,none⟩))) h') :
  FnK Tryd.prog (E b).G 21 [sv] h K:=by
 refine Ur (E b) (Qa1 b) (Vj b) Wf (Qa5 b) (Us b) (Jf b) Yjz Y0n Yvb rfl ?_
 simp[Q1e,X0r,Jf,Jg]
 refine Xj8 b s hl _ fun o h1 oo a1 => ?_
 have bu:Qr0 (E b).toEnv 126 [(0,o)]=some (.agg ⟨[o]⟩):=by
  obtain⟨n1,c1⟩:=Qrn oo.one
  exact Zd1 b o n1 c1
 obtain⟨h2,e2⟩:∃ h2,h2=h1.push (.cells true 1 [o]):=⟨_,rfl⟩
 have bx:X7w (.agg ⟨[o]⟩) h1=some (.pointer (some ⟨h1.next,0,none⟩),h2):=by rw[e2];rfl
 have a2:Old h1 h2:=by rw[e2];exact Old.push _ _
 simp[Q1e,X0r,Jf,Jg,bu,bx]
 exact hk h1.next o h2 (by rw[e2,Heap.get_push,if_pos rfl]) (oo.sl.old a2) a1.1 (fun c hc=>(oo.from hc).1) (a1.trans a2)
theorem Ydx(b:Nat)(o:Int)(h:Heap)(K:AEnd→Heap→Prop)(hk:K (.ret (.bool (decide (1≤o∧o≤32)))) h):FnK Tryd.prog (E b).G 80 [.int .i64 o] h K:=by
 refine Ur (E b) (Qa1 b) (Vj b) Wf (Qa5 b) (Us b) (Vw b) X1l Yow Yib rfl ?_
 by_cases h1:1≤o
 ·by_cases h2:o≤32
  ·simp[Qo8,Q1o,Vw,Qtj,Qcf,Wq,Qtp,Qs0,h1,h2]
   simpa[h1,h2]using hk
  ·simp[Qo8,Q1o,Vw,Qtj,Qcf,Wq,Qtp,Qs0,h1,h2]
   simpa[h1,h2]using hk
 ·simp[Qo8,Q1o,Vw,Qtj,Qcf,Wq,Qtp,Qs0,h1]
  simpa[h1]using hk
end
theorem X90(seed:List Nat):∀ (n k i:Nat),i < n→((Qbu seed n k).drop (i*32)).take 32=Bl.keyed seed [k+i]
 | 0,_,_,h=>by omega
 | n+1,k,0,_=>by
  rw[Qbu,Nat.zero_mul,List.drop_zero,List.take_append_of_le_length (by rw[Qso];exact Nat.le_refl _),List.take_of_length_le (by rw[Qso];exact Nat.le_refl _),Nat.add_zero]
 | n+1,k,i+1,h=>by
  have e0:(Bl.keyed seed [k]).drop 32=[]:=List.drop_of_length_le (by rw[Qso];exact Nat.le_refl _)
  rw[Qbu,Nat.add_mul,Nat.one_mul,Nat.add_comm (i*32) 32,← List.drop_drop,List.drop_append_of_le_length (by rw[Qso];exact Nat.le_refl _),e0,List.nil_append,X90 seed n (Nat.succ k) i (by omega)]
  congr 2
  omega
theorem Y65(seed:List Nat){o:Nat}(h1:1≤o)(h2:o≤32):Q9m (Qbu seed 32 1) (o:Int)=Bl.keyed seed [o]:=by
 unfold Q9m
 rw[show((o:Int)-1).toNat=o-1 by omega,X90 seed 32 1 (o-1) (by omega)]
 congr 2
 omega
end Go.Proofs.YtgeeklmjfbiieaaDoor
end
noncomputable section
namespace Go.Proofs.YtgeeklmjfbiieaaDoor
open Go Go.Ab
set_option maxRecDepth 100000
theorem Zgy{h:Heap}{B:Nat}{dg:List Nat}(hg:h.get B=some (.cells true 1 (dg.map u8v)))(hl:dg.length=32):SN h (.slice (some ⟨B,0,none⟩) 32 32) dg:=by
 have:=(Own.new (n0:=0) (z:=1) (n:=32) (c:=32) (Nat.zero_le _) hg (by simp[hl]) (by decide) (.inr rfl)).sl
 rw[SN,hl]
 exact this
section
attribute [local simp] Qe1 Qh9 Um Vw Je Xua Z8 Qjl Zl Xp kON kOC Xt kNN kNP kRR kRP kEN kER Q4 Xf Z4 Yt aop Qg nth Ab.g0 gv gs Q7 Qd aev evs evO Qi Tr.get_put St.put Tm.put flat flatA Yu Qp Qo Qm Qq Ql Qn Qk X3 Qj Q5 Q6 kTN kTR kTX kTP kBN kBR kBX kBP kCS kCR kCE kAM Xs.putAll X7 Qc Q2 Q1 Qa Qb Q9 Q0 Q3 Q8
theorem Zhg(b:Nat){h:Heap}{ν z:Nat}{ow:Bool}{sv:Value}{seed:List Nat}(hg:h.get ν=some (.cells ow z [sv]))(ss:SN h sv seed)(hl:seed.length < 100000000)(bs:∀ x ∈ seed,x < 256){o:Nat}(h1:1≤o)(h2:o≤32)(K:AEnd→Heap→Prop)(hk:∀ h',Old h h'→K (.ret (.agg ⟨(Bl.keyed seed [o]).map u8v⟩)) h') :
  FnK Tryd.prog (E b).G 81 [.pointer (some ⟨ν,0,none⟩),.int .i64 (o:Int)] h K:=by
 refine Ur (E b) (Qa1 b) (Vj b) Wf (Qa5 b) (Us b) (Um b) Xhh Xsz Xr7 rfl ?_
 obtain⟨hA,eA⟩:∃ hA,hA=h.push (.cells true 1 z32):=⟨_,rfl⟩
 have aA:Old h hA:=by rw[eA];exact Old.push _ _
 have gA:hA.get h.next=some (.cells true 1 z32):=by rw[eA,Heap.get_push,if_pos rfl]
 have alA:Qe4 (E b).toEnv 23 h=some (.pointer (some ⟨h.next,0,none⟩),hA):=by rw[eA];exact Zt b h
 simp[Zt,-Zt,alA]
 refine Ydx b (o:Int) hA _ ?_
 rw[decide_eq_true (show(1:Int)≤(o:Int)∧(o:Int)≤32 by omega)]
 simp[Zt]
 obtain⟨_,hI,c1,n1,v,rfl,oI,aI⟩:=Y69 b (h:=hA) (bv:=.slice none 0 0) (xs:=[]) (n:=o) Sl.nil (by omega) (by simp) (fun r h' => ∃ v,r=.ret v∧OB h' hA.next v [(o:Int)]∧Old hA h') (fun v h' q1 q2=>⟨v,rfl,q1,q2⟩)
 have sI:SN hI v [o]:=oI.sl
 obtain⟨_,hK,c2,n2,rfl,aK⟩:=Y5z b (ss.old (aA.trans aI)) sI hl (by simp) bs (by simp;omega) (fun r h'=>r=.ret (.agg ⟨(Bl.keyed seed [o]).map u8v⟩)∧Old hI h') (fun h' q=>⟨rfl,q⟩)
 obtain⟨dg,hdg⟩:∃ d,d=Bl.keyed seed [o]:=⟨_,rfl⟩
 rw[← hdg]at hk c2
 have kl:dg.length=32:=by rw[hdg];exact Qso _ _
 have aAK:=aI.trans aK
 have gK:=aAK.get gA
 have lK:=Heap.get_lt gK
 obtain⟨hZ,eZ⟩:∃ hZ,hZ=hK.set h.next (some (.cells true 1 (dg.map u8v))):=⟨_,rfl⟩
 have stZ:Wg hK h.next 0 (dg.map u8v)=some hZ:=by
  rw[Qd2 gK (by simp[z32,kl]),eZ]
  congr 4
  simp[z32,kl]
 have aZ:Old h hZ:=by rw[eZ];exact(aA.trans aAK).set _ (Nat.le_refl _) lK
 have ldZ:Qgi hZ h.next 0 32=some (.agg ⟨dg.map u8v⟩):=by
  rw[Qan (by rw[eZ,Heap.get_set _ _ _ _ lK,if_pos rfl]) (by simp[kl]),List.drop_zero,List.take_of_length_le (by simp[kl])]
 have ldA:V2 hA ν 0=some sv:=by rw[Up (aA.get hg)];rfl
 have ldI:V2 hI ν 0=some sv:=by rw[Up ((aA.trans aI).get hg)];rfl
 have ldK:V2 hK ν 0=some sv:=by rw[Up ((aA.trans aAK).get hg)];rfl
 have ldY:V2 hZ ν 0=some sv:=by rw[Up (aZ.get hg)];rfl
 refine Qeo [⟨120,[.slice none 0 0,.int .i64 (o:Int)],hA,v,hI,true⟩,⟨82,[sv,v],hI,.agg ⟨dg.map u8v⟩,hK,true⟩] ?_ Q2s Q4a Q1w (by simp[Ab.runT,Z2,Yp,ldv,Nat.testBit,Vu,Zc,Yy,Zf,loadAt,Qa6,J9,Q78,Xd4,Xf5,Xca,Zt,Qax,ldA,Qfr,Qlu,kl,stZ];first | exact⟨rfl,rfl⟩ | rfl) ?_ ?_
 ·simp only[List.mem_cons,List.not_mem_nil,or_false]
  rintro e (rfl | rfl)
  ·exact⟨c1,n1,fun _ c hc=>aI.2 c hc⟩
  ·exact⟨c2,n2,fun _ c hc=>aK.2 c hc⟩
 ·simp[Z2,Yp,W8,ldv,Ab.runT,Z2,Yp,ldv,Nat.testBit,Vu,Zc,Yy,Zf,loadAt,Qa6,J9,Zt,ldA,ldI,ldK,ldY,X6v ss]
 simp[Zt,Ui,ldZ]
 exact hk hZ aZ
end
def RSI(S9 O7 R6:Nat)(dg:List Nat)(g0:Heap)(k:Nat)(s:St):Prop:=∃ (t:Tr Value) (h1:Heap) (i:Nat),s=⟨⟨31,t⟩,[],h1⟩∧t.get 9=some (.pointer (some ⟨S9,0,none⟩))∧t.get 7=some (.pointer (some ⟨O7,0,none⟩))∧t.get 6=some (.pointer (some ⟨R6,0,none⟩))∧t.get 10=some (.int .i64 (i:Int))∧i≤16∧k=16-i∧h1.next=g0.next∧(∀ c,c≠O7→h1.get c=g0.get c) ∧
 h1.get O7=some (.cells true 1 ((dg.take i).map u8v++List.replicate (16-i) (.int .u8 0)))
section
attribute [local simp] J4 Vw Qe5 Xp kON kOC Xt kNN kNP kRR kRP kEN kER Q4 Xf Z4 Yt aop Qg nth Ab.g0 gv gs Q7 Qd aev evs evO Qi Tr.get_put St.put Tm.put flat flatA Yu Qp Qo Qm Qq Ql Qn Qk X3 Qj Q5 Q6 kTN kTR kTX kTP kBN kBR kBX kBP kCS kCR kCE kAM Xs.putAll X7 Qc Q2 Q1 Qa Qb Q9 Q0 Q3 Q8
theorem Y3n(b:Nat){h:Heap}{ν z:Nat}{ow:Bool}{sv:Value}{seed ds:List Nat}(hg:h.get ν=some (.cells ow z [sv]))(ss:SN h sv seed)(hl:seed.length < 100000000)(bs:∀ x ∈ seed,x < 256)(hds:ds.length=32)(bd:∀ x ∈ ds,x < 256){o:Nat}(h1:1≤o)(h2:o≤32)
  (K:AEnd→Heap→Prop) (hk:∀ h',Old h h'→K (.ret (.agg ⟨(Qq7 (Q9m (Qbu seed 32 1) (o:Int)) ds).map u8v⟩)) h'):FnK Tryd.prog (E b).G 48 [.pointer (some ⟨ν,0,none⟩),.int .i64 (o:Int),.agg ⟨ds.map u8v⟩] h K:=by
 rw[Y65 seed h1 h2]at hk
 refine Ur (E b) (Qa1 b) (Vj b) Wf (Qa5 b) (Us b) (J4 b) Xc3 Xrp Xo9 rfl ?_
 obtain⟨hA,eA⟩:∃ hA,hA=h.push (.cells true 1 (ds.map u8v)):=⟨_,rfl⟩
 obtain⟨hB,eB⟩:∃ hB,hB=hA.push (.cells true 1 z16):=⟨_,rfl⟩
 obtain⟨hC,eC⟩:∃ hC,hC=hB.push (.cells true 1 z16):=⟨_,rfl⟩
 have aA:Old h hA:=by rw[eA];exact Old.push _ _
 have aB:Old hA hB:=by rw[eB];exact Old.push _ _
 have aC:Old hB hC:=by rw[eC];exact Old.push _ _
 have nA:hA.next=h.next+1:=by rw[eA];rfl
 have nB:hB.next=hA.next+1:=by rw[eB];rfl
 have nC:hC.next=hB.next+1:=by rw[eC];rfl
 have gA:hA.get h.next=some (.cells true 1 (ds.map u8v)):=by rw[eA,Heap.get_push,if_pos rfl]
 have gB:hB.get hA.next=some (.cells true 1 z16):=by rw[eB,Heap.get_push,if_pos rfl]
 have gC:hC.get hB.next=some (.cells true 1 z16):=by rw[eC,Heap.get_push,if_pos rfl]
 have bx:X7w (.agg ⟨ds.map u8v⟩) h=some (.pointer (some ⟨h.next,0,none⟩),hA):=by rw[eA];rfl
 have alB:Qe4 (E b).toEnv 90 hA=some (.pointer (some ⟨hA.next,0,none⟩),hB):=by rw[eB];exact Qhy b hA
 have alC:Qe4 (E b).toEnv 90 hB=some (.pointer (some ⟨hB.next,0,none⟩),hC):=by rw[eC];exact Qhy b hB
 have a0C:=(aA.trans aB).trans aC
 simp[Qa8,Qc3,Qhy,Qzg,Um,Zt,Je,Zl,Xw,Qhk,Qd8,Qxa,Qaw,Yi,bx,-Qhy,alB,alC]
 refine Ydx b (o:Int) hC _ ?_
 rw[decide_eq_true (show(1:Int)≤(o:Int)∧(o:Int)≤32 by omega)]
 simp[Qa8,Qc3,Qhy,Qzg,Um,Zt,Je,Zl,Xw,Qhk,Qd8,Qxa,Qaw,Yi]
 refine Zhg b (a0C.get hg) (ss.old a0C) hl bs h1 h2 _ fun hD aD => ?_
 obtain⟨ky,hky⟩:∃ d,d=Bl.keyed seed [o]:=⟨_,rfl⟩
 rw[← hky]at hk ⊢
 have kl:ky.length=32:=by rw[hky];exact Qso _ _
 have bk:∀ x ∈ ky,x < 256:=by rw[hky];exact Y1v _ _
 obtain⟨hX,eX⟩:∃ hX,hX=hD.push (.cells true 1 z32):=⟨_,rfl⟩
 have alX:Qe4 (E b).toEnv 23 hD=some (.pointer (some ⟨hD.next,0,none⟩),hX):=by rw[eX];exact Zt b hD
 have gX:hX.get hD.next=some (.cells true 1 z32):=by rw[eX,Heap.get_push,if_pos rfl]
 have lX:=Heap.get_lt gX
 obtain⟨hY,eY⟩:∃ hY,hY=hX.set hD.next (some (.cells true 1 (ky.map u8v))):=⟨_,rfl⟩
 have stY:Wg hX hD.next 0 (ky.map u8v)=some hY:=by
  rw[Qd2 gX (by simp[z32,kl]),eY]
  congr 4
  simp[z32,kl]
 have gY:hY.get hD.next=some (.cells true 1 (ky.map u8v)):=by rw[eY,Heap.get_set _ _ _ _ lX,if_pos rfl]
 have aY:Old hD hY:=by rw[eY,eX];exact(Old.push _ _).set _ (Nat.le_refl _) (by rw[← eX];exact lX)
 simp[Qa8,Qc3,Qhy,Qzg,Um,Zt,Je,Zl,Xw,Qhk,Qd8,Qxa,Qaw,Yi,-Zt,alX,kl,stY]
 have aCY:=aD.trans aY
 have sk:=Zgy gY kl
 have sd:=Zgy (((aB.trans aC).trans aCY).get gA) hds
 obtain⟨_,hE,c1,n1,rfl,aE⟩:=Xkz b sk sd (by omega) (by omega) bk bd (fun r h'=>r=.ret (.agg ⟨(Bl.keyed1 ky ds).map u8v⟩)∧Old hY h') (fun h' q=>⟨rfl,q⟩)
 obtain⟨dg,hdg⟩:∃ d,d=Bl.keyed1 ky ds:=⟨_,rfl⟩
 have dl:dg.length=32:=by rw[hdg];exact Qj0 _
 rw[← hdg]at c1
 have etag:Qq7 ky ds=dg.take 16:=by rw[hdg];rfl
 rw[etag]at hk
 obtain⟨hZ,eZ⟩:∃ hZ,hZ=hE.push (.cells true 1 z32):=⟨_,rfl⟩
 have alZ:Qe4 (E b).toEnv 23 hE=some (.pointer (some ⟨hE.next,0,none⟩),hZ):=by rw[eZ];exact Zt b hE
 have gZ:hZ.get hE.next=some (.cells true 1 z32):=by rw[eZ,Heap.get_push,if_pos rfl]
 have lZ:=Heap.get_lt gZ
 obtain⟨hW,eW⟩:∃ hW,hW=hZ.set hE.next (some (.cells true 1 (dg.map u8v))):=⟨_,rfl⟩
 have stW:Wg hZ hE.next 0 (dg.map u8v)=some hW:=by
  rw[Qd2 gZ (by simp[z32,dl]),eW]
  congr 4
  simp[z32,dl]
 have gW:hW.get hE.next=some (.cells true 1 (dg.map u8v)):=by rw[eW,Heap.get_set _ _ _ _ lZ,if_pos rfl]
 have aW:Old hE hW:=by rw[eW,eZ];exact(Old.push _ _).set _ (Nat.le_refl _) (by rw[← eZ];exact lZ)
 refine Qeo [⟨82,[.slice (some ⟨hD.next,0,none⟩) 32 32,.slice (some ⟨h.next,0,none⟩) 32 32],hY,.agg ⟨dg.map u8v⟩,hE,true⟩] ?_ Q09 Q1l Qzy (by simp[Ab.runT,Z2,Yp,ldv,Nat.testBit,Vu,Zc,Yy,Zf,loadAt,Qa6,J9,Q42,Q8y,Qa8,Qc3,Qhy,Qzg,Um,Zt,Je,Zl,Xw,Qhk,Qd8,Qxa,Qaw,Yi,X6w,Qfr,-Zt,alZ,dl,stW];first | exact⟨rfl,rfl⟩ | rfl) ?_ ?_
 ·simp only[List.mem_cons,List.not_mem_nil,or_false]
  rintro e rfl
  exact⟨c1,n1,fun _ c hc=>aE.2 c hc⟩
 ·simp[Z2,Yp,Qc4,ldv,Ab.runT,Z2,Yp,ldv,Nat.testBit,Vu,Zc,Yy,Zf,loadAt,Qa6,J9,Qa8,Qc3,Qhy,Qzg,Um,Zt,Je,Zl,Xw,Qhk,Qd8,Qxa,Qaw,Yi]
 simp[Qa8,Qc3,Qhy,Qzg,Um,Zt,Je,Zl,Xw,Qhk,Qd8,Qxa,Qaw,Yi]
 have aCW:=(aCY.trans aE).trans aW
 have gO:=aCW.get gC
 refine Qfy (RSI hE.next hB.next hA.next dg hW) 16 ⟨_,hW,0,rfl,by simp,by simp,by simp,by simp,by omega,rfl,rfl,fun _ _=>rfl,by simpa[z16]using gO⟩ ?_
 rintro k s' ⟨t,g,i,rfl,t9,t7,t6,t10,hi,rfl,gn,gsm,go⟩ _
 have nE:hB.next < hE.next:=by have:=(aCY.trans aE).1;omega
 by_cases hlt:i < 16
 ·have hlt':(i:Int) < 16:=by omega
  have hw:IntKind.i64.wrap ((i:Int)+1)=((i+1:Nat):Int):=by rw[Ug (by omega) (by omega)];omega
  have gS:g.get hE.next=some (.cells true 1 (dg.map u8v)):=by rw[gsm _ (by omega)];exact gW
  have lO:=Heap.get_lt go
  obtain⟨y,hy⟩:∃ y,dg[i]? = some y:=⟨_,List.getElem?_eq_getElem (by omega)⟩
  have x1:Zn (E b).toEnv 23 (.pointer (some ⟨hE.next,0,none⟩)) (.int .i64 (i:Int))=some (.pointer (some ⟨hE.next,i,none⟩)):=by simpa using Qhk b (bk:=hE.next) (o:=0) (k:=.i64) (i:=(i:Int)) ⟨by omega,by omega⟩
  have x2:Zn (E b).toEnv 90 (.pointer (some ⟨hB.next,0,none⟩)) (.int .i64 (i:Int))=some (.pointer (some ⟨hB.next,i,none⟩)):=by simpa using Qxa b (bk:=hB.next) (o:=0) (k:=.i64) (i:=(i:Int)) ⟨by omega,by omega⟩
  have l1:V2 g hE.next i=some (u8v y):=by rw[Up gS,List.getElem?_map,hy];rfl
  obtain⟨g2,e2⟩:∃ g2,g2=g.set hB.next (some (.cells true 1 ((dg.take (i+1)).map u8v++List.replicate (16-(i+1)) (.int .u8 0)))):=⟨_,rfl⟩
  have st2:Wg g hB.next i [.int .u8 (y:Int)]=some g2:=by
   rw[Qbz go (by simp;omega),e2]
   congr 4
   rw[List.take_succ,hy,List.set_append_right _ _ (by simp;omega)]
   have : i-((dg.take i).map u8v).length=0:=by simp;omega
   rw[this,show 16-i=(16-(i+1))+1 by omega,List.replicate_succ]
   simp[u8v]
  have l1':V2 g hE.next i=some (.int .u8 (y:Int)):=l1
  simp[Qa8,Qc3,Qhy,Qzg,Um,Zt,Je,Zl,Xw,Qhk,Qd8,Qxa,Qaw,Yi,t9,t7,t6,t10,hlt',x1,x2,l1',st2,hw]
  refine⟨16-(i+1),by omega,_,g2,i+1,rfl,by simp[t9],by simp[t7],by simp[t6],by simp,by omega,rfl,by rw[e2];exact gn,fun c hc => ?_,by rw[e2,Heap.get_set _ _ _ _ lO,if_pos rfl]⟩
  rw[e2,Heap.get_set _ _ _ _ lO,if_neg (Ne.symm hc),gsm c hc]
 ·have hlt':¬ (i:Int) < 16:=by omega
  have : i=16:=by omega
  subst this
  have go':g.get hB.next=some (.cells true 1 ((dg.take 16).map u8v)):=by simpa using go
  have tl:(dg.take 16).length=16:=by rw[List.length_take];omega
  have ldO:Qgi g hB.next 0 16=some (.agg ⟨(dg.take 16).map u8v⟩):=by rw[Qan go' (by simp[dl]),List.drop_zero,List.take_of_length_le (by simp[dl])]
  have gR:g.get hA.next=some (.cells true 1 z16):=by rw[gsm _ (by omega)];exact(aC.trans aCW).get gB
  have lR:=Heap.get_lt gR
  obtain⟨g2,e2⟩:∃ g2,g2=g.set hA.next (some (.cells true 1 ((dg.take 16).map u8v))):=⟨_,rfl⟩
  have st2:Wg g hA.next 0 ((dg.take 16).map u8v)=some g2:=by
   rw[Qd2 gR (by simp[z16,dl]),e2]
   congr 4
   simp[z16,dl]
  have ld2:Qgi g2 hA.next 0 16=some (.agg ⟨(dg.take 16).map u8v⟩):=by rw[Qan (by rw[e2,Heap.get_set _ _ _ _ lR,if_pos rfl]) (by simp[dl]),List.drop_zero,List.take_of_length_le (by simp[dl])]
  have lenT:((dg.take 16).map u8v).length=16:=by simp[dl]
  simp only[List.map_take]at ldO st2 ld2 hk lenT
  simp[Qa8,Qc3,Qhy,Qzg,Um,Zt,Je,Zl,Xw,Qhk,Qd8,Qxa,Qaw,Yi,t9,t7,t6,t10,ldO,dl,st2,ld2]
  refine hk g2 ⟨?_,fun c hc => ?_⟩
  ·rw[e2]
   have:=(a0C.trans aCW).1
   show h.next≤g.next
   omega
  ·rw[e2,Heap.get_set _ _ _ _ lR,if_neg (by omega),gsm c (by omega),(a0C.trans aCW).2 c hc]
theorem Y7l(b:Nat){h:Heap}{ν z:Nat}{ow:Bool}{sv:Value}{seed ds tg:List Nat}(hg:h.get ν=some (.cells ow z [sv]))(ss:SN h sv seed)(hl:seed.length < 100000000)(bs:∀ x ∈ seed,x < 256)(hds:ds.length=32)(bd:∀ x ∈ ds,x < 256)(htg:tg.length=16){o:Nat}
  (K:AEnd→Heap→Prop) (hk:∀ h',Old h h'→K (.ret (.bool (decide (1≤(o:Int)∧(o:Int)≤32) && decide (Qq7 (Q9m (Qbu seed 32 1) (o:Int)) ds=tg)))) h'):FnK Tryd.prog (E b).G 133 [.pointer (some ⟨ν,0,none⟩),.int .i64 (o:Int),.agg ⟨ds.map u8v⟩,.agg ⟨tg.map u8v⟩] h K:=by
 refine Ur (E b) (Qa1 b) (Vj b) Wf (Qa5 b) (Us b) (Zx b) Q4w Xhr Xbj rfl ?_
 obtain⟨hA,eA⟩:∃ hA,hA=h.push (.cells true 1 (ds.map u8v)):=⟨_,rfl⟩
 obtain⟨hB,eB⟩:∃ hB,hB=hA.push (.cells true 1 (tg.map u8v)):=⟨_,rfl⟩
 have aA:Old h hA:=by rw[eA];exact Old.push _ _
 have aB:Old hA hB:=by rw[eB];exact Old.push _ _
 have gA:hA.get h.next=some (.cells true 1 (ds.map u8v)):=by rw[eA,Heap.get_push,if_pos rfl]
 have gB:hB.get hA.next=some (.cells true 1 (tg.map u8v)):=by rw[eB,Heap.get_push,if_pos rfl]
 have bxA:X7w (.agg ⟨ds.map u8v⟩) h=some (.pointer (some ⟨h.next,0,none⟩),hA):=by rw[eA];rfl
 have bxB:X7w (.agg ⟨tg.map u8v⟩) hA=some (.pointer (some ⟨hA.next,0,none⟩),hB):=by rw[eB];rfl
 simp[Qa9,Qc7,Zx,Ui,Qom,bxA,bxB]
 obtain⟨_,_,c1,n1,rfl,rfl⟩:=Ydx b (o:Int) hB (fun r h'=>r=.ret (.bool (decide (1≤(o:Int)∧(o:Int)≤32)))∧hB=h') ⟨rfl,rfl⟩
 have ldA:Qgi hB h.next 0 32=some (.agg ⟨ds.map u8v⟩):=by
  rw[Qan (aB.get gA) (by simp[hds]),List.drop_zero,List.take_of_length_le (by simp[hds])]
 have ldB:Qgi hB hA.next 0 16=some (.agg ⟨tg.map u8v⟩):=by
  rw[Qan gB (by simp[htg]),List.drop_zero,List.take_of_length_le (by simp[htg])]
 by_cases ho:1≤(o:Int)∧(o:Int)≤32
 ·rw[decide_eq_true ho]at c1 hk
  obtain⟨_,hC,c2,n2,rfl,aC⟩:=Y3n b ((aA.trans aB).get hg) (ss.old (aA.trans aB)) hl bs hds bd (o:=o) (by omega) (by omega) (fun r h'=>r=.ret (.agg ⟨(Qq7 (Q9m (Qbu seed 32 1) (o:Int)) ds).map u8v⟩)∧Old hB h') (fun h' q=>⟨rfl,q⟩)
  have ldA2:Qgi hC h.next 0 32=some (.agg ⟨ds.map u8v⟩):=by
   rw[Qan (aC.get (aB.get gA)) (by simp[hds]),List.drop_zero,List.take_of_length_le (by simp[hds])]
  have ldB2:Qgi hC hA.next 0 16=some (.agg ⟨tg.map u8v⟩):=by
   rw[Qan (aC.get gB) (by simp[htg]),List.drop_zero,List.take_of_length_le (by simp[htg])]
  refine Qeo [⟨80,[.int .i64 (o:Int)],hB,.bool true,hB,true⟩,⟨48,[.pointer (some ⟨ν,0,none⟩),.int .i64 (o:Int),.agg ⟨ds.map u8v⟩],hB,.agg ⟨(Qq7 (Q9m (Qbu seed 32 1) (o:Int)) ds).map u8v⟩,hC,true⟩] ?_ Qll Qmg Qlg (by simp[Ab.runT,Z2,Yp,ldv,Nat.testBit,Vu,Zc,Yy,Zf,loadAt,Qa6,J9,Qn9,Qn6,Qo3,Qnw,Qa9,Qc7,Zx,Ui,Qom,ldA,ldB,teq b htg Ypc,Qfr,Qlu];first | exact⟨rfl,rfl⟩ | rfl) ?_ ?_
  ·simp only[List.mem_cons,List.not_mem_nil,or_false]
   rintro e (rfl | rfl)
   ·exact⟨c1,n1,fun _ _ _=>rfl⟩
   ·exact⟨c2,n2,fun _ c hc=>aC.2 c hc⟩
  ·simp[Z2,Yp,Ut,ldv,Ab.runT,Z2,Yp,ldv,Nat.testBit,Vu,Zc,Yy,Zf,loadAt,Qa6,J9,Qa9,Qc7,Zx,Ui,Qom,ldA,ldB,ldA2,ldB2]
  simp[Qa9,Qc7,Zx,Ui,Qom]
  have:=hk hC ((aA.trans aB).trans aC)
  rw[Bool.true_and]at this
  simpa[eq_comm]using this
 ·rw[decide_eq_false ho]at c1 hk
  refine Qeo [⟨80,[.int .i64 (o:Int)],hB,.bool false,hB,true⟩] ?_ Qll Qmg Qlg (by simp[Ab.runT,Z2,Yp,ldv,Nat.testBit,Vu,Zc,Yy,Zf,loadAt,Qa6,J9,Qn9,Qn6,Qo3,Qnw,Qa9,Qc7,Zx,Ui,Qom,Qfr];first | exact⟨rfl,rfl⟩ | rfl) ?_ ?_
  ·simp only[List.mem_cons,List.not_mem_nil,or_false]
   rintro e rfl
   exact⟨c1,n1,fun _ _ _=>rfl⟩
  ·simp[Z2,Yp,Ut,ldv,Ab.runT,Z2,Yp,ldv,Nat.testBit,Vu,Zc,Yy,Zf,loadAt,Qa6,J9,Qa9,Qc7,Zx,Ui,Qom]
  simp[Qa9,Qc7,Zx,Ui,Qom]
  have:=hk hB (aA.trans aB)
  simpa using this
end
end Go.Proofs.YtgeeklmjfbiieaaDoor
end
noncomputable section
namespace Go.Proofs.YtgeeklmjfbiieaaDoor
open Go Go.Ab
set_option maxRecDepth 100000
section
variable{h:Heap}{MB:Nat→Prop}{μ:Nat}{e:Menv}{ps:List (Value × List Int)}{on had:List Bool}{sv ov dv:Value}{z:Nat}
theorem RAt.c0(r:RAt h MB μ e ps on had sv ov dv z):V2 h μ 0=some e.nk:=by rw[Up r.at'];rfl
theorem RAt.dg(r:RAt h MB μ e ps on had sv ov dv z):Qgi h μ 1 32=some (.agg ⟨e.dig⟩):=by
 rw[Qan r.at' (by simp[e.len])]
 congr 3
 show((e.dig ++ [Value.int .i64 e.lk]) ++ [sv,ov,dv]).take 32=_
 rw[List.append_assoc,List.take_append_of_le_length (by rw[e.hd];exact Nat.le_refl _),List.take_of_length_le (by rw[e.hd];exact Nat.le_refl _)]
theorem RAt.c33(r:RAt h MB μ e ps on had sv ov dv z):V2 h μ 33=some (.int .i64 e.lk):=by
 rw[Up r.at',List.getElem?_append_left (by rw[e.len];omega)]
 simp[Menv.cells,e.hd]
end
structure RWd (h:Heap) (MB:Nat→Prop) (e:Menv) (seed:List Nat) (a:Asks):Prop where
 nota:∃ ν z ow v,e.nk=.pointer (some ⟨ν,0,none⟩)∧h.get ν=some (.cells ow z [v])∧SN h v seed∧¬ MB ν∧∀ c,U7 v=some c→¬ MB c
 dg:e.dig=a.dg.map u8v
 lk:e.lk=a.lk
 ks:a.ks=Qbu seed 32 1
 sl:seed.length < 100000000
 bs:∀ x ∈ seed,x < 256
 bd:∀ x ∈ a.dg,x < 256
theorem RWd.mv{h h':Heap}{MB MB':Nat→Prop}{e:Menv}{seed:List Nat}{a:Asks}(w:RWd h MB e seed a)(m:Mv MB MB' h h'):RWd h' MB' e seed a:=by
 obtain⟨ν,z,ow,v,e1,e2,e3,e4,e5⟩:=w.nota
 have no:∀ c,c < h.next→¬ MB c→¬ MB' c:=fun c hc hn q=>by
  rcases m.sub c q with q | q
  ·exact hn q
  ·omega
 have hl:=Heap.get_lt e2
 exact⟨⟨ν,z,ow,v,e1,by rw[m.same ν hl e4];exact e2,e3.keep fun c hc hlt=>m.same c hlt (e5 c hc),no ν hl e4,fun c hc=>no c (e3.blk hc) (e5 c hc)⟩,w.dg,w.lk,w.ks,w.sl,w.bs,w.bd⟩
def SGI(μ T3:Nat)(v w:Value)(y:List Int)(g0:Heap)(k:Nat)(s:St):Prop:=∃ (t:Tr Value) (h1:Heap) (i:Nat),s=⟨⟨50,t⟩,[],h1⟩∧t.get 0=some (.pointer (some ⟨μ,0,none⟩))∧t.get 3=some v∧t.get 4=some w∧t.get 5=some (.pointer (some ⟨T3,0,none⟩))∧t.get 6=some (.int .i64 (i:Int))∧i≤16∧k=16-i∧h1.next=g0.next∧(∀ c,c≠T3→h1.get c=g0.get c) ∧
 h1.get T3=some (.cells true 1 ((y.take i).map i8++List.replicate (16-i) (.int .u8 0)))
section
attribute [local simp] V5 U1 Xq Vl X1 Yj Qdl Vm Va Vk Xw Uh Qd8 Qxa Qaw Yi Xh Qe3 Qrt Xx9 W9 Wb Qs3 Ui Qe5 Zx Xr Y2 Xp kON kOC Xt kNN kNP kRR kRP kEN kER Q4 Xf Z4 Yt aop Qg nth Ab.g0 gv gs Q7 Qd aev evs evO Qi Tr.get_put St.put Tm.put flat flatA Yu Qp Qo Qm Qq Ql Qn Qk X3 Qj Q5 Q6 kTN kTR kTX kTP kBN kBR kBX kBP kCS kCR kCE kAM Xs.putAll X7 Qc Q2 Q1 Qa Qb Q9 Q0 Q3 Q8
theorem Y6z(b:Nat){h:Heap}{MB:Nat→Prop}{μ:Nat}{e:Menv}{p q:Value × List Int}{ps:List (Value × List Int)}{on had:List Bool}(M:RMach h MB μ e (p::q::ps) on had)(hl:ps.length < 900)(hb:¬ (p.2.length=1∧q.2.length=16))(K:AEnd→Heap→Prop)(hk:K (.ret (.int .i64 16)) h) :
  FnK Tryd.prog (E b).G 99 [.pointer (some ⟨μ,0,none⟩)] h K:=by
 have M0:=M
 obtain⟨sv,ov,dv,z,r⟩:=M0
 refine Ur (E b) (Qa1 b) (Vj b) Wf (Qa5 b) (Us b) (Xq b) Qox Qsh Qqx rfl ?_
 simp[Qhy]
 refine Qp7 b M (n:=0) (p:=p) rfl (by simp;omega) _ ?_
 simp[Qhy]
 refine Qp7 b M (n:=1) (p:=q) rfl (by simp;omega) _ ?_
 have len1:=fun hx=>Qcp (b:=b) (h1:=hx) (r.its p (by simp)).1
 have len2:=fun hx=>Qcp (b:=b) (h1:=hx) (r.its q (by simp)).1
 by_cases h1:p.2.length=1
 ·have h2:¬ (q.2.length:Int)=16:=fun hq=>hb ⟨h1,by omega⟩
  rw[h1]at len1
  have len1':∀ hx,Qkb (E b).toEnv 47 p.1 hx=some (.int .i64 1):=len1
  simp[Qhy,len1',len2,h2]
  exact hk
 ·have h1':¬ (p.2.length:Int)=1:=by omega
  simp[Qhy,len1,h1']
  exact hk
set_option maxHeartbeats 1000000 in
theorem Zbe(b:Nat){h:Heap}{MB:Nat→Prop}{μ:Nat}{e:Menv}{seed:List Nat}{a:Asks}{p q:Value × List Int}{ps:List (Value × List Int)}{on had:List Bool}(M:RMach h MB μ e (p::q::ps) on had)(W:RWd h MB e seed a)(hl:ps.length < 900)(hps:∀ p ∈ ps,p.2.length < 1000000000)
  (h1:p.2.length=1) (h2:q.2.length=16) (K:AEnd→Heap→Prop) (hk:∀ h' ps',ps'.map (·.2)=Y6f (Y2t a (p.2.getD 0 0) q.2)::ps.map (·.2)→RMach h' MB μ e ps' on had→Mv MB MB h h'→K (.ret (.int .i64 (X89 (decide ((ps.length:Int)+1≤16))))) h') :
  FnK Tryd.prog (E b).G 99 [.pointer (some ⟨μ,0,none⟩)] h K:=by
 have M0:=M
 obtain⟨sv,ov,dv,z,r⟩:=M0
 refine Ur (E b) (Qa1 b) (Vj b) Wf (Qa5 b) (Us b) (Xq b) Qox Qsh Qqx rfl ?_
 simp[Qhy]
 refine Qp7 b M (n:=0) (p:=p) rfl (by simp;omega) _ ?_
 simp[Qhy]
 refine Qp7 b M (n:=1) (p:=q) rfl (by simp;omega) _ ?_
 obtain⟨v,x⟩:=p
 obtain⟨w,y⟩:=q
 simp only at h1 h2 hk
 obtain⟨i1,by1,o1⟩:=r.its (v,x) (by simp)
 obtain⟨i2,by2,o2⟩:=r.its (w,y) (by simp)
 simp only at i1 by1 o1 i2 by2 o2
 have len1:=fun hx=>Qcp (b:=b) (h1:=hx) i1
 have len2:=fun hx=>Qcp (b:=b) (h1:=hx) i2
 rw[h1]at len1
 rw[h2]at len2
 have len1':∀ hx,Qkb (E b).toEnv 47 v hx=some (.int .i64 1):=len1
 have len2':∀ hx,Qkb (E b).toEnv 47 w hx=some (.int .i64 16):=len2
 obtain⟨hA,eA⟩:∃ hA,hA=h.push (.cells true 1 z16):=⟨_,rfl⟩
 have aA:Old h hA:=by rw[eA];exact Old.push _ _
 have nA:hA.next=h.next+1:=by rw[eA];rfl
 have gA:hA.get h.next=some (.cells true 1 z16):=by rw[eA,Heap.get_push,if_pos rfl]
 have alA:Qe4 (E b).toEnv 90 h=some (.pointer (some ⟨h.next,0,none⟩),hA):=by rw[eA];exact Qhy b h
 simp[Qhy,len1',len2',-Qhy,alA]
 refine Qfy (SGI μ h.next v w y hA) 16 ⟨_,hA,0,rfl,by simp,by simp,by simp,by simp,by simp,by omega,rfl,rfl,fun _ _=>rfl,by simpa[z16]using gA⟩ ?_
 rintro k s' ⟨t,g,i,rfl,t0,t3,t4,t5,t6,hi,rfl,gn,gsm,go⟩ _
 have aG:Old h g:=⟨by omega,fun c hc=>by rw[gsm c (by omega),aA.2 c hc]⟩
 have lO:=Heap.get_lt go
 by_cases hlt:i < 16
 ·have hlt':(i:Int) < 16:=by omega
  have hw:IntKind.i64.wrap ((i:Int)+1)=((i+1:Nat):Int):=by rw[Ug (by omega) (by omega)];omega
  obtain⟨c,hc⟩:∃ c,y[i]? = some c:=⟨_,List.getElem?_eq_getElem (by omega)⟩
  obtain⟨bk,off,q1,q2,q3⟩:=Xnf (b:=b) (i2.old aG) (k:=.i64) hc
  have x2:Zn (E b).toEnv 90 (.pointer (some ⟨h.next,0,none⟩)) (.int .i64 (i:Int))=some (.pointer (some ⟨h.next,i,none⟩)):=by simpa using Qxa b (bk:=h.next) (o:=0) (k:=.i64) (i:=(i:Int)) ⟨by omega,by omega⟩
  simp only[i8]at q3
  obtain⟨g2,e2⟩:∃ g2,g2=g.set h.next (some (.cells true 1 ((y.take (i+1)).map i8++List.replicate (16-(i+1)) (.int .u8 0)))):=⟨_,rfl⟩
  have st2:Wg g h.next i [.int .u8 c]=some g2:=by
   rw[Qbz go (by simp;omega),e2]
   congr 4
   rw[List.take_succ,hc,List.set_append_right _ _ (by simp;omega)]
   have : i-((y.take i).map i8).length=0:=by simp;omega
   rw[this,show 16-i=(16-(i+1))+1 by omega,List.replicate_succ]
   simp[i8]
  simp[Qhy,t0,t3,t4,t5,t6,hlt',q2,q3,x2,st2,hw]
  refine⟨16-(i+1),by omega,_,g2,i+1,rfl,by simp[t0],by simp[t3],by simp[t4],by simp[t5],by simp,by omega,rfl,by rw[e2];exact gn,fun c hc => ?_,by rw[e2,Heap.get_set _ _ _ _ lO,if_pos rfl]⟩
  rw[e2,Heap.get_set _ _ _ _ lO,if_neg (Ne.symm hc),gsm c hc]
 ·have hlt':¬ (i:Int) < 16:=by omega
  have : i=16:=by omega
  subst this
  have go':g.get h.next=some (.cells true 1 ((Xm5 y).map u8v)):=by
   rw[← Yxu by2]
   simpa[List.take_of_length_le (by omega:y.length≤16)]using go
  have yl:(Xm5 y).length=16:=by simp[Xm5,h2]
  have MG:RMach g MB μ e ((v,x)::(w,y)::ps) on had:=M.old aG
  simp[Qhy,t0,t3,t4,t5,t6]
  refine Q9u b MG (n:=2) (by simp) (by simp;omega) _ fun h3 M3 m3 => ?_
  simp only[List.drop_succ_cons,List.drop_zero]at M3
  have M3':=M3
  obtain⟨sv3,ov3,dv3,z3,r3⟩:=M3'
  have nMB:¬ MB h.next:=fun q=>by have:=r.low _ q;omega
  have g3:h3.get h.next=some (.cells true 1 ((Xm5 y).map u8v)):=by rw[m3.same _ lO nMB];exact go'
  have ldT:Qgi h3 h.next 0 16=some (.agg ⟨(Xm5 y).map u8v⟩):=by rw[Qan g3 (by simp[yl]),List.drop_zero,List.take_of_length_le (by simp[yl])]
  have W3:=(W.mv (Mv.old aG)).mv m3
  obtain⟨ν,zz,ow,sv',w1,w2,w3,w4,w5⟩:=W3.nota
  obtain⟨z1,rfl⟩:∃ z1,x=[z1]:=by
   match x,h1 with
   | [z1],_=>exact⟨z1,rfl⟩
  have hz:=by1 z1 (by simp)
  obtain⟨n1,rfl⟩:∃ n:Nat,z1=(n:Int):=⟨z1.toNat,by omega⟩
  have i3:SB h3 v [(n1:Int)]:=(i1.old aG).keep fun c hc hlt=>m3.same c hlt (o1 c hc)
  obtain⟨bk,off,x1,x2,x3⟩:=Xnf (b:=b) i3 (k:=.i64) (i:=0) (z:=(n1:Int)) rfl
  simp only[i8]at x3
  simp at x2
  have ww1:IntKind.i64.wrap (n1:Int)=(n1:Int):=Ug (by omega) (by omega)
  have c0:=r3.c0
  have cd:=r3.dg
  rw[w1]at c0
  rw[W3.dg]at cd
  obtain⟨_,h4,c1,cn1,rfl,a4⟩:=Y7l b w2 w3 W.sl W.bs a.hdg W.bd yl (o:=n1) (fun r h'=>r=.ret (.bool (Y2t a n1 y))∧Old h3 h') (fun h' q=>⟨by rw[Y2t,W.ks],q⟩)
  obtain⟨_,h5,c2,cn2,rfl,ps5,e5,M5,m5⟩:=Y3h b (M3.old a4) (by omega) hps (Y2t a n1 y) (fun r h'=>r=.ret (.bool (decide ((ps.length:Int)+1≤16)))∧∃ ps',ps'.map (·.2)=Y6f (Y2t a n1 y)::ps.map (·.2)∧RMach h' MB μ e ps' on had∧Mv MB MB h4 h') (fun h' ps' q1 q2 q3=>⟨rfl,ps',q1,q2,q3⟩)
  obtain⟨_,_,c3,cn3,rfl,rfl⟩:=Q2e b (decide ((ps.length:Int)+1≤16)) h5 (fun r h'=>r=.ret (.int .i64 (X89 (decide ((ps.length:Int)+1≤16))))∧h5=h') ⟨rfl,rfl⟩
  simp[Qhy]
  refine Qeo [⟨133,[.pointer (some ⟨ν,0,none⟩),.int .i64 (n1:Int),.agg ⟨a.dg.map u8v⟩,.agg ⟨(Xm5 y).map u8v⟩],h3,.bool (Y2t a n1 y),h4,true⟩,⟨98,[.pointer (some ⟨μ,0,none⟩),.bool (Y2t a n1 y)],h4,.bool (decide ((ps.length:Int)+1≤16)),h5,false⟩,⟨60,[.bool (decide ((ps.length:Int)+1≤16))],h5,.int .i64 (X89 (decide ((ps.length:Int)+1≤16))),h5,true⟩] ?_ Qtn Qw3 Qtk (by simp[Ab.runT,Z2,Yp,ldv,Nat.testBit,Vu,Zc,Yy,Zf,loadAt,Qa6,J9,Qym,Qxm,Qyk,Qz5,Qhy,t0,t3,t4,t5,t6,Qax,c0,cd,x2,x3,ww1,ldT,Qfr,Qlu];first | exact⟨rfl,rfl⟩ | rfl) ?_ ?_
  ·simp only[List.mem_cons,List.not_mem_nil,or_false]
   rintro e (rfl | rfl | rfl)
   ·exact⟨c1,cn1,fun _ c hc=>a4.2 c hc⟩
   ·exact⟨c2,cn2,fun hq=>by cases hq⟩
   ·exact⟨c3,cn3,fun _ _ _=>rfl⟩
  ·simp[Z2,Yp,U5,ldv,Ab.runT,Z2,Yp,ldv,Nat.testBit,Vu,Zc,Yy,Zf,loadAt,Qa6,J9,Qhy]
  simp[Qhy]
  exact hk h5 ps5 e5 M5 (((Mv.old aG).trans m3).trans ((Mv.old a4).trans m5))
end
theorem X7a{u w i:Nat}(hu:u < 2 ^ i)(hw:u+w*2 ^ i < 2 ^ 63):Znx (u:Int) ((w*2 ^ i:Nat):Int)=((u+w*2 ^ i:Nat):Int):=by
 unfold Znx
 rw[BitVec.ofInt_natCast,BitVec.ofInt_natCast,BitVec.toNat_or,BitVec.toNat_ofNat,BitVec.toNat_ofNat,Nat.mod_eq_of_lt (by omega),Nat.mod_eq_of_lt (by omega),Nat.or_comm,← Nat.shiftLeft_eq,← Nat.shiftLeft_add_eq_or_of_lt hu,Nat.shiftLeft_eq,Ug (by omega) (by omega)]
 omega
theorem Y8q{x:List Int}(hl:x.length=4)(hx:Bytes x):Xc8 x 4=x.getD 0 0+256*x.getD 1 0+65536*x.getD 2 0+16777216*x.getD 3 0:=by
 match x,hl with
 | [p,q,r,s],_ =>
  have hp:=hx p (by simp)
  have hq:=hx q (by simp)
  have hr:=hx r (by simp)
  have hs:=hx s (by simp)
  obtain⟨p',rfl⟩:∃ n:Nat,p=(n:Int):=⟨p.toNat,by omega⟩
  obtain⟨q',rfl⟩:∃ n:Nat,q=(n:Int):=⟨q.toNat,by omega⟩
  obtain⟨r',rfl⟩:∃ n:Nat,r=(n:Int):=⟨r.toNat,by omega⟩
  obtain⟨s',rfl⟩:∃ n:Nat,s=(n:Int):=⟨s.toNat,by omega⟩
  have k0:IntKind.i64.wrap (([(p':Int),q',r',s'].getD 0 0)*2 ^ (8*0))=((p'*2 ^ 0:Nat):Int):=by rw[Ug (by simp <;> omega) (by simp <;> omega)];simp
  have k1:IntKind.i64.wrap (([(p':Int),q',r',s'].getD 1 0)*2 ^ (8*1))=((q'*2 ^ 8:Nat):Int):=by rw[Ug (by simp;omega) (by simp;omega)];simp
  have k2:IntKind.i64.wrap (([(p':Int),q',r',s'].getD 2 0)*2 ^ (8*2))=((r'*2 ^ 16:Nat):Int):=by rw[Ug (by simp;omega) (by simp;omega)];simp
  have k3:IntKind.i64.wrap (([(p':Int),q',r',s'].getD 3 0)*2 ^ (8*3))=((s'*2 ^ 24:Nat):Int):=by rw[Ug (by simp;omega) (by simp;omega)];simp
  rw[Xc8,Xc8,Xc8,Xc8,Xc8,k0,k1,k2,k3]
  have z0:(0:Int)=((0:Nat):Int):=rfl
  rw[z0,X7a (by omega) (by omega),X7a (by omega) (by omega),X7a (by omega) (by omega),X7a (by omega) (by omega)]
  simp
  omega
section
attribute [local simp] Vy Uu Xu Uc X1 Yj Qdl Ud Xh Qe3 Qxt U9 Uh Qd8 W9 Wb Vx Yi Xw U2 Xp kON kOC Xt kNN kNP kRR kRP kEN kER Q4 Xf Z4 Yt aop Qg nth Ab.g0 gv gs Q7 Qd aev evs evO Qi Tr.get_put St.put Tm.put flat flatA Yu Qp Qo Qm Qq Ql Qn Qk X3 Qj Q5 Q6 kTN kTR kTX kTP kBN kBR kBX kBP kCS kCR kCE kAM Xs.putAll X7 Qc Q2 Q1 Qa Qb Q9 Q0 Q3 Q8
theorem Y7a(b:Nat){h:Heap}{MB:Nat→Prop}{μ:Nat}{e:Menv}{p:Value × List Int}{ps:List (Value × List Int)}{on had:List Bool}(M:RMach h MB μ e (p::ps) on had)(hl:ps.length < 900)(hb:¬ p.2.length=4)(K:AEnd→Heap→Prop)(hk:K (.ret (.int .i64 16)) h) :
  FnK Tryd.prog (E b).G 100 [.pointer (some ⟨μ,0,none⟩)] h K:=by
 have M0:=M
 obtain⟨sv,ov,dv,z,r⟩:=M0
 refine Ur (E b) (Qa1 b) (Vj b) Wf (Qa5 b) (Us b) (Xu b) Qp3 Qsk Qqu rfl ?_
 simp
 refine Qp7 b M (n:=0) (p:=p) rfl (by simp;omega) _ ?_
 have len1:=fun hx=>Qcp (b:=b) (h1:=hx) (r.its p (by simp)).1
 have h1':¬ (p.2.length:Int)=4:=by omega
 simp[len1,h1']
 exact hk
set_option maxHeartbeats 1000000 in
theorem Zax(b:Nat){h:Heap}{MB:Nat→Prop}{μ:Nat}{e:Menv}{p:Value × List Int}{ps:List (Value × List Int)}{on had:List Bool}(M:RMach h MB μ e (p::ps) on had)(hl:ps.length < 900)(h4:p.2.length=4)(K:AEnd→Heap→Prop)
  (hk:Xc8 p.2 4≤e.lk→∀ h',RMach h' MB μ e ps on had→Mv MB MB h h'→K (.ret (.int .i64 0)) h') (he:¬ Xc8 p.2 4≤e.lk→∀ h',Mv MB MB h h'→K (.ret (.int .i64 18)) h') :
  FnK Tryd.prog (E b).G 100 [.pointer (some ⟨μ,0,none⟩)] h K:=by
 have M0:=M
 obtain⟨sv,ov,dv,z,r⟩:=M0
 refine Ur (E b) (Qa1 b) (Vj b) Wf (Qa5 b) (Us b) (Xu b) Qp3 Qsk Qqu rfl ?_
 simp
 refine Qp7 b M (n:=0) (p:=p) rfl (by simp;omega) _ ?_
 obtain⟨v,x⟩:=p
 simp only at h4 hk he
 obtain⟨i1,by1,o1⟩:=r.its (v,x) (by simp)
 simp only at i1 by1 o1
 have len1:=fun hx=>Qcp (b:=b) (h1:=hx) i1
 rw[h4]at len1
 have len1':∀ hx,Qkb (E b).toEnv 47 v hx=some (.int .i64 4):=len1
 simp[len1']
 refine Q9u b M (n:=1) (by simp) (by simp;omega) _ fun h3 M3 m3 => ?_
 simp only[List.drop_succ_cons,List.drop_zero]at M3
 have M3':=M3
 obtain⟨sv3,ov3,dv3,z3,r3⟩:=M3'
 have i3:SB h3 v x:=i1.keep fun c hc hlt=>m3.same c hlt (o1 c hc)
 have hsum:=Y8q h4 by1
 match x,h4,i3,by1,hsum,hk,he with
 | [p0,p1,p2,p3],_,i3,by1,hsum,hk,he =>
  have q0:=by1 p0 (by simp)
  have q1:=by1 p1 (by simp)
  have q2:=by1 p2 (by simp)
  have q3:=by1 p3 (by simp)
  simp at hsum
  rw[hsum]at hk he
  obtain⟨bk,o0, -,a0,l0⟩:=Xnf (b:=b) i3 (k:=.i64) (i:=0) (z:=p0) rfl
  obtain⟨bk1,o1, -,a1,l1⟩:=Xnf (b:=b) i3 (k:=.i64) (i:=1) (z:=p1) rfl
  obtain⟨bk2,o2, -,a2,l2⟩:=Xnf (b:=b) i3 (k:=.i64) (i:=2) (z:=p2) rfl
  obtain⟨bk3,o3, -,a3,l3⟩:=Xnf (b:=b) i3 (k:=.i64) (i:=3) (z:=p3) rfl
  simp only[i8]at l0 l1 l2 l3
  simp at a0 a1 a2 a3
  have c33:=r3.c33
  have w0:IntKind.i64.wrap p0=p0:=Ug (by omega) (by omega)
  have w1:IntKind.i64.wrap p1=p1:=Ug (by omega) (by omega)
  have w2:IntKind.i64.wrap p2=p2:=Ug (by omega) (by omega)
  have w3:IntKind.i64.wrap p3=p3:=Ug (by omega) (by omega)
  have v1:IntKind.i64.wrap (256*p1)=256*p1:=Ug (by omega) (by omega)
  have v2:IntKind.i64.wrap (65536*p2)=65536*p2:=Ug (by omega) (by omega)
  have v3:IntKind.i64.wrap (16777216*p3)=16777216*p3:=Ug (by omega) (by omega)
  have u1:IntKind.i64.wrap (p0+256*p1)=p0+256*p1:=Ug (by omega) (by omega)
  have u2:IntKind.i64.wrap (p0+256*p1+65536*p2)=p0+256*p1+65536*p2:=Ug (by omega) (by omega)
  have u3:IntKind.i64.wrap (p0+256*p1+65536*p2+16777216*p3)=p0+256*p1+65536*p2+16777216*p3:=Ug (by omega) (by omega)
  simp
  by_cases hle:p0+256*p1+65536*p2+16777216*p3≤e.lk
  ·have hlt:¬ e.lk < p0+256*p1+65536*p2+16777216*p3:=by omega
   refine Qeo [] (by simp) Qlj Qlq Ql6 (by simp[Ab.runT,Z2,Yp,ldv,Nat.testBit,Vu,Zc,Yy,Zf,loadAt,Qa6,J9,Qn5,Qax,c33,a0,a1,a2,a3,l0,l1,l2,l3,w0,w1,w2,w3,v1,v2,v3,u1,u2,u3];first | exact⟨rfl,rfl⟩ | rfl) ?_ ?_
   ·simp[Z2,Yp,Qce,ldv,Ab.runT,Z2,Yp,ldv,Nat.testBit,Vu,Zc,Yy,Zf,loadAt,Qa6,J9]
   simp[hlt]
   exact hk hle h3 M3 m3
  ·have hlt:e.lk < p0+256*p1+65536*p2+16777216*p3:=by omega
   refine Qeo [] (by simp) Qlj Qlq Ql6 (by simp[Ab.runT,Z2,Yp,ldv,Nat.testBit,Vu,Zc,Yy,Zf,loadAt,Qa6,J9,Qn5,Qax,c33,a0,a1,a2,a3,l0,l1,l2,l3,w0,w1,w2,w3,v1,v2,v3,u1,u2,u3];first | exact⟨rfl,rfl⟩ | rfl) ?_ ?_
   ·simp[Z2,Yp,Qce,ldv,Ab.runT,Z2,Yp,ldv,Nat.testBit,Vu,Zc,Yy,Zf,loadAt,Qa6,J9]
   simp[hlt]
   exact he hle h3 m3
end
end Go.Proofs.YtgeeklmjfbiieaaDoor
end
noncomputable section
namespace Go.Proofs.YtgeeklmjfbiieaaDoor
open Go Go.Ab
set_option maxRecDepth 100000
theorem Xm1{K:AEnd→Heap→Prop}{n:Nat}{h':Heap}(h0:n < 16→K (.ret (.int .i64 0)) h')(h16:¬ n < 16→K (.ret (.int .i64 16)) h'):K (.ret (.int .i64 (X89 (decide ((n:Int)+1≤16))))) h':=by
 by_cases hn:n < 16
 ·rw[decide_eq_true (by omega)]
  exact h0 hn
 ·rw[decide_eq_false (by omega)]
  exact h16 hn
structure RAll (h:Heap) (MB:Nat→Prop) (μ:Nat) (e:Menv) (seed:List Nat) (a:Asks) (ps:List (Value × List Int)) (on had:List Bool) (dv:Value) (data:List Int):Prop where
 m:RMach h MB μ e ps on had
 w:RWd h MB e seed a
 n:ps.length≤16
 it:∀ p ∈ ps,p.2.length≤64
 sd:SB h dv data
 bd:Bytes data
 nd:∀ c,U7 dv=some c→¬ MB c
section
variable{b:Nat}{h:Heap}{MB:Nat→Prop}{μ:Nat}{e:Menv}{seed:List Nat}{a:Asks}{ps:List (Value × List Int)}{on had:List Bool}{dv:Value}{data:List Int}
def DoK(h:Heap)(MB:Nat→Prop)(μ:Nat)(e:Menv)(a:Asks)(ps:List (Value × List Int))(on had:List Bool)(code:Int)(data:List Int)(K:AEnd→Heap→Prop):Prop :=
 (∀ st',doF a code data (ps.map (·.2))=.ok st'→∀ h' ps',ps'.map (·.2)=st'→RMach h' MB μ e ps' on had→Mv MB MB h h'→K (.ret (.int .i64 0)) h') ∧
 (∀ z,doF a code data (ps.map (·.2))=.error z→∀ h',Mv MB MB h h'→K (.ret (.int .i64 z)) h')
section
attribute [local simp] Y3 Yb Xl Ze Vr V4 Jh U9 Z3 Xw Y5 Y4 X1 Y0 Y2 Xh Xz Zv Je Y7 Xr Xy Xq Xu Yj J7 J8 Vz Z8 Xp kON kOC Xt kNN kNP kRR kRP kEN kER Q4 Xf Z4 Yt aop Qg nth Ab.g0 gv gs Q7 Qd aev evs evO Qi Tr.get_put St.put Tm.put flat flatA Yu Qp Qo Qm Qq Ql Qn Qk X3 Qj Q5 Q6 kTN kTR kTX kTP kBN kBR kBX kBP kCS kCR kCE kAM Xs.putAll X7 Qc Q2 Q1 Qa Qb Q9 Q0 Q3 Q8
theorem Q2f{code:Int}(A:RAll h MB μ e seed a ps on had dv data)(K:AEnd→Heap→Prop)(hfew:ps.length < Q2y code→∀ h',Mv MB MB h h'→K (.ret (.int .i64 16)) h')(hgo:¬ ps.length < Q2y code→∀ (hB:Heap) (tr:Tr Value),Old h hB→tr.get 0=some (.pointer (some ⟨μ,0,none⟩))→tr.get 3=some (.pointer (some ⟨h.next,0,none⟩))→V2 hB h.next 0=some (.int .i64 code)→V2 hB h.next 1=some dv→Wv (E b) (Qky Tryd.prog (E b).G) (D0 b) none Ql4 ⟨⟨86,tr⟩,[],hB⟩ (Ykn (E b) (DD b) Qgh K)):FnK Tryd.prog (E b).G 59 [.pointer (some ⟨μ,0,none⟩),.agg ⟨[.int .i64 code,dv]⟩] h K:=by
 have M0:=A.m
 obtain⟨sv,ov,dv',z,r⟩:=M0
 refine Ur (E b) (Qa1 b) (Vj b) Wf (Qa5 b) (Us b) (Xl b) Q73 Xmw Xic rfl ?_
 obtain⟨hB,eB⟩:∃ hB,hB=h.push (.cells true 1 [.int .i64 code,dv]):=⟨_,rfl⟩
 have bx:X7w (.agg ⟨[.int .i64 code,dv]⟩) h=some (.pointer (some ⟨h.next,0,none⟩),hB):=by rw[eB];rfl
 have aB:Old h hB:=by rw[eB];exact Old.push _ _
 have kg:hB.get h.next=some (.cells true 1 [.int .i64 code,dv]):=by rw[eB,Heap.get_push,if_pos rfl]
 have k0:V2 hB h.next 0=some (.int .i64 code):=by rw[Up kg];rfl
 have k1:V2 hB h.next 1=some dv:=by rw[Up kg];rfl
 have m0:Mv MB MB h hB:=Mv.old aB
 have MM:=A.m.old aB
 have W0:=A.w.mv m0
 have r1:=r.old aB
 have hn:ps.length < 900:=by have:=A.n;omega
 have hit:∀ p ∈ ps,p.2.length < 1000000000:=fun p hp=>by have:=A.it p hp;omega
 have lenS:∀ hx,Qkb (E b).toEnv 43 sv hx=some (.int .i64 (ps.length:Int)):=fun hx=>Qdf (T43 b) r1.st
 obtain⟨_,_,c0,n0,rfl,rfl⟩:=Zfy b code hB (fun r h'=>r=.ret (.int .i64 (Q2y code:Int))∧hB=h') ⟨rfl,rfl⟩
 simp[Zt,Xx,bx]
 refine Qeo [⟨95,[.int .i64 code],hB,.int .i64 (Q2y code:Int),hB,true⟩] ?_ Qwq Qzr Qwo (by simp[Ab.runT,Z2,Yp,ldv,Nat.testBit,Vu,Zc,Yy,Zf,loadAt,Qa6,J9,Q2c,Zt,Xx,Qax,k0,r1.c34,lenS,Qfr];first | exact⟨rfl,rfl⟩ | rfl) ?_ ?_
 ·simp only[List.mem_cons,List.not_mem_nil,or_false]
  rintro e rfl
  exact⟨c0,n0,fun _ _ _=>rfl⟩
 ·simp[Z2,Yp,Qeg,ldv,Ab.runT,Z2,Yp,ldv,Nat.testBit,Vu,Zc,Yy,Zf,loadAt,Qa6,J9,Zt,Xx]
 by_cases hf:ps.length < Q2y code
 ·simp[Zt,Xx,hf]
  exact hfew hf hB m0
 ·simp[Zt,Xx,-Xx,hf]
  exact hgo hf hB _ aB (by simp) (by simp) k0 k1
theorem Ziu{code:Int}(A:RAll h MB μ e seed a ps on had dv data)(hf:ps.length < Q2y code)(K:AEnd→Heap→Prop)(hK:∀ h',Mv MB MB h h'→K (.ret (.int .i64 16)) h'):FnK Tryd.prog (E b).G 59 [.pointer (some ⟨μ,0,none⟩),.agg ⟨[.int .i64 code,dv]⟩] h K:=Q2f A K (fun _=>hK) fun q=>absurd hf q
theorem Zfd(A:RAll h MB μ e seed a ps on had dv data){p:Value × List Int}{pr:List (Value × List Int)}(hps:ps=p::pr)(K:AEnd→Heap→Prop)(hK:DoK h MB μ e a ps on had 130 data K):FnK Tryd.prog (E b).G 59 [.pointer (some ⟨μ,0,none⟩),.agg ⟨[.int .i64 130,dv]⟩] h K:=by
 obtain⟨hk,hp⟩:=hK
 have M0:=A.m
 obtain⟨sv,ov,dv',z,r⟩:=M0
 refine Q2f A K (fun q=>absurd q (by rw[hps];simp[Q2y])) fun _ hB tr aB t0 t3 k0 k1 => ?_
 have m0:Mv MB MB h hB:=Mv.old aB
 have MM:=A.m.old aB
 have W0:=A.w.mv m0
 have r1:=r.old aB
 have hn:ps.length < 900:=by have:=A.n;omega
 have hit:∀ p ∈ ps,p.2.length < 1000000000:=fun p hp=>by have:=A.it p hp;omega
 simp[Zt,Xx,t0,t3,k0]
 refine Q9u b MM (n:=1) (by rw[hps];simp) (by omega) _ fun h1 M1 m1 => ?_
 simp[Zt,Xx,t0,t3]
 refine hk (pr.map (·.2)) (by rw[hps];simp[doF]) h1 pr rfl ?_ (m0.trans m1)
 rw[hps]at M1
 exact M1
theorem Zhd(A:RAll h MB μ e seed a ps on had dv data){p:Value × List Int}{pr:List (Value × List Int)}(hps:ps=p::pr)(K:AEnd→Heap→Prop)(hK:DoK h MB μ e a ps on had 129 data K):FnK Tryd.prog (E b).G 59 [.pointer (some ⟨μ,0,none⟩),.agg ⟨[.int .i64 129,dv]⟩] h K:=by
 obtain⟨hk,hp⟩:=hK
 have M0:=A.m
 obtain⟨sv,ov,dv',z,r⟩:=M0
 refine Q2f A K (fun q=>absurd q (by rw[hps];simp[Q2y])) fun _ hB tr aB t0 t3 k0 k1 => ?_
 have m0:Mv MB MB h hB:=Mv.old aB
 have MM:=A.m.old aB
 have W0:=A.w.mv m0
 have r1:=r.old aB
 have hn:ps.length < 900:=by have:=A.n;omega
 have hit:∀ p ∈ ps,p.2.length < 1000000000:=fun p hp=>by have:=A.it p hp;omega
 simp[Zt,Xx,t0,t3,k0]
 refine Qp7 b MM (n:=0) (p:=p) (by rw[hps];rfl) (by omega) _ ?_
 simp[Zt,Xx,t0,t3]
 have hpm:p ∈ ps:=by rw[hps];simp
 have hn16:=A.n
 refine Xls b MM (by omega) hit (r1.its p hpm).1 (r1.its p hpm).2.1 (r1.its p hpm).2.2 _ fun h1 ps1 e1 M1 m1 => ?_
 simp[Zt,Xx,t0,t3]
 refine Q2e b _ h1 _ ?_
 simp[Zt,Xx,t0,t3]
 refine Xm1 (fun hlt => ?_) fun hlt => ?_
 ·refine hk (p.2::p.2::pr.map (·.2)) ?_ h1 ps1 (by rw[e1,hps];rfl) M1 (m0.trans m1)
  rw[hps]at hlt ⊢
  simp at hlt
  have : pr.length < 16:=by omega
  simp[doF,Qjj,Except.bind,this,hlt]
 ·refine hp 16 ?_ h1 (m0.trans m1)
  rw[hps]at hlt hn16 ⊢
  simp at hlt hn16
  have q1:pr.length < 16:=by omega
  have q2:¬ pr.length+1 < 16:=by omega
  simp[doF,Qjj,Except.bind,q1,q2]
theorem Zfe(A:RAll h MB μ e seed a ps on had dv data){p:Value × List Int}{pr:List (Value × List Int)}(hps:ps=p::pr)(K:AEnd→Heap→Prop)(hK:DoK h MB μ e a ps on had 131 data K):FnK Tryd.prog (E b).G 59 [.pointer (some ⟨μ,0,none⟩),.agg ⟨[.int .i64 131,dv]⟩] h K:=by
 obtain⟨hk,hp⟩:=hK
 have M0:=A.m
 obtain⟨sv,ov,dv',z,r⟩:=M0
 refine Q2f A K (fun q=>absurd q (by rw[hps];simp[Q2y])) fun _ hB tr aB t0 t3 k0 k1 => ?_
 have m0:Mv MB MB h hB:=Mv.old aB
 have MM:=A.m.old aB
 have W0:=A.w.mv m0
 have r1:=r.old aB
 have hn:ps.length < 900:=by have:=A.n;omega
 have hit:∀ p ∈ ps,p.2.length < 1000000000:=fun p hp=>by have:=A.it p hp;omega
 simp[Zt,Xx,t0,t3,k0]
 refine Qp7 b MM (n:=0) (p:=p) (by rw[hps];rfl) (by omega) _ ?_
 simp[Zt,Xx,t0,t3]
 have hpm:p ∈ ps:=by rw[hps];simp
 have hn16:=A.n
 have l64:=A.it p hpm
 obtain⟨i1,by1,o1⟩:=r1.its p hpm
 have sn:SN hB p.1 (Xm5 p.2):=by
  have:=i1
  rw[SB,Yxu by1]at this
  rw[SN,show(Xm5 p.2).length=p.2.length by simp[Xm5]]
  exact this
 refine Zjo b sn (by simp[Xm5];omega) (fun x hx => ?_) _ fun h1 a1 => ?_
 ·simp only[Xm5,List.mem_map]at hx
  obtain⟨y,hy,rfl⟩:=hx
  have:=by1 y hy
  omega
 obtain⟨dg,hdg⟩:∃ d,d=Bl.keyed1 [] (Xm5 p.2):=⟨_,rfl⟩
 have dl:dg.length=32:=by rw[hdg];exact Qj0 _
 have bd:∀ x ∈ dg,x < 256:=by rw[hdg];exact Yuo _
 rw[← hdg]
 obtain⟨hX,eX⟩:∃ hX,hX=h1.push (.cells true 1 z32):=⟨_,rfl⟩
 have alX:Qe4 (E b).toEnv 23 h1=some (.pointer (some ⟨h1.next,0,none⟩),hX):=by rw[eX];exact Zt b h1
 have gX:hX.get h1.next=some (.cells true 1 z32):=by rw[eX,Heap.get_push,if_pos rfl]
 have lX:=Heap.get_lt gX
 obtain⟨hY,eY⟩:∃ hY,hY=hX.set h1.next (some (.cells true 1 (dg.map u8v))):=⟨_,rfl⟩
 have stY:Wg hX h1.next 0 (dg.map u8v)=some hY:=by
  rw[Qd2 gX (by simp[z32,dl]),eY]
  congr 4
  simp[z32,dl]
 have gY:hY.get h1.next=some (.cells true 1 (dg.map u8v)):=by rw[eY,Heap.get_set _ _ _ _ lX,if_pos rfl]
 have aY:Old h1 hY:=by rw[eY,eX];exact(Old.push _ _).set _ (Nat.le_refl _) (by rw[← eX];exact lX)
 simp[Zt,Xx,t0,t3,-Zt,alX,dl,stY]
 have aBY:=a1.trans aY
 have nMB:¬ MB h1.next:=fun q=>by have:=r.low _ q;have:=(aB.trans a1).1;omega
 refine Q9u b (MM.old aBY) (n:=1) (by rw[hps];simp) (by omega) _ fun h3 M3 m3 => ?_
 have g3:h3.get h1.next=some (.cells true 1 (dg.map u8v)):=by rw[m3.same _ (Heap.get_lt gY) nMB];exact gY
 have s3:SB h3 (.slice (some ⟨h1.next,0,none⟩) 32 32) (Xsn dg):=by
  have:=Zgl g3 (by omega)
  rw[dl]at this
  exact this
 rw[hps]at M3
 simp only[List.drop_succ_cons,List.drop_zero]at M3
 have ln:pr.length < 16:=by rw[hps]at hn16;simp at hn16;omega
 simp[Zt,Xx,t0,t3,X6w]
 refine Xls b M3 (by omega) (fun q hq=>hit q (by rw[hps];simp[hq])) s3 (Xm0 bd) (fun c hc=>by simp[U7]at hc;rw[← hc];exact nMB) _ fun h4 ps4 e4 M4 m4 => ?_
 simp[Zt,Xx,t0,t3]
 refine Q2e b _ h4 _ ?_
 simp[Zt,Xx,t0,t3]
 refine Xm1 (fun hlt => ?_) fun hlt => ?_
 ·refine hk (Yps p.2::pr.map (·.2)) ?_ h4 ps4 (by rw[e4,Yps,hdg]) M4 (m0.trans ((Mv.old aBY).trans (m3.trans m4)))
  rw[hps]
  simp[doF,Qjj,ln]
 ·exact absurd ln hlt
theorem Y8p(A:RAll h MB μ e seed a ps on had dv data){p q:Value × List Int}{pr:List (Value × List Int)}(hps:ps=p::q::pr)(K:AEnd→Heap→Prop)(hK:DoK h MB μ e a ps on had 132 data K):FnK Tryd.prog (E b).G 59 [.pointer (some ⟨μ,0,none⟩),.agg ⟨[.int .i64 132,dv]⟩] h K:=by
 obtain⟨hk,hp⟩:=hK
 have M0:=A.m
 obtain⟨sv,ov,dv',z,r⟩:=M0
 refine Q2f A K (fun q=>absurd q (by rw[hps];simp[Q2y])) fun _ hB tr aB t0 t3 k0 k1 => ?_
 have m0:Mv MB MB h hB:=Mv.old aB
 have MM:=A.m.old aB
 have W0:=A.w.mv m0
 have r1:=r.old aB
 have hn:ps.length < 900:=by have:=A.n;omega
 have hit:∀ p ∈ ps,p.2.length < 1000000000:=fun p hp=>by have:=A.it p hp;omega
 simp[Zt,Xx,t0,t3,k0]
 refine Qp7 b MM (n:=0) (p:=p) (by rw[hps];rfl) (by omega) _ ?_
 simp[Zt,Xx,t0,t3]
 refine Qp7 b MM (n:=1) (p:=q) (by rw[hps];rfl) (by omega) _ ?_
 simp[Zt,Xx,t0,t3]
 obtain⟨i1,by1,o1⟩:=r1.its p (by rw[hps];simp)
 obtain⟨i2,by2,o2⟩:=r1.its q (by rw[hps];simp)
 refine Xva b i1 i2 (by have:=hit p (by rw[hps];simp);omega) _ ?_
 simp[Zt,Xx,t0,t3]
 refine Q9u b MM (n:=2) (by rw[hps];simp) (by omega) _ fun h3 M3 m3 => ?_
 have hn16:=A.n
 rw[hps]at M3
 simp only[List.drop_succ_cons,List.drop_zero]at M3
 have ln:pr.length < 16:=by rw[hps]at hn16;simp at hn16;omega
 simp[Zt,Xx,t0,t3]
 refine Y3h b M3 (by omega) (fun q hq=>hit q (by rw[hps];simp[hq])) _ _ fun h4 ps4 e4 M4 m4 => ?_
 simp[Zt,Xx,t0,t3]
 refine Q2e b _ h4 _ ?_
 simp[Zt,Xx,t0,t3]
 refine Xm1 (fun hlt => ?_) fun hlt => ?_
 ·refine hk (Y6f (decide (p.2=q.2))::pr.map (·.2)) ?_ h4 ps4 e4 M4 (m0.trans (m3.trans m4))
  rw[hps]
  simp[doF,Qjj,ln]
 ·exact absurd ln hlt
theorem Y5o(A:RAll h MB μ e seed a ps on had dv data){p:Value × List Int}{pr:List (Value × List Int)}(hps:ps=p::pr)(K:AEnd→Heap→Prop)(hK:DoK h MB μ e a ps on had 133 data K):FnK Tryd.prog (E b).G 59 [.pointer (some ⟨μ,0,none⟩),.agg ⟨[.int .i64 133,dv]⟩] h K:=by
 obtain⟨hk,hp⟩:=hK
 have M0:=A.m
 obtain⟨sv,ov,dv',z,r⟩:=M0
 refine Q2f A K (fun q=>absurd q (by rw[hps];simp[Q2y])) fun _ hB tr aB t0 t3 k0 k1 => ?_
 have m0:Mv MB MB h hB:=Mv.old aB
 have MM:=A.m.old aB
 have W0:=A.w.mv m0
 have r1:=r.old aB
 have hn:ps.length < 900:=by have:=A.n;omega
 have hit:∀ p ∈ ps,p.2.length < 1000000000:=fun p hp=>by have:=A.it p hp;omega
 simp[Zt,Xx,t0,t3,k0]
 refine Qp7 b MM (n:=0) (p:=p) (by rw[hps];rfl) (by omega) _ ?_
 simp[Zt,Xx,t0,t3]
 have hpm:p ∈ ps:=by rw[hps];simp
 refine Ypl b (r1.its p hpm).1 (hit p hpm) _ ?_
 simp[Zt,Xx,t0,t3]
 refine Q9u b MM (n:=1) (by rw[hps];simp) (by omega) _ fun h3 M3 m3 => ?_
 rw[hps]at M3
 simp only[List.drop_succ_cons,List.drop_zero]at M3
 simp[Zt,Xx,t0,t3]
 refine Q2e b _ h3 _ ?_
 simp[Zt,Xx,t0,t3]
 cases ht:isT p.2 with
 | true =>
  exact hk (pr.map (·.2)) (by rw[hps];simp[doF,ht]) h3 pr rfl M3 (m0.trans m3)
 | false =>
  exact hp 16 (by rw[hps];simp[doF,ht]) h3 (m0.trans m3)
theorem Zde(A:RAll h MB μ e seed a ps on had dv data){p q:Value × List Int}{pr:List (Value × List Int)}(hps:ps=p::q::pr)(K:AEnd→Heap→Prop)(hK:DoK h MB μ e a ps on had 134 data K):FnK Tryd.prog (E b).G 59 [.pointer (some ⟨μ,0,none⟩),.agg ⟨[.int .i64 134,dv]⟩] h K:=by
 obtain⟨hk,hp⟩:=hK
 have M0:=A.m
 obtain⟨sv,ov,dv',z,r⟩:=M0
 refine Q2f A K (fun q=>absurd q (by rw[hps];simp[Q2y])) fun _ hB tr aB t0 t3 k0 k1 => ?_
 have m0:Mv MB MB h hB:=Mv.old aB
 have MM:=A.m.old aB
 have W0:=A.w.mv m0
 have r1:=r.old aB
 have hn:ps.length < 900:=by have:=A.n;omega
 have hit:∀ p ∈ ps,p.2.length < 1000000000:=fun p hp=>by have:=A.it p hp;omega
 simp[Zt,Xx,t0,t3,k0]
 have hn16:=A.n
 have ln:pr.length < 16:=by rw[hps]at hn16;simp at hn16;omega
 have MP:=MM
 rw[hps]at MP
 by_cases hb:p.2.length=1∧q.2.length=16
 ·refine Zbe b MP W0 (by omega) (fun q hq=>hit q (by rw[hps];simp[hq])) hb.1 hb.2 _ fun h4 ps4 e4 M4 m4 => ?_
  simp[Zt,Xx,t0,t3]
  refine Xm1 (fun hlt => ?_) fun hlt => ?_
  ·refine hk (Y6f (Y2t a (p.2.getD 0 0) q.2)::pr.map (·.2)) ?_ h4 ps4 e4 M4 (m0.trans m4)
   rw[hps]
   simp[doF,Qjj,ln,hb.1,hb.2]
  ·exact absurd ln hlt
 ·refine Y6z b MP (by omega) hb _ ?_
  simp[Zt,Xx,t0,t3]
  refine hp 16 ?_ hB m0
  rw[hps]
  simp only[List.map_cons]
  have : ¬ ((134:Int)=129)∧¬ ((134:Int)=130):=⟨by decide,by decide⟩
  show(if p.2.length=1∧q.2.length=16 then Qjj (Y6f (Y2t a (p.2.getD 0 0) q.2)) (pr.map (·.2))else .error 16)=_
  rw[if_neg hb]
theorem Y9g(A:RAll h MB μ e seed a ps on had dv data){p:Value × List Int}{pr:List (Value × List Int)}(hps:ps=p::pr)(K:AEnd→Heap→Prop)(hK:DoK h MB μ e a ps on had 135 data K):FnK Tryd.prog (E b).G 59 [.pointer (some ⟨μ,0,none⟩),.agg ⟨[.int .i64 135,dv]⟩] h K:=by
 obtain⟨hk,hp⟩:=hK
 have M0:=A.m
 obtain⟨sv,ov,dv',z,r⟩:=M0
 refine Q2f A K (fun q=>absurd q (by rw[hps];simp[Q2y])) fun _ hB tr aB t0 t3 k0 k1 => ?_
 have m0:Mv MB MB h hB:=Mv.old aB
 have MM:=A.m.old aB
 have W0:=A.w.mv m0
 have r1:=r.old aB
 have hn:ps.length < 900:=by have:=A.n;omega
 have hit:∀ p ∈ ps,p.2.length < 1000000000:=fun p hp=>by have:=A.it p hp;omega
 simp[Zt,Xx,t0,t3,k0]
 have MP:=MM
 rw[hps]at MP
 have hn16:=A.n
 have ln:pr.length < 16:=by rw[hps]at hn16;simp at hn16;omega
 by_cases hb:p.2.length=4
 ·refine Zax b MP (by omega) hb _ (fun hle h4 M4 m4 => ?_) fun hle h4 m4 => ?_
  ·simp[Zt,Xx,t0,t3]
   rw[W0.lk]at hle
   exact hk (pr.map (·.2)) (by rw[hps];simp[doF,hb,hle]) h4 pr rfl M4 (m0.trans m4)
  ·simp[Zt,Xx,t0,t3]
   rw[W0.lk]at hle
   exact hp 18 (by rw[hps];simp[doF,hb];omega) h4 (m0.trans m4)
 ·refine Y7a b MP (by omega) hb _ ?_
  simp[Zt,Xx,t0,t3]
  exact hp 16 (by rw[hps];simp[doF,hb]) hB m0
theorem Zf3(A:RAll h MB μ e seed a ps on had dv data){p:Value × List Int}{pr:List (Value × List Int)}(hps:ps=p::pr)(K:AEnd→Heap→Prop)(hK:DoK h MB μ e a ps on had 139 data K):FnK Tryd.prog (E b).G 59 [.pointer (some ⟨μ,0,none⟩),.agg ⟨[.int .i64 139,dv]⟩] h K:=by
 obtain⟨hk,hp⟩:=hK
 have M0:=A.m
 obtain⟨sv,ov,dv',z,r⟩:=M0
 refine Q2f A K (fun q=>absurd q (by rw[hps];simp[Q2y])) fun _ hB tr aB t0 t3 k0 k1 => ?_
 have m0:Mv MB MB h hB:=Mv.old aB
 have MM:=A.m.old aB
 have W0:=A.w.mv m0
 have r1:=r.old aB
 have hn:ps.length < 900:=by have:=A.n;omega
 have hit:∀ p ∈ ps,p.2.length < 1000000000:=fun p hp=>by have:=A.it p hp;omega
 simp[Zt,Xx,t0,t3,k0]
 refine Qp7 b MM (n:=0) (p:=p) (by rw[hps];rfl) (by omega) _ ?_
 have hpm:p ∈ ps:=by rw[hps];simp
 have l64:=A.it p hpm
 have hn16:=A.n
 have len:=fun hx=>Qcp (b:=b) (h1:=hx) (r1.its p hpm).1
 have w8:IntKind.u8.wrap (p.2.length:Int)=(p.2.length:Int):=Zap (by omega)
 have aC:Old hB (hB.push (.cells true 1 [i8 (p.2.length:Int)])):=Old.push _ _
 simp[Zt,Xx,t0,t3,len,w8,Qvn]
 refine Xls b (MM.old aC) (by omega) hit (v:=.slice (some ⟨hB.next,0,none⟩) 1 1) (x:=[(p.2.length:Int)]) (SB.push (xs:=[(p.2.length:Int)]) (by simp)) (by intro z hz;simp at hz;omega) (fun c hc q => ?_) _ fun h1 ps1 e1 M1 m1 => ?_
 ·simp[U7]at hc
  have:=r.low c q
  have:=aB.1
  omega
 simp[Zt,Xx,t0,t3]
 refine Q2e b _ h1 _ ?_
 simp[Zt,Xx,t0,t3]
 refine Xm1 (fun hlt => ?_) fun hlt => ?_
 ·refine hk ([(p.2.length:Int)]::p.2::pr.map (·.2)) ?_ h1 ps1 (by rw[e1,hps];rfl) M1 (m0.trans ((Mv.old aC).trans m1))
  rw[hps]at hlt ⊢
  simp at hlt
  have : pr.length < 16:=by omega
  simp[doF,Qjj,Except.bind,this,hlt]
 ·refine hp 16 ?_ h1 (m0.trans ((Mv.old aC).trans m1))
  rw[hps]at hlt hn16 ⊢
  simp at hlt hn16
  have q1:pr.length < 16:=by omega
  have q2:¬ pr.length+1 < 16:=by omega
  simp[doF,Qjj,Except.bind,q1,q2]
theorem Ze0{code:Int}(A:RAll h MB μ e seed a ps on had dv data)(hc:code≤64)(K:AEnd→Heap→Prop)(hK:DoK h MB μ e a ps on had code data K):FnK Tryd.prog (E b).G 59 [.pointer (some ⟨μ,0,none⟩),.agg ⟨[.int .i64 code,dv]⟩] h K:=by
 obtain⟨hk,hp⟩:=hK
 have M0:=A.m
 obtain⟨sv,ov,dv',z,r⟩:=M0
 refine Q2f A K (fun q=>absurd q (by simp[Q2y,hc])) fun _ hB tr aB t0 t3 k0 k1 => ?_
 have m0:Mv MB MB h hB:=Mv.old aB
 have MM:=A.m.old aB
 have W0:=A.w.mv m0
 have r1:=r.old aB
 have hn:ps.length < 900:=by have:=A.n;omega
 have hit:∀ p ∈ ps,p.2.length < 1000000000:=fun p hp=>by have:=A.it p hp;omega
 have e129:¬ code=129:=by omega
 have e130:¬ code=130:=by omega
 have e131:¬ code=131:=by omega
 have e132:¬ code=132:=by omega
 have e133:¬ code=133:=by omega
 have e134:¬ code=134:=by omega
 have e135:¬ code=135:=by omega
 have e139:¬ code=139:=by omega
 simp[Zt,Xx,t0,t3,k0,e129,e130,e131,e132,e133,e134,e135,e139,k1]
 have hn16:=A.n
 refine Xls b MM (by omega) hit (A.sd.old aB) A.bd A.nd _ fun h1 ps1 e1 M1 m1 => ?_
 simp[Zt,Xx,t0,t3]
 refine Q2e b _ h1 _ ?_
 simp[Zt,Xx,t0,t3]
 refine Xm1 (fun hlt => ?_) fun hlt => ?_
 ·refine hk (data::ps.map (·.2)) ?_ h1 ps1 e1 M1 (m0.trans m1)
  simp[doF,Qjj,e129,e130,e131,e132,e133,e134,e135,e139,hlt]
 ·refine hp 16 ?_ h1 (m0.trans m1)
  simp[doF,Qjj,e129,e130,e131,e132,e133,e134,e135,e139,hlt]
end
end
end Go.Proofs.YtgeeklmjfbiieaaDoor
end
noncomputable section
namespace Go.Proofs.YtgeeklmjfbiieaaDoor
open Go Go.Ab
set_option maxRecDepth 100000
theorem Y1i:∀ {f:Nat} {xs:List Int} {l:List (Int × List Int)},Bytes xs→pz f xs=some l→∀ p ∈ l,(0≤p.1∧p.1≤64∧(p.2.length:Int)=p.1)∨(129≤p.1∧p.1≤139∧p.2=[])
 | f,[],l,_,h=>by cases f <;> (simp[pz]at h;subst h;simp)
 | 0,_::_,l,_,h=>by simp[pz]at h
 | f+1,c::r,l,hb,h=>by
  have hc:=hb c (by simp)
  simp only[pz]at h
  split at h
  ·rename_i hq
   rw[Option.map_eq_some_iff]at h
   obtain⟨l',h1,rfl⟩:=h
   intro p hp
   rcases List.mem_cons.1 hp with rfl | hp
   ·left;simp only[List.length_take];omega
   ·exact Y1i (fun z hz=>hb z (List.mem_cons_of_mem _ (List.mem_of_mem_drop hz))) h1 p hp
  ·split at h
   ·cases h
   ·rename_i hq
    rw[Option.map_eq_some_iff]at h
    obtain⟨l',h1,rfl⟩:=h
    intro p hp
    rcases List.mem_cons.1 hp with rfl | hp
    ·right;simp;omega
    ·exact Y1i (fun z hz=>hb z (List.mem_cons_of_mem _ hz)) h1 p hp
theorem Q5p{x:List Int}{st:List (List Int)}{z:Int}(h:Qjj x st=.error z):z=16:=by
 unfold Qjj at h
 split at h
 ·cases h
 ·cases h;rfl
theorem Yxv{x y:List Int}{st:List (List Int)}{z:Int}(h:(Qjj x st).bind (Qjj y)=.error z):z=16:=by
 cases hq:Qjj x st with
 | error w=>rw[hq]at h;cases h;exact Q5p hq
 | ok s=>rw[hq]at h;exact Q5p h
theorem Y8x{a:Asks}{code:Int}{data:List Int}{st:List (List Int)}{z:Int}(h:doF a code data st=.error z):z=16∨z=18:=by
 unfold doF at h
 split at h
 ·split at h
  ·exact .inl (Yxv h)
  ·cases h;exact .inl rfl
 split at h
 ·split at h
  ·cases h
  ·cases h;exact .inl rfl
 split at h
 ·split at h
  ·exact .inl (Q5p h)
  ·cases h;exact .inl rfl
 split at h
 ·split at h
  ·exact .inl (Q5p h)
  ·cases h;exact .inl rfl
 split at h
 ·split at h
  ·split at h
   ·cases h
   ·cases h;exact .inl rfl
  ·cases h;exact .inl rfl
 split at h
 ·split at h
  ·split at h
   ·exact .inl (Q5p h)
   ·cases h;exact .inl rfl
  ·cases h;exact .inl rfl
 split at h
 ·split at h
  ·split at h
   ·split at h
    ·cases h
    ·cases h;exact .inr rfl
   ·cases h;exact .inl rfl
  ·cases h;exact .inl rfl
 split at h
 ·split at h
  ·exact .inl (Yxv h)
  ·cases h;exact .inl rfl
 ·exact .inl (Q5p h)
theorem Y4t{b:Nat}{h:Heap}{MB:Nat→Prop}{μ:Nat}{e:Menv}{seed:List Nat}{a:Asks}{ps:List (Value × List Int)}{on had:List Bool}{dv:Value}{data:List Int}{code:Int}(A:RAll h MB μ e seed a ps on had dv data)(hc:code≤64∨(129≤code∧code≤135)∨code=139)(K:AEnd→Heap→Prop)(hK:DoK h MB μ e a ps on had code data K) :
  FnK Tryd.prog (E b).G 59 [.pointer (some ⟨μ,0,none⟩),.agg ⟨[.int .i64 code,dv]⟩] h K:=by
 by_cases h64:code≤64
 ·exact Ze0 A h64 K hK
 have few:∀ c:Int,c=code→ps.length < Q2y c→doF a c data (ps.map (·.2))=.error 16→FnK Tryd.prog (E b).G 59 [.pointer (some ⟨μ,0,none⟩),.agg ⟨[.int .i64 code,dv]⟩] h K:=fun c q1 q2 q3=>by
  subst q1
  exact Ziu A q2 K fun h' m=>hK.2 16 q3 h' m
 by_cases c129:code=129
 ·subst c129
  cases hps:ps with
  | nil=>exact few 129 rfl (by rw[hps];decide) (by rw[hps];rfl)
  | cons p pr=>exact Zhd A hps K hK
 by_cases c130:code=130
 ·subst c130
  cases hps:ps with
  | nil=>exact few 130 rfl (by rw[hps];decide) (by rw[hps];rfl)
  | cons p pr=>exact Zfd A hps K hK
 by_cases c131:code=131
 ·subst c131
  cases hps:ps with
  | nil=>exact few 131 rfl (by rw[hps];decide) (by rw[hps];rfl)
  | cons p pr=>exact Zfe A hps K hK
 by_cases c133:code=133
 ·subst c133
  cases hps:ps with
  | nil=>exact few 133 rfl (by rw[hps];decide) (by rw[hps];rfl)
  | cons p pr=>exact Y5o A hps K hK
 by_cases c135:code=135
 ·subst c135
  cases hps:ps with
  | nil=>exact few 135 rfl (by rw[hps];decide) (by rw[hps];rfl)
  | cons p pr=>exact Y9g A hps K hK
 by_cases c139:code=139
 ·subst c139
  cases hps:ps with
  | nil=>exact few 139 rfl (by rw[hps];decide) (by rw[hps];rfl)
  | cons p pr=>exact Zf3 A hps K hK
 by_cases c132:code=132
 ·subst c132
  cases hps:ps with
  | nil=>exact few 132 rfl (by rw[hps];decide) (by rw[hps];rfl)
  | cons p pr =>
   cases hpr:pr with
   | nil=>exact few 132 rfl (by rw[hps,hpr];simp[Q2y]) (by rw[hps,hpr];rfl)
   | cons q pq=>exact Y8p A (by rw[hps,hpr]) K hK
 by_cases c134:code=134
 ·subst c134
  cases hps:ps with
  | nil=>exact few 134 rfl (by rw[hps];decide) (by rw[hps];rfl)
  | cons p pr =>
   cases hpr:pr with
   | nil=>exact few 134 rfl (by rw[hps,hpr];simp[Q2y]) (by rw[hps,hpr];rfl)
   | cons q pq=>exact Zde A (by rw[hps,hpr]) K hK
 omega
def Rel:List Bool→List Bool→List Br→Prop
 | [],[],[]=>True
 | x::o,y::d,k::l=>k.turned=y∧k.dead=(!(o.all id))∧k.off=(k.dead || !x)∧Rel o d l
 | _,_,_=>False
theorem Rel.len:∀ {on had:List Bool} {op:List Br},Rel on had op→op.length=on.length∧had.length=on.length
 | [],[],[],_=>⟨rfl,rfl⟩
 | _::o,_::d,_::l,h=>by
  have:=Rel.len h.2.2.2
  simp[this.1,this.2]
theorem Rel.off{on had:List Bool}{op:List Br}(r:Rel on had op):Y72 op = !(on.all id):=by
 match on,had,op,r with
 | [],[],[],_=>rfl
 | x::o,y::d,k::l,r =>
  show k.off=_
  rw[r.2.2.1,r.2.1,List.all_cons]
  cases x <;> cases o.all id <;> rfl
theorem Zj7{code:Int}(hc:code=136∨code=137∨code=138){on had:List Bool}{op:List Br}(r:Rel on had op)(st:List (List Int)) :
  (brF code st op=some none∧Yu8 code st on had=.error 16) ∨ ∃ st' op' on' had',brF code st op=some (some (st',op'))∧Yu8 code st on had=.ok (st',on',had')∧Rel on' had' op'∧on'.length≤on.length+1:=by
 rcases hc with rfl | hc
 ·have ho:=r.off
  cases hall:on.all id with
  | false =>
   rw[hall]at ho
   exact .inr ⟨st,⟨true,true,false⟩::op,true::on,false::had,by simp[brF,ho],by simp[Yu8,hall],⟨rfl,by rw[hall];rfl,rfl,r⟩,by simp⟩
  | true =>
   rw[hall]at ho
   cases st with
   | nil=>exact .inl ⟨by simp[brF,ho],by simp only[Yu8,hall];rfl⟩
   | cons x s=>exact .inr ⟨s,⟨!isT x,false,false⟩::op,isT x::on,false::had,by simp[brF,ho],by simp only[Yu8,hall];rfl,⟨rfl,by rw[hall];rfl,by simp,r⟩,by simp⟩
 ·have n136:¬ code=136:=by omega
  match on,had,op,r with
  | [],[],[],_=>exact .inl ⟨by simp[brF,n136,hc],by simp[Yu8,n136]⟩
  | x::o,y::d,k::l,r =>
   obtain⟨r1,r2,r3,r4⟩:=r
   rcases hc with rfl | rfl
   ·cases y with
    | true=>exact .inl ⟨by simp[brF,r1],by simp[Yu8]⟩
    | false =>
     refine .inr ⟨st,⟨k.dead || !k.off,k.dead,true⟩::l,(!x)::o,true::d,by simp[brF,r1],by simp[Yu8],⟨rfl,r2,?_,r4⟩,by simp⟩
     show(k.dead || !k.off)=(k.dead || !(!x))
     rw[r3]
     cases k.dead <;> cases x <;> rfl
   ·exact .inr ⟨st,l,o,d,by simp[brF],by simp[Yu8],r4,by simp;omega⟩
theorem Y41:∀ (l st:List (List Int)),(∀ x ∈ l,x.length≤64)→st.length+l.length≤16→Xei l st=.ok (l.reverse++st)
 | [],st,_,_=>rfl
 | x::l,st,h1,h2=>by
  simp at h2
  have q:Qjj x st=.ok (x::st):=by unfold Qjj;rw[if_pos (by omega)]
  rw[Xei,if_pos (h1 x (by simp)),q]
  show Xei l (x::st)=_
  rw[Y41 l (x::st) (fun y hy=>h1 y (by simp[hy])) (by simp;omega)]
  simp
theorem Ysm:∀ (l st:List (List Int)),st.length≤16→((∃ x ∈ l,64 < x.length)∨16 < st.length+l.length)→Xei l st=.error 16
 | [],st,hs,h=>by
  rcases h with⟨x,hx,_⟩ | h
  ·cases hx
  ·simp at h;omega
 | x::l,st,hs,h=>by
  rw[Xei]
  by_cases hx:x.length≤64
  ·rw[if_pos hx]
   unfold Qjj
   by_cases hl:st.length < 16
   ·rw[if_pos hl]
    show Xei l (x::st)=_
    refine Ysm l (x::st) (by simp;omega) ?_
    rcases h with⟨y,hy,h64⟩ | h
    ·rcases List.mem_cons.1 hy with rfl | hy
     ·omega
     ·exact .inl ⟨y,hy,h64⟩
    ·right;simp at h ⊢;omega
   ·rw[if_neg hl];rfl
  ·rw[if_neg hx]
end Go.Proofs.YtgeeklmjfbiieaaDoor
end
noncomputable section
namespace Go.Proofs.YtgeeklmjfbiieaaDoor
open Go Go.Ab
set_option maxRecDepth 100000
theorem Zfj(b:Nat){l:List Value}(hl:l.length=34)(o:Value)(n1:Qgc o=true)(c1:o.cells = #[o]):Qr0 (E b).toEnv 119 [(0,.agg ⟨l⟩),(1,o)]=some (.agg ⟨l ++ [o,.slice none 0 0,.slice none 0 0]⟩):=by
 have e:Qr0 (E b).toEnv 119 [(0,.agg ⟨l⟩),(1,o)]=(Xej (nth [(0,34),(34,1),(35,1),(36,1)]) ((.pointer none::List.replicate 32 (.int .u8 0)) ++ [.int .i64 0,.slice none 0 0,.slice none 0 0,.slice none 0 0]) [(0,.agg ⟨l⟩),(1,o)]).map fun c => .agg c.toArray:=by kernel_rfl
 rw[e]
 have hc:(Value.agg ⟨l⟩).cells.toList=l:=rfl
 have hs:(Value.agg ⟨l⟩).cells.size=34:=hl
 have hz:((.pointer none::List.replicate 32 (.int .u8 0)) ++ [.int .i64 0,.slice none 0 0,.slice none 0 0,.slice none 0 0]:List Value).length=37:=by simp
 have hp:Qjp ((.pointer none::List.replicate 32 (.int .u8 0)) ++ [.int .i64 0,.slice none 0 0,.slice none 0 0,.slice none 0 0]:List Value) 0 l=some (l ++ [.slice none 0 0,.slice none 0 0,.slice none 0 0]):=by
  rw[Qm4 (by rw[hz,hl];omega),hl]
  rfl
 have hb:(Qgc (.agg ⟨l⟩) && (Value.agg ⟨l⟩).cells.size == 34 && Nat.ble (0+34) ((.pointer none::List.replicate 32 (.int .u8 0)) ++ [.int .i64 0,.slice none 0 0,.slice none 0 0,.slice none 0 0]:List Value).length)=true:=by
  rw[hs,hz];rfl
 have hz2:(l ++ [.slice none 0 0,.slice none 0 0,.slice none 0 0]:List Value).length=37:=by simp[hl]
 have hp2:Qjp (l ++ [.slice none 0 0,.slice none 0 0,.slice none 0 0]:List Value) 34 [o]=some (l ++ [o,.slice none 0 0,.slice none 0 0]):=by
  rw[Qm4 (by rw[hz2];simp),List.take_left' hl,List.length_singleton,List.drop_append,hl]
  simp[hl]
 have hc2:o.cells.toList=[o]:=by rw[c1]
 have hb2:(Qgc o && o.cells.size == 1 && Nat.ble (34+1) (l ++ [.slice none 0 0,.slice none 0 0,.slice none 0 0]:List Value).length)=true:=by
  rw[n1,c1,hz2];rfl
 simp only[Xej,nth,hb,if_true,hc,hp,hb2,hc2,hp2]
 rfl
def RRI(a:Asks)(l:List (Int × List Int))(st0:List (List Int))(lv:Value)(os:List OpV)(e:Menv)(seed:List Nat)(hq:Heap)(μ:Nat)(k:Nat)(s:St):Prop:=∃ (t:Tr Value) (h1:Heap) (MB:Nat→Prop) (ps:List (Value × List Int)) (on had:List Bool) (op:List Br) (i:Nat),s=⟨⟨104,t⟩,[],h1⟩∧t.get 7=some lv∧t.get 10=some (.pointer (some ⟨μ,0,none⟩))∧t.get 11=some (.int .i64 (i:Int))∧i≤os.length∧k=os.length-i ∧
 RMach h1 MB μ e ps on had∧Rel on had op∧Old hq h1∧(∀ c,MB c→hq.next≤c)∧Bd (ps.map (·.2))∧on.length≤i∧Qp4 a l st0 []=Qp4 a (l.drop i) (ps.map (·.2)) op
def LLI(sv:Value)(items:List (Value × List Int))(lv Rv:Value)(h:Heap)(k:Nat)(s:St):Prop:=∃ (t:Tr Value) (i:Nat),s=⟨⟨104,t⟩,[],h⟩∧t.get 1=some sv∧t.get 7=some lv∧t.get 5=some Rv∧t.get 9=some (.int .i64 (i:Int))∧i≤items.length∧k=items.length-i∧∀ p ∈ items.take i,p.2.length≤64
structure RWo (h:Heap) (e:Menv) (seed:List Nat) (a:Asks):Prop where
 nota:∃ ν z ow v,e.nk=.pointer (some ⟨ν,0,none⟩)∧h.get ν=some (.cells ow z [v])∧SN h v seed
 dg:e.dig=a.dg.map u8v
 lk:e.lk=a.lk
 ks:a.ks=Qbu seed 32 1
 sl:seed.length < 100000000
 bs:∀ x ∈ seed,x < 256
 bd:∀ x ∈ a.dg,x < 256
theorem RWo.mb{h h':Heap}{MB:Nat→Prop}{e:Menv}{seed:List Nat}{a:Asks}(w:RWo h e seed a)(o:Old h h')(hm:∀ c,MB c→h.next≤c):RWd h' MB e seed a:=by
 obtain⟨ν,z,ow,v,e1,e2,e3⟩:=w.nota
 have hl:=Heap.get_lt e2
 exact⟨⟨ν,z,ow,v,e1,o.get e2,e3.old o,fun q=>by have:=hm ν q;omega,fun c hc q=>by have:=hm c q;have:=e3.blk hc;omega⟩,w.dg,w.lk,w.ks,w.sl,w.bs,w.bd⟩
theorem Zhu(b:Nat){code:Int}(hc:code=136∨code=137∨code=138){h:Heap}{MB:Nat→Prop}{μ:Nat}{e:Menv}{a:Asks}{ps:List (Value × List Int)}{on had:List Bool}{op:List Br}(M:RMach h MB μ e ps on had)(R:Rel on had op)(hn:on.length < 900)(hp:ps.length < 900)(hi:∀ p ∈ ps,p.2.length < 1000000000)(data:List Int)(K:AEnd→Heap→Prop)
  (hk0:Qmp a code data (ps.map (·.2)) op=.error 16→K (.ret (.int .i64 16)) h)
  (hk:∀ MB' ps' on' had' op' h',RMach h' MB' μ e ps' on' had'→Rel on' had' op'→Mv MB MB' h h'→on'.length≤on.length+1→Qmp a code data (ps.map (·.2)) op=.ok (ps'.map (·.2),op')→K (.ret (.int .i64 0)) h') :
  FnK Tryd.prog (E b).G 57 [.pointer (some ⟨μ,0,none⟩),.int .i64 code] h K:=by
 have hl:=R.len
 have main:FnK Tryd.prog (E b).G 57 [.pointer (some ⟨μ,0,none⟩),.int .i64 code] h K:=by
  rcases Zj7 hc R (ps.map (·.2))with⟨f1,f2⟩ | ⟨st',op',on',had',f1,f2,f3,f4⟩
  ·have hs:Qmp a code data (ps.map (·.2)) op=.error 16:=by simp[Qmp,f1]
   by_cases h136:code=136
   ·subst h136
    exact Zgs b M hn (by omega) hp hi K (fun _=>hk0 hs) (fun st1 on1 had1 q=>by rw[f2]at q;cases q)
   ·exact Y4o b M hn (by omega) K (by omega) (fun _=>hk0 hs) (fun st1 on1 had1 q=>by rw[f2]at q;cases q)
  ·have hs:Qmp a code data (ps.map (·.2)) op=.ok (st',op'):=by simp[Qmp,f1]
   by_cases h136:code=136
   ·subst h136
    refine Zgs b M hn (by omega) hp hi K (fun q=>by rw[f2]at q;cases q) (fun st1 on1 had1 q h' MB' ps' e1 M' m' => ?_)
    rw[f2]at q
    cases q
    exact hk MB' ps' _ _ _ h' M' f3 m' f4 (by rw[e1];exact hs)
   ·refine Y4o b M hn (by omega) K (by omega) (fun q=>by rw[f2]at q;cases q) (fun st1 on1 had1 q h' MB' ps' e1 M' m' => ?_)
    rw[f2]at q
    cases q
    exact hk MB' ps' _ _ _ h' M' f3 m' f4 (by rw[e1];exact hs)
 exact main
section
attribute [local simp] Jn Vp Yx Zg Qdp V4 Zk Js Jd Xw Qai Z8 Yj Ja Yi Qop Yr Qdz Qh7 Jh U9 Qcf Wq Jc Zy Y8 Uf Qgq Qhm Y9 Qdr Xl Y4 Ze Vr X1 Xy Y2 Jb Zz Zo Xp kON kOC Xt kNN kNP kRR kRP kEN kER Q4 Xf Z4 Yt aop Qg nth Ab.g0 gv gs Q7 Qd aev evs evO Qi Tr.get_put St.put Tm.put flat flatA Yu Qp Qo Qm Qq Ql Qn Qk X3 Qj Q5 Q6 kTN kTR kTX kTP kBN kBR kBX kBP kCS kCR kCE kAM Xs.putAll X7 Qc Q2 Q1 Qa Qb Q9 Q0 Q3 Q8
set_option maxHeartbeats 1000000 in
theorem Zk2(b:Nat){h:Heap}{v sv:Value}{xs:List Int}{items:List (Value × List Int)}{e:Menv}{seed:List Nat}{a:Asks}(s:SB h v xs)(hb:Bytes xs)(hx:xs.length < 1000000)(ss:Sl h 1 sv items.length (items.map (·.1)))(hn:items.length < 1000000)(its:ItsAt h items)(hi:∀ p ∈ items,p.2.length < 1000000)(wo:RWo h e seed a)(K:AEnd→Heap→Prop)
  (hk:∀ h',Old h h'→K (.ret (.int .i64 (Xso a xs (items.map (·.2))))) h'):FnK Tryd.prog (E b).G 20 [v,sv,.agg ⟨e.cells⟩] h K:=by
 refine Ur (E b) (Qa1 b) (Vj b) Wf (Qa5 b) (Us b) (Yx b) Ylj Yzr Yvd rfl ?_
 obtain⟨hA,eA⟩:∃ hA,hA=h.push (.cells true 1 e.cells):=⟨_,rfl⟩
 have aA:Old h hA:=by rw[eA];exact Old.push _ _
 have gA:hA.get h.next=some (.cells true 1 e.cells):=by rw[eA,Heap.get_push,if_pos rfl]
 have bxA:X7w (.agg ⟨e.cells⟩) h=some (.pointer (some ⟨h.next,0,none⟩),hA):=by rw[eA];rfl
 have lenS:∀ hx,Qkb (E b).toEnv 43 sv hx=some (.int .i64 (items.length:Int)):=fun hx=>Qdf (T43 b) ss
 simp[bxA]
 refine Y2u b (s.old aA) hb hx _ (fun hno h3 a3 => ?_) (fun l g1 g2 g3 lv os h3 q3 os3 a3 => ?_)
 ·simp
  have : Xso a xs (items.map (·.2))=16:=by
   rcases hno with q | q | ⟨l',q,q'⟩
   ·simp[Xso,q]
   ·unfold Xso
    split
    ·rfl
    ·rw[q]
   ·unfold Xso
    split
    ·rfl
    ·rw[q]
     simp only
     rw[if_pos q']
  rw[this]at hk
  exact hk h3 (aA.trans a3)
 have hF:Xso a xs (items.map (·.2))=Zgw a l (items.map (·.2)):=by
  unfold Xso
  rw[if_neg (by omega),g2]
  simp only
  rw[if_neg (by omega)]
 have a03:=aA.trans a3
 by_cases h16:items.length≤16
 case neg =>
  have h16':(16:Int) < (items.length:Int):=by omega
  simp[lenS,h16']
  have : Xso a xs (items.map (·.2))=16:=by
   rw[hF,Zgw,Ysm _ _ (by simp) (.inr (by simp;omega))]
  rw[this]at hk
  exact hk h3 a03
 have h16':¬ (16:Int) < (items.length:Int):=by omega
 simp[lenS,h16']
 refine Qfy (LLI sv items lv (.pointer (some ⟨h.next,0,none⟩)) h3) items.length ⟨_,0,rfl,by simp,by simp,by simp,by simp,by omega,rfl,by simp⟩ ?_
 rintro k s' ⟨t,i,rfl,t1,t7,t5,t9,hi',rfl,hall⟩ _
 by_cases hlt:i < items.length
 ·have hlt':(i:Int) < (items.length:Int):=by omega
  obtain⟨p,hpi⟩:∃ p,items[i]? = some p:=⟨_,List.getElem?_eq_getElem hlt⟩
  obtain⟨bk,off,q1,q2,q3', -⟩:=Xfu (T43 b) Qdj (ss.old a03) (k:=.i64) (i:=(i:Int)) (by omega) (by omega)
  have q4:V2 h3 bk off=some p.1:=by
   have:=q3' 0 (by omega)
   simpa[hpi]using this
  have len:=fun hx=>Qcp (b:=b) (h1:=hx) (its p (List.mem_of_getElem? hpi)).1
  have hw:IntKind.i64.wrap ((i:Int)+1)=((i+1:Nat):Int):=by rw[Ug (by omega) (by omega)];omega
  by_cases h64:p.2.length≤64
  ·have h64':¬ (64:Int) < (p.2.length:Int):=by omega
   simp[t1,t7,t5,t9,lenS,hlt',q2,q4,len,h64',hw]
   refine⟨items.length-(i+1),by omega,_,i+1,rfl,by simp[t1],by simp[t7],by simp[t5],by simp,by omega,rfl,fun q hq => ?_⟩
   rw[List.take_succ,hpi]at hq
   rcases List.mem_append.1 hq with hq | hq
   ·exact hall q hq
   ·simp at hq;rw[hq];exact h64
  ·have h64':(64:Int) < (p.2.length:Int):=by omega
   simp[t1,t7,t5,t9,lenS,hlt',q2,q4,len,h64']
   have : Xso a xs (items.map (·.2))=16:=by
    rw[hF,Zgw,Ysm _ _ (by simp) (.inl ⟨p.2,List.mem_map.2 ⟨p,List.mem_of_getElem? hpi,rfl⟩,by omega⟩)]
   rw[this]at hk
   exact hk h3 a03
 have hlt':¬ (i:Int) < (items.length:Int):=by omega
 have hii:i=items.length:=by omega
 rw[hii,List.take_length]at hall
 have hF1:Xso a xs (items.map (·.2))=Yop (Qp4 a l (items.map (·.2)).reverse []):=by
  rw[hF,Zgw,Y41 _ _ (fun x hx=>by obtain⟨p,hp,rfl⟩:=List.mem_map.1 hx;exact hall p hp) (by simp;omega)]
  simp
 simp[t1,t7,t5,t9,lenS,hlt']
 obtain⟨_,h4,c1,n1,o,out,rfl,oo,eo,io,fo,a4⟩:=Xyj b (ss.old a03) (by omega) (its.old a03) (fun p hp=>by have:=hi p hp;omega) (fun r h' => ∃ o out,r=.ret o∧Own h' h3.next 1 o items.length (out.map (·.1))∧out.map (·.2)=items.map (·.2)∧ItsAt h' out∧(∀ p ∈ out,∀ c,U7 p.1=some c→h3.next≤c∧U7 o≠some c)∧Old h3 h') (fun o out h' q1 q2 q3 q4 q5=>⟨o,out,rfl,q1,q2,q3,q4,q5⟩)
 have lo:out.length=items.length:=by have:=congrArg List.length eo;simpa using this
 have ldA:Qgi h3 h.next 0 34=some (.agg ⟨e.cells⟩):=by rw[Qan (a3.get gA) (by rw[e.len];omega),List.drop_zero,List.take_of_length_le (by rw[e.len];exact Nat.le_refl _)]
 have bu:Qr0 (E b).toEnv 119 [(0,.agg ⟨e.cells⟩),(1,o)]=some (.agg ⟨e.cells ++ [o,.slice none 0 0,.slice none 0 0]⟩):=by
  obtain⟨n1,c1⟩:=Qrn oo.one
  exact Zfj b e.len o n1 c1
 obtain⟨hM,eM⟩:∃ hM,hM=h4.push (.cells true 1 (e.cells ++ [o,.slice none 0 0,.slice none 0 0])):=⟨_,rfl⟩
 have bxM:X7w (.agg ⟨e.cells ++ [o,.slice none 0 0,.slice none 0 0]⟩) h4=some (.pointer (some ⟨h4.next,0,none⟩),hM):=by rw[eM];rfl
 have aM:Old h4 hM:=by rw[eM];exact Old.push _ _
 have gM:hM.get h4.next=some (.cells true 1 (e.cells ++ [o,.slice none 0 0,.slice none 0 0])):=by rw[eM,Heap.get_push,if_pos rfl]
 have lM:=Heap.get_lt gM
 refine Qeo [⟨28,[sv],h3,o,h4,true⟩] ?_ Xtw Xyu Xvp (by simp[Ab.runT,Z2,Yp,ldv,Nat.testBit,Vu,Zc,Yy,Zf,loadAt,Qa6,J9,X1o,X7n,t1,t5,ldA,bu,bxM,Qfr];first | exact⟨rfl,rfl⟩ | rfl) ?_ ?_
 ·simp only[List.mem_cons,List.not_mem_nil,or_false]
  rintro e rfl
  exact⟨c1,n1,fun _ c hc=>a4.2 c hc⟩
 ·simp[Z2,Yp,Qie,ldv,Ab.runT,Z2,Yp,ldv,Nat.testBit,Vu,Zc,Yy,Zf,loadAt,Qa6,J9]
 simp
 have a34:=a4.trans aM
 have lenO:∀ hx,Qkb (E b).toEnv 114 lv hx=some (.int .i64 (os.length:Int)):=fun h=>Qdf (Zfl b) os3.row.sl
 have hos:os.length≤64:=by rw[← Xk2 os,q3];exact g3
 have M0:RMach hM (fun c=>c=h4.next) h4.next e out.reverse [] []:=by
  refine⟨o,.slice none 0 0,.slice none 0 0,1,gM,rfl,?_,Own.nil,Own.nil,fun c hc q => ?_,fun c hc=>by simp[U7]at hc,fun c hc=>by simp[U7]at hc,fun p hp => ?_,fun c hc=>by rw[hc];exact lM⟩
  ·have:=oo.sl.old aM
   simpa[lo]using this
  ·have:=oo.sl.blk hc
   omega
  ·have hp':p ∈ out:=by simpa using hp
   refine⟨(io p hp').1.old aM,(io p hp').2,fun c hc q => ?_⟩
   have:=(io p hp').1.blk hc
   omega
 have e0:out.reverse.map (·.2)=(items.map (·.2)).reverse:=by rw[List.map_reverse,eo]
 refine Qfy (RRI a l (items.map (·.2)).reverse lv os e seed h3 h4.next) os.length ⟨_,hM,fun c=>c=h4.next,out.reverse,[],[],[],0,rfl,by simp[t7],by simp,by simp,by omega,rfl,M0,trivial,a34,fun c hc=>by rw[hc];exact a4.1,?_,by simp,by rw[e0];simp⟩ ?_
 ·refine⟨by simp;omega,fun x hx => ?_⟩
  rw[e0]at hx
  simp at hx
  obtain⟨v',hv⟩:=hx
  exact hall (v',x) hv
 rintro k s' ⟨t,h5,MB,ps,on,had,op,i,rfl,t7,t10,t11,hi',rfl,M5,R5,a5,hm5,bd5,ol5,hS⟩ _
 have w5:RWd h5 MB e seed a:=RWo.mb wo (a03.trans a5) fun c hc=>Nat.le_trans a03.1 (hm5 c hc)
 have hl5:=R5.len
 have hp5:ps.length≤16:=by simpa using bd5.1
 have hi5:∀ p ∈ ps,p.2.length≤64:=fun q hq=>bd5.2 q.2 (List.mem_map.2 ⟨q,hq,rfl⟩)
 have hi5':∀ p ∈ ps,p.2.length < 1000000000:=fun q hq=>by have:=hi5 q hq;omega
 by_cases hlt:i < os.length
 ·have hlt':(i:Int) < (os.length:Int):=by omega
  obtain⟨p,hpi⟩:∃ p,os[i]? = some p:=⟨_,List.getElem?_eq_getElem hlt⟩
  have hli:l[i]? = some (p.code,p.data):=by
   rw[← q3,Qnb,List.getElem?_map,hpi]
   rfl
  have hld:l.drop i=(p.code,p.data)::l.drop (i+1):=by
   obtain⟨hl1,hl2⟩:=List.getElem?_eq_some_iff.1 hli
   rw[List.drop_eq_getElem_cons hl1,hl2]
  have hdl:p.data.length≤64:=Yrv g2 (p.code,p.data) (List.mem_of_getElem? hli)
  have hkd:=Y1i hb g2 (p.code,p.data) (List.mem_of_getElem? hli)
  simp only at hkd
  have dat:Bytes p.data:=X76 hb g2 (p.code,p.data) (List.mem_of_getElem? hli)
  have od:=(os3.old a5).data p (List.mem_of_getElem? hpi)
  obtain⟨bk,off,x1,x2⟩:=Zg4 (b:=b) (Zfl b) Qp8 (os3.old a5).row hpi
  obtain⟨bk',off', -,y1,y2,y3⟩:=Zgx (b:=b) (Zfl b) Qp8 (os3.old a5).row hpi
  rw[x1]at y1
  cases y1
  have hw:IntKind.i64.wrap ((i:Int)+1)=((i+1:Nat):Int):=by rw[Ug (by omega) (by omega)];omega
  rw[hld]at hS
  by_cases hbr:p.code=136∨p.code=137∨p.code=138
  ·have b1:136≤p.code:=by omega
   have b2:p.code≤138:=by omega
   simp[t7,t10,t11,lenO,hlt',x1,y2,b1,b2]
   refine Zhu b hbr (a:=a) M5 R5 (by omega) (by omega) hi5' p.data _ (fun q => ?_) (fun MB6 ps6 on6 had6 op6 h6 M6 R6 m6 l6 q => ?_)
   ·simp[t7,t10,t11]
    have : Xso a xs (items.map (·.2))=16:=by
     rw[hF1,hS]
     simp only[Qp4,q,Except.bind,Yop]
    rw[this]at hk
    exact hk h5 (a03.trans a5)
   ·obtain⟨a6,hm6⟩:=Mv.oldq a5 hm5 m6
    have bd6:=(Y59 q bd5 hdl).1
    simp[t7,t10,t11,hw]
    refine⟨os.length-(i+1),by omega,_,h6,MB6,ps6,on6,had6,op6,i+1,rfl,by simp[t7],by simp[t10],by simp,by omega,rfl,M6,R6,a6,hm6,bd6,by omega,?_⟩
    rw[hS]
    simp only[Qp4,q,Except.bind]
  have hnone:brF p.code (ps.map (·.2)) op=none:=by
   unfold brF
   rw[if_neg (by omega),if_neg (by omega)]
  have hcd:p.code≤64∨(129≤p.code∧p.code≤135)∨p.code=139:=by omega
  have A5:RAll h5 MB h4.next e seed a ps on had p.val p.data:=⟨M5,w5,hp5,hi5,od.sl,dat,fun c hc q=>by
   have:=(os3.data p (List.mem_of_getElem? hpi)).out hc
   have:=hm5 c q
   omega⟩
  have M5':=M5
  obtain⟨sv5,ov5,dv5,z5,r5⟩:=M5'
  have lenON:∀ hx,Qkb (E b).toEnv 86 ov5 hx=some (.int .i64 (on.length:Int)):=fun hx=>Qdf (T86 b) r5.on.sl
  by_cases b1:136≤p.code
  ·have b2:¬ p.code≤138:=by omega
   simp[t7,t10,t11,lenO,hlt',x1,y2,Qax,r5.c35,lenON,b1,b2]
   refine Zbd b M5 (by omega) _ ?_
   cases hall5:on.all id with
   | false =>
    have ho:Y72 op=true:=by rw[R5.off,hall5];rfl
    have hst:Qmp a p.code p.data (ps.map (·.2)) op=.ok (ps.map (·.2),op):=by simp[Qmp,hnone,ho]
    simp[t7,t10,t11,hw]
    refine⟨os.length-(i+1),by omega,_,h5,MB,ps,on,had,op,i+1,rfl,by simp[t7],by simp[t10],by simp,by omega,rfl,M5,R5,a5,hm5,bd5,by omega,?_⟩
    rw[hS]
    simp only[Qp4,hst,Except.bind]
   | true =>
    have ho:Y72 op=false:=by rw[R5.off,hall5];rfl
    have hst:Qmp a p.code p.data (ps.map (·.2)) op=(doF a p.code p.data (ps.map (·.2))).map fun st'=>(st',op):=by simp[Qmp,hnone,ho]
    simp[t7,t10,t11,x1,x2]
    refine Y4t A5 hcd _ ⟨fun st' q h6 ps6 e6 M6 m6 => ?_,fun z q h6 m6 => ?_⟩
    ·obtain⟨a6,hm6⟩:=Mv.oldq a5 hm5 m6
     have bd6:Bd st':=Y85 q bd5 hdl
     simp[t7,t10,t11,hw]
     refine⟨os.length-(i+1),by omega,_,h6,MB,ps6,on,had,op,i+1,rfl,by simp[t7],by simp[t10],by simp,by omega,rfl,M6,R5,a6,hm6,by rw[e6];exact bd6,by omega,?_⟩
     rw[hS]
     rw[q]at hst
     simp only[Qp4,hst,Except.map,Except.bind,e6]
    ·obtain⟨a6,hm6⟩:=Mv.oldq a5 hm5 m6
     have hz:z=16∨z=18:=Y8x q
     have hz0:¬ z=0:=by omega
     simp[t7,t10,t11,hz0]
     have : Xso a xs (items.map (·.2))=z:=by
      rw[q]at hst
      rw[hF1,hS]
      simp only[Qp4,hst,Except.map,Except.bind,Yop]
     rw[this]at hk
     exact hk h6 (a03.trans a6)
  ·skip
   simp[t7,t10,t11,lenO,hlt',x1,y2,Qax,r5.c35,lenON,b1]
   refine Zbd b M5 (by omega) _ ?_
   cases hall5:on.all id with
   | false =>
    have ho:Y72 op=true:=by rw[R5.off,hall5];rfl
    have hst:Qmp a p.code p.data (ps.map (·.2)) op=.ok (ps.map (·.2),op):=by simp[Qmp,hnone,ho]
    simp[t7,t10,t11,hw]
    refine⟨os.length-(i+1),by omega,_,h5,MB,ps,on,had,op,i+1,rfl,by simp[t7],by simp[t10],by simp,by omega,rfl,M5,R5,a5,hm5,bd5,by omega,?_⟩
    rw[hS]
    simp only[Qp4,hst,Except.bind]
   | true =>
    have ho:Y72 op=false:=by rw[R5.off,hall5];rfl
    have hst:Qmp a p.code p.data (ps.map (·.2)) op=(doF a p.code p.data (ps.map (·.2))).map fun st'=>(st',op):=by simp[Qmp,hnone,ho]
    simp[t7,t10,t11,x1,x2]
    refine Y4t A5 hcd _ ⟨fun st' q h6 ps6 e6 M6 m6 => ?_,fun z q h6 m6 => ?_⟩
    ·obtain⟨a6,hm6⟩:=Mv.oldq a5 hm5 m6
     have bd6:Bd st':=Y85 q bd5 hdl
     simp[t7,t10,t11,hw]
     refine⟨os.length-(i+1),by omega,_,h6,MB,ps6,on,had,op,i+1,rfl,by simp[t7],by simp[t10],by simp,by omega,rfl,M6,R5,a6,hm6,by rw[e6];exact bd6,by omega,?_⟩
     rw[hS]
     rw[q]at hst
     simp only[Qp4,hst,Except.map,Except.bind,e6]
    ·obtain⟨a6,hm6⟩:=Mv.oldq a5 hm5 m6
     have hz:z=16∨z=18:=Y8x q
     have hz0:¬ z=0:=by omega
     simp[t7,t10,t11,hz0]
     have : Xso a xs (items.map (·.2))=z:=by
      rw[q]at hst
      rw[hF1,hS]
      simp only[Qp4,hst,Except.map,Except.bind,Yop]
     rw[this]at hk
     exact hk h6 (a03.trans a6)
 ·have hlt':¬ (i:Int) < (os.length:Int):=by omega
  have hie:i=l.length:=by
   have : l.length=os.length:=by rw[← q3,Xk2]
   omega
  rw[hie,List.drop_length]at hS
  simp only[Qp4]at hS
  have hF2:Xso a xs (items.map (·.2))=if on.length=0∧ps.length=1∧isT ((ps.map (·.2)).getD 0 [])=true then 0 else 16:=by
   rw[hF1,hS]
   simp only[Yop,List.length_map,hl5.1]
  have M5':=M5
  obtain⟨sv5,ov5,dv5,z5,r5⟩:=M5'
  have lenON:∀ hx,Qkb (E b).toEnv 86 ov5 hx=some (.int .i64 (on.length:Int)):=fun hx=>Qdf (T86 b) r5.on.sl
  have lenST:∀ hx,Qkb (E b).toEnv 43 sv5 hx=some (.int .i64 (ps.length:Int)):=fun hx=>Qdf (T43 b) r5.st
  by_cases ho:on.length=0
  ·rw[ho]at lenON
   have lenON':∀ hx,Qkb (E b).toEnv 86 ov5 hx=some (.int .i64 0):=lenON
   by_cases hp1:ps.length=1
   ·rw[hp1]at lenST
    have lenST':∀ hx,Qkb (E b).toEnv 43 sv5 hx=some (.int .i64 1):=lenST
    obtain⟨q,rfl⟩:∃ q,ps=[q]:=by
     match ps,hp1 with
     | [q],_=>exact⟨q,rfl⟩
    simp[t7,t10,t11,lenO,hlt',Qax,r5.c35,r5.c34,lenON',lenST']
    refine Qp7 b M5 (n:=0) (p:=q) rfl (by simp) _ ?_
    simp
    refine Ypl b (r5.its q (by simp)).1 (hi5' q (by simp)) _ ?_
    simp
    refine Q2e b _ h5 _ ?_
    simp
    have : Xso a xs (items.map (·.2))=X89 (isT q.2):=by
     rw[hF2]
     simp[ho,X89]
    rw[this]at hk
    exact hk h5 (a03.trans a5)
   ·have hp1':¬ (ps.length:Int)=1:=by omega
    simp[t7,t10,t11,lenO,hlt',Qax,r5.c35,r5.c34,lenON',lenST,hp1']
    refine Q2e b _ h5 _ ?_
    simp
    have : Xso a xs (items.map (·.2))=X89 false:=by
     rw[hF2]
     simp[hp1,X89]
    rw[this]at hk
    exact hk h5 (a03.trans a5)
  ·have ho':¬ (on.length:Int)=0:=by omega
   have hon:¬ on=[]:=by intro q;rw[q]at ho;exact ho rfl
   simp[t7,t10,t11,lenO,hlt',Qax,r5.c35,r5.c34,lenON,ho',ho,hon]
   refine Q2e b _ h5 _ ?_
   simp
   have : Xso a xs (items.map (·.2))=X89 false:=by
    rw[hF2]
    simp[ho,X89]
   rw[this]at hk
   exact hk h5 (a03.trans a5)
end
end Go.Proofs.YtgeeklmjfbiieaaDoor
end
noncomputable section
namespace Go.Proofs.YtgeeklmjfbiieaaDoor
open Go Go.Ab
set_option maxRecDepth 100000
def SNI(v1 v2:Value)(n:Nat)(h:Heap)(k:Nat)(s:St):Prop:=∃ (t:Tr Value) (i:Nat),s=⟨⟨27,t⟩,[],h⟩∧t.get 0=some v1∧t.get 1=some v2∧t.get 5=some (.int .i64 (i:Int))∧i≤n∧k=n-i
section
attribute [local simp] Xw Yi Xp kON kOC Xt kNN kNP kRR kRP kEN kER Q4 Xf Z4 Yt aop Qg nth Ab.g0 gv gs Q7 Qd aev evs evO Qi Tr.get_put St.put Tm.put flat flatA Yu Qp Qo Qm Qq Ql Qn Qk X3 Qj Q5 Q6 kTN kTR kTX kTP kBN kBR kBX kBP kCS kCR kCE kAM Xs.putAll X7 Qc Q2 Q1 Qa Qb Q9 Q0 Q3 Q8
theorem Y6g(b:Nat){h:Heap}{v1 v2:Value}{l1 l2:List (Value × List Int)}(s1:Sl h 1 v1 l1.length (l1.map (·.1)))(s2:Sl h 1 v2 l2.length (l2.map (·.1)))(i1:ItsAt h l1)(i2:ItsAt h l2)(he:l1.map (·.2)=l2.map (·.2))(hl:∀ p ∈ l1,p.2.length < 1000000)(hn:l1.length < 1000000)
  (K:AEnd→Heap→Prop) (hk:K (.ret (.bool true)) h):FnK Tryd.prog (E b).G 23 [v1,v2] h K:=by
 have en:l2.length=l1.length:=by have:=congrArg List.length he;simpa using this.symm
 refine Ur (E b) (Qa1 b) (Vj b) Wf (Qa5 b) (Us b) (Yz b) Xrn X6s Xz6 rfl ?_
 have len1:∀ hx,Qkb (E b).toEnv 43 v1 hx=some (.int .i64 (l1.length:Int)):=fun hx=>Qdf (T43 b) s1
 have len2:∀ hx,Qkb (E b).toEnv 43 v2 hx=some (.int .i64 (l1.length:Int)):=fun hx=>by rw[← en];exact Qdf (T43 b) s2
 simp[Qdn,Qh0,Yz,V4,Qdl,Qf4,Qai,Z8,Y7,Qel,len1,len2]
 refine Qfy (SNI v1 v2 l1.length h) l1.length ⟨_,0,rfl,by simp,by simp,by simp,by omega,rfl⟩ ?_
 rintro k s' ⟨t,i,rfl,t0,t1,t5,hi,rfl⟩ _
 by_cases hlt:i < l1.length
 ·have hlt':(i:Int) < (l1.length:Int):=by omega
  obtain⟨p,hp⟩:∃ p,l1[i]? = some p:=⟨_,List.getElem?_eq_getElem hlt⟩
  obtain⟨q,hq⟩:∃ q,l2[i]? = some q:=⟨_,List.getElem?_eq_getElem (by omega)⟩
  have epq:p.2=q.2:=by
   have:=congrArg (·[i]?) he
   simpa[hp,hq]using this
  obtain⟨bk,off,q1,q2,q3, -⟩:=Xfu (T43 b) Qdj s1 (k:=.i64) (i:=(i:Int)) (by omega) (by omega)
  have q4:V2 h bk off=some p.1:=by
   have:=q3 0 (by omega)
   simpa[hp]using this
  obtain⟨bk2,off2,w1,w2,w3, -⟩:=Xfu (T43 b) Qdj s2 (k:=.i64) (i:=(i:Int)) (by omega) (by omega)
  have w4:V2 h bk2 off2=some q.1:=by
   have:=w3 0 (by omega)
   simpa[hq]using this
  have hw:IntKind.i64.wrap ((i:Int)+1)=((i+1:Nat):Int):=by rw[Ug (by omega) (by omega)];omega
  obtain⟨_,_,c1,n1,rfl,rfl⟩:=Xva b (i1 p (List.mem_of_getElem? hp)).1 (i2 q (List.mem_of_getElem? hq)).1 (by have:=hl p (List.mem_of_getElem? hp);omega) (fun r h'=>r=.ret (.bool true)∧h=h') (by rw[decide_eq_true epq];exact⟨rfl,rfl⟩)
  simp[Qdn,Qh0,Yz,V4,Qdl,Qf4,Qai,Z8,Y7,Qel,t0,t1,t5,len1,hlt']
  refine Qeo [⟨12,[p.1,q.1],h,.bool true,h,true⟩] ?_ Q8p Xd5 Q6q (by simp[Ab.runT,Z2,Yp,ldv,Nat.testBit,Vu,Zc,Yy,Zf,loadAt,Qa6,J9,Xld,Xno,Qdn,Qh0,Yz,V4,Qdl,Qf4,Qai,Z8,Y7,Qel,t0,t1,t5,q2,q4,w2,w4,Qfr];first | exact⟨rfl,rfl⟩ | rfl) ?_ ?_
  ·simp only[List.mem_cons,List.not_mem_nil,or_false]
   rintro e rfl
   exact⟨c1,n1,fun _ c hc=>rfl⟩
  ·simp[Z2,Yp,Qdm,ldv,Ab.runT,Z2,Yp,ldv,Nat.testBit,Vu,Zc,Yy,Zf,loadAt,Qa6,J9,Qdn,Qh0,Yz,V4,Qdl,Qf4,Qai,Z8,Y7,Qel]
  simp[Qdn,Qh0,Yz,V4,Qdl,Qf4,Qai,Z8,Y7,Qel,t0,t1,t5,hw]
  exact⟨l1.length-(i+1),by omega,_,i+1,rfl,by simp[t0],by simp[t1],by simp,by omega,rfl⟩
 ·have hlt':¬ (i:Int) < (l1.length:Int):=by omega
  simp[Qdn,Qh0,Yz,V4,Qdl,Qf4,Qai,Z8,Y7,Qel,t0,t1,t5,len1,hlt']
  exact hk
theorem Znj(x:Int):Qbv (binOp .rem 3 (.int .i64 x) (.int .i64 32))=some (.int .i64 (Int.tmod x 32)):=by kernel_rfl
theorem Zmv(b:Nat){n:Int}(h0:0≤n)(h:Heap)(K:AEnd→Heap→Prop)(hk:K (.ret (.int .i64 (n % 32))) h):FnK Tryd.prog (E b).G 7 [.int .i64 n,.int .i64 32] h K:=by
 refine Ur (E b) (Qa1 b) (Vj b) Wf (Qa5 b) (Us b) (Qm3 b) Yqd Y7p Y0m rfl ?_
 have e:Int.tmod n 32=n % 32:=Int.tmod_eq_emod_of_nonneg h0
 have hz:¬ n % 32 < 0:=by omega
 simp[Xt0,Y1d,Qm3,Yql,Yqk,Znj,e,hz]
 exact hk
end
def Xmd(vs vk vd:Value)(ds:List Nat)(lk ow:Int):List Value:=vs::vk::vd::(ds.map u8v ++ [.int .i64 lk,.int .i64 ow])
structure CaseAt (h:Heap) (vs vk vd:Value) (ds seed:List Nat) (lk ow:Int) (xs:List Int) (items:List (Value × List Int)):Prop where
 s:SB h vs xs
 bx:Bytes xs
 k:Sl h 1 vk items.length (items.map (·.1))
 its:ItsAt h items
 kn:items.length≤0x7ffffffff000
 kl:∀ p ∈ items,p.2.length≤0x7ffffffff000
 d:SN h vd seed
 bs:∀ x ∈ seed,x < 256
 dl:ds.length=32
 bd:∀ x ∈ ds,x < 256
 ow:ow < 9223372036854775808
section
variable{h:Heap}{vs vk vd:Value}{ds seed:List Nat}{lk ow:Int}{xs:List Int}{items:List (Value × List Int)}
theorem CaseAt.old{h':Heap}(c:CaseAt h vs vk vd ds seed lk ow xs items)(a:Old h h'):CaseAt h' vs vk vd ds seed lk ow xs items :=
 ⟨c.s.old a,c.bx,c.k.old a,c.its.old a,c.kn,c.kl,c.d.old a,c.bs,c.dl,c.bd,c.ow⟩
theorem Ypn(hd:ds.length=32):(Xmd vs vk vd ds lk ow).length=37:=by simp[Xmd,hd]
structure BoxAt (h:Heap) (A:Nat) (vs vk vd:Value) (ds:List Nat) (lk ow:Int):Prop where
 g:h.get A=some (.cells true 1 (Xmd vs vk vd ds lk ow))
 dl:ds.length=32
theorem BoxAt.old{h':Heap}{A:Nat}(c:BoxAt h A vs vk vd ds lk ow)(a:Old h h'):BoxAt h' A vs vk vd ds lk ow:=⟨a.get c.g,c.dl⟩
theorem BoxAt.c0{A:Nat}(c:BoxAt h A vs vk vd ds lk ow):V2 h A 0=some vs:=by rw[Up c.g];rfl
theorem BoxAt.c1{A:Nat}(c:BoxAt h A vs vk vd ds lk ow):V2 h A 1=some vk:=by rw[Up c.g];rfl
theorem BoxAt.c2{A:Nat}(c:BoxAt h A vs vk vd ds lk ow):V2 h A 2=some vd:=by rw[Up c.g];rfl
theorem BoxAt.c3{A:Nat}(c:BoxAt h A vs vk vd ds lk ow):Qgi h A 3 32=some (.agg ⟨ds.map u8v⟩):=by
 have dl:=c.dl
 rw[Qan c.g (by rw[Ypn dl];omega)]
 congr 3
 show((ds.map u8v ++ [.int .i64 lk,.int .i64 ow]):List Value).take 32=_
 rw[List.take_append_of_le_length (by simp[dl]),List.take_of_length_le (by simp[dl])]
theorem BoxAt.c35{A:Nat}(c:BoxAt h A vs vk vd ds lk ow):V2 h A 35=some (.int .i64 lk):=by
 have dl:=c.dl
 rw[Up c.g]
 show((ds.map u8v ++ [.int .i64 lk,.int .i64 ow]):List Value)[32]? = _
 rw[List.getElem?_append_right (by simp[dl])]
 simp[dl]
theorem BoxAt.c36{A:Nat}(c:BoxAt h A vs vk vd ds lk ow):V2 h A 36=some (.int .i64 ow):=by
 have dl:=c.dl
 rw[Up c.g]
 show((ds.map u8v ++ [.int .i64 lk,.int .i64 ow]):List Value)[33]? = _
 rw[List.getElem?_append_right (by simp[dl])]
 simp[dl]
theorem BoxAt.all{A:Nat}(c:BoxAt h A vs vk vd ds lk ow):Qgi h A 0 37=some (.agg ⟨Xmd vs vk vd ds lk ow⟩):=by
 rw[Qan c.g (by rw[Ypn c.dl];omega),List.drop_zero,List.take_of_length_le (by rw[Ypn c.dl];omega)]
theorem Ysz(hd:ds.length=32):X7w (.agg ⟨Xmd vs vk vd ds lk ow⟩) h=some (.pointer (some ⟨h.next,0,none⟩),h.push (.cells true 1 (Xmd vs vk vd ds lk ow)))∧BoxAt (h.push (.cells true 1 (Xmd vs vk vd ds lk ow))) h.next vs vk vd ds lk ow :=
 ⟨rfl,by rw[Heap.get_push,if_pos rfl],hd⟩
section
attribute [local simp] Qf8 Qj5 Z0 Qh8 Qc5 Z8 Yj Zk Qyi Vr Qmx Qat Qhc Qgl Qfu Xp kON kOC Xt kNN kNP kRR kRP kEN kER Q4 Xf Z4 Yt aop Qg nth Ab.g0 gv gs Q7 Qd aev evs evO Qi Tr.get_put St.put Tm.put flat flatA Yu Qp Qo Qm Qq Ql Qn Qk X3 Qj Q5 Q6 kTN kTR kTX kTP kBN kBR kBX kBP kCS kCR kCE kAM Xs.putAll X7 Qc Q2 Q1 Qa Qb Q9 Q0 Q3 Q8
theorem Znk(b:Nat)(C:CaseAt h vs vk vd ds seed lk ow xs items)(K:AEnd→Heap→Prop)(hk1:∀ h',Old h h'→K (.ret (.bool true)) h')(hk0:xs.length≤1024→Zbf (items.map (·.2)) 0≤4096→seed.length≤1024→∀ h',Old h h'→K (.ret (.bool false)) h') :
  FnK Tryd.prog (E b).G 14 [.agg ⟨Xmd vs vk vd ds lk ow⟩] h K:=by
 refine Ur (E b) (Qa1 b) (Vj b) Wf (Qa5 b) (Us b) (Z0 b) Xqd X21 Xwx rfl ?_
 obtain⟨bx,B⟩:=Ysz (h:=h) (vs:=vs) (vk:=vk) (vd:=vd) (lk:=lk) (ow:=ow) C.dl
 obtain⟨hA,eA⟩:∃ hA,hA=h.push (.cells true 1 (Xmd vs vk vd ds lk ow)):=⟨_,rfl⟩
 have aA:Old h hA:=by rw[eA];exact Old.push _ _
 rw[← eA]at bx B
 have lenX:=fun hx=>Qcp (b:=b) (h1:=hx) C.s
 have lenD:∀ hx,Qkb (E b).toEnv 47 vd hx=some (.int .i64 (seed.length:Int)):=fun hx=>Qdf (T47 b) C.d
 by_cases p1:(1024:Int) < (xs.length:Int)
 ·simp[bx,B.c0,lenX,p1]
  exact hk1 hA aA
 ·simp[bx,B.c0,B.c1,lenX,p1]
  refine Zne b (C.k.old aA) C.kn (C.its.old aA) C.kl _ ?_
  by_cases p2:(4096:Int) < Zbf (items.map (·.2)) 0
  ·simp[p2]
   exact hk1 hA aA
  ·by_cases p3:(1024:Int) < (seed.length:Int)
   ·simp[p2,B.c2,lenD,p3]
    exact hk1 hA aA
   ·simp[p2,B.c2,lenD,p3]
    exact hk0 (by omega) (by omega) (by omega) hA aA
end
def Zge(ds seed:List Nat)(ow:Int)(st:List (List Int)):List (List Int):=if ow < 1 then st else Xsn (Qq7 (Q9m (Qbu seed 32 1) (1+(ow-1) % 32)) ds)::st
section
attribute [local simp] Qco Qf5 Yq Qyi Vr Yr Xwl U9 Xw Qat Z8 Jf Vq Qm3 Yi Qbq Ui J4 Qhy Qzg Xp kON kOC Xt kNN kNP kRR kRP kEN kER Q4 Xf Z4 Yt aop Qg nth Ab.g0 gv gs Q7 Qd aev evs evO Qi Tr.get_put St.put Tm.put flat flatA Yu Qp Qo Qm Qq Ql Qn Qk X3 Qj Q5 Q6 kTN kTR kTX kTP kBN kBR kBX kBP kCS kCR kCE kAM Xs.putAll X7 Qc Q2 Q1 Qa Qb Q9 Q0 Q3 Q8
set_option maxHeartbeats 1000000 in
theorem Ysk(b:Nat)(C:CaseAt h vs vk vd ds seed lk ow xs items)(hn:items.length≤4096)(hl:∀ p ∈ items,p.2.length≤4096)(hs:seed.length≤1024)(K:AEnd→Heap→Prop)
  (hk:∀ v out h',Sl h' 1 v out.length (out.map (·.1))→out.map (·.2)=Zge ds seed ow (items.map (·.2))→ItsAt h' out→Old h h'→K (.ret v) h') :
  FnK Tryd.prog (E b).G 17 [.agg ⟨Xmd vs vk vd ds lk ow⟩] h K:=by
 refine Ur (E b) (Qa1 b) (Vj b) Wf (Qa5 b) (Us b) (Yq b) Xgv Xtt Xq2 rfl ?_
 obtain⟨bx,B⟩:=Ysz (h:=h) (vs:=vs) (vk:=vk) (vd:=vd) (lk:=lk) (ow:=ow) C.dl
 obtain⟨hA,eA⟩:∃ hA,hA=h.push (.cells true 1 (Xmd vs vk vd ds lk ow)):=⟨_,rfl⟩
 have aA:Old h hA:=by rw[eA];exact Old.push _ _
 rw[← eA]at bx B
 have CA:=C.old aA
 simp[bx,B.c1]
 refine Xyj b CA.k (by omega) CA.its (fun p hp=>by have:=hl p hp;omega) _ fun o out h1 oo eo io fo a1 => ?_
 have lo:out.length=items.length:=by have:=congrArg List.length eo;simpa using this
 have a01:=aA.trans a1
 have B1:=B.old a1
 by_cases hw:ow < 1
 ·simp[B1.c36,hw]
  refine hk o out h1 ?_ ?_ io a01
  ·have:=oo.sl
   rw[lo]
   exact this
  ·rw[eo,Zge,if_pos hw]
 have w1:IntKind.i64.wrap (ow-1)=ow-1:=by have:=C.ow;exact Ug (by omega) (by omega)
 have w2:IntKind.i64.wrap (1+(ow-1) % 32)=1+(ow-1) % 32:=Ug (by omega) (by omega)
 obtain⟨n,hnn⟩:∃ n:Nat,1+(ow-1) % 32=(n:Int):=⟨(1+(ow-1) % 32).toNat,by omega⟩
 have dl:=C.dl
 have bSeed:∃ ss:List Int,seed=Xm5 ss∧Bytes ss:=⟨Xsn seed,(Zcc seed).symm,Xm0 C.bs⟩
 have sbd:SB h1 vd (Xsn seed):=by
  have:=(CA.old a1).d
  rw[SN]at this
  rw[SB,show(Xsn seed).length=seed.length by simp[Xsn],← Ymr]
  exact this
 obtain⟨_,h2,c1,n1,ν,sv,rfl,gν,sν, -, -,a2⟩:=Y9o b sbd (by simp[Xsn];omega) (fun r h' => ∃ ν v,r=.ret (.pointer (some ⟨ν,0,none⟩))∧h'.get ν=some (.cells true 1 [v])∧SB h' v (Xsn seed)∧h1.next≤ν∧(∀ c,U7 v=some c→h1.next≤c)∧Old h1 h') (fun ν v h' q1 q2 q3 q4 q5=>⟨ν,v,rfl,q1,q2,q3,q4,q5⟩)
 have snν:SN h2 sv seed:=by
  rw[SB,← Ymr,show(Xsn seed).length=seed.length by simp[Xsn]]at sν
  exact sν
 obtain⟨_,_,c2,n2,rfl,rfl⟩:=Zmv b (n:=ow-1) (by omega) h2 (fun r h'=>r=.ret (.int .i64 ((ow-1) % 32))∧h2=h') ⟨rfl,rfl⟩
 obtain⟨_,h3,c3,n3,rfl,a3⟩:=Y3n b gν snν (by omega) C.bs dl C.bd (o:=n) (by omega) (by omega) (fun r h'=>r=.ret (.agg ⟨(Qq7 (Q9m (Qbu seed 32 1) (n:Int)) ds).map u8v⟩)∧Old h2 h') (fun h' q=>⟨rfl,q⟩)
 obtain⟨tg,htg⟩:∃ t,t=Qq7 (Q9m (Qbu seed 32 1) (n:Int)) ds:=⟨_,rfl⟩
 have tl:tg.length=16:=by rw[htg];exact Ypc
 have bt:∀ x ∈ tg,x < 256:=by
  rw[htg]
  intro x hx
  exact Yuo _ x (List.mem_of_mem_take hx)
 rw[← htg]at c3
 obtain⟨h4,e4⟩:∃ h4,h4=h3.push (.cells true 1 z16):=⟨_,rfl⟩
 have al4:Qe4 (E b).toEnv 90 h3=some (.pointer (some ⟨h3.next,0,none⟩),h4):=by rw[e4];exact Qhy b h3
 have g4:h4.get h3.next=some (.cells true 1 z16):=by rw[e4,Heap.get_push,if_pos rfl]
 have l4:=Heap.get_lt g4
 have a4:Old h3 h4:=by rw[e4];exact Old.push _ _
 obtain⟨h5,e5⟩:∃ h5,h5=h4.set h3.next (some (.cells true 1 (tg.map u8v))):=⟨_,rfl⟩
 have st5:Wg h4 h3.next 0 (tg.map u8v)=some h5:=by
  rw[Qd2 g4 (by simp[z16,tl]),e5]
  congr 4
  simp[z16,tl]
 have g5:h5.get h3.next=some (.cells true 1 (tg.map u8v)):=by rw[e5,Heap.get_set _ _ _ _ l4,if_pos rfl]
 have a35:Old h3 h5:=by rw[e5];exact a4.set _ (Nat.le_refl _) l4
 have a15:=(a2.trans a3).trans a35
 have B2:=B1.old a2
 have B3:=B2.old a3
 have B4:=B3.old a4
 have B5:=B3.old a35
 rw[← hnn]at c3
 simp[B1.c36,hw]
 refine Qeo [⟨21,[vd],h1,.pointer (some ⟨ν,0,none⟩),h2,true⟩,⟨7,[.int .i64 (ow-1),.int .i64 32],h2,.int .i64 ((ow-1) % 32),h2,true⟩,⟨48,[.pointer (some ⟨ν,0,none⟩),.int .i64 (1+(ow-1) % 32),.agg ⟨ds.map u8v⟩],h2,.agg ⟨tg.map u8v⟩,h3,true⟩] ?_ Q2p Q3i Q2t (by simp[Ab.runT,Z2,Yp,ldv,Nat.testBit,Vu,Zc,Yy,Zf,loadAt,Qa6,J9,Q7v,Q6n,B1.c2,B1.c36,B2.c36,B2.c3,w1,w2,-Qhy,al4,tl,st5,Qfr,Qlu];first | exact⟨rfl,rfl⟩ | rfl) ?_ ?_
 ·simp only[List.mem_cons,List.not_mem_nil,or_false]
  rintro e (rfl | rfl | rfl)
  ·exact⟨c1,n1,fun _ c hc=>a2.2 c hc⟩
  ·exact⟨c2,n2,fun _ _ _=>rfl⟩
  ·exact⟨c3,n3,fun _ c hc=>a3.2 c hc⟩
 ·simp[Z2,Yp,Qcn,ldv,Ab.runT,Z2,Yp,ldv,Nat.testBit,Vu,Zc,Yy,Zf,loadAt,Qa6,J9,B1.c2,B2.c2,B3.c2,B4.c2,B5.c2,B1.c36,B2.c36,B3.c36,B4.c36,B5.c36,B1.c3,B2.c3,B3.c3,B4.c3,B5.c3,X6v C.d]
 have oT:Own (h5.push (.cells true 1 [.slice (some ⟨h3.next,0,none⟩) 16 16])) h1.next 1 (.slice (some ⟨h5.next,0,none⟩) 1 1) 1 [.slice (some ⟨h3.next,0,none⟩) 16 16]:=Own.new a15.1 (by rw[Heap.get_push,if_pos rfl]) rfl (by decide) (.inr rfl)
 have bu:=(Yoa b h5 (.slice (some ⟨h3.next,0,none⟩) 16 16) rfl).1
 have a6:Old h5 (h5.push (.cells true 1 [.slice (some ⟨h3.next,0,none⟩) 16 16])):=Old.push _ _
 obtain⟨v',h7,k1,k2,k3⟩:=Qmo (T43 b) Qdj (by omega) oT (Nat.le_trans a15.1 a6.1) (Q2g (T43 b) Qdj (oo.sl.old (a15.trans a6))) (by simp[lo]) (by rw[Xve];omega) (by omega)
 have a17:Old h1 h7:=k3.old (a15.trans a6) oT
 have g7:h7.get h3.next=some (.cells true 1 (tg.map u8v)):=by
  have:=k3.2 h3.next (by have:=a6.1;have:=(Heap.get_lt g5);omega) (fun q=>by simp[U7]at q;have:=(Heap.get_lt g5);omega)
  rw[this,a6.get g5]
 simp[Y98,bu,k1]
 have sT:SB h7 (.slice (some ⟨h3.next,0,none⟩) 16 16) (Xsn tg):=by
  have:=Zgl g7 (by omega)
  rw[tl]at this
  exact this
 refine hk v' ((.slice (some ⟨h3.next,0,none⟩) 16 16,Xsn tg)::out) h7 ?_ ?_ (fun p hp => ?_) (a01.trans a17)
 ·have:=k2.sl
  simpa[lo,Nat.add_comm]using this
 ·rw[List.map_cons,eo,Zge,if_neg hw,htg,hnn]
 ·rcases List.mem_cons.1 hp with rfl | hp
  ·exact⟨sT,Xm0 bt⟩
  ·exact⟨(io p hp).1.old a17,(io p hp).2⟩
end
end
end Go.Proofs.YtgeeklmjfbiieaaDoor
end
noncomputable section
namespace Go.Proofs.YtgeeklmjfbiieaaDoor
open Go Go.Ab
set_option maxRecDepth 100000
def lb(k n:Nat):Array Bool:=((List.range k).map fun i=>n.testBit i).toArray
section
variable{P:Program}{E:Env2 P}{C:CallP}{ops:Array Oper}
theorem Qml{l:List Oper}{K:St→Prop}{n:Nat}{listed:Array Bool}{s:St}(i j k:Nat)(h1:Region.ready .any ops listed=[i,j,k]){li lj lk:Array Bool}(h8:listed.setIfInBounds i true=li)(h9:listed.setIfInBounds j true=lj)(h10:listed.setIfInBounds k true=lk)(hi:Qon E C l (Qri E C ops l K n li) i s)(hj:Qon E C l (Qri E C ops l K n lj) j s)(hk:Qon E C l (Qri E C ops l K n lk) k s):Qri E C ops l K (n+1) listed s:=by
 subst h8 h9 h10
 refine .inr (.inr ⟨[i,j,k],h1,by simp,fun m hm => ?_⟩)
 simp only[List.mem_cons,List.not_mem_nil,or_false]at hm
 rcases hm with rfl | rfl | rfl
 ·exact hi
 ·exact hj
 ·exact hk
theorem Yn2{l:List Oper}{K:St→Prop}{n:Nat}{listed:Array Bool}{s:St}(i j k m:Nat)(h1:Region.ready .any ops listed=[i,j,k,m]){li lj lk lm:Array Bool}(h8:listed.setIfInBounds i true=li)(h9:listed.setIfInBounds j true=lj)(h10:listed.setIfInBounds k true=lk)(h11:listed.setIfInBounds m true=lm)(hi:Qon E C l (Qri E C ops l K n li) i s)(hj:Qon E C l (Qri E C ops l K n lj) j s)(hk:Qon E C l (Qri E C ops l K n lk) k s)(hm:Qon E C l (Qri E C ops l K n lm) m s):Qri E C ops l K (n+1) listed s:=by
 subst h8 h9 h10 h11
 refine .inr (.inr ⟨[i,j,k,m],h1,by simp,fun q hq => ?_⟩)
 simp only[List.mem_cons,List.not_mem_nil,or_false]at hq
 rcases hq with rfl | rfl | rfl | rfl
 ·exact hi
 ·exact hj
 ·exact hk
 ·exact hm
end
theorem Y35(b:Nat)(t:TypeId)(ht:t=59∨t=64)(ν:Nat){l:List Value}(hl:l.length=32)(lk:Int):Qr0 (E b).toEnv t [(0,.pointer (some ⟨ν,0,none⟩)),(1,.agg ⟨l⟩),(2,.int .i64 lk)]=some (.agg ⟨.pointer (some ⟨ν,0,none⟩)::l ++ [.int .i64 lk]⟩):=by
 have e:Qr0 (E b).toEnv t [(0,.pointer (some ⟨ν,0,none⟩)),(1,.agg ⟨l⟩),(2,.int .i64 lk)]=(Xej (nth [(0,1),(1,32),(33,1)]) (.pointer none::List.replicate 32 (.int .u8 0) ++ [.int .i64 0]) [(0,.pointer (some ⟨ν,0,none⟩)),(1,.agg ⟨l⟩),(2,.int .i64 lk)]).map fun c => .agg c.toArray:=by
  rcases ht with rfl | rfl
  ·kernel_rfl
  ·kernel_rfl
 rw[e]
 have hc:(Value.agg ⟨l⟩).cells.toList=l:=rfl
 have hs:(Value.agg ⟨l⟩).cells.size=32:=hl
 have hz:(.pointer (some ⟨ν,0,none⟩)::List.replicate 32 (.int .u8 0) ++ [.int .i64 0]:List Value).length=34:=by simp
 have hz2:(.pointer (some ⟨ν,0,none⟩)::l ++ [.int .i64 0]:List Value).length=34:=by simp[hl]
 have s0:Qjp (.pointer none::List.replicate 32 (.int .u8 0) ++ [.int .i64 0]:List Value) 0 [.pointer (some ⟨ν,0,none⟩)]=some (.pointer (some ⟨ν,0,none⟩)::List.replicate 32 (.int .u8 0) ++ [.int .i64 0]):=rfl
 have s1:Qjp (.pointer (some ⟨ν,0,none⟩)::List.replicate 32 (.int .u8 0) ++ [.int .i64 0]:List Value) 1 l=some (.pointer (some ⟨ν,0,none⟩)::l ++ [.int .i64 0]):=by
  rw[Qm4 (by rw[hz,hl];omega),hl]
  rfl
 have s2:Qjp (.pointer (some ⟨ν,0,none⟩)::l ++ [.int .i64 0]:List Value) 33 [.int .i64 lk]=some (.pointer (some ⟨ν,0,none⟩)::l ++ [.int .i64 lk]):=by
  rw[Qm4 (by rw[hz2];simp),List.take_left' (by simp[hl]),List.length_singleton,List.drop_of_length_le (by simp[hl])]
  simp
 have b1:(Qgc (.agg ⟨l⟩) && (Value.agg ⟨l⟩).cells.size == 32 && Nat.ble (1+32) (.pointer (some ⟨ν,0,none⟩)::List.replicate 32 (.int .u8 0) ++ [.int .i64 0]:List Value).length)=true:=by
  rw[hs,hz];rfl
 have p0:(Qgc (.pointer (some ⟨ν,0,none⟩)) && (Value.pointer (some ⟨ν,0,none⟩)).cells.size == 1 && Nat.ble (0+1) (.pointer none::List.replicate 32 (.int .u8 0) ++ [.int .i64 0]:List Value).length)=true:=rfl
 have b2:(Qgc (.int .i64 lk) && (Value.int .i64 lk).cells.size == 1 && Nat.ble (33+1) (.pointer (some ⟨ν,0,none⟩)::l ++ [.int .i64 0]:List Value).length)=true:=by
  rw[hz2];rfl
 have c0:(Value.pointer (some ⟨ν,0,none⟩)).cells.toList=[.pointer (some ⟨ν,0,none⟩)]:=rfl
 have c2:(Value.int .i64 lk).cells.toList=[.int .i64 lk]:=rfl
 simp only[Xej,nth,p0,b1,b2,if_true,hc,c0,c2,s0,s1,s2]
 rfl
structure RunAt (b:Nat) (h0:Heap) (A0:Nat) (vs vk vd iv kv wv:Value) (ds seed:List Nat) (lk ow:Int) (xs:List Int) (items out:List (Value × List Int)):Prop where
 c:CaseAt h0 vs vk vd ds seed lk ow xs items
 bx:BoxAt h0 A0 vs vk vd ds lk ow
 laid:Ab.LaidIn h0 laidAll
 sl:∀ g,Old h0 g→Qcd (E b).toEnv 47 iv none (some (.int .i64 (xs.length:Int))) none g=some (wv,g)
 sw:SB h0 wv xs
 sk:Sl h0 1 kv out.length (out.map (·.1))
 its:ItsAt h0 out
 on:out.length < 1000000
 hs:seed.length≤1024
def Znt(ν:Nat)(ds:List Nat)(lk:Int)(hd:ds.length=32):Menv:=⟨.pointer (some ⟨ν,0,none⟩),ds.map u8v,lk,by simp[hd]⟩
def Y5i(ds seed:List Nat)(lk:Int)(hd:ds.length=32):Asks:=⟨Qbu seed 32 1,ds,lk,by rw[Xij],hd⟩
def giv(A0:Nat)(vs vd iv kv wv:Value)(ds:List Nat)(lk:Int)(n:Nat)(j:Nat):Option Value :=
 ([some iv,some (.pointer (some ⟨A0,0,none⟩)),some vs,some (.int .i64 n),some wv,some kv,some (.pointer (some ⟨A0,2,none⟩)),some vd,none,some (.pointer (some ⟨A0,3,none⟩)),some (.agg ⟨ds.map u8v⟩),some (.pointer (some ⟨A0,35,none⟩)),some (.int .i64 lk)]:List (Option Value)).getD j none
structure Z5 where
 b:Nat
 h0:Heap
 A0:Nat
 vs:Value
 vk:Value
 vd:Value
 iv:Value
 kv:Value
 wv:Value
 ds:List Nat
 seed:List Nat
 lk:Int
 ow:Int
 xs:List Int
 items:List (Value × List Int)
 out:List (Value × List Int)
 K:St→Prop
def Z5.giv(z:Z5):Nat→Option Value:=Go.Proofs.YtgeeklmjfbiieaaDoor.giv z.A0 z.vs z.vd z.iv z.kv z.wv z.ds z.lk z.xs.length
abbrev Z5.Ok(z:Z5):Prop:=RunAt z.b z.h0 z.A0 z.vs z.vk z.vd z.iv z.kv z.wv z.ds z.seed z.lk z.ow z.xs z.items z.out
abbrev Zqd(ν:Nat)(ds:List Nat)(lk:Int):Value:=.agg ⟨.pointer (some ⟨ν,0,none⟩)::ds.map u8v ++ [.int .i64 lk]⟩
structure In5 (z:Z5) (m:Nat) (tr:Tr Value) (g:Heap):Prop where
 t1:tr.get 1=some (.pointer (some ⟨z.A0,0,none⟩))
 t3:tr.get 3=some z.iv
 t4:tr.get 4=some z.kv
 old:Old z.h0 g
 has:∀ j v,z.giv j=some v→m.testBit j=true→tr.get (15+j)=some v
 new:m.testBit 8=true→∃ ν,g.get ν=some (.cells true 1 ((Qbu z.seed 32 1).map u8v))∧tr.get 23=some (.pointer (some ⟨ν,0,none⟩))∧(m.testBit 13=true→tr.get 28=some (Zqd ν z.ds z.lk))
variable{z:Z5}{m m':Nat}{tr:Tr Value}{g:Heap}
theorem Zak{j:Nat}{v:Value}(h:z.giv j=some v):j≠8∧j≠13:=by
 refine⟨fun q => ?_,fun q => ?_⟩
 ·rw[q]at h;cases h
 ·rw[q]at h;cases h
theorem Yn3{m j k:Nat}(h:(m ||| 2 ^ j).testBit k=true)(hk:k≠j):m.testBit k=true:=by
 rw[Nat.testBit_or,Nat.testBit_two_pow]at h
 have : decide (j=k)=false:=decide_eq_false (Ne.symm hk)
 rw[this,Bool.or_false]at h
 exact h
theorem Qxb{tr:Tr Value}{i j:Nat}{v:Option Value}(h:j≠i):(tr.put i v).get j=tr.get j:=by
 rw[Tr.get_put]
 split
 ·rename_i q;exact absurd q (by omega)
 ·rfl
theorem Y91{tr:Tr Value}{i:Nat}{v:Option Value}:(tr.put i v).get i=v:=by rw[Tr.get_put];simp
theorem In5.put(q:In5 z m tr g){j:Nat}{v:Value}(hv:z.giv j=some v)(hm:m'=m ||| 2 ^ j):In5 z m' (tr.put (15+j) (some v)) g:=by
 subst hm
 obtain⟨n8,n13⟩:=Zak hv
 refine⟨by rw[Qxb (by omega)];exact q.t1,by rw[Qxb (by omega)];exact q.t3,by rw[Qxb (by omega)];exact q.t4,q.old,fun k w hk hb => ?_,fun hb => ?_⟩
 ·by_cases e:k=j
  ·subst e
   rw[hv]at hk
   cases hk
   exact Y91
  ·rw[Qxb (by omega)]
   exact q.has k w hk (Yn3 hb e)
 ·obtain⟨ν,h1,h2,h3⟩:=q.new (Yn3 hb (Ne.symm n8))
  exact⟨ν,h1,by rw[Qxb (by omega)];exact h2,fun hb=>by rw[Qxb (by omega)];exact h3 (Yn3 hb (Ne.symm n13))⟩
def T5(z:Z5)(n m:Nat):Prop:=(H:z.Ok)→(∀ (tr:Tr Value) (g:Heap),Old z.h0 g→tr.get 1=some (.pointer (some ⟨z.A0,0,none⟩))→tr.get 3=some z.iv→tr.get 4=some z.kv→tr.get 5=some (.int .i64 (Xso (Y5i z.ds z.seed z.lk H.c.dl) z.xs (z.out.map (·.2))))→z.K ⟨⟨61,tr⟩,[],g⟩) →
 ∀ (tr:Tr Value) (g:Heap),In5 z m tr g→Qri (E z.b) (Xwo Tryd.prog (E z.b).G) Qdo J0 z.K n (lb 16 m) ⟨⟨61,tr⟩,[],g⟩
abbrev O5(z:Z5)(T:St→Prop)(i:Nat)(tr:Tr Value)(g:Heap):Prop:=Qon (E z.b) (Xwo Tryd.prog (E z.b).G) J0 T i ⟨⟨61,tr⟩,[],g⟩
abbrev A5(z:Z5)(m:Nat)(T:St→Prop):Prop:=∀ tr g,In5 z m tr g→T ⟨⟨61,tr⟩,[],g⟩
section
attribute [local simp] J0 Yv Z7 Z1 Qni Z0 Jo Qc5 Z8 Zd Yq Yj Qat V8 Qbq Ui Qdh U9 Z6 Jf Yx Wp Z9 Yz Ys Ym Yn Yk Xp kON kOC Xt kNN kNP kRR kRP kEN kER Q4 Xf Z4 Yt aop Qg nth Ab.g0 gv gs Q7 Qd aev evs evO Qi Tr.get_put St.put Tm.put flat flatA Yu Qp Qo Qm Qq Ql Qn Qk X3 Qj Q5 Q6 kTN kTR kTX kTP kBN kBR kBX kBP kCS kCR kCE kAM Xs.putAll X7 Qc Q2 Q1 Qa Qb Q9 Q0 Q3 Q8
theorem u2(H:z.Ok)(q:In5 z m tr g)(hb:m.testBit 1=true)(hm:m'=m ||| 2 ^ 2){T:St→Prop}(hT:A5 z m' T):O5 z T 2 tr g:=by
 have t16:tr.get 16=some (.pointer (some ⟨z.A0,0,none⟩)):=q.has 1 _ rfl hb
 rw[O5,Qku rfl]
 simp[t16,(H.bx.old q.old).c0]
 exact hT _ _ (q.put (j:=2) rfl hm)
theorem u3(H:z.Ok)(q:In5 z m tr g)(hb:m.testBit 2=true)(hm:m'=m ||| 2 ^ 3){T:St→Prop}(hT:A5 z m' T):O5 z T 3 tr g:=by
 have t17:tr.get 17=some (z.vs):=q.has 2 _ rfl hb
 rw[O5,Qku rfl]
 simp[t17,Qcp H.c.s]
 exact hT _ _ (q.put (j:=3) rfl hm)
theorem u4(H:z.Ok)(q:In5 z m tr g)(hb:m.testBit 3=true)(h0:m.testBit 0=true)(hm:m'=m ||| 2 ^ 4){T:St→Prop}(hT:A5 z m' T):O5 z T 4 tr g:=by
 have t18:tr.get 18=some (.int .i64 (z.xs.length:Int)):=q.has 3 _ rfl hb
 have t15:tr.get 15=some z.iv:=q.has 0 _ rfl h0
 rw[O5,Qku rfl]
 simp[t15,t18,H.sl g q.old]
 exact hT _ _ (q.put (j:=4) rfl hm)
theorem u7(H:z.Ok)(q:In5 z m tr g)(hb:m.testBit 6=true)(hm:m'=m ||| 2 ^ 7){T:St→Prop}(hT:A5 z m' T):O5 z T 7 tr g:=by
 have t21:tr.get 21=some (.pointer (some ⟨z.A0,2,none⟩)):=q.has 6 _ rfl hb
 rw[O5,Qku rfl]
 simp[t21,(H.bx.old q.old).c2]
 exact hT _ _ (q.put (j:=7) rfl hm)
theorem u10(H:z.Ok)(q:In5 z m tr g)(hb:m.testBit 9=true)(hm:m'=m ||| 2 ^ 10){T:St→Prop}(hT:A5 z m' T):O5 z T 10 tr g:=by
 have t24:tr.get 24=some (.pointer (some ⟨z.A0,3,none⟩)):=q.has 9 _ rfl hb
 rw[O5,Qku rfl]
 simp[t24,(H.bx.old q.old).c3]
 exact hT _ _ (q.put (j:=10) rfl hm)
theorem u12(H:z.Ok)(q:In5 z m tr g)(hb:m.testBit 11=true)(hm:m'=m ||| 2 ^ 12){T:St→Prop}(hT:A5 z m' T):O5 z T 12 tr g:=by
 have t26:tr.get 26=some (.pointer (some ⟨z.A0,35,none⟩)):=q.has 11 _ rfl hb
 rw[O5,Qku rfl]
 simp[t26,(H.bx.old q.old).c35]
 exact hT _ _ (q.put (j:=12) rfl hm)
theorem u8(H:z.Ok)(q:In5 z m tr g)(hb:m.testBit 7=true)(h13:m.testBit 13=false)(hm:m'=m ||| 2 ^ 8){T:St→Prop}(hT:A5 z m' T):O5 z T 8 tr g:=by
 have t22:tr.get 22=some (z.vd):=q.has 7 _ rfl hb
 rw[O5,Qku rfl]
 simp[t22]
 refine(Znh z.b (Laid.old H.laid q.old) (H.c.old q.old).d (by have:=H.hs;omega) _ fun ν g1 gν _ ag => ?_).ok
 simp
 refine hT _ _ ?_
 subst hm
 refine⟨by rw[Qxb (by omega)];exact q.t1,by rw[Qxb (by omega)];exact q.t3,by rw[Qxb (by omega)];exact q.t4,q.old.trans ag,fun k w hk hb => ?_,fun _=>⟨ν,gν,Y91,fun hb => ?_⟩⟩
 ·have:=(Zak hk).1
  rw[Qxb (by omega)]
  exact q.has k w hk (Yn3 hb this)
 ·rw[Yn3 hb (by decide)]at h13
  cases h13
theorem u13(H:z.Ok)(q:In5 z m tr g)(hb:m.testBit 8=true)(h10:m.testBit 10=true)(h12:m.testBit 12=true)(hm:m'=m ||| 2 ^ 13){T:St→Prop}(hT:A5 z m' T):O5 z T 13 tr g:=by
 obtain⟨ν,n1,n2,n3⟩:=q.new hb
 have t25:tr.get 25=some (.agg ⟨z.ds.map u8v⟩):=q.has 10 _ rfl h10
 have t27:tr.get 27=some (.int .i64 z.lk):=q.has 12 _ rfl h12
 rw[O5,Qku rfl]
 simp[n2,t25,t27,Y35 z.b _ (.inl rfl) ν (l:=z.ds.map u8v) (by simp[H.c.dl]) z.lk]
 refine hT _ _ ?_
 subst hm
 refine⟨by rw[Qxb (by omega)];exact q.t1,by rw[Qxb (by omega)];exact q.t3,by rw[Qxb (by omega)];exact q.t4,q.old,fun k w hk hb => ?_,fun _=>⟨ν,n1,by rw[Qxb (by omega)];exact n2,fun _=>Y91⟩⟩
 have:=(Zak hk).2
 rw[Qxb (by omega)]
 exact q.has k w hk (Yn3 hb this)
theorem Zga:T5 z 2 16383:=by
 intro H hfin tr g q
 have dl:=H.c.dl
 obtain⟨ν,gν, -,t28⟩:=q.new rfl
 have t28:=t28 rfl
 have t19:tr.get 19=some z.wv:=q.has 4 _ rfl rfl
 have t20:tr.get 20=some z.kv:=q.has 5 _ rfl rfl
 refine Yky 14 (by kernel_rfl) (listed':=lb 16 32767) (by kernel_rfl) ?_
 rw[Qku rfl]
 simp[t19,t20,t28]
 have wo:Wo g (Znt ν z.ds z.lk dl) (Y5i z.ds z.seed z.lk dl):=⟨Yna (Laid.old H.laid q.old),fun _ q=>q.elim,Nat.le_trans (by have:=Heap.get_lt (H.laid (2,Qwc) (by simp[laidAll]));exact this) q.old.1,⟨ν,1,true,rfl,gν,fun q=>q⟩,rfl,rfl⟩
 refine Yni z.b (e:=Znt ν z.ds z.lk dl) (H.sw.old q.old) H.c.bx (H.sk.old q.old) H.on (H.its.old q.old) wo _ fun g2 a2 => ?_
 simp
 refine Yky 15 (by kernel_rfl) (listed':=lb 16 65535) (by kernel_rfl) ?_
 rw[Qku rfl]
 simp
 exact Znl (by kernel_rfl) (hfin _ g2 (q.old.trans a2) (by simp[q.t1]) (by simp[q.t3]) (by simp[q.t4]) (by simp))
end
theorem Zgn:T5 z 3 16367:=fun H f _ _ q=>Yky 4 (by kernel_rfl) (by kernel_rfl:_=lb 16 16383) (u4 H q rfl rfl rfl (Zga H f))
theorem Zen:T5 z 3 8191:=fun H f _ _ q=>Yky 13 (by kernel_rfl) (by kernel_rfl:_=lb 16 16383) (u13 H q rfl rfl rfl rfl (Zga H f))
theorem Zg7:T5 z 4 16359:=fun H f _ _ q=>Yky 3 (by kernel_rfl) (by kernel_rfl:_=lb 16 16367) (u3 H q rfl rfl (Zgn H f))
theorem Zea:T5 z 4 8175:=fun H f _ _ q=>Q5f 4 13 (by kernel_rfl) (by kernel_rfl:_=lb 16 8191) (by kernel_rfl:_=lb 16 16367) (u4 H q rfl rfl rfl (Zen H f)) (u13 H q rfl rfl rfl rfl (Zgn H f))
theorem Zeh:T5 z 4 7935:=fun H f _ _ q=>Yky 8 (by kernel_rfl) (by kernel_rfl:_=lb 16 8191) (u8 H q rfl rfl rfl (Zen H f))
theorem Zk4:T5 z 4 7167:=fun H f _ _ q=>Yky 10 (by kernel_rfl) (by kernel_rfl:_=lb 16 8191) (u10 H q rfl rfl (Zen H f))
theorem Zi0:T5 z 4 4095:=fun H f _ _ q=>Yky 12 (by kernel_rfl) (by kernel_rfl:_=lb 16 8191) (u12 H q rfl rfl (Zen H f))
theorem Zl5:T5 z 5 16355:=fun H f _ _ q=>Yky 2 (by kernel_rfl) (by kernel_rfl:_=lb 16 16359) (u2 H q rfl rfl (Zg7 H f))
theorem Zcm:T5 z 5 8167:=fun H f _ _ q=>Q5f 3 13 (by kernel_rfl) (by kernel_rfl:_=lb 16 8175) (by kernel_rfl:_=lb 16 16359) (u3 H q rfl rfl (Zea H f)) (u13 H q rfl rfl rfl rfl (Zg7 H f))
theorem Zdt:T5 z 5 7919:=fun H f _ _ q=>Q5f 4 8 (by kernel_rfl) (by kernel_rfl:_=lb 16 7935) (by kernel_rfl:_=lb 16 8175) (u4 H q rfl rfl rfl (Zeh H f)) (u8 H q rfl rfl rfl (Zea H f))
theorem Zia:T5 z 5 7151:=fun H f _ _ q=>Q5f 4 10 (by kernel_rfl) (by kernel_rfl:_=lb 16 7167) (by kernel_rfl:_=lb 16 8175) (u4 H q rfl rfl rfl (Zk4 H f)) (u10 H q rfl rfl (Zea H f))
theorem Ziy:T5 z 5 4079:=fun H f _ _ q=>Q5f 4 12 (by kernel_rfl) (by kernel_rfl:_=lb 16 4095) (by kernel_rfl:_=lb 16 8175) (u4 H q rfl rfl rfl (Zi0 H f)) (u12 H q rfl rfl (Zea H f))
theorem Zhq:T5 z 5 7807:=fun H f _ _ q=>Yky 7 (by kernel_rfl) (by kernel_rfl:_=lb 16 7935) (u7 H q rfl rfl (Zeh H f))
theorem Zhj:T5 z 5 6911:=fun H f _ _ q=>Q5f 8 10 (by kernel_rfl) (by kernel_rfl:_=lb 16 7167) (by kernel_rfl:_=lb 16 7935) (u8 H q rfl rfl rfl (Zk4 H f)) (u10 H q rfl rfl (Zeh H f))
theorem Zkb:T5 z 5 3839:=fun H f _ _ q=>Q5f 8 12 (by kernel_rfl) (by kernel_rfl:_=lb 16 4095) (by kernel_rfl:_=lb 16 7935) (u8 H q rfl rfl rfl (Zi0 H f)) (u12 H q rfl rfl (Zeh H f))
theorem Zkt:T5 z 5 3071:=fun H f _ _ q=>Q5f 10 12 (by kernel_rfl) (by kernel_rfl:_=lb 16 4095) (by kernel_rfl:_=lb 16 7167) (u10 H q rfl rfl (Zi0 H f)) (u12 H q rfl rfl (Zk4 H f))
theorem Zh5:T5 z 6 8163:=fun H f _ _ q=>Q5f 2 13 (by kernel_rfl) (by kernel_rfl:_=lb 16 8167) (by kernel_rfl:_=lb 16 16355) (u2 H q rfl rfl (Zcm H f)) (u13 H q rfl rfl rfl rfl (Zl5 H f))
theorem Zdd:T5 z 6 7911:=fun H f _ _ q=>Q5f 3 8 (by kernel_rfl) (by kernel_rfl:_=lb 16 7919) (by kernel_rfl:_=lb 16 8167) (u3 H q rfl rfl (Zdt H f)) (u8 H q rfl rfl rfl (Zcm H f))
theorem Zjv:T5 z 6 7143:=fun H f _ _ q=>Q5f 3 10 (by kernel_rfl) (by kernel_rfl:_=lb 16 7151) (by kernel_rfl:_=lb 16 8167) (u3 H q rfl rfl (Zia H f)) (u10 H q rfl rfl (Zcm H f))
theorem Zhk:T5 z 6 4071:=fun H f _ _ q=>Q5f 3 12 (by kernel_rfl) (by kernel_rfl:_=lb 16 4079) (by kernel_rfl:_=lb 16 8167) (u3 H q rfl rfl (Ziy H f)) (u12 H q rfl rfl (Zcm H f))
theorem Zhs:T5 z 6 7791:=fun H f _ _ q=>Q5f 4 7 (by kernel_rfl) (by kernel_rfl:_=lb 16 7807) (by kernel_rfl:_=lb 16 7919) (u4 H q rfl rfl rfl (Zhq H f)) (u7 H q rfl rfl (Zdt H f))
theorem Zi1:T5 z 6 6895:=fun H f _ _ q=>Qml 4 8 10 (by kernel_rfl) (by kernel_rfl:_=lb 16 6911) (by kernel_rfl:_=lb 16 7151) (by kernel_rfl:_=lb 16 7919) (u4 H q rfl rfl rfl (Zhj H f)) (u8 H q rfl rfl rfl (Zia H f)) (u10 H q rfl rfl (Zdt H f))
theorem Zjq:T5 z 6 3823:=fun H f _ _ q=>Qml 4 8 12 (by kernel_rfl) (by kernel_rfl:_=lb 16 3839) (by kernel_rfl:_=lb 16 4079) (by kernel_rfl:_=lb 16 7919) (u4 H q rfl rfl rfl (Zkb H f)) (u8 H q rfl rfl rfl (Ziy H f)) (u12 H q rfl rfl (Zdt H f))
theorem Zlr:T5 z 6 3055:=fun H f _ _ q=>Qml 4 10 12 (by kernel_rfl) (by kernel_rfl:_=lb 16 3071) (by kernel_rfl:_=lb 16 4079) (by kernel_rfl:_=lb 16 7151) (u4 H q rfl rfl rfl (Zkt H f)) (u10 H q rfl rfl (Ziy H f)) (u12 H q rfl rfl (Zia H f))
theorem Zm2:T5 z 6 6783:=fun H f _ _ q=>Q5f 7 10 (by kernel_rfl) (by kernel_rfl:_=lb 16 6911) (by kernel_rfl:_=lb 16 7807) (u7 H q rfl rfl (Zhj H f)) (u10 H q rfl rfl (Zhq H f))
theorem Zlz:T5 z 6 3711:=fun H f _ _ q=>Q5f 7 12 (by kernel_rfl) (by kernel_rfl:_=lb 16 3839) (by kernel_rfl:_=lb 16 7807) (u7 H q rfl rfl (Zkb H f)) (u12 H q rfl rfl (Zhq H f))
theorem Zm5:T5 z 6 2815:=fun H f _ _ q=>Qml 8 10 12 (by kernel_rfl) (by kernel_rfl:_=lb 16 3071) (by kernel_rfl:_=lb 16 3839) (by kernel_rfl:_=lb 16 6911) (u8 H q rfl rfl rfl (Zkt H f)) (u10 H q rfl rfl (Zkb H f)) (u12 H q rfl rfl (Zhj H f))
theorem Zke:T5 z 7 7907:=fun H f _ _ q=>Q5f 2 8 (by kernel_rfl) (by kernel_rfl:_=lb 16 7911) (by kernel_rfl:_=lb 16 8163) (u2 H q rfl rfl (Zdd H f)) (u8 H q rfl rfl rfl (Zh5 H f))
theorem Zlw:T5 z 7 7139:=fun H f _ _ q=>Q5f 2 10 (by kernel_rfl) (by kernel_rfl:_=lb 16 7143) (by kernel_rfl:_=lb 16 8163) (u2 H q rfl rfl (Zjv H f)) (u10 H q rfl rfl (Zh5 H f))
theorem Zls:T5 z 7 4067:=fun H f _ _ q=>Q5f 2 12 (by kernel_rfl) (by kernel_rfl:_=lb 16 4071) (by kernel_rfl:_=lb 16 8163) (u2 H q rfl rfl (Zhk H f)) (u12 H q rfl rfl (Zh5 H f))
theorem Zh3:T5 z 7 7783:=fun H f _ _ q=>Q5f 3 7 (by kernel_rfl) (by kernel_rfl:_=lb 16 7791) (by kernel_rfl:_=lb 16 7911) (u3 H q rfl rfl (Zhs H f)) (u7 H q rfl rfl (Zdd H f))
theorem Zje:T5 z 7 6887:=fun H f _ _ q=>Qml 3 8 10 (by kernel_rfl) (by kernel_rfl:_=lb 16 6895) (by kernel_rfl:_=lb 16 7143) (by kernel_rfl:_=lb 16 7911) (u3 H q rfl rfl (Zi1 H f)) (u8 H q rfl rfl rfl (Zjv H f)) (u10 H q rfl rfl (Zdd H f))
theorem Zj9:T5 z 7 3815:=fun H f _ _ q=>Qml 3 8 12 (by kernel_rfl) (by kernel_rfl:_=lb 16 3823) (by kernel_rfl:_=lb 16 4071) (by kernel_rfl:_=lb 16 7911) (u3 H q rfl rfl (Zjq H f)) (u8 H q rfl rfl rfl (Zhk H f)) (u12 H q rfl rfl (Zdd H f))
theorem Zlk:T5 z 7 3047:=fun H f _ _ q=>Qml 3 10 12 (by kernel_rfl) (by kernel_rfl:_=lb 16 3055) (by kernel_rfl:_=lb 16 4071) (by kernel_rfl:_=lb 16 7143) (u3 H q rfl rfl (Zlr H f)) (u10 H q rfl rfl (Zhk H f)) (u12 H q rfl rfl (Zjv H f))
theorem Zm6:T5 z 7 6767:=fun H f _ _ q=>Qml 4 7 10 (by kernel_rfl) (by kernel_rfl:_=lb 16 6783) (by kernel_rfl:_=lb 16 6895) (by kernel_rfl:_=lb 16 7791) (u4 H q rfl rfl rfl (Zm2 H f)) (u7 H q rfl rfl (Zi1 H f)) (u10 H q rfl rfl (Zhs H f))
theorem Zlq:T5 z 7 3695:=fun H f _ _ q=>Qml 4 7 12 (by kernel_rfl) (by kernel_rfl:_=lb 16 3711) (by kernel_rfl:_=lb 16 3823) (by kernel_rfl:_=lb 16 7791) (u4 H q rfl rfl rfl (Zlz H f)) (u7 H q rfl rfl (Zjq H f)) (u12 H q rfl rfl (Zhs H f))
theorem Zm3:T5 z 7 2799:=fun H f _ _ q=>Yn2 4 8 10 12 (by kernel_rfl) (by kernel_rfl:_=lb 16 2815) (by kernel_rfl:_=lb 16 3055) (by kernel_rfl:_=lb 16 3823) (by kernel_rfl:_=lb 16 6895) (u4 H q rfl rfl rfl (Zm5 H f)) (u8 H q rfl rfl rfl (Zlr H f)) (u10 H q rfl rfl (Zjq H f)) (u12 H q rfl rfl (Zi1 H f))
theorem Zog:T5 z 7 2687:=fun H f _ _ q=>Qml 7 10 12 (by kernel_rfl) (by kernel_rfl:_=lb 16 2815) (by kernel_rfl:_=lb 16 3711) (by kernel_rfl:_=lb 16 6783) (u7 H q rfl rfl (Zm5 H f)) (u10 H q rfl rfl (Zlz H f)) (u12 H q rfl rfl (Zm2 H f))
theorem Zmh:T5 z 8 7779:=fun H f _ _ q=>Q5f 2 7 (by kernel_rfl) (by kernel_rfl:_=lb 16 7783) (by kernel_rfl:_=lb 16 7907) (u2 H q rfl rfl (Zh3 H f)) (u7 H q rfl rfl (Zke H f))
theorem Zl4:T5 z 8 6883:=fun H f _ _ q=>Qml 2 8 10 (by kernel_rfl) (by kernel_rfl:_=lb 16 6887) (by kernel_rfl:_=lb 16 7139) (by kernel_rfl:_=lb 16 7907) (u2 H q rfl rfl (Zje H f)) (u8 H q rfl rfl rfl (Zlw H f)) (u10 H q rfl rfl (Zke H f))
theorem Zlh:T5 z 8 3811:=fun H f _ _ q=>Qml 2 8 12 (by kernel_rfl) (by kernel_rfl:_=lb 16 3815) (by kernel_rfl:_=lb 16 4067) (by kernel_rfl:_=lb 16 7907) (u2 H q rfl rfl (Zj9 H f)) (u8 H q rfl rfl rfl (Zls H f)) (u12 H q rfl rfl (Zke H f))
theorem Zoa:T5 z 8 3043:=fun H f _ _ q=>Qml 2 10 12 (by kernel_rfl) (by kernel_rfl:_=lb 16 3047) (by kernel_rfl:_=lb 16 4067) (by kernel_rfl:_=lb 16 7139) (u2 H q rfl rfl (Zlk H f)) (u10 H q rfl rfl (Zls H f)) (u12 H q rfl rfl (Zlw H f))
theorem Zlu:T5 z 8 6759:=fun H f _ _ q=>Qml 3 7 10 (by kernel_rfl) (by kernel_rfl:_=lb 16 6767) (by kernel_rfl:_=lb 16 6887) (by kernel_rfl:_=lb 16 7783) (u3 H q rfl rfl (Zm6 H f)) (u7 H q rfl rfl (Zje H f)) (u10 H q rfl rfl (Zh3 H f))
theorem Zla:T5 z 8 3687:=fun H f _ _ q=>Qml 3 7 12 (by kernel_rfl) (by kernel_rfl:_=lb 16 3695) (by kernel_rfl:_=lb 16 3815) (by kernel_rfl:_=lb 16 7783) (u3 H q rfl rfl (Zlq H f)) (u7 H q rfl rfl (Zj9 H f)) (u12 H q rfl rfl (Zh3 H f))
theorem Zmx:T5 z 8 2791:=fun H f _ _ q=>Yn2 3 8 10 12 (by kernel_rfl) (by kernel_rfl:_=lb 16 2799) (by kernel_rfl:_=lb 16 3047) (by kernel_rfl:_=lb 16 3815) (by kernel_rfl:_=lb 16 6887) (u3 H q rfl rfl (Zm3 H f)) (u8 H q rfl rfl rfl (Zlk H f)) (u10 H q rfl rfl (Zj9 H f)) (u12 H q rfl rfl (Zje H f))
theorem Zop:T5 z 8 2671:=fun H f _ _ q=>Yn2 4 7 10 12 (by kernel_rfl) (by kernel_rfl:_=lb 16 2687) (by kernel_rfl:_=lb 16 2799) (by kernel_rfl:_=lb 16 3695) (by kernel_rfl:_=lb 16 6767) (u4 H q rfl rfl rfl (Zog H f)) (u7 H q rfl rfl (Zm3 H f)) (u10 H q rfl rfl (Zlq H f)) (u12 H q rfl rfl (Zm6 H f))
theorem Zpb:T5 z 9 6755:=fun H f _ _ q=>Qml 2 7 10 (by kernel_rfl) (by kernel_rfl:_=lb 16 6759) (by kernel_rfl:_=lb 16 6883) (by kernel_rfl:_=lb 16 7779) (u2 H q rfl rfl (Zlu H f)) (u7 H q rfl rfl (Zl4 H f)) (u10 H q rfl rfl (Zmh H f))
theorem Zph:T5 z 9 3683:=fun H f _ _ q=>Qml 2 7 12 (by kernel_rfl) (by kernel_rfl:_=lb 16 3687) (by kernel_rfl:_=lb 16 3811) (by kernel_rfl:_=lb 16 7779) (u2 H q rfl rfl (Zla H f)) (u7 H q rfl rfl (Zlh H f)) (u12 H q rfl rfl (Zmh H f))
theorem Zox:T5 z 9 2787:=fun H f _ _ q=>Yn2 2 8 10 12 (by kernel_rfl) (by kernel_rfl:_=lb 16 2791) (by kernel_rfl:_=lb 16 3043) (by kernel_rfl:_=lb 16 3811) (by kernel_rfl:_=lb 16 6883) (u2 H q rfl rfl (Zmx H f)) (u8 H q rfl rfl rfl (Zoa H f)) (u10 H q rfl rfl (Zlh H f)) (u12 H q rfl rfl (Zl4 H f))
theorem Zpg:T5 z 9 2663:=fun H f _ _ q=>Yn2 3 7 10 12 (by kernel_rfl) (by kernel_rfl:_=lb 16 2671) (by kernel_rfl:_=lb 16 2791) (by kernel_rfl:_=lb 16 3687) (by kernel_rfl:_=lb 16 6759) (u3 H q rfl rfl (Zop H f)) (u7 H q rfl rfl (Zmx H f)) (u10 H q rfl rfl (Zla H f)) (u12 H q rfl rfl (Zlu H f))
theorem Zp6:T5 z 10 2659:=fun H f _ _ q=>Yn2 2 7 10 12 (by kernel_rfl) (by kernel_rfl:_=lb 16 2663) (by kernel_rfl:_=lb 16 2787) (by kernel_rfl:_=lb 16 3683) (by kernel_rfl:_=lb 16 6755) (u2 H q rfl rfl (Zpg H f)) (u7 H q rfl rfl (Zox H f)) (u10 H q rfl rfl (Zph H f)) (u12 H q rfl rfl (Zpb H f))
section
attribute [local simp] Xp kON kOC Xt kNN kNP kRR kRP kEN kER Q4 Xf Z4 Yt aop Qg nth Ab.g0 gv gs Q7 Qd aev evs evO Qi Tr.get_put St.put Tm.put flat flatA Yu Qp Qo Qm Qq Ql Qn Qk X3 Qj Q5 Q6 kTN kTR kTX kTP kBN kBR kBX kBP kCS kCR kCE kAM Xs.putAll X7 Qc Q2 Q1 Qa Qb Q9 Q0 Q3 Q8
theorem Zeu(H:z.Ok)(hfin:∀ (tr:Tr Value) (g:Heap),Old z.h0 g→tr.get 1=some (.pointer (some ⟨z.A0,0,none⟩))→tr.get 3=some z.iv→tr.get 4=some z.kv→tr.get 5=some (.int .i64 (Xso (Y5i z.ds z.seed z.lk H.c.dl) z.xs (z.out.map (·.2))))→z.K ⟨⟨61,tr⟩,[],g⟩)
  (t1:tr.get 1=some (.pointer (some ⟨z.A0,0,none⟩))) (t3:tr.get 3=some z.iv) (t4:tr.get 4=some z.kv):Qri (E z.b) (Xwo Tryd.prog (E z.b).G) Qdo J0 z.K 16 (lb 16 0) ⟨⟨61,tr⟩,[],z.h0⟩:=by
 have q0:In5 z 0 tr z.h0:=⟨t1,t3,t4,Old.refl _,fun k w hk hb=>by simp at hb,fun hb=>by simp at hb⟩
 refine Yo4 0 (h1:=rfl) rfl (by kernel_rfl) (by kernel_rfl) (by kernel_rfl) (by simp[J0]) (by simp[Yv,Z7,Z1,Qni,Z0,Jo,Qc5,Z8,Zd,Yq,Yj,Qat,V8,Qbq,Ui,Qdh,U9,Z6,Jf,Yx,Wp,Z9,Yz,Ys,Ym,Yn,Yk,t1,t3,t4];rfl) rfl (listed':=lb 16 1) (by kernel_rfl) ?_
 simp only[Q7,St.put,Tm.put]
 have q1:=q0.put (j:=0) rfl (show 1=0 ||| 2 ^ 0 from rfl)
 refine Yo4 1 (h1:=rfl) rfl (by kernel_rfl) (by kernel_rfl) (by kernel_rfl) (by simp[J0]) (by simp[Yv,Z7,Z1,Qni,Z0,Jo,Qc5,Z8,Zd,Yq,Yj,Qat,V8,Qbq,Ui,Qdh,U9,Z6,Jf,Yx,Wp,Z9,Yz,Ys,Ym,Yn,Yk,t1,t3,t4];rfl) rfl (listed':=lb 16 3) (by kernel_rfl) ?_
 simp only[Q7,St.put,Tm.put]
 have q3:=q1.put (j:=1) rfl (show 3=1 ||| 2 ^ 1 from rfl)
 refine Yo4 5 (h1:=rfl) rfl (by kernel_rfl) (by kernel_rfl) (by kernel_rfl) (by simp[J0]) (by simp[Yv,Z7,Z1,Qni,Z0,Jo,Qc5,Z8,Zd,Yq,Yj,Qat,V8,Qbq,Ui,Qdh,U9,Z6,Jf,Yx,Wp,Z9,Yz,Ys,Ym,Yn,Yk,t1,t3,t4];rfl) rfl (listed':=lb 16 35) (by kernel_rfl) ?_
 simp only[Q7,St.put,Tm.put]
 have q35:=q3.put (j:=5) rfl (show 35=3 ||| 2 ^ 5 from rfl)
 refine Yo4 6 (h1:=rfl) rfl (by kernel_rfl) (by kernel_rfl) (by kernel_rfl) (by simp[J0]) (by simp[Yv,Z7,Z1,Qni,Z0,Jo,Qc5,Z8,Zd,Yq,Yj,Qat,V8,Qbq,Ui,Qdh,U9,Z6,Jf,Yx,Wp,Z9,Yz,Ys,Ym,Yn,Yk,t1,t3,t4];rfl) rfl (listed':=lb 16 99) (by kernel_rfl) ?_
 simp only[Q7,St.put,Tm.put]
 have q99:=q35.put (j:=6) rfl (show 99=35 ||| 2 ^ 6 from rfl)
 refine Yo4 9 (h1:=rfl) rfl (by kernel_rfl) (by kernel_rfl) (by kernel_rfl) (by simp[J0]) (by simp[Yv,Z7,Z1,Qni,Z0,Jo,Qc5,Z8,Zd,Yq,Yj,Qat,V8,Qbq,Ui,Qdh,U9,Z6,Jf,Yx,Wp,Z9,Yz,Ys,Ym,Yn,Yk,t1,t3,t4];rfl) rfl (listed':=lb 16 611) (by kernel_rfl) ?_
 simp only[Q7,St.put,Tm.put]
 have q611:=q99.put (j:=9) rfl (show 611=99 ||| 2 ^ 9 from rfl)
 refine Yo4 11 (h1:=rfl) rfl (by kernel_rfl) (by kernel_rfl) (by kernel_rfl) (by simp[J0]) (by simp[Yv,Z7,Z1,Qni,Z0,Jo,Qc5,Z8,Zd,Yq,Yj,Qat,V8,Qbq,Ui,Qdh,U9,Z6,Jf,Yx,Wp,Z9,Yz,Ys,Ym,Yn,Yk,t1,t3,t4];rfl) rfl (listed':=lb 16 2659) (by kernel_rfl) ?_
 simp only[Q7,St.put,Tm.put]
 have q2659:=q611.put (j:=11) rfl (show 2659=611 ||| 2 ^ 11 from rfl)
 exact Zp6 H hfin _ _ q2659
end
theorem Zf0{b:Nat}{h0:Heap}{A0:Nat}{vs vk vd iv kv wv:Value}{ds seed:List Nat}{lk ow:Int}{xs:List Int}{items out:List (Value × List Int)}{K':St→Prop}(H:RunAt b h0 A0 vs vk vd iv kv wv ds seed lk ow xs items out)(hfin:∀ (tr:Tr Value) (g:Heap),Old h0 g→tr.get 1=some (.pointer (some ⟨A0,0,none⟩))→tr.get 3=some iv→tr.get 4=some kv→tr.get 5=some (.int .i64 (Xso (Y5i ds seed lk H.c.dl) xs (out.map (·.2))))→K' ⟨⟨61,tr⟩,[],g⟩)
  {tr:Tr Value} (t1:tr.get 1=some (.pointer (some ⟨A0,0,none⟩))) (t3:tr.get 3=some iv) (t4:tr.get 4=some kv):Qri (E b) (Xwo Tryd.prog (E b).G) Qdo J0 K' 16 (lb 16 0) ⟨⟨61,tr⟩,[],h0⟩ :=
 Zeu (z:=⟨b,h0,A0,vs,vk,vd,iv,kv,wv,ds,seed,lk,ow,xs,items,out,K'⟩) H hfin t1 t3 t4
end Go.Proofs.YtgeeklmjfbiieaaDoor
end
noncomputable section
namespace Go.Proofs.YtgeeklmjfbiieaaDoor
open Go Go.Ab
set_option maxRecDepth 100000
theorem Za6{P:Program}{E:Env P}{t:TypeId}{x:Value}{k:IntKind}{i:Int}{h g:Heap}{n0 z n:Nat}{xs:List Value}{v:Value}(o:Own h n0 z x n xs)(a:Old h g)(h1:Qcd E t x none (some (.int k i)) none h=some (v,h)):Qcd E t x none (some (.int k i)) none g=some (v,g):=by
 have key:∀ a n c,x=.slice a n c→(c≠Qfv ∨ ∃ ad sz cs,a=some ad∧h.get ad.block=some (.cells true sz cs)∧g.get ad.block=some (.cells true sz cs))→Qcd E t x none (some (.int k i)) none g=some (v,g):=by
  rintro a n c rfl hh
  unfold Qcd at h1 ⊢
  simp only[Option.isNone_some,Bool.false_and,Bool.false_eq_true,if_false]at h1 ⊢
  cases hr:E.ty.get t with
  | none=>rw[hr]at h1;cases h1
  | some r =>
   simp only[hr]at h1 ⊢
   cases hd:r.desc with
   | slice e =>
    simp only[hd]at h1 ⊢
    cases he:E.ty.get e with
    | none=>rw[he]at h1;cases h1
    | some re =>
     simp only[he]at h1 ⊢
     by_cases hc:(c != Qfv)=true
     ·rw[if_pos hc]at h1 ⊢
      cases q1:Qd7 none c c with
      | none=>rw[q1]at h1;cases h1
      | some m =>
       simp only[q1]at h1 ⊢
       cases q2:Qd7 (some (.int k i)) n m with
       | none=>rw[q2]at h1;cases h1
       | some hh =>
        simp only[q2]at h1 ⊢
        cases q3:Qd7 none 0 hh with
        | none=>rw[q3]at h1;cases h1
        | some l =>
         simp only[q3]at h1 ⊢
         rw[Option.map_eq_some_iff]at h1 ⊢
         obtain⟨w,r1,r2⟩:=h1
         cases r2
         exact⟨_,r1,rfl⟩
     ·rw[if_neg hc]at h1 ⊢
      rcases hh with hh | ⟨ad,sz,cs,rfl,hb,hg⟩
      ·exact absurd (by simpa using hh) hc
      ·simp only[hg,hb]at h1 ⊢
       by_cases hq:(sz == re.size && ad.off % sz == 0 && Nat.ble 1 sz)=true
       ·rw[if_pos hq]at h1 ⊢
        cases q2:Qd7 (some (.int k i)) n ((cs.length-ad.off) / sz)with
        | none=>rw[q2]at h1;cases h1
        | some hh =>
         simp only[q2]at h1 ⊢
         cases q3:Qd7 none 0 hh with
         | none=>rw[q3]at h1;cases h1
         | some l =>
          obtain rfl:l=0:=by
           unfold Qd7 at q3
           simpa using q3.symm
          simp only[q3]at h1 ⊢
          unfold Qcd.aCut at h1 ⊢
          simp only[beq_self_eq_true,if_true]at h1 ⊢
          cases h1
          rfl
       ·rw[if_neg hq]at h1;cases h1
   | _=>simp only[hd]at h1;cases h1
 rcases o with⟨rfl,_,_⟩ | ⟨bk,c,z',rest,rfl,_,hg,_⟩
 ·exact key _ _ _ rfl (.inl (by decide))
 ·exact key _ _ _ rfl (.inr ⟨_,_,_,rfl,hg,a.get hg⟩)
theorem Zkw{ds seed:List Nat}{ow:Int}{l:List (List Int)}(h:∀ x ∈ l,x.length≤4096):(Zge ds seed ow l).length≤l.length+1∧∀ x ∈ Zge ds seed ow l,x.length≤4096:=by
 unfold Zge
 split
 ·exact⟨by omega,h⟩
 ·refine⟨by simp,fun x hx => ?_⟩
  rcases List.mem_cons.1 hx with rfl | hx
  ·simp[Xsn,Ypc]
  ·exact h x hx
section
attribute [local simp] Yv Z7 Z1 Qni Z0 Jo Qc5 Z8 Zd Yq Yj Qat V8 Qbq Ui Qdh U9 Z6 Jf Yx Wp Z9 Yz Ys Ym Yn Yk Xp kON kOC Xt kNN kNP kRR kRP kEN kER Q4 Xf Z4 Yt aop Qg nth Ab.g0 gv gs Q7 Qd aev evs evO Qi Tr.get_put St.put Tm.put flat flatA Yu Qp Qo Qm Qq Ql Qn Qk X3 Qj Q5 Q6 kTN kTR kTX kTP kBN kBR kBX kBP kCS kCR kCE kAM Xs.putAll X7 Qc Q2 Q1 Qa Qb Q9 Q0 Q3 Q8
set_option maxHeartbeats 2000000 in
theorem Yos(b:Nat){h:Heap}{vs vk vd:Value}{ds seed:List Nat}{lk ow:Int}{xs:List Int}{items:List (Value × List Int)}(C:CaseAt h vs vk vd ds seed lk ow xs items)(laid:Ab.LaidIn h laidAll)(K:AEnd→Heap→Prop)(hk:∀ h',K (.ret (.bool true)) h') :
  CallOK Tryd.prog (E b).G 4 [.agg ⟨Xmd vs vk vd ds lk ow⟩] h K:=by
 refine Qnt (E b) (Qc2 _ _) (Qa1 b) (Vj b) Wf (Qa5 b) (Z1 b) Xjd Xwh Xs4 rfl ?_
 obtain⟨bx,B⟩:=Ysz (h:=h) (vs:=vs) (vk:=vk) (vd:=vd) (lk:=lk) (ow:=ow) C.dl
 obtain⟨hA,eA⟩:∃ hA,hA=h.push (.cells true 1 (Xmd vs vk vd ds lk ow)):=⟨_,rfl⟩
 have aA:Old h hA:=by rw[eA];exact Old.push _ _
 obtain⟨A0,hA0⟩:∃ A,A=h.next:=⟨_,rfl⟩
 rw[← eA,← hA0]at bx B
 have CA:=C.old aA
 simp[bx,B.all]
 refine(Znk b CA _ (fun h1 a1 => ?_) fun p1 p2 p3 h1 a1 => ?_).ok
 ·simp
  refine(Zay b (Laid.old laid (aA.trans a1)) _ ?_).ok
  simp
  exact hk _
 have hsm:=Y42 (by omega) p2
 have hn:items.length≤4096:=by have:=hsm.1;simp at this;omega
 have hl:∀ p ∈ items,p.2.length≤4096:=fun p hp=>by have:=hsm.2 p.2 (List.mem_map.2 ⟨p,hp,rfl⟩);omega
 have hb:=Zkw (ds:=ds) (seed:=seed) (ow:=ow) (l:=items.map (·.2)) (fun x hx=>by obtain⟨p,hp,rfl⟩:=List.mem_map.1 hx;exact hl p hp)
 have C1:=CA.old a1
 have B1:=B.old a1
 simp[B1.c0]
 refine(Zbw b C1.s (by omega) _ fun iv h2 oi a2 => ?_).ok
 have C2:=C1.old a2
 have B2:=B1.old a2
 simp[B2.all]
 refine(Ysk b C2 hn hl p3 _ fun kv out h3 s3 e3 i3 a3 => ?_).ok
 have C3:=C2.old a3
 have B3:=B2.old a3
 have l3:out.length≤4097:=by have:=congrArg List.length e3;simp at this;have:=hb.1;simp at this;omega
 have b3:∀ p ∈ out,p.2.length≤4096:=fun p hp=>hb.2 p.2 (by rw[← e3];exact List.mem_map.2 ⟨p,hp,rfl⟩)
 have oi3:OB h3 h1.next iv (xs++Xht 5):=oi.keep fun c _ hc=>a3.2 c hc
 obtain⟨wv,w1,w2, -⟩:=Zi7 (b:=b) (k:=.i64) (i:=(xs.length:Int)) oi3.sl (by omega) (by simp;omega)
 have lA:=((aA.trans a1).trans a2).trans a3
 have H:RunAt b h3 A0 vs vk vd iv kv wv ds seed lk ow xs items out:=⟨C3,B3,Laid.old laid lA,fun g ag=>Za6 oi3 ag w1,by simpa using w2,s3,i3,by omega,p3⟩
 simp
 refine Zmz rfl Q2j ?_
 rw[show Qdo.size=16 by kernel_rfl,show Array.replicate 16 false=lb 16 0 by kernel_rfl]
 refine Zf0 H (fun tr g ag t1 t3 t4 t5 => ?_) (by simp) (by simp) (by simp)
 have C4:=C3.old ag
 have B4:=B3.old ag
 have dl:=C.dl
 obtain⟨z,hz⟩:∃ z,z=Xso (Y5i ds seed lk C.dl) xs (Zge ds seed ow (items.map (·.2))):=⟨_,rfl⟩
 have t5':tr.get 5=some (.int .i64 z):=by rw[t5,e3,hz]
 obtain⟨_,g1,c1,n1,kv2,out2,rfl,s2,e2,i2,ag1⟩:=Ysk b C4 hn hl p3 (fun r h' => ∃ v out,r=.ret v∧Sl h' 1 v out.length (out.map (·.1))∧out.map (·.2)=Zge ds seed ow (items.map (·.2))∧ItsAt h' out∧Old g h') (fun v out h' q1 q2 q3 q4=>⟨v,out,rfl,q1,q2,q3,q4⟩)
 have l2:out2.length≤4097:=by have:=congrArg List.length e2;simp at this;have:=hb.1;simp at this;omega
 have b2:∀ p ∈ out2,p.2.length≤4096:=fun p hp=>hb.2 p.2 (by rw[← e2];exact List.mem_map.2 ⟨p,hp,rfl⟩)
 have C5:=C4.old ag1
 have B5:=B4.old ag1
 have sbd:SB g1 vd (Xsn seed):=by
  have:=C5.d
  rw[SN]at this
  rw[SB,show(Xsn seed).length=seed.length by simp[Xsn],← Ymr]
  exact this
 obtain⟨_,g2,c2,n2,ν,sv,rfl,gν,sν, -, -,ag2⟩:=Y9o b sbd (by simp[Xsn];omega) (fun r h' => ∃ ν v,r=.ret (.pointer (some ⟨ν,0,none⟩))∧h'.get ν=some (.cells true 1 [v])∧SB h' v (Xsn seed)∧g1.next≤ν∧(∀ c,U7 v=some c→g1.next≤c)∧Old g1 h') (fun ν v h' q1 q2 q3 q4 q5=>⟨ν,v,rfl,q1,q2,q3,q4,q5⟩)
 have snν:SN g2 sv seed:=by
  rw[SB,← Ymr,show(Xsn seed).length=seed.length by simp[Xsn]]at sν
  exact sν
 have C6:=C5.old ag2
 have B6:=B5.old ag2
 have wo:RWo g2 (Znt ν ds lk dl) seed (Y5i ds seed lk dl):=⟨⟨ν,1,true,sv,rfl,gν,snν⟩,rfl,rfl,rfl,by omega,C.bs,C.bd⟩
 obtain⟨_,g3,c3,n3,rfl,ag3⟩:=Zk2 b (e:=Znt ν ds lk dl) C6.s C.bx (by omega) (s2.old ag2) (by omega) (i2.old ag2) (fun p hp=>by have:=b2 p hp;omega) wo (fun r h'=>r=.ret (.int .i64 z)∧Old g2 h') (fun h' q=>⟨by rw[e2,hz],q⟩)
 have B7:=B6.old ag3
 have bu:Qr0 (E b).toEnv 64 [(0,.pointer (some ⟨ν,0,none⟩)),(1,.agg ⟨ds.map u8v⟩),(2,.int .i64 lk)]=some (.agg ⟨.pointer (some ⟨ν,0,none⟩)::(ds.map u8v ++ [.int .i64 lk])⟩):=Y35 b _ (.inr rfl) ν (by simp[dl]) lk
 simp
 refine Qeo [⟨17,[.agg ⟨Xmd vs vk vd ds lk ow⟩],g,kv2,g1,true⟩,⟨21,[vd],g1,.pointer (some ⟨ν,0,none⟩),g2,true⟩,⟨20,[vs,kv2,.agg ⟨.pointer (some ⟨ν,0,none⟩)::(ds.map u8v ++ [.int .i64 lk])⟩],g2,.int .i64 z,g3,true⟩] ?_ Q1t Q3r Q22 (by simp[Ab.runT,Z2,Yp,ldv,Nat.testBit,Vu,Zc,Yy,Zf,loadAt,Qa6,J9,Q6v,Xea,Xer,Q6x,t1,t3,t4,t5',B4.all,B4.c0,B5.c2,B6.c3,B6.c35,bu,Qfr,Qlu];first | exact⟨rfl,rfl⟩ | rfl) ?_ ?_
 ·simp only[List.mem_cons,List.not_mem_nil,or_false]
  rintro e (rfl | rfl | rfl)
  ·exact⟨c1,n1,fun _ c hc=>ag1.2 c hc⟩
  ·exact⟨c2,n2,fun _ c hc=>ag2.2 c hc⟩
  ·exact⟨c3,n3,fun _ c hc=>ag3.2 c hc⟩
 ·simp[Z2,Yp,Wa,ldv,Ab.runT,Z2,Yp,ldv,Nat.testBit,Vu,Zc,Yy,Zf,loadAt,Qa6,J9,t1,t3,t4,t5',B4.all,B5.all,B6.all,B7.all,B4.c0,B5.c0,B6.c0,B7.c0,B4.c2,B5.c2,B6.c2,B7.c2,B4.c3,B5.c3,B6.c3,B7.c3,B4.c35,B5.c35,B6.c35,B7.c35,X6v C.d,X6v C.s]
 have ag13:=(ag1.trans ag2).trans ag3
 have CZ:=C4.old ag13
 simp[t1,t3,t4,t5',B7.c0]
 refine(Zbv b (oi3.sl.old (ag.trans ag13)) CZ.s (by omega) _ fun g4 a4 => ?_).ok
 have B8:=B7.old a4
 simp[t1,t3,t4,t5',B8.all]
 refine(Ysk b (CZ.old a4) hn hl p3 _ fun kv3 out3 g5 s5 e5 i5 a5 => ?_).ok
 have aZ:=((ag.trans ag13).trans a4).trans a5
 simp[t1,t3,t4,t5']
 refine(Y6g b (s3.old aZ) s5 (i3.old aZ) i5 (by rw[e3,e5]) (fun p hp=>by have:=b3 p hp;omega) (by omega) _ ?_).ok
 simp[t1,t3,t4,t5']
 refine(Zay b (Laid.old laid (lA.trans aZ)) _ ?_).ok
 simp
 exact hk _
end
end Go.Proofs.YtgeeklmjfbiieaaDoor
end
noncomputable section
namespace Go.Proofs.YtgeeklmjfbiieaaDoor
open Go Go.Ab
open Go.ChangeShapes Go.WideShapes Go.RowKit
set_option maxRecDepth 1000000
theorem Zc3:∀ (n:Nat) {cs:List Value},IntsOf (List.replicate n .u8) cs→∃ ds:List Nat,cs=ds.map u8v∧ds.length=n∧∀ x ∈ ds,x < 256
 | 0,cs,h=>⟨[],by simpa[IntsOf]using h,rfl,by simp⟩
 | n+1,cs,h=>by
  rw[List.replicate_succ]at h
  obtain⟨z,r,rfl,hw,hr⟩:=h
  obtain⟨ds,rfl,h2,h3⟩:=Zc3 n hr
  have hz:=Zn6 hw
  refine⟨z.toNat::ds,?_,by simp[h2],fun x hx => ?_⟩
  ·rw[List.map_cons]
   show Value.int .u8 z::_=.int .u8 ((z.toNat:Nat):Int)::_
   rw[Int.toNat_of_nonneg hz.1]
  ·rcases List.mem_cons.1 hx with rfl | hx
   ·omega
   ·exact h3 x hx
theorem Zn8{z:Int}(h:(Lit.int .i64 z).wf=true):z < 9223372036854775808:=by
 have:=Zmm h
 omega
def Y4x:Array Field:=match Tryd.prog.underlying 53 with
 | some (.struct fs)=>fs
 | _ => #[]
def Xb8(i:Nat):Field:=(Y4x[i]?).getD default
abbrev Zl2:Heap→List Value→Prop:=CatQ [ByQ,SlQ 1 ByQ,ByQ,fun _ cs=>IntsOf (List.replicate 32 .u8) cs,fun _ cs=>IntsOf [.i64] cs,fun _ cs=>IntsOf [.i64] cs]
section
variable{H:Type}{enc:TypeId × Value→H}{W:World}
theorem Zao:Ze7 enc Tryd.prog ⟨nv,W.heap.size⟩ W 53 Zl2:=by
 refine Y0y (fs:=Y4x) (by kernel_rfl) ?_ (by kernel_rfl)
 rw[show Y4x.toList=[Xb8 0,Xb8 1,Xb8 2,Xb8 3,Xb8 4,Xb8 5] by kernel_rfl]
 refine⟨by kernel_rfl,?_,SlQ.stable (Qlv _),by kernel_rfl,?_,SlQ.stable (SlQ.stable (Qlv _)),by kernel_rfl,?_,SlQ.stable (Qlv _),by kernel_rfl,?_,Qlv _,by kernel_rfl,?_,Qlv _,by kernel_rfl,?_,Qlv _,trivial⟩
 ·rw[show(Xb8 0).type=47 by kernel_rfl];exact Xyf
 ·rw[show(Xb8 1).type=43 by kernel_rfl];exact Y7w
 ·rw[show(Xb8 2).type=47 by kernel_rfl];exact Xyf
 ·rw[show(Xb8 3).type=23 by kernel_rfl];exact Xuc (by kernel_rfl)
 ·rw[show(Xb8 4).type=3 by kernel_rfl];exact Xuc (by kernel_rfl)
 ·rw[show(Xb8 5).type=3 by kernel_rfl];exact Xuc (by kernel_rfl)
end
theorem Zjt{h:Heap}{cs:List Value}(q:Zl2 h cs):∃ vs vk vd ds seed lk ow xs items,cs=Xmd vs vk vd ds lk ow∧CaseAt h vs vk vd ds seed lk ow xs items:=by
 obtain⟨c1,r1,rfl,q1,c2,r2,rfl,q2,c3,r3,rfl,q3,c4,r4,rfl,q4,c5,r5,rfl,q5,c6,r6,rfl,q6,q7⟩:=q
 obtain rfl:r6=[]:=q7
 obtain⟨vs,e1⟩:∃ v,c1=[v]:=by obtain⟨v,_,e,_⟩:=q1;exact⟨v,e⟩
 obtain⟨vk,e2⟩:∃ v,c2=[v]:=by obtain⟨v,_,e,_⟩:=q2;exact⟨v,e⟩
 obtain⟨vd,e3⟩:∃ v,c3=[v]:=by obtain⟨v,_,e,_⟩:=q3;exact⟨v,e⟩
 subst e1 e2 e3
 obtain⟨xs,s1,b1, -⟩:=Zit q1
 obtain⟨items,k1,k2,k3,k4⟩:=Zdq q2
 obtain⟨sd,d1,d2, -⟩:=Zit q3
 obtain⟨ds,rfl,dl,db⟩:=Zc3 32 q4
 obtain⟨lk,r5,rfl, -,e5⟩:=q5
 obtain⟨ow,r6,rfl,hw,e6⟩:=q6
 obtain rfl:r5=[]:=e5
 obtain rfl:r6=[]:=e6
 refine⟨vs,vk,vd,ds,Xm5 sd,lk,ow,xs,items,by simp[Xmd],s1,b1,k1,k3,k2,k4,?_,fun x hx => ?_,dl,db,Zn8 hw⟩
 ·rw[SB,Yxu d2]at d1
  rw[SN,show(Xm5 sd).length=sd.length by simp[Xm5]]
  exact d1
 ·simp only[Xm5,List.mem_map]at hx
  obtain⟨y,hy,rfl⟩:=hx
  have:=d2 y hy
  omega
end Go.Proofs.YtgeeklmjfbiieaaDoor
end
