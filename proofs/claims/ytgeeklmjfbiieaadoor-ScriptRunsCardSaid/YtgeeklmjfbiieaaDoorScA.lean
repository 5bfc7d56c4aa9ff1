import Derived.Test.YtgeeklmjfbiieaaDoorFA
import Derived.Test.YtgeeklmjfbiieaaDoorAbG
import Derived.Test.YtgeeklmjfbiieaaDoorBlA
set_option linter.all false
noncomputable section
namespace Go.Proofs.YtgeeklmjfbiieaaDoor
open Go Go.Ab
set_option maxRecDepth 100000
def i8(z:Int):Value:=.int .u8 z
abbrev SB(h:Heap)(v:Value)(xs:List Int):Prop:=Sl h 1 v xs.length (xs.map i8)
abbrev OB(h:Heap)(n0:Nat)(v:Value)(xs:List Int):Prop:=Own h n0 1 v xs.length (xs.map i8)
theorem Qcp{b:Nat}{h h1:Heap}{v:Value}{xs:List Int}(s:SB h v xs):Qkb (E b).toEnv 47 v h1=some (.int .i64 xs.length):=Qdf (T47 b) s
theorem Xnf{b:Nat}{h:Heap}{v:Value}{xs:List Int}(s:SB h v xs){k:IntKind}{i:Nat}{z:Int}(hi:xs[i]? = some z) :
  ∃ bk o,U7 v=some bk∧Zn (E b).toEnv 47 v (.int k (i:Int))=some (.pointer (some ⟨bk,o,none⟩))∧V2 h bk o=some (i8 z):=by
 have hl:i < xs.length:=(List.getElem?_eq_some_iff.1 hi).1
 obtain⟨bk,o,h1,h2,h3, -⟩:=Xfu (T47 b) Qbg s (k:=k) (i:=(i:Int)) (by omega) (by omega)
 refine⟨bk,o,h1,h2,?_⟩
 have:=h3 0 (by omega)
 simpa[hi]using this
theorem Qvn{b:Nat}{h:Heap}{z:Int}:Jp (E b).toEnv 47 1 [(0,.int .u8 z)] h=some (.slice (some ⟨h.next,0,none⟩) 1 1,h.push (.cells true 1 [i8 z])):=Q4t (T47 b) Qbg (by omega) (by omega) rfl rfl rfl
theorem Yto{b:Nat}{h:Heap}{n0:Nat}{v:Value}{xs:List Int}(o:OB h n0 v xs)(h0:n0≤h.next)(hn:xs.length < 1099511627776)(z:Int) :
  ∃ v' h',Qhb (E b).toEnv 47 47 v (.slice (some ⟨h.next,0,none⟩) 1 1) (h.push (.cells true 1 [i8 z]))=some (v',h')∧OB h' n0 v' (xs ++ [z])∧Beyond v h h':=by
 obtain⟨v',h',k1,k2,k3⟩:=Y55 (T47 b) Qbg (by omega) o h0 (ys:=[i8 z]) rfl (by rw[Qmm];omega) (by omega)
 exact⟨v',h',k1,by simp only[OB,List.map_append,List.length_append];exact k2,k3⟩
theorem Zgu{b:Nat}{h:Heap}{n0:Nat}{v x:Value}{xs ys:List Int}(o:OB h n0 v xs)(h0:n0≤h.next)(s:SB h x ys)(hn:xs.length+ys.length < 1099511627776) :
  ∃ v' h',Qhb (E b).toEnv 47 47 v x h=some (v',h')∧OB h' n0 v' (xs++ys)∧Beyond v h h':=by
 obtain⟨v',h',k1,k2,k3⟩:=Qmo (T47 b) Qbg (by omega) o h0 (Q2g (T47 b) Qbg s) (by simp) (by rw[Qmm];omega) (by omega)
 exact⟨v',h',k1,by simp only[OB,List.map_append,List.length_append];exact k2,k3⟩
def CBI(v:Value)(xs:List Int)(h:Heap)(k:Nat)(s:St):Prop:=∃ (t:Tr Value) (h1:Heap) (o:Value) (i:Nat),s=⟨⟨19,t⟩,[],h1⟩∧t.get 0=some v∧t.get 3=some o∧t.get 4=some (.int .i64 (i:Int))∧i≤xs.length∧k=xs.length-i∧OB h1 h.next o (xs.take i)∧Old h h1
section
attribute [local simp] Qi7 Qod Jg Ql8 Qlm Yj Xw Uh Qd8 Yi Qk6 Xp Xm Xk Xt Qt X0 Xn X8 Qx Xo Q4 Xf Z4 Yt aop Qg nth Ab.g0 gv gs Q7 Qd aev evs evO Qi Tr.get_put St.put Tm.put flat flatA Yu Qp Qo Qm Qq Ql Qn Qk X3 Qj Q5 Q6 Qu Xj Xa Qz Qh X9 Qy Qr Yh Zb Yg Xv Xs.putAll X7 Qc Q2 Q1 Qa Qb Q9 Q0 Q3 Q8
theorem Xj8(b:Nat){h:Heap}{v:Value}{xs:List Int}(s:SB h v xs)(hn:xs.length < 1000000000)(K:AEnd→Heap→Prop)(hk:∀ v' h',OB h' h.next v' xs→Old h h'→K (.ret v') h'):FnK Tryd.prog (E b).G 46 [v] h K:=by
 refine Ur (E b) (Qa1 b) (Vj b) Wf (Qa5 b) (Us b) (Jg b) Xw9 X8g X3v rfl ?_
 simp
 refine Qfy (CBI v xs h) xs.length ⟨_,h,.slice none 0 0,0,rfl,by simp,by simp,by simp,by omega,rfl,Own.nil,Old.refl _⟩ ?_
 rintro k s' ⟨t,h1,o,i,rfl,t0,t3,t4,hi,rfl,ho,hold⟩ _
 have s1:=s.old hold
 by_cases hlt:i < xs.length
 ·have hlt':(i:Int) < (xs.length:Int):=by omega
  obtain⟨bk,off, -,hix,hld⟩:=Xnf (b:=b) s1 (k:=.i64) (List.getElem?_eq_getElem hlt)
  have hw:IntKind.i64.wrap ((i:Int)+1)=((i+1:Nat):Int):=by rw[Ug (by omega) (by omega)];omega
  obtain⟨v',h',hA,hO,hB⟩:=Yto (b:=b) ho hold.1 (by rw[List.length_take];omega) xs[i]
  simp[t0,t3,t4,Qcp s,hlt',hix,hld,i8,Qvn,hA,hw]
  simp only[i8]at hA
  simp[hA,t4,hw]
  refine⟨xs.length-(i+1),by omega,_,h',v',i+1,rfl,by simp[t0],by simp,by simp,by omega,rfl,?_,hB.old hold ho⟩
  rw[List.take_succ,List.getElem?_eq_getElem hlt]
  exact hO
 ·have hlt':¬ (i:Int) < (xs.length:Int):=by omega
  simp[t0,t3,t4,Qcp s,hlt,hlt']
  refine hk o h1 ?_ hold
  rwa [List.take_of_length_le (by omega)]at ho
end
def mk8(i:Int):Int:=IntKind.u8.wrap (IntKind.i64.wrap (201+IntKind.i64.wrap (7*i)))
theorem Yv7(b:Nat)(i:Int)(h:Heap)(K:AEnd→Heap→Prop)(hk:K (.ret (i8 (mk8 i))) h):FnK Tryd.prog (E b).G 47 [.int .i64 i] h K:=by
 refine Ur (E b) (Qa1 b) (Vj b) Wf (Qa5 b) (Us b) (Qaj b) Xvg Ydt X2g rfl ?_
 simp[Q0j,X30,Qaj,Vx,Yi,J7,J8,Xp,Xm,Xk,Xt,Qt,X0,Xn,X8,Qx,Xo,Q4,Xf,Z4,Yt,aop,Qg,nth,Ab.g0,gv,gs,Q7,Qd,aev,evs,evO,Qi,Tr.get_put,St.put,Tm.put,flat,flatA,Yu,Qp,Qo,Qm,Qq,Ql,Qn,Qk,X3,Qj,Q5,Q6,Qu,Xj,Xa,Qz,Qh,X9,Qy,Qr,Yh,Zb,Yg,Xv,Xs.putAll,X7,Qc,Q2,Q1,Qa,Qb,Q9,Q0,Q3,Q8]
 exact hk
def Xht:Nat→List Int
 | 0=>[]
 | n+1=>Xht n ++ [mk8 n]
theorem Xkt:∀ n,(Xht n).length=n
 | 0=>rfl
 | n+1=>by simp[Xht,Xkt n]
def LBI(xs:List Int)(h:Heap)(k:Nat)(s:St):Prop:=∃ (t:Tr Value) (h1:Heap) (o:Value) (i:Nat),s=⟨⟨17,t⟩,[],h1⟩∧t.get 3=some o∧t.get 4=some (.int .i64 (i:Int))∧i≤5∧k=5-i∧OB h1 h.next o (xs++Xht i)∧Old h h1
section
attribute [local simp] Qg5 Qkn Zd Jg Xw Qaj Yi Xp Xm Xk Xt Qt X0 Xn X8 Qx Xo Q4 Xf Z4 Yt aop Qg nth Ab.g0 gv gs Q7 Qd aev evs evO Qi Tr.get_put St.put Tm.put flat flatA Yu Qp Qo Qm Qq Ql Qn Qk X3 Qj Q5 Q6 Qu Xj Xa Qz Qh X9 Qy Qr Yh Zb Yg Xv Xs.putAll X7 Qc Q2 Q1 Qa Qb Q9 Q0 Q3 Q8
theorem Zbw(b:Nat){h:Heap}{v:Value}{xs:List Int}(s:SB h v xs)(hn:xs.length < 1000000000)(K:AEnd→Heap→Prop)(hk:∀ v' h',OB h' h.next v' (xs++Xht 5)→Old h h'→K (.ret v') h'):FnK Tryd.prog (E b).G 16 [v] h K:=by
 refine Ur (E b) (Qa1 b) (Vj b) Wf (Qa5 b) (Us b) (Zd b) Xv1 X7t X3d rfl ?_
 simp
 refine Xj8 b s hn _ fun o h1 ho hold => ?_
 simp
 refine Qfy (LBI xs h) 5 ⟨_,h1,o,0,rfl,by simp,by simp,by omega,rfl,by simpa[Xht]using ho,hold⟩ ?_
 rintro k s' ⟨t,h1,o,i,rfl,t3,t4,hi,rfl,ho,hold⟩ _
 by_cases hlt:i < 5
 ·have hlt':(i:Int) < 5:=by omega
  have hw:IntKind.i64.wrap ((i:Int)+1)=((i+1:Nat):Int):=by rw[Ug (by omega) (by omega)];omega
  obtain⟨v',h',hA,hO,hB⟩:=Yto (b:=b) ho hold.1 (by rw[List.length_append,Xkt];omega) (mk8 i)
  simp[t3,t4,hlt']
  refine Yv7 b i h1 _ ?_
  simp only[i8]at hA
  simp[t4,i8,Qvn,hA,hw]
  refine⟨5-(i+1),by omega,_,h',v',i+1,rfl,by simp,by simp,by omega,rfl,?_,hB.old hold ho⟩
  rw[Xht,← List.append_assoc]
  exact hO
 ·have hlt':¬ (i:Int) < 5:=by omega
  have : i=5:=by omega
  subst this
  simp[t3,t4]
  exact hk o h1 ho hold
end
def SBI(v1 v2:Value)(xs ys:List Int)(h:Heap)(k:Nat)(s:St):Prop:=∃ (t:Tr Value) (i:Nat),s=⟨⟨27,t⟩,[],h⟩∧t.get 0=some v1∧t.get 1=some v2∧t.get 5=some (.int .i64 (i:Int))∧i≤xs.length∧k=xs.length-i∧xs.take i=ys.take i
section
attribute [local simp] Qd8 Quj Xp Yt aop Qg nth Ab.g0 gv gs Q7 Qd aev evs evO Qi Tr.get_put St.put Tm.put flat flatA Yu Qp Qo Qm Qq Ql Qn Qk X3 Qj Q5 Q6 X7 Qc Q2 Q1 Qa Qb Q9 Q0 Q3 Q8
theorem Xva(b:Nat){h:Heap}{v1 v2:Value}{xs ys:List Int}(s1:SB h v1 xs)(s2:SB h v2 ys)(hn:xs.length < 1099511627776)(K:AEnd→Heap→Prop)(hk:K (.ret (.bool (decide (xs=ys)))) h):FnK Tryd.prog (E b).G 12 [v1,v2] h K:=by
 refine Ur (E b) (Qa1 b) (Vj b) Wf (Qa5 b) (Us b) (Y7 b) Xvt Yd0 X28 rfl ?_
 by_cases hl:xs.length=ys.length
 ·have hl':(xs.length:Int)=(ys.length:Int):=by omega
  simp[Qee,Qhn,Y7,Yj,Qdl,Qg3,Xw,Uh,Qf3,Yi,Xm,Xk,Xt,Qt,X0,Xn,X8,Qx,Xo,Q4,Xf,Z4,Qu,Xj,Xa,Qz,Qh,X9,Qy,Qr,Yh,Zb,Yg,Xv,Xs.putAll,Qcp s1,Qcp s2,hl']
  refine Qfy (SBI v1 v2 xs ys h) xs.length ⟨_,0,rfl,by simp,by simp,by simp,by omega,rfl,rfl⟩ ?_
  rintro k s' ⟨t,i,rfl,t0,t1,t5,hi,rfl,hq⟩ _
  by_cases hlt:i < xs.length
  ·have hlt':(i:Int) < (xs.length:Int):=by omega
   obtain⟨bk1,o1, -,ix1,ld1⟩:=Xnf (b:=b) s1 (k:=.i64) (List.getElem?_eq_getElem hlt)
   obtain⟨bk2,o2, -,ix2,ld2⟩:=Xnf (b:=b) s2 (k:=.i64) (List.getElem?_eq_getElem (show i < ys.length by omega))
   have hw:IntKind.i64.wrap ((i:Int)+1)=((i+1:Nat):Int):=by rw[Ug (by omega) (by omega)];omega
   simp[Qee,Qhn,Y7,Yj,Qdl,Qg3,Xw,Uh,Qf3,Yi,Xm,Xk,Xt,Qt,X0,Xn,X8,Qx,Xo,Q4,Xf,Z4,Qu,Xj,Xa,Qz,Qh,X9,Qy,Qr,Yh,Zb,Yg,Xv,Xs.putAll,t0,t1,t5,Qcp s1,hlt']
   by_cases he:xs[i]=ys[i]
   ·refine Zgk Qsn Qt0 Qr5 (by kernel_rfl) (by simp[Qqa,Q6a,Xly,Xl7,t0,t1,t5,ix1,ix2,ld1,ld2,he,i8];rfl) ?_
    simp[Qee,Qhn,Y7,Yj,Qdl,Qg3,Xw,Uh,Qf3,Yi,Xm,Xk,Xt,Qt,X0,Xn,X8,Qx,Xo,Q4,Xf,Z4,Qu,Xj,Xa,Qz,Qh,X9,Qy,Qr,Yh,Zb,Yg,Xv,Xs.putAll,t5,hw]
    refine⟨xs.length-(i+1),by omega,_,i+1,rfl,by simp[t0],by simp[t1],by simp,by omega,rfl,?_⟩
    rw[List.take_succ,List.take_succ,hq,List.getElem?_eq_getElem hlt,List.getElem?_eq_getElem (show i < ys.length by omega),he]
   ·refine Zgk Qsn Qt0 Qr5 (by kernel_rfl) (by simp[Qqa,Q6a,Xly,Xl7,t0,t1,t5,ix1,ix2,ld1,ld2,he,i8];rfl) ?_
    have hne:¬ xs=ys:=fun e=>he (by subst e;rfl)
    simp[Qee,Qhn,Y7,Yj,Qdl,Qg3,Xw,Uh,Qf3,Yi,Xm,Xk,Xt,Qt,X0,Xn,X8,Qx,Xo,Q4,Xf,Z4,Qu,Xj,Xa,Qz,Qh,X9,Qy,Qr,Yh,Zb,Yg,Xv,Xs.putAll,t5,hw]
    simpa[hne]using hk
  ·have hlt':¬ (i:Int) < (xs.length:Int):=by omega
   have : i=xs.length:=by omega
   subst this
   have he:xs=ys:=by
    rw[List.take_of_length_le (Nat.le_refl _),List.take_of_length_le (by omega)]at hq;exact hq
   simp[Qee,Qhn,Y7,Yj,Qdl,Qg3,Xw,Uh,Qf3,Yi,Xm,Xk,Xt,Qt,X0,Xn,X8,Qx,Xo,Q4,Xf,Z4,Qu,Xj,Xa,Qz,Qh,X9,Qy,Qr,Yh,Zb,Yg,Xv,Xs.putAll,t0,t1,t5,Qcp s1]
   simpa[he]using hk
 ·have hl':¬ (xs.length:Int)=(ys.length:Int):=by omega
  have hne:¬ xs=ys:=fun e=>hl (by rw[e])
  simp[Qee,Qhn,Y7,Yj,Qdl,Qg3,Xw,Uh,Qf3,Yi,Xm,Xk,Xt,Qt,X0,Xn,X8,Qx,Xo,Q4,Xf,Z4,Qu,Xj,Xa,Qz,Qh,X9,Qy,Qr,Yh,Zb,Yg,Xv,Xs.putAll,Qcp s1,Qcp s2,hl']
  simpa[hne]using hk
end
def KBI(all v:Value)(xs:List Int)(h:Heap)(k:Nat)(s:St):Prop:=∃ (t:Tr Value) (h1:Heap) (o:Value) (i:Nat),s=⟨⟨37,t⟩,[],h1⟩∧t.get 0=some all∧t.get 1=some v∧t.get 5=some o∧t.get 6=some (.int .i64 (i:Int))∧i≤5∧k=5-i∧OB h1 h.next o (Xht i)∧Old h h1
section
attribute [local simp] Qej Qhq Z9 Qg6 Yj Yi Qdl Y7 Qg7 Qfj Qg1 Xw Qaj Xp Xm Xk Xt Qt X0 Xn X8 Qx Xo Q4 Xf Z4 Yt aop Qg nth Ab.g0 gv gs Q7 Qd aev evs evO Qi Tr.get_put St.put Tm.put flat flatA Yu Qp Qo Qm Qq Ql Qn Qk X3 Qj Q5 Q6 Qu Xj Xa Qz Qh X9 Qy Qr Yh Zb Yg Xv Xs.putAll X7 Qc Q2 Q1 Qa Qb Q9 Q0 Q3 Q8
theorem Zbv(b:Nat){h:Heap}{all v:Value}{xs:List Int}(sa:SB h all (xs++Xht 5))(s:SB h v xs)(hn:xs.length < 1000000000)(K:AEnd→Heap→Prop)(hk:∀ h',Old h h'→K (.ret (.bool true)) h'):FnK Tryd.prog (E b).G 22 [all,v] h K:=by
 refine Ur (E b) (Qa1 b) (Vj b) Wf (Qa5 b) (Us b) (Z9 b) Xtf Ybz X1k rfl ?_
 have hla:((xs++Xht 5).length:Int)=(xs.length:Int)+5:=by rw[List.length_append,Xkt];omega
 have hw:IntKind.i64.wrap ((xs.length:Int)+5)=(xs.length:Int)+5:=Ug (by omega) (by omega)
 obtain⟨v',k1,k2, -⟩:=Zjl (T47 b) (k:=.i64) (i:=(xs.length:Int)) Qbg (by omega) sa (by omega) (by omega)
 have k2':SB h v' xs:=by
  have : ((xs++Xht 5).map i8).take ((xs.length:Int).toNat*1)=xs.map i8:=by simp
  rw[this]at k2
  simpa using k2
 simp[Qcp sa,Qcp s,hla,hw,k1,-List.length_append]
 refine Xva b k2' s (by omega) _ ?_
 simp
 refine Qfy (KBI all v xs h) 5 ⟨_,h,.slice none 0 0,0,rfl,by simp,by simp,by simp,by simp,by omega,rfl,Own.nil,Old.refl _⟩ ?_
 rintro k s' ⟨t,h1,o,i,rfl,t0,t1,t5,t6,hi,rfl,ho,hold⟩ _
 by_cases hlt:i < 5
 ·have hlt':(i:Int) < 5:=by omega
  have hw:IntKind.i64.wrap ((i:Int)+1)=((i+1:Nat):Int):=by rw[Ug (by omega) (by omega)];omega
  obtain⟨v',h',hA,hO,hB⟩:=Yto (b:=b) ho hold.1 (by rw[Xkt];omega) (mk8 i)
  simp[t5,t6,hlt']
  refine Yv7 b i h1 _ ?_
  simp only[i8]at hA
  simp[t6,i8,Qvn,hA,hw]
  exact⟨5-(i+1),by omega,_,h',v',i+1,rfl,by simp[t0],by simp[t1],by simp,by simp,by omega,rfl,hO,hB.old hold ho⟩
 ·have : i=5:=by omega
  subst this
  obtain⟨v2,h2,g1,g2,g3, -⟩:=Y8b (T47 b) (k:=.i64) (i:=(xs.length:Int)) Qbg (by omega) (sa.old hold) (by omega) (by omega)
  have g2':SB h2 v2 (Xht 5):=by
   have e1:((xs++Xht 5).map i8).drop ((xs.length:Int).toNat*1)=(Xht 5).map i8:=by simp
   have e2:(xs++Xht 5).length-(xs.length:Int).toNat=(Xht 5).length:=by rw[List.length_append];omega
   rw[e1,e2]at g2
   exact g2
  simp[t0,t1,t5,t6,Qcp s,g1]
  refine Xva b g2' (ho.sl.old g3) (by rw[Xkt];omega) _ ?_
  simp
  exact hk h2 (hold.trans g3)
end
end Go.Proofs.YtgeeklmjfbiieaaDoor
end
noncomputable section
namespace Go.Proofs.YtgeeklmjfbiieaaDoor
open Go Go.Ab
set_option maxRecDepth 100000
theorem Y6i(b:Nat){h:Heap}{v:Value}{xs:List Int}(s:SB h v xs)(hv:U7 v≠none)(hn:xs.length < 1000000000)(K:AEnd→Heap→Prop)
  (hk:∀ v' h',OB h' h.next v' xs→Old h h'→K (.ret v') h'):FnK Tryd.prog (E b).G 63 [v] h K:=by
 refine Ur (E b) (Qa1 b) (Vj b) Wf (Qa5 b) (Us b) (Qcv b) X29 Ypx Yj9 rfl ?_
 have e0:Yu (E b).toEnv .eql 47 true v (.slice none 0 0)=some (.bool false):=by
  cases v with
  | slice a n c=>cases a with
   | none=>exact absurd rfl hv
   | some a=>simp[Yu,Y9t,aEq,Xqz,(T47 b).d]
  | _=>rcases s with⟨_,e,_⟩ | ⟨_,_,_,_,_,_,_,e,_⟩ <;> cases e
 have e1:Jp (E b).toEnv 47 0 [] h=some (.slice (some ⟨h.next,0,none⟩) 0 0,h.push (.cells true 1 [])):=by simp[Jp,Xqz,(T47 b).d,Y5r,Qbg,Xej,Qbs,Nat.ble]
 obtain⟨v',h',k1,k2,k3⟩:=Zgu (b:=b) (h:=h.push (.cells true 1 [])) (n0:=h.next) (v:=.slice (some ⟨h.next,0,none⟩) 0 0) (xs:=[]) (Own.new (Nat.le_refl _) (by rw[Heap.get_push,if_pos rfl];rfl) rfl (by decide) (.inr rfl)) (Nat.le_succ _) (s.old (Old.push _ _)) (by simpa using(by omega:xs.length < 1099511627776))
 simp[Xb0,Yjm,Qcv,X2a,X37,Xp,Xm,Xk,Xt,Qt,X0,Xn,X8,Qx,Xo,Q4,Xf,Z4,Yt,aop,Qg,nth,Ab.g0,gv,gs,Q7,Qd,aev,evs,evO,Qi,Tr.get_put,St.put,Tm.put,flat,flatA,Qp,Qo,Qm,Qq,Ql,Qn,Qk,X3,Qj,Q5,Q6,Qu,Xj,Xa,Qz,Qh,X9,Qy,Qr,Yh,Zb,Yg,Xv,Xs.putAll,X7,Qc,Q2,Q1,Qa,Qb,Q9,Q0,Q3,Q8,e0,e1,k1]
 exact hk v' h' k2 ⟨Nat.le_trans (Nat.le_succ _) k3.1,fun c hc=>by rw[k3.2 c (Nat.lt_of_lt_of_le hc (Nat.le_succ _)) (by simp[U7];omega),Heap.get_push,if_neg (by omega)]⟩
end Go.Proofs.YtgeeklmjfbiieaaDoor
end
noncomputable section
namespace Go.Proofs.YtgeeklmjfbiieaaDoor
open Go Go.Ab
set_option maxRecDepth 100000
def pz:Nat→List Int→Option (List (Int × List Int))
 | _,[]=>some []
 | 0,_::_=>none
 | n+1,c::r=>if c≤64∧c≤r.length then(pz n (r.drop c.toNat)).map ((c,r.take c.toNat) :: ·)else if c < 129∨c > 139 then none else(pz n r).map ((c,[]) :: ·)
def Bytes(xs:List Int):Prop:=∀ z ∈ xs,0≤z∧z < 256
structure OpV where
 code:Int
 data:List Int
 val:Value
def OpV.cells(o:OpV):List Value:=[.int .i64 o.code,o.val]
def Q86(os:List OpV):List Value:=os.flatMap OpV.cells
def Qnb(os:List OpV):List (Int × List Int):=os.map fun o=>(o.code,o.data)
def Ziz(v w:Value):Prop:=∀ c,U7 v=some c→U7 w≠some c
structure OpsAt (h:Heap) (n0:Nat) (lv:Value) (os:List OpV):Prop where
 row:Own h n0 2 lv os.length (Q86 os)
 data:∀ o ∈ os,OB h n0 o.val o.data
 apart:∀ o ∈ os,Ziz lv o.val
 each:os.Pairwise (fun o p=>Ziz o.val p.val)
theorem OpsAt.nil{h:Heap}{n0:Nat}:OpsAt h n0 (.slice none 0 0) []:=⟨Own.nil,by simp,by simp,.nil⟩
theorem OpsAt.old{h h':Heap}{n0:Nat}{lv:Value}{os:List OpV}(o:OpsAt h n0 lv os)(a:Old h h'):OpsAt h' n0 lv os :=
 ⟨o.row.keep fun c _ hc=>a.2 c hc,fun p hp=>(o.data p hp).keep fun c _ hc=>a.2 c hc,o.apart,o.each⟩
theorem OpsAt.app{b:Nat}{h1 h:Heap}{n0:Nat}{lv:Value}{os:List OpV}{te ts:TypeId}{re rs:TyRec}(T:SlTy (E b).toEnv te ts re rs)(hz:re.size=2)(hb:re.bytes=32)(o1:OpsAt h1 n0 lv os)(a:Old h1 h)(h0:n0≤h1.next)(hn:os.length < 1000000){p:OpV}(hp:OB h h1.next p.val p.data) :
  ∃ v' h',Qhb (E b).toEnv ts ts lv (.slice (some ⟨h.next,0,none⟩) 1 1) (h.push (.cells true 1 p.cells))=some (v',h')∧OpsAt h' n0 v' (os ++ [p])∧Beyond lv h h'∧∀ c,U7 v'=some c→U7 lv=some c∨h.next≤c:=by
 have o:=o1.old a
 obtain⟨v',h',k1,k2,k3,k4⟩:=Qns T hz (by omega) o.row (Nat.le_trans h0 a.1) (ys:=p.cells) rfl (by rw[hb];omega) (by omega)
 have far:∀ c,U7 p.val=some c→h1.next≤c∧c < h.next:=fun c hc=>hp.from hc
 refine⟨v',h',k1,⟨?_,?_,?_,?_⟩,k3,k4⟩
 ·rw[List.length_append]
  simpa[Q86]using k2
 ·intro q hq
  rw[List.mem_append]at hq
  rcases hq with hq | hq
  ·refine(o.data q hq).keep fun c hc hlt=>k3.2 c hlt fun e=>o.apart q hq c e hc
  ·simp at hq;subst hq
   refine(hp.low h0).keep fun c hc hlt=>k3.2 c hlt fun e => ?_
   have:=far c hc
   have:=o1.row.out e
   omega
 ·intro q hq c hc e
  rw[List.mem_append]at hq
  rcases hq with hq | hq
  ·rcases k4 c hc with h | h
   ·exact o.apart q hq c h e
   ·have:=(o.data q hq).out e;omega
  ·simp at hq;subst hq
   have h5:=far c e
   rcases k4 c hc with h | h
   ·have:=o1.row.out h;omega
   ·omega
 ·rw[List.pairwise_append]
  refine⟨o.each,by simp,fun q hq r hr c hc e => ?_⟩
  simp at hr;subst hr
  have h5:=far c e
  have:=(o1.data q hq).out hc
  omega
def PI(xs:List Int)(h:Heap)(n:Nat)(s:St):Prop:=∃ (t:Tr Value) (h1:Heap) (bv lv:Value) (rest:List Int) (os:List OpV),s=⟨⟨53,t⟩,[],h1⟩∧t.get 0=some bv∧t.get 4=some lv∧SB h1 bv rest∧(rest=[]∨U7 bv≠none)∧OpsAt h1 h.next lv os∧Ziz lv bv∧Old h h1∧n=rest.length∧rest.length+os.length≤256∧Bytes rest∧∀ f,xs.length≤f→∃ f',rest.length≤f'∧pz f xs=(pz f' rest).map (Qnb os ++ ·)
def Zcw(xs:List Int):Prop:=xs.length > 256∨pz xs.length xs=none ∨ ∃ l,pz xs.length xs=some l∧l.length > 64
theorem Xtx(b:Nat)(z:Int):Qr0 (E b).toEnv 103 [(0,.int .i64 z)]=some (.agg ⟨[.int .i64 z,.slice none 0 0]⟩):=by kernel_rfl
theorem Zi7{b:Nat}{h:Heap}{v:Value}{xs:List Int}(s:SB h v xs){k:IntKind}{i:Int}(h0:0≤i)(h1:i≤xs.length):∃ v',Qcd (E b).toEnv 47 v none (some (.int k i)) none h=some (v',h)∧SB h v' (xs.take i.toNat)∧U7 v'=U7 v:=by
 obtain⟨v',k1,k2,k3⟩:=Zjl (T47 b) (k:=k) Qbg (by omega) s h0 h1
 refine⟨v',k1,?_,k3⟩
 have e:(xs.take i.toNat).length=i.toNat:=by rw[List.length_take];omega
 rw[SB,e]
 simpa using k2
theorem Ytr{b:Nat}{h:Heap}{v:Value}{xs:List Int}(s:SB h v xs){k:IntKind}{i:Int}(h0:0≤i)(h1:i≤xs.length):∃ v' h',Qcd (E b).toEnv 47 v (some (.int k i)) none none h=some (v',h')∧SB h' v' (xs.drop i.toNat)∧Old h h'∧(U7 v≠none→U7 v'≠none)∧∀ c,U7 v'=some c→U7 v=some c∨c=h.next:=by
 obtain⟨v',h',k1,k2,k3,k4⟩:=Y8b (T47 b) (k:=k) Qbg (by omega) s h0 h1
 refine⟨v',h',k1,?_,k3,fun hv => ?_,fun c hc => ?_⟩
 ·rw[SB,List.length_drop]
  simpa using k2
 ·rcases k4 with⟨e,_⟩ | ⟨e,_⟩
  ·rw[e];exact hv
  ·rw[e];simp
 ·rcases k4 with⟨e,_⟩ | ⟨e,_⟩
  ·rw[e]at hc;exact .inl hc
  ·rw[e]at hc;cases hc;exact .inr rfl
theorem Zjg{b:Nat}{h:Heap}{v:Value}{xs:List Int}(s:SB h v xs){k k2:IntKind}{i j:Int}(h0:0≤i)(h1:i≤j)(h2:j≤xs.length):∃ v' h',Qcd (E b).toEnv 47 v (some (.int k i)) (some (.int k2 j)) none h=some (v',h')∧SB h' v' ((xs.drop i.toNat).take (j.toNat-i.toNat))∧Old h h':=by
 obtain⟨v',h',q1,q2,q3, -⟩:=Zat (T47 b) (k:=k) (k2:=k2) Qbg (by omega) s h0 h1 h2
 refine⟨v',h',q1,?_,q3⟩
 have e:((xs.drop i.toNat).take (j.toNat-i.toNat)).length=j.toNat-i.toNat:=by rw[List.length_take,List.length_drop];omega
 rw[SB,e]
 simpa using q2
theorem Zoc{h:Heap}{v:Value}{xs:List Int}(s:SB h v xs)(hx:xs ≠ []):U7 v≠none:=by
 rcases s with⟨c,rfl,_,_,e⟩ | ⟨bk,o,c,ow,z',pre,post,rfl,_⟩
 ·exact absurd (List.map_eq_nil_iff.1 e) hx
 ·simp[U7]
theorem X00{f:Nat}{c:Int}{r:List Int}(hf:(c::r).length≤f):∃ f',r.length≤f'∧pz f (c::r)=(if c≤64∧c≤r.length then(pz f' (r.drop c.toNat)).map ((c,r.take c.toNat) :: ·)else if c < 129∨c > 139 then none else(pz f' r).map ((c,[]) :: ·)):=by
 cases f with
 | zero=>simp at hf
 | succ f=>exact⟨f,by simpa using hf,rfl⟩
theorem Xk2(os:List OpV):(Qnb os).length=os.length:=by simp[Qnb]
section
attribute [local simp] Qb0 Qdi Jk Yj Zk Uh Qd8 W9 Wb Qi1 Qi8 Wq Qbd Qap Qcv Zm Qj6 Xw Qbc Qaq Qb9 Qhv Qpd Qbb Xp Xm Xk Xt Qt X0 Xn X8 Qx Xo Q4 Xf Z4 Yt aop Qg nth Ab.g0 gv gs Q7 Qd aev evs evO Qi Tr.get_put St.put Tm.put flat flatA Yu Qp Qo Qm Qq Ql Qn Qk X3 Qj Q5 Q6 Qu Xj Xa Qz Qh X9 Qy Qr Yh Zb Yg Xv Xs.putAll X7 Qc Q2 Q1 Qa Qb Q9 Q0 Q3 Q8
set_option maxHeartbeats 1000000 in
theorem Zey(b:Nat){h:Heap}{v:Value}{xs:List Int}(s:SB h v xs)(hb:Bytes xs)(K:AEnd→Heap→Prop)(hk0:Zcw xs→∀ h',Old h h'→K (.ret (.tuple #[.slice none 0 0,.int .i64 16])) h')
  (hk:∀ l,xs.length≤256→pz xs.length xs=some l→l.length≤64→∀ lv os h',Qnb os=l→OpsAt h' h.next lv os→Old h h'→K (.ret (.tuple #[lv,.int .i64 0])) h'):FnK Tryd.prog (E b).G 24 [v] h K:=by
 refine Ur (E b) (Qa1 b) (Vj b) Wf (Qa5 b) (Us b) (Jk b) Xzt Yj6 X8x rfl ?_
 by_cases hlen:(256:Int) < (xs.length:Int)
 ·simp[Qcp s,hlen]
  exact hk0 (.inl (by omega)) h (Old.refl _)
 ·simp[Qcp s,hlen]
  have hx0:xs=[]∨U7 v≠none:=by
   by_cases hx:xs=[]
   ·exact .inl hx
   ·exact .inr (Zoc s hx)
  refine Qfy (PI xs h) xs.length ⟨_,h,v,.slice none 0 0,xs,[],rfl,?_,?_,s,hx0,OpsAt.nil,(fun c hc=>by cases hc),Old.refl _,rfl,by simp;omega,hb,fun f hf=>⟨f,hf,by cases pz f xs <;> simp[Qnb]⟩⟩ ?_
  ·simp
  ·simp
  rintro n s' ⟨t,h1,bv,lv,rest,os,rfl,t0,t4,sb,hbv,hos,hap,hold,rfl,hcount,hbr,hpz⟩ _
  cases rest with
  | nil =>
   obtain⟨f',hf',hp⟩:=hpz xs.length (Nat.le_refl _)
   have hp':pz xs.length xs=some (Qnb os):=by
    rw[hp];cases f' <;> simp[pz]
   have hlv:=Qdf (T67 b) hos.row.sl (h1:=h1)
   by_cases h64:(64:Int) < (os.length:Int)
   ·
    have e0:=Qcp (b:=b) (h1:=h1) sb
    simp at e0
    simp[t0,t4,e0,hlv,h64]
    exact hk0 (.inr (.inr ⟨_,hp',by rw[Xk2];omega⟩)) h1 hold
   ·
    have e0:=Qcp (b:=b) (h1:=h1) sb
    simp at e0
    simp[t0,t4,e0,hlv,h64]
    exact hk _ (by omega) hp' (by rw[Xk2];omega) lv os h1 rfl hos hold
  | cons c r =>
   have hc:0≤c∧c < 256:=hbr c (by simp)
   have hbr':Bytes r:=fun z hz=>hbr z (by simp[hz])
   have hcl:(0:Int) < (r.length:Int)+1:=by omega
   obtain⟨bk,off,hblk,hix,hld⟩:=Xnf (b:=b) sb (k:=.i64) (i:=0) (z:=c) rfl
   obtain⟨bv1,h2,hs1,sb1,a1,ne1,mv1⟩:=Ytr (b:=b) sb (k:=.i64) (i:=1) (by omega) (by simp;omega)
   have hwc:IntKind.i64.wrap c=c:=Ug (by omega) (by omega)
   simp only[Int.toNat_one,List.drop_one,List.tail_cons]at sb1
   have hne1:U7 bv1≠none:=ne1 (by rw[hblk];simp)
   have hst0:Wg (h2.push (.cells true 1 [.int .i64 0,.slice none 0 0])) h2.next 0 [.int .i64 c,.slice none 0 0]=some ((h2.push (.cells true 1 [.int .i64 0,.slice none 0 0])).set h2.next (some (.cells true 1 [.int .i64 c,.slice none 0 0]))):=by
    rw[Qd2 (by rw[Heap.get_push,if_pos rfl]) (by simp)];rfl
   have e0:Qkb (E b).toEnv 47 bv h1=some (.int .i64 ((r.length:Int)+1)):=by have:=Qcp (b:=b) (h1:=h1) sb;simpa using this
   have hix':Zn (E b).toEnv 47 bv (.int .i64 0)=some (.pointer (some ⟨bk,off,none⟩)):=hix
   simp only[i8]at hld
   obtain⟨h3,e3⟩:∃ h3,h3=(h2.push (.cells true 1 [.int .i64 0,.slice none 0 0])).set h2.next (some (.cells true 1 [.int .i64 c,.slice none 0 0])):=⟨_,rfl⟩
   have g3:h3.get h2.next=some (.cells true 1 [.int .i64 c,.slice none 0 0]):=by rw[e3,Heap.get_set _ _ _ _ (by simp only[Qq8];omega),if_pos rfl]
   have a3:Old h2 h3:=by rw[e3];exact(Old.push _ _).set _ (Nat.le_refl _) (by simp only[Qq8];omega)
   have n3:h3.next=h2.next+1:=by rw[e3,Y49,Qq8]
   rw[← e3]at hst0
   have a13:Old h1 h3:=a1.trans a3
   have sb3:SB h3 bv1 r:=sb1.old a3
   have e1:∀ h,Qkb (E b).toEnv 47 bv1 h=some (.int .i64 r.length):=fun h=>Qcp sb1
   have htot:r.length+os.length+1≤256:=by simp at hcount;omega
   by_cases hpush:c≤64∧c≤(r.length:Int)
   ·obtain⟨p1,p2⟩:=hpush
    obtain⟨bv2,hs2,sb2,ne2⟩:=Zi7 (b:=b) sb3 (k:=.i64) (i:=c) hc.1 p2
    simp[t0,t4,e0,hcl,hix',hld,hs1,hwc,Xtx,hst0,e1,p1,p2,hs2]
    refine Y6i b sb2 (by rw[ne2];exact hne1) (by rw[List.length_take];omega) _ fun dv h4 od a4 => ?_
    have g4:h4.get h2.next=some (.cells true 1 [.int .i64 c,.slice none 0 0]):=a4.get g3
    have hst1:Wg h4 h2.next 1 [dv]=some (h4.set h2.next (some (.cells true 1 [.int .i64 c,dv]))):=by rw[Qbz g4 (by simp)];rfl
    obtain⟨h5,e5⟩:∃ h5,h5=h4.set h2.next (some (.cells true 1 [.int .i64 c,dv])):=⟨_,rfl⟩
    have n4:h2.next < h4.next:=by have:=a4.1;omega
    have g5:h5.get h2.next=some (.cells true 1 [.int .i64 c,dv]):=by rw[e5,Heap.get_set _ _ _ _ n4,if_pos rfl]
    have a15:Old h1 h5:=by rw[e5];exact(a13.trans a4).set _ a1.1 n4
    rw[← e5]at hst1
    have od5:OB h5 h3.next dv (r.take c.toNat):=od.keep fun k hk hlt=>by
     have:=od.from hk
     rw[e5,Heap.get_set _ _ _ _ n4,if_neg (by omega)]
    obtain⟨bv3,h6,hs3,sb6,a6,ne3,mv3⟩:=Ytr (b:=b) ((sb1.old a3).old a4 |>.keep (h':=h5) fun k hk hlt=>by
     have:=sb1.blk hk
     rw[e5,Heap.get_set _ _ _ _ n4,if_neg (by omega)]) (k:=.i64) (i:=c) hc.1 p2
    have hld6:Qgi h6 h2.next 0 2=some (.agg ⟨[.int .i64 c,dv]⟩):=by rw[Qan (a6.get g5) (by simp)];rfl
    have hbl:Jp (E b).toEnv 67 1 [(0,.agg ⟨[.int .i64 c,dv]⟩)] h6=some (.slice (some ⟨h6.next,0,none⟩) 1 1,h6.push (.cells true 1 [.int .i64 c,dv])):=Q4t (T67 b) Qsl (by omega) (by omega) rfl rfl rfl
    obtain⟨lv',h7,hA,hO,hB,mvl⟩:=OpsAt.app (b:=b) (T67 b) Qsl Ymy hos (a15.trans a6) hold.1 (by omega) (p:=⟨c,r.take c.toNat,dv⟩) ((od5.low (by have:=a13.1;omega)).keep fun k _ hlt=>a6.2 k hlt)
    simp only[OpV.cells]at hA
    have hap1:∀ k,U7 lv=some k→U7 bv1≠some k:=fun k hk e=>by
     rcases mv1 k e with e | e
     ·exact hap k hk e
     ·have:=hos.row.out hk;omega
    have hap3:∀ k,U7 lv=some k→U7 bv3≠some k:=fun k hk e=>by
     rcases mv3 k e with e | e
     ·exact hap1 k hk e
     ·have:=hos.row.out hk;have:=a15.1;omega
    simp[Znb b _ _ _ dv od.one,hst1,hs3,hld6,hbl,hA,t4]
    refine⟨(r.drop c.toNat).length,by simp;omega,_,h7,bv3,lv',r.drop c.toNat,_,rfl,by simp,by simp,?_,.inr (ne3 hne1),hO,?_,?_,rfl,?_,fun z hz=>hbr' z (List.mem_of_mem_drop hz),fun f hf => ?_⟩
    ·exact sb6.keep fun k hk hlt=>hB.2 k hlt fun e=>hap3 k e hk
    ·intro k hk e
     rcases mvl k hk with hk | hk
     ·exact hap3 k hk e
     ·have:=sb6.blk e;omega
    ·exact hB.old (hold.trans (a15.trans a6)) (hos.old (a15.trans a6)).row
    ·simp;omega
    ·obtain⟨f1,hf1,q1⟩:=hpz f hf
     obtain⟨f2,hf2,q2⟩:=X00 (c:=c) (r:=r) hf1
     refine⟨f2,by simp;omega,?_⟩
     rw[q1,q2,if_pos ⟨p1,p2⟩,Option.map_map]
     congr 1
     funext l
     simp[Qnb]
   ·have hstop:c < 129∨139 < c→Zcw xs:=fun hq=>by
     obtain⟨f1,hf1,q1⟩:=hpz xs.length (Nat.le_refl _)
     obtain⟨f2,hf2,q2⟩:=X00 (c:=c) (r:=r) hf1
     refine .inr (.inl ?_)
     rw[q1,q2,if_neg hpush,if_pos (by omega)]
     rfl
    have hK:∀ h',Old h h'→c < 129∨139 < c→K (.ret (.tuple #[.slice none 0 0,.int .i64 16])) h':=fun h' ho hq=>hk0 (hstop hq) h' ho
    by_cases p1:c≤64
    ·have p2:¬ c≤(r.length:Int):=fun p2=>hpush ⟨p1,p2⟩
     have p3:c < 129:=by omega
     simp[t0,t4,e0,hcl,hix',hld,hs1,hwc,Xtx,hst0,e1,p1,p2,p3]
     exact hK h3 (hold.trans a13) (.inl p3)
    ·by_cases p3:c < 129
     ·simp[t0,t4,e0,hcl,hix',hld,hs1,hwc,Xtx,hst0,e1,p1,p3]
      exact hK h3 (hold.trans a13) (.inl p3)
     ·by_cases p4:139 < c
      ·simp[t0,t4,e0,hcl,hix',hld,hs1,hwc,Xtx,hst0,e1,p1,p3,p4]
       exact hK h3 (hold.trans a13) (.inr p4)
      ·have hld3:Qgi h3 h2.next 0 2=some (.agg ⟨[.int .i64 c,.slice none 0 0]⟩):=by rw[Qan g3 (by simp)];rfl
       have hbl:Jp (E b).toEnv 67 1 [(0,.agg ⟨[.int .i64 c,.slice none 0 0]⟩)] h3=some (.slice (some ⟨h3.next,0,none⟩) 1 1,h3.push (.cells true 1 [.int .i64 c,.slice none 0 0])):=Q4t (T67 b) Qsl (by omega) (by omega) rfl rfl rfl
       obtain⟨lv',h7,hA,hO,hB,mvl⟩:=OpsAt.app (b:=b) (T67 b) Qsl Ymy hos a13 hold.1 (by omega) (p:=⟨c,[],.slice none 0 0⟩) Own.nil
       simp only[OpV.cells]at hA
       have hap1:∀ k,U7 lv=some k→U7 bv1≠some k:=fun k hk e=>by
        rcases mv1 k e with e | e
        ·exact hap k hk e
        ·have:=hos.row.out hk;omega
       simp[t0,t4,e0,hcl,hix',hld,hs1,hwc,Xtx,hst0,e1,p1,p3,p4,hld3,hbl,hA]
       refine⟨r.length,by omega,_,h7,bv1,lv',r,_,rfl,by simp,by simp,?_,.inr hne1,hO,?_,?_,rfl,?_,hbr',fun f hf => ?_⟩
       ·exact sb3.keep fun k hk hlt=>hB.2 k hlt fun e=>hap1 k e hk
       ·intro k hk e
        rcases mvl k hk with hk | hk
        ·exact hap1 k hk e
        ·have:=sb3.blk e;omega
       ·exact hB.old (hold.trans a13) (hos.old a13).row
       ·simp;omega
       ·obtain⟨f1,hf1,q1⟩:=hpz f hf
        obtain⟨f2,hf2,q2⟩:=X00 (c:=c) (r:=r) hf1
        refine⟨f2,hf2,?_⟩
        rw[q1,q2,if_neg hpush,if_neg (by omega),Option.map_map]
        congr 1
        funext l
        simp[Qnb]
end
end Go.Proofs.YtgeeklmjfbiieaaDoor
end
noncomputable section
namespace Go.Proofs.YtgeeklmjfbiieaaDoor
open Go Go.Ab
set_option maxRecDepth 100000
def RPI(v:Value)(xs:List Int)(h:Heap)(n:Nat)(s:St):Prop:=∃ (t:Tr Value) (h1:Heap) (lv:Value) (i:Nat) (os:List OpV),s=⟨⟨68,t⟩,[],h1⟩∧t.get 0=some v∧t.get 4=some lv∧t.get 5=some (.int .i64 (i:Int))∧i≤xs.length∧OpsAt h1 h.next lv os∧Old h h1∧n=xs.length-i∧os.length≤i∧∀ f,xs.length≤f→∃ f',(xs.drop i).length≤f'∧pz f xs=(pz f' (xs.drop i)).map (Qnb os ++ ·)
theorem Yy2(b:Nat)(z:Int):Qr0 (E b).toEnv 120 [(0,.int .i64 z)]=some (.agg ⟨[.int .i64 z,.slice none 0 0]⟩):=by kernel_rfl
section
attribute [local simp] Qbt Qe6 Zg Qcr Qct Yj Zk Qcs Qc1 Xw Qbx Uh Qd8 W9 Wb Wq Yi Qby Qbe Qba Qas Qar Qc0 Xov Xos Jg Vz Qj6 Qdr Qdz Qbw Xp Xm Xk Xt Qt X0 Xn X8 Qx Xo Q4 Xf Z4 Yt aop Qg nth Ab.g0 gv gs Q7 Qd aev evs evO Qi Tr.get_put St.put Tm.put flat flatA Yu Qp Qo Qm Qq Ql Qn Qk X3 Qj Q5 Q6 Qu Xj Xa Qz Qh X9 Qy Qr Yh Zb Yg Xv Xs.putAll X7 Qc Q2 Q1 Qa Qb Q9 Q0 Q3 Q8
set_option maxHeartbeats 1000000 in
theorem Y2u(b:Nat){h:Heap}{v:Value}{xs:List Int}(s:SB h v xs)(hb:Bytes xs)(hn:xs.length < 1000000)(K:AEnd→Heap→Prop)(hk0:Zcw xs→∀ h',Old h h'→K (.ret (.tuple #[.slice none 0 0,.int .i64 16])) h')
  (hk:∀ l,xs.length≤256→pz xs.length xs=some l→l.length≤64→∀ lv os h',Qnb os=l→OpsAt h' h.next lv os→Old h h'→K (.ret (.tuple #[lv,.int .i64 0])) h'):FnK Tryd.prog (E b).G 56 [v] h K:=by
 refine Ur (E b) (Qa1 b) (Vj b) Wf (Qa5 b) (Us b) (Zg b) X6b Yrp Yid rfl ?_
 by_cases hlen:(256:Int) < (xs.length:Int)
 ·simp[Qcp s,hlen]
  exact hk0 (.inl (by omega)) h (Old.refl _)
 ·simp[Qcp s,hlen]
  refine Qfy (RPI v xs h) xs.length ⟨_,h,.slice none 0 0,0,[],rfl,?_,?_,?_,by omega,OpsAt.nil,Old.refl _,rfl,by simp,fun f hf=>⟨f,hf,by simp only[List.drop_zero];cases pz f xs <;> simp[Qnb]⟩⟩ ?_
  ·simp
  ·simp
  ·simp
  rintro n s' ⟨t,h1,lv,i,os,rfl,t0,t4,t5,hi,hos,hold,rfl,hcount,hpz⟩ _
  have e0:∀ h,Qkb (E b).toEnv 47 v h=some (.int .i64 (xs.length:Int)):=fun h=>Qcp s
  have s1:=s.old hold
  by_cases hlt:i < xs.length
  ·have hlt':(i:Int) < (xs.length:Int):=by omega
   obtain⟨c,hcx⟩:∃ c,xs[i]? = some c:=⟨_,List.getElem?_eq_getElem hlt⟩
   have hc:0≤c∧c < 256:=hb c (List.mem_of_getElem? hcx)
   have hdrop:xs.drop i=c::xs.drop (i+1):=by
    rw[List.drop_eq_getElem_cons hlt]
    rw[List.getElem?_eq_getElem hlt]at hcx
    cases hcx;rfl
   obtain⟨r,hr⟩:∃ r,r=xs.drop (i+1):=⟨_,rfl⟩
   have hrl:r.length=xs.length-(i+1):=by rw[hr,List.length_drop]
   rw[← hr]at hdrop
   obtain⟨bk,off,hblk,hix,hld⟩:=Xnf (b:=b) s1 (k:=.i64) hcx
   have hwc:IntKind.i64.wrap c=c:=Ug (by omega) (by omega)
   have hwi:IntKind.i64.wrap ((i:Int)+1)=(i:Int)+1:=Ug (by omega) (by omega)
   have hwn:IntKind.i64.wrap ((i:Int)+1+c)=(i:Int)+1+c:=Ug (by omega) (by omega)
   simp only[i8]at hld
   have hstop:c < 129∨139 < c→¬ (c≤64∧c≤r.length)→Zcw xs:=fun hq hpush=>by
    obtain⟨f1,hf1,q1⟩:=hpz xs.length (Nat.le_refl _)
    rw[hdrop]at hf1 q1
    obtain⟨f2,hf2,q2⟩:=X00 (c:=c) (r:=r) hf1
    refine .inr (.inl ?_)
    rw[q1,q2,if_neg hpush,if_pos (by omega)]
    rfl
   have hst0:Wg (h1.push (.cells true 1 [.int .i64 0,.slice none 0 0])) h1.next 0 [.int .i64 c,.slice none 0 0]=some ((h1.push (.cells true 1 [.int .i64 0,.slice none 0 0])).set h1.next (some (.cells true 1 [.int .i64 c,.slice none 0 0]))):=by
    rw[Qd2 (by rw[Heap.get_push,if_pos rfl]) (by simp)];rfl
   obtain⟨h3,e3⟩:∃ h3,h3=(h1.push (.cells true 1 [.int .i64 0,.slice none 0 0])).set h1.next (some (.cells true 1 [.int .i64 c,.slice none 0 0])):=⟨_,rfl⟩
   have g3:h3.get h1.next=some (.cells true 1 [.int .i64 c,.slice none 0 0]):=by rw[e3,Heap.get_set _ _ _ _ (by simp only[Qq8];omega),if_pos rfl]
   have a13:Old h1 h3:=by rw[e3];exact(Old.push _ _).set _ (Nat.le_refl _) (by simp only[Qq8];omega)
   have n3:h3.next=h1.next+1:=by rw[e3,Y49,Qq8]
   rw[← e3]at hst0
   by_cases p1:64 < c
   ·have p1':¬ c≤64:=by omega
    by_cases p3:c < 129
    ·simp[t0,t4,t5,e0,hlt',hix,hld,hwc,p1,p3]
     exact hk0 (hstop (.inl p3) (by omega)) h1 hold
    ·by_cases p4:139 < c
     ·simp[t0,t4,t5,e0,hlt',hix,hld,hwc,p1,p3,p4]
      exact hk0 (hstop (.inr p4) (by omega)) h1 hold
     ·have hld3:Qgi h3 h1.next 0 2=some (.agg ⟨[.int .i64 c,.slice none 0 0]⟩):=by rw[Qan g3 (by simp)];rfl
      have hbl:Jp (E b).toEnv 114 1 [(0,.agg ⟨[.int .i64 c,.slice none 0 0]⟩)] h3=some (.slice (some ⟨h3.next,0,none⟩) 1 1,h3.push (.cells true 1 [.int .i64 c,.slice none 0 0])):=Q4t (Zfl b) Qp8 (by omega) (by omega) rfl rfl rfl
      obtain⟨lv',h7,hA,hO,hB, -⟩:=OpsAt.app (b:=b) (Zfl b) Qp8 Ymp hos a13 hold.1 (by omega) (p:=⟨c,[],.slice none 0 0⟩) Own.nil
      simp only[OpV.cells]at hA
      simp[t0,t4,t5,e0,hlt',hix,hld,hwc,p1,p1',p3,p4,Yy2,hst0,hwi,hld3,hbl,hA]
      refine⟨xs.length-(i+1),by omega,_,h7,lv',i+1,_,rfl,by simp[t0],by simp,by simp,by omega,hO,hB.old (hold.trans a13) (hos.old a13).row,rfl,by simp;omega,fun f hf => ?_⟩
      obtain⟨f1,hf1,q1⟩:=hpz f hf
      rw[hdrop]at hf1 q1
      obtain⟨f2,hf2,q2⟩:=X00 (c:=c) (r:=r) hf1
      refine⟨f2,by rw[← hr];exact hf2,?_⟩
      rw[q1,q2,if_neg (by omega),if_neg (by omega),Option.map_map,← hr]
      congr 1
      funext l
      simp[Qnb]
   ·have p1':c≤64:=by omega
    by_cases p2:(xs.length:Int) < (i:Int)+1+c
    ·simp[t0,t4,t5,e0,hlt',hix,hld,hwc,p1,p1',p2,hwi,hwn]
     exact hk0 (hstop (.inl (by omega)) (by omega)) h1 hold
    ·have hpush:c≤64∧c≤(r.length:Int):=⟨p1',by omega⟩
     obtain⟨pv,h4,hs2,sb2,a4⟩:=Zjg (b:=b) (s1.old a13) (k:=.i64) (k2:=.i64) (i:=(i:Int)+1) (j:=(i:Int)+1+c) (by omega) (by omega) (by omega)
     have e5:(xs.drop ((i:Int)+1).toNat).take (((i:Int)+1+c).toNat-((i:Int)+1).toNat)=r.take c.toNat:=by
      rw[show((i:Int)+1).toNat=i+1 by omega,show((i:Int)+1+c).toNat-(i+1)=c.toNat by omega,← hr]
     rw[e5]at sb2
     simp[t0,t4,t5,e0,hlt',hix,hld,hwc,p1,p1',p2,hwi,hwn,Yy2,hst0,hs2]
     refine Xj8 b sb2 (by rw[List.length_take];omega) _ fun dv h5 od a5 => ?_
     have g5:h5.get h1.next=some (.cells true 1 [.int .i64 c,.slice none 0 0]):=(a4.trans a5).get g3
     have hst1:Wg h5 h1.next 1 [dv]=some (h5.set h1.next (some (.cells true 1 [.int .i64 c,dv]))):=by rw[Qbz g5 (by simp)];rfl
     obtain⟨h6,e6⟩:∃ h6,h6=h5.set h1.next (some (.cells true 1 [.int .i64 c,dv])):=⟨_,rfl⟩
     have n5:h1.next < h5.next:=by have:=a5.1;have:=a4.1;omega
     have g6:h6.get h1.next=some (.cells true 1 [.int .i64 c,dv]):=by rw[e6,Heap.get_set _ _ _ _ n5,if_pos rfl]
     have a16:Old h1 h6:=by rw[e6];exact((a13.trans a4).trans a5).set _ (Nat.le_refl _) n5
     rw[← e6]at hst1
     have od6:OB h6 h4.next dv (r.take c.toNat):=od.keep fun k hk hlt=>by
      have:=od.from hk
      have:=a4.1
      rw[e6,Heap.get_set _ _ _ _ n5,if_neg (by omega)]
     have hld6:Qgi h6 h1.next 0 2=some (.agg ⟨[.int .i64 c,dv]⟩):=by rw[Qan g6 (by simp)];rfl
     have hbl:Jp (E b).toEnv 114 1 [(0,.agg ⟨[.int .i64 c,dv]⟩)] h6=some (.slice (some ⟨h6.next,0,none⟩) 1 1,h6.push (.cells true 1 [.int .i64 c,dv])):=Q4t (Zfl b) Qp8 (by omega) (by omega) rfl rfl rfl
     obtain⟨lv',h7,hA,hO,hB, -⟩:=OpsAt.app (b:=b) (Zfl b) Qp8 Ymp hos a16 hold.1 (by omega) (p:=⟨c,r.take c.toNat,dv⟩) (od6.low (by have:=a13.1;have:=a4.1;omega))
     simp only[OpV.cells]at hA
     simp[Znb b _ _ _ dv od.one,hst1,hwn,hld6,hbl,hA,t4]
     refine⟨xs.length-(i+1+c.toNat),by omega,_,h7,lv',i+1+c.toNat,_,rfl,by simp[t0],by simp,by simp;omega,by omega,hO,hB.old (hold.trans a16) (hos.old a16).row,rfl,by simp;omega,fun f hf => ?_⟩
     obtain⟨f1,hf1,q1⟩:=hpz f hf
     rw[hdrop]at hf1 q1
     obtain⟨f2,hf2,q2⟩:=X00 (c:=c) (r:=r) hf1
     have e8:xs.drop (i+1+c.toNat)=r.drop c.toNat:=by rw[hr,List.drop_drop]
     refine⟨f2,by rw[e8,List.length_drop];omega,?_⟩
     rw[q1,q2,if_pos hpush,Option.map_map,e8]
     congr 1
     funext l
     simp[Qnb]
  ·have : i=xs.length:=by omega
   subst this
   obtain⟨f',hf',hp⟩:=hpz xs.length (Nat.le_refl _)
   have hp':pz xs.length xs=some (Qnb os):=by
    rw[hp,List.drop_length];cases f' <;> simp[pz]
   have hlv:=Qdf (Zfl b) hos.row.sl (h1:=h1)
   by_cases h64:(64:Int) < (os.length:Int)
   ·simp[t0,t4,t5,e0,hlv,h64]
    exact hk0 (.inr (.inr ⟨_,hp',by rw[Xk2];omega⟩)) h1 hold
   ·simp[t0,t4,t5,e0,hlv,h64]
    exact hk _ (by omega) hp' (by rw[Xk2];omega) lv os h1 rfl hos hold
end
end Go.Proofs.YtgeeklmjfbiieaaDoor
end
noncomputable section
namespace Go.Proofs.YtgeeklmjfbiieaaDoor
open Go Go.Ab
set_option maxRecDepth 100000
theorem Zay(b:Nat){h:Heap}(hl:Ab.LaidIn h laidAll)(K:AEnd→Heap→Prop)(hk:K (.ret (.bool true)) h):FnK Tryd.prog (E b).G 15 [] h K :=
 ⟨_,_,Xxx (k:=10000) (m:=30) Wf Y14 Yyq Yk4 rfl hl Yny (bs:=[]) rfl (by simp) (fun k d r hd _=>by simp at hd) Qrk,Nat.le_refl _,hk⟩
theorem Laid.old{h h':Heap}(hl:Ab.LaidIn h laidAll)(a:Old h h'):Ab.LaidIn h' laidAll:=fun x hx=>a.get (hl x hx)
theorem Yn4:∀ {os:List OpV} {i:Nat} {o:OpV},os[i]? = some o→(Q86 os)[i*2]? = some (.int .i64 o.code)∧(Q86 os)[i*2+1]? = some o.val
 | p::os,0,o,h=>by simp at h;subst h;simp[Q86,OpV.cells]
 | p::os,i+1,o,h=>by
  have:=Yn4 (os:=os) (i:=i) (o:=o) (by simpa using h)
  have e:Q86 (p::os)=.int .i64 p.code::p.val::Q86 os:=rfl
  rw[e,show(i+1)*2=i*2+1+1 by omega]
  simpa using this
theorem Zgx{b:Nat}{h:Heap}{n0:Nat}{lv:Value}{os:List OpV}{te ts:TypeId}{re rs:TyRec}(T:SlTy (E b).toEnv te ts re rs)(hz:re.size=2)(o:Own h n0 2 lv os.length (Q86 os)){i:Nat}{p:OpV}(hp:os[i]? = some p) :
  ∃ bk off,U7 lv=some bk∧Zn (E b).toEnv ts lv (.int .i64 (i:Int))=some (.pointer (some ⟨bk,off,none⟩))∧V2 h bk off=some (.int .i64 p.code)∧V2 h bk (off+1)=some p.val:=by
 have hl:i < os.length:=(List.getElem?_eq_some_iff.1 hp).1
 obtain⟨bk,off,h1,h2,h3, -⟩:=Xfu T hz o.sl (k:=.i64) (i:=(i:Int)) (by omega) (by omega)
 obtain⟨q1,q2⟩:=Yn4 hp
 have e0:=h3 0 (by omega)
 have e1:=h3 1 (by omega)
 simp only[Int.toNat_natCast,Nat.add_zero]at e0 e1
 exact⟨bk,off,h1,h2,by rw[e0,q1],by rw[e1,q2]⟩
theorem Yrv:∀ {f:Nat} {xs:List Int} {l:List (Int × List Int)},pz f xs=some l→∀ p ∈ l,p.2.length≤64
 | f,[],l,h=>by cases f <;> (simp[pz]at h;subst h;simp)
 | 0,_::_,l,h=>by simp[pz]at h
 | f+1,c::r,l,h=>by
  simp only[pz]at h
  split at h
  ·rename_i hc
   rw[Option.map_eq_some_iff]at h
   obtain⟨l',h1,rfl⟩:=h
   intro p hp
   rcases List.mem_cons.1 hp with rfl | hp
   ·simp only[List.length_take];omega
   ·exact Yrv h1 p hp
  ·split at h
   ·cases h
   ·rw[Option.map_eq_some_iff]at h
    obtain⟨l',h1,rfl⟩:=h
    intro p hp
    rcases List.mem_cons.1 hp with rfl | hp
    ·simp
    ·exact Yrv h1 p hp
end Go.Proofs.YtgeeklmjfbiieaaDoor
end
noncomputable section
namespace Go.Proofs.YtgeeklmjfbiieaaDoor
open Go Go.Ab
set_option maxRecDepth 100000
structure Menv where
 nk:Value
 dig:List Value
 lk:Int
 hd:dig.length=32
def Menv.cells(e:Menv):List Value:=e.nk::e.dig ++ [.int .i64 e.lk]
theorem Menv.len(e:Menv):e.cells.length=34:=by simp[Menv.cells,e.hd]
structure Br where
 off:Bool
 dead:Bool
 turned:Bool
def Br.cells(x:Br):List Value:=[.bool x.off,.bool x.dead,.bool x.turned]
def Qfd(l:List Br):List Value:=l.flatMap Br.cells
theorem Q76(l:List Br):(Qfd l).length=l.length*3:=by
 induction l with
 | nil=>rfl
 | cons x l ih=>simp[Qfd,Br.cells]at ih ⊢;omega
structure Itm (h:Heap) (MB:Nat→Prop) (v:Value) (x:List Int):Prop where
 sb:SB h v x
 by8:Bytes x
 out:∀ c,U7 v=some c→¬ MB c
structure Mv (MB MB':Nat→Prop) (h h':Heap):Prop where
 next:h.next≤h'.next
 same:∀ c,c < h.next→¬ MB c→h'.get c=h.get c
 sub:∀ c,MB' c→MB c∨h.next≤c
theorem Mv.refl(MB:Nat→Prop)(h:Heap):Mv MB MB h h:=⟨Nat.le_refl _,fun _ _ _=>rfl,fun _ h => .inl h⟩
theorem Mv.trans{A B C:Nat→Prop}{h h' h'':Heap}(a:Mv A B h h')(c:Mv B C h' h''):Mv A C h h'' :=
  ⟨Nat.le_trans a.next c.next,fun k hk hn=>by
    rw[c.same k (Nat.lt_of_lt_of_le hk a.next) (fun hb=>by
      rcases a.sub k hb with h | h
      · exact hn h
      · omega),a.same k hk hn],
   fun k hk=>by
    rcases c.sub k hk with h | h
    · exact a.sub k h
    · exact .inr (Nat.le_trans a.next h)⟩
theorem Mv.old{MB:Nat→Prop}{h h':Heap}(a:Old h h'):Mv MB MB h h':=⟨a.1,fun c hc _=>a.2 c hc,fun _ h => .inl h⟩
theorem Itm.mv{MB MB':Nat→Prop}{h h':Heap}{v:Value}{x:List Int}(i:Itm h MB v x)(m:Mv MB MB' h h'):Itm h' MB' v x :=
 ⟨i.sb.keep fun c hc hl=>m.same c hl (i.out c hc),i.by8,fun c hc hm=>by
  rcases m.sub c hm with h | h
  ·exact i.out c hc h
  ·have:=i.sb.blk hc;omega⟩
structure MRow (h:Heap) (MB:Nat→Prop) (μ:Nat) (e:Menv) (ps:List (Value × List Int)) (op:List Br) (sv ov:Value) (z:Nat):Prop where
 at':h.get μ=some (.cells true z (e.cells ++ [sv,ov]))
 mb:MB μ
 st:Own h 0 1 sv ps.length (ps.reverse.map (·.1))
 op:Own h 0 3 ov op.length (Qfd op.reverse)
 ms:∀ c,U7 sv=some c→MB c∧c≠μ
 mo:∀ c,U7 ov=some c→MB c∧c≠μ∧U7 sv≠some c
structure Mach (h:Heap) (MB:Nat→Prop) (μ:Nat) (e:Menv) (ps:List (Value × List Int)) (op:List Br):Prop where
 row:∃ sv ov z,MRow h MB μ e ps op sv ov z
 items:∀ p ∈ ps,Itm h MB p.1 p.2
 low:∀ c,MB c→c < h.next
theorem Zof(e:Menv)(a c:Value):(e.cells ++ [a,c])[34]? = some a:=by rw[List.getElem?_append_right (by rw[e.len];omega),e.len];rfl
theorem Zjk(e:Menv)(a c:Value):(e.cells ++ [a,c])[35]? = some c:=by rw[List.getElem?_append_right (by rw[e.len];omega),e.len];rfl
theorem Zmu(e:Menv)(a c x:Value):(e.cells ++ [a,c]).set 34 x=e.cells ++ [x,c]:=by rw[List.set_append_right _ _ (by rw[e.len];omega),e.len];rfl
theorem Zn0(e:Menv)(a c x:Value):(e.cells ++ [a,c]).set 35 x=e.cells ++ [a,x]:=by rw[List.set_append_right _ _ (by rw[e.len];omega),e.len];rfl
theorem MRow.c34{h:Heap}{MB:Nat→Prop}{μ z:Nat}{e:Menv}{ps:List (Value × List Int)}{op:List Br}{sv ov:Value}(m:MRow h MB μ e ps op sv ov z):V2 h μ 34=some sv:=by rw[Up m.at',Zof]
theorem MRow.c35{h:Heap}{MB:Nat→Prop}{μ z:Nat}{e:Menv}{ps:List (Value × List Int)}{op:List Br}{sv ov:Value}(m:MRow h MB μ e ps op sv ov z):V2 h μ 35=some ov:=by rw[Up m.at',Zjk]
theorem MRow.s34{h:Heap}{MB:Nat→Prop}{μ z:Nat}{e:Menv}{ps:List (Value × List Int)}{op:List Br}{sv ov:Value}(m:MRow h MB μ e ps op sv ov z)(x:Value):Wg h μ 34 [x]=some (h.set μ (some (.cells true z (e.cells ++ [x,ov])))):=by rw[Qbz m.at' (by simp[e.len]),Zmu]
theorem MRow.s35{h:Heap}{MB:Nat→Prop}{μ z:Nat}{e:Menv}{ps:List (Value × List Int)}{op:List Br}{sv ov:Value}(m:MRow h MB μ e ps op sv ov z)(x:Value):Wg h μ 35 [x]=some (h.set μ (some (.cells true z (e.cells ++ [sv,x])))):=by rw[Qbz m.at' (by simp[e.len]),Zn0]
theorem Qax(a:Addr):Xla (.pointer (some a))=some (.pointer (some a)):=Eq.trans rfl rfl
def pe(z:Int):List PanicEntry:=[{v:=.iface 35 (.int .i64 z),recovered:=false}]
section
attribute [local simp] X2 Xp Xm Xk Xt Qt X0 Xn X8 Qx Xo Q4 Xf Z4 Yt aop Qg nth Ab.g0 gv gs Q7 Qd aev evs evO Qi Tr.get_put St.put Tm.put flat flatA Yu Qp Qo Qm Qq Ql Qn Qk X3 Qj Q5 Q6 Qu Xj Xa Qz Qh X9 Qy Qr Yh Zb Yg Xv Xs.putAll X7 Qc Q2 Q1 Qa Qb Q9 Q0 Q3 Q8
theorem Xam(b:Nat)(h:Heap)(z:Int)(K:AEnd→Heap→Prop)(hk:K (.ret (.tuple #[])) h):FnK Tryd.prog (E b).G 50 [.bool true,.int .i64 z] h K:=by
 refine Ur (E b) (Qa1 b) (Vj b) Wf (Qa5 b) (Us b) (X2 b) Xaq Xv6 Xp9 rfl ?_
 simp[Qtl,Xol,Zld]
 exact hk
theorem Q15(b:Nat)(h:Heap)(z:Int)(K:AEnd→Heap→Prop)(hk:K (.panic (pe z)) h):FnK Tryd.prog (E b).G 50 [.bool false,.int .i64 z] h K:=by
 refine Ur (E b) (Qa1 b) (Vj b) Wf (Qa5 b) (Us b) (X2 b) Xaq Xv6 Xp9 rfl ?_
 simp[Qtl,Xol,Zld]
 exact hk
theorem Qx7(b:Nat){h:Heap}{MB:Nat→Prop}{μ:Nat}{e:Menv}{op:List Br}(M:Mach h MB μ e [] op)(K:AEnd→Heap→Prop)(hk:K (.panic (pe 16)) h):FnK Tryd.prog (E b).G 86 [.pointer (some ⟨μ,0,none⟩)] h K:=by
 refine Ur (E b) (Qa1 b) (Vj b) Wf (Qa5 b) (Us b) (Qe b) Qpm Que Qtf rfl ?_
 obtain⟨⟨sv,ov,z,r⟩, -, -⟩:=M
 have e0:∀ h1,Qkb (E b).toEnv 43 sv h1=some (.int .i64 0):=fun h1=>Qdf (T43 b) r.st.sl
 simp[Un,Qa0,Qe,Qaz,Vr,V4,Zk,Vq,Qai,Z8,Qjb,Qax,r.c34,e0]
 refine Q15 b h 16 _ ?_
 simp[Un,Qa0,Qe,Qaz,Vr,V4,Zk,Vq,Qai,Z8,Qjb]
 exact hk
theorem Qn2(b:Nat){h:Heap}{MB:Nat→Prop}{μ:Nat}{e:Menv}{v:Value}{x:List Int}{ps:List (Value × List Int)}{op:List Br}(M:Mach h MB μ e ((v,x)::ps) op)(hl:ps.length < 1000)(K:AEnd→Heap→Prop)(hk:∀ h',Mach h' MB μ e ps op→Mv MB MB h h'→h'.next=h.next→Itm h' MB v x→(∀ ov,V2 h μ 35=some ov→V2 h' μ 35=some ov)→K (.ret v) h'):FnK Tryd.prog (E b).G 86 [.pointer (some ⟨μ,0,none⟩)] h K:=by
 refine Ur (E b) (Qa1 b) (Vj b) Wf (Qa5 b) (Us b) (Qe b) Qpm Que Qtf rfl ?_
 obtain⟨⟨sv,ov,z,r⟩,its,low⟩:=M
 have e0:∀ h1,Qkb (E b).toEnv 43 sv h1=some (.int .i64 ((ps.length:Int)+1)):=fun h1=>by have:=Qdf (T43 b) r.st.sl (h1:=h1);simpa using this
 have h0:(0:Int) < (ps.length:Int)+1:=by omega
 have hw:IntKind.i64.wrap (ps.length:Int)=(ps.length:Int):=Ug (by omega) (by omega)
 obtain⟨bk,o,q1,q2,q3, -⟩:=Xfu (T43 b) Qdj r.st.sl (k:=.i64) (i:=(ps.length:Int)) (by omega) (by simp;try omega)
 have q4:V2 h bk o=some v:=by
  have:=q3 0 (by omega)
  simpa using this
 obtain⟨sv',t1,t2,t3⟩:=Ynn (T43 b) Qdj (by omega) r.st (k:=.i64) (i:=(ps.length:Int)) (by omega) (by simp;try omega)
 have t2':Own h 0 1 sv' ps.length (ps.reverse.map (·.1)):=by simpa using t2
 have st:Qeu (E b).toEnv 43 (.pointer (some ⟨μ,34,none⟩)) sv' h=_:=(Zcj b h μ 34 sv' t2'.one).trans (r.s34 sv')
 simp[Un,Qa0,Qe,Qaz,Vr,V4,Zk,Vq,Qai,Z8,Qjb,Qax,r.c34,e0,h0]
 refine Xam b h 16 _ ?_
 simp[Un,Qa0,Qe,Qaz,Vr,V4,Zk,Vq,Qai,Z8,Qjb]
 refine Qeo [] (by simp) Qyx Qzt Qys (by simp[Ab.runT,Z2,Yp,ldv,Nat.testBit,Vu,Zc,Yy,Zf,loadAt,Qa6,J9,Q2r,Un,Qa0,Qe,Qaz,Vr,V4,Zk,Vq,Qai,Z8,Qjb,Qax,r.c34,e0,hw,q2,q4];exact⟨rfl,rfl⟩) ?_ ?_
 ·simp[Z2,Yp,Qe9,ldv,Ab.runT,Z2,Yp,ldv,Nat.testBit,Vu,Zc,Yy,Zf,loadAt,Qa6,J9,Un,Qa0,Qe,Qaz,Vr,V4,Zk,Vq,Qai,Z8,Qjb]
 simp[Un,Qa0,Qe,Qaz,Vr,V4,Zk,Vq,Qai,Z8,Qjb]
 have hos:X5n (some sv) (some sv)=true:=X9r r.st
 refine Qeo [] (by simp) Qxr Qzz Qxk (by simp[Ab.runT,Z2,Yp,ldv,Nat.testBit,Vu,Zc,Yy,Zf,loadAt,Qa6,J9,Q1b,Q1u,Un,Qa0,Qe,Qaz,Vr,V4,Zk,Vq,Qai,Z8,Qjb,Qax,r.c34,e0,hw,t1,st];exact⟨rfl,rfl⟩) ?_ ?_
 ·simp[Z2,Yp,Qbo,ldv,Ab.runT,Z2,Yp,ldv,Nat.testBit,Vu,Zc,Yy,Zf,loadAt,Qa6,J9,Un,Qa0,Qe,Qaz,Vr,V4,Zk,Vq,Qai,Z8,Qjb,hos,r.c34]
 simp[Un,Qa0,Qe,Qaz,Vr,V4,Zk,Vq,Qai,Z8,Qjb]
 have hlt:=Heap.get_lt r.at'
 have mv:Mv MB MB h (h.set μ (some (.cells true z (e.cells ++ [sv',ov])))):=⟨Nat.le_refl _,fun c _ hn=>by rw[Heap.get_set _ _ _ _ hlt,if_neg (fun q=>hn (by subst q;exact r.mb))],fun _ h => .inl h⟩
 have kp:∀ c,c≠μ→(h.set μ (some (.cells true z (e.cells ++ [sv',ov])))).get c=h.get c:=fun c hc=>by rw[Heap.get_set _ _ _ _ hlt,if_neg (Ne.symm hc)]
 refine hk _ ⟨⟨sv',ov,z,?_⟩,fun p hp=>(its p (by simp[hp])).mv mv,low⟩ mv rfl ((its (v,x) (by simp)).mv mv) fun ov9 q=>by
  rw[r.c35]at q
  rw[Up (by rw[Heap.get_set _ _ _ _ hlt,if_pos rfl]),Zjk,q]
 exact⟨by rw[Heap.get_set _ _ _ _ hlt,if_pos rfl],r.mb,t2'.keep fun c hc _=>kp c (r.ms c (t3 ▸ hc)).2,r.op.keep fun c hc _=>kp c (r.mo c hc).2.1,fun c hc=>r.ms c (t3 ▸ hc),fun c hc=>by rw[t3];exact r.mo c hc⟩
theorem Q8l(b:Nat){h:Heap}{MB:Nat→Prop}{μ:Nat}{e:Menv}{v:Value}{x:List Int}{ps:List (Value × List Int)}{op:List Br}(M:Mach h MB μ e ps op)(i:Itm h MB v x)(hl:ps.length < 16)(K:AEnd→Heap→Prop)(hk:∀ h' MB',Mach h' MB' μ e ((v,x)::ps) op→Mv MB MB' h h'→K (.ret (.tuple #[])) h'):FnK Tryd.prog (E b).G 83 [.pointer (some ⟨μ,0,none⟩),v] h K:=by
  refine Ur (E b) (Qa1 b) (Vj b) Wf (Qa5 b) (Us b) (X4 b) Qos Qt9 Qr3 rfl ?_
  obtain⟨⟨sv,ov,z,r⟩,its,low⟩:=M
  have e0:∀ h1,Qkb (E b).toEnv 43 sv h1=some (.int .i64 (ps.length:Int)):=fun h1=>Qdf (T43 b) r.st.sl
  have h0:(ps.length:Int) < 16:=by omega
  have hv:=i.sb.one
  obtain⟨hnt,hcl⟩:=Qrn hv
  have hb:=Q4t (T43 b) (z:=1) Qdj (by omega) (by omega) hnt (ys:=[v]) (by rw[hcl]) rfl (h:=h)
  obtain⟨sv',h2,a1,a2,a3,a4⟩:=Qns (T43 b) Qdj (by omega) r.st (Nat.zero_le _) (ys:=[v]) rfl (by rw[Xve];omega) (by omega)
  have hlt:=Heap.get_lt r.at'
  have g2:h2.get μ=some (.cells true z (e.cells ++ [sv,ov])):=by rw[a3.2 μ hlt fun q=>(r.ms _ q).2 rfl];exact r.at'
  have st:Qeu (E b).toEnv 43 (.pointer (some ⟨μ,34,none⟩)) sv' h2=some (h2.set μ (some (.cells true z (e.cells ++ [sv',ov])))):=(Zcj b h2 μ 34 sv' a2.one).trans (by rw[Qbz g2 (by simp[e.len]),Zmu])
  simp[Qdt,Qhg,X4,Qaz,Vr,V4,Xw,Qjb,Qax,r.c34,e0,h0]
  refine Xam b h 16 _ ?_
  simp[Qdt,Qhg,X4,Qaz,Vr,V4,Xw,Qjb,Qax,r.c34,e0,h0,hb,a1,st]
  have hlt2:μ < h2.next:=Heap.get_lt g2
  have mv:Mv MB (fun c=>MB c∨U7 sv'=some c) h (h2.set μ (some (.cells true z (e.cells ++ [sv',ov])))) :=
    ⟨a3.1,fun c hc hn=>by rw[Heap.get_set _ _ _ _ hlt2,if_neg (fun q=>hn (by subst q;exact r.mb)),a3.2 c hc (fun q=>hn (r.ms c q).1)],
     fun c hc=>by
      rcases hc with hc | hc
      · exact .inl hc
      · rcases a4 c hc with q | q
        · exact .inl (r.ms c q).1
        · exact .inr q⟩
  have nμ:∀ c,U7 sv'=some c→c≠μ:=fun c hc=>by
    rcases a4 c hc with q | q
    · exact(r.ms c q).2
    · omega
  refine hk _ _ ⟨⟨sv',ov,z,?_⟩,?_,?_⟩ mv
  · refine⟨by rw[Heap.get_set _ _ _ _ hlt2,if_pos rfl],.inl r.mb,?_,?_,fun c hc=>⟨.inr hc,nμ c hc⟩,fun c hc=>⟨.inl (r.mo c hc).1,(r.mo c hc).2.1,fun q => ?_⟩⟩
    · have : Own h2 0 1 sv' ((v,x)::ps).length (((v,x)::ps).reverse.map (·.1)):=by simpa using a2
      exact this.keep fun c hc _=>by rw[Heap.get_set _ _ _ _ hlt2,if_neg (Ne.symm (nμ c hc))]
    · exact r.op.keep fun c hc hlt3=>by rw[Heap.get_set _ _ _ _ hlt2,if_neg (Ne.symm (r.mo c hc).2.1),a3.2 c hlt3 (r.mo c hc).2.2]
    · rcases a4 c q with q | q
      · exact(r.mo c hc).2.2 q
      · have:=r.op.out hc;omega
  · intro p hp
    simp only[List.mem_cons]at hp
    rcases hp with rfl | hp
    · exact i.mv mv
    · exact(its p hp).mv mv
  · rintro c (hc | hc)
    · exact Nat.lt_of_lt_of_le (low c hc) a3.1
    · exact a2.out hc
theorem Q5h(b:Nat){h:Heap}{MB:Nat→Prop}{μ:Nat}{e:Menv}{v:Value}{ps:List (Value × List Int)}{op:List Br}(M:Mach h MB μ e ps op)(hl:16≤ps.length)(K:AEnd→Heap→Prop)(hk:K (.panic (pe 16)) h):FnK Tryd.prog (E b).G 83 [.pointer (some ⟨μ,0,none⟩),v] h K:=by
 refine Ur (E b) (Qa1 b) (Vj b) Wf (Qa5 b) (Us b) (X4 b) Qos Qt9 Qr3 rfl ?_
 obtain⟨⟨sv,ov,z,r⟩,its,low⟩:=M
 have e0:∀ h1,Qkb (E b).toEnv 43 sv h1=some (.int .i64 (ps.length:Int)):=fun h1=>Qdf (T43 b) r.st.sl
 have h0:¬ (ps.length:Int) < 16:=by omega
 simp[Qdt,Qhg,X4,Qaz,Vr,V4,Xw,Qjb,Qax,r.c34,e0,h0]
 refine Q15 b h 16 _ ?_
 simp[Qdt,Qhg,X4,Qaz,Vr,V4,Xw,Qjb]
 exact hk
end
end Go.Proofs.YtgeeklmjfbiieaaDoor
end
noncomputable section
namespace Go.Proofs.YtgeeklmjfbiieaaDoor
open Go Go.Ab
set_option maxRecDepth 100000
def isT(x:List Int):Bool:=x.any fun z=>z != 0
def TLI(v:Value)(xs:List Int)(h:Heap)(k:Nat)(s:St):Prop:=∃ (t:Tr Value) (h1:Heap) (w:Value) (ys:List Int),s=⟨⟨21,t⟩,[],h1⟩∧t.get 0=some w∧t.get 1=some (.int .u8 0)∧SB h1 w ys∧Old h h1∧k=ys.length∧ys.length≤xs.length∧isT ys=isT xs∧t.get 4=some (.slice none 0 0)
section
attribute [local simp] Qeb Qib Wy Qgt Yj Zk Uh Qd8 Quj Qgu Qg2 Y4 Qfx Xp Xm Xk Xt Qt X0 Xn X8 Qx Xo Q4 Xf Z4 Yt aop Qg nth Ab.g0 gv gs Q7 Qd aev evs evO Qi Tr.get_put St.put Tm.put flat flatA Yu Qp Qo Qm Qq Ql Qn Qk X3 Qj Q5 Q6 Qu Xj Xa Qz Qh X9 Qy Qr Yh Zb Yg Xv Xs.putAll X7 Qc Q2 Q1 Qa Qb Q9 Q0 Q3 Q8
theorem Zck(b:Nat){h:Heap}{v:Value}{xs:List Int}(s:SB h v xs)(hn:xs.length < 1000000000)(K:AEnd→Heap→Prop)(hk:∀ w ys h',SB h' w ys→ys.length≤xs.length→isT ys=isT xs→(ys=[]∨ys.head? ≠ some 0)→Old h h'→K (.ret w) h'):FnK Tryd.prog (E b).G 124 [v,.int .u8 0] h K:=by
 refine Ur (E b) (Qa1 b) (Vj b) Wf (Qa5 b) (Us b) (Wy b) Q7p Xnk Xl6 rfl ?_
 simp
 refine Qfy (TLI v xs h) xs.length ⟨_,h,v,xs,rfl,by simp,by simp,s,Old.refl _,rfl,Nat.le_refl _,rfl,by simp⟩ ?_
 rintro k s' ⟨t,h1,w,ys,rfl,t0,t1,sw,hold,rfl,hle,hT,t4⟩ _
 have e0:=fun h1=>Qcp (b:=b) (h1:=h1) sw
 cases ys with
 | nil =>
  simp at e0
  simp[t0,t1,t4,e0]
  exact hk _ [] h1 Sl.nil (by simp) hT (.inl rfl) hold
 | cons z r =>
  obtain⟨bk,off,hblk,hix,hld⟩:=Xnf (b:=b) sw (k:=.i64) (i:=0) (z:=z) rfl
  have hpos:(0:Int) < (r.length:Int)+1:=by omega
  have hne:¬ ((r.length:Int)+1=0):=by omega
  simp at e0 hix
  by_cases hz:z=0
  ·subst hz
   obtain⟨w',h2,q1,q2,q3,q4,q5⟩:=Ytr (b:=b) sw (k:=.i64) (i:=1) (by omega) (by simp;omega)
   simp only[i8]at hld
   simp[t0,t1,t4,e0,hpos,hix,hld,q1]
   exact⟨r.length,by omega,_,h2,w',r,rfl,by simp,by simp[t1],by simpa using q2,hold.trans q3,rfl,by simp at hle;omega,by rw[← hT];simp[isT],by simp[t4]⟩
  ·simp only[i8]at hld
   simp[t0,t1,t4,e0,hpos,hne,hix,hld,hz]
   exact hk w (z::r) h1 sw hle hT (.inr (by simpa using hz)) hold
end
def TRI(v:Value)(xs:List Int)(h:Heap)(k:Nat)(s:St):Prop:=∃ (t:Tr Value) (w:Value) (ys:List Int),s=⟨⟨24,t⟩,[],h⟩∧t.get 0=some w∧t.get 1=some (.int .u8 0)∧SB h w ys∧k=ys.length∧ys.length≤xs.length∧isT ys=isT xs∧t.get 4=some (.slice none 0 0)
section
attribute [local simp] Qdv Qhe Wi Qg4 Yj Zk Vq Uh Qd8 Quj Qg9 Qfn Xp Xm Xk Xt Qt X0 Xn X8 Qx Xo Q4 Xf Z4 Yt aop Qg nth Ab.g0 gv gs Q7 Qd aev evs evO Qi Tr.get_put St.put Tm.put flat flatA Yu Qp Qo Qm Qq Ql Qn Qk X3 Qj Q5 Q6 Qu Xj Xa Qz Qh X9 Qy Qr Yh Zb Yg Xv Xs.putAll X7 Qc Q2 Q1 Qa Qb Q9 Q0 Q3 Q8
theorem Zbs(b:Nat){h:Heap}{v:Value}{xs:List Int}(s:SB h v xs)(hn:xs.length < 1000000000)(K:AEnd→Heap→Prop)(hk:∀ w ys,SB h w ys→ys.length≤xs.length→isT ys=isT xs→K (.ret w) h):FnK Tryd.prog (E b).G 125 [v,.int .u8 0] h K:=by
 refine Ur (E b) (Qa1 b) (Vj b) Wf (Qa5 b) (Us b) (Wi b) Q56 Xin Xf9 rfl ?_
 simp
 refine Qfy (TRI v xs h) xs.length ⟨_,v,xs,rfl,by simp,by simp,s,rfl,Nat.le_refl _,rfl,by simp⟩ ?_
 rintro k s' ⟨t,w,ys,rfl,t0,t1,sw,rfl,hle,hT,t4⟩ _
 have e0:=fun h1=>Qcp (b:=b) (h1:=h1) sw
 rcases List.eq_nil_or_concat ys with rfl | ⟨r,z,rfl⟩
 ·simp at e0
  simp[t0,t1,t4,e0]
  exact hk _ [] sw (by simp) hT
 ·rw[List.concat_eq_append]at *
  obtain⟨bk,off,hblk,hix,hld⟩:=Xnf (b:=b) sw (k:=.i64) (i:=r.length) (z:=z) (by simp)
  have hpos:(0:Int) < (r.length:Int)+1:=by omega
  have hwr:IntKind.i64.wrap (r.length:Int)=(r.length:Int):=by
   simp at hle
   exact Ug (by omega) (by omega)
  simp at e0 hix
  simp only[i8]at hld
  by_cases hz:z=0
  ·subst hz
   obtain⟨w',q1,q2,q3⟩:=Zi7 (b:=b) sw (k:=.i64) (i:=(r.length:Int)) (by omega) (by simp;try omega)
   simp[t0,t1,t4,e0,hpos,hix,hld,hwr,q1]
   exact⟨r.length,by simp,_,w',r,rfl,by simp,by simp[t1],by simpa using q2,rfl,by simp at hle;omega,by rw[← hT];simp[isT],by simp[t4]⟩
  ·simp[t0,t1,t4,e0,hpos,hix,hld,hwr,hz]
   exact hk w (r ++ [z]) sw hle hT
end
section
attribute [local simp] Qic Yj Xp Xm Xk Xt Qt X0 Xn X8 Qx Xo Q4 Xf Z4 Yt aop Qg nth Ab.g0 gv gs Q7 Qd aev evs evO Qi Tr.get_put St.put Tm.put flat flatA Yu Qp Qo Qm Qq Ql Qn Qk X3 Qj Q5 Q6 Qu Xj Xa Qz Qh X9 Qy Qr Yh Zb Yg Xv Xs.putAll X7 Qc Q2 Q1 Qa Qb Q9 Q0 Q3 Q8
theorem Zjy(b:Nat){h:Heap}{v:Value}{xs:List Int}(s:SB h v xs)(hn:xs.length < 1000000000)(K:AEnd→Heap→Prop)(hk:∀ w (n:Nat) h',(∀ h1,Qkb (E b).toEnv 47 w h1=some (.int .i64 n))→decide (0 < n)=isT xs→Old h h'→K (.ret w) h'):FnK Tryd.prog (E b).G 91 [v,.string ⟨⟨[0]⟩⟩] h K:=by
 refine Ur (E b) (Qa1 b) (Vj b) Wf (Qa5 b) (Us b) (Qic b) Ycy Yu0 Yrq rfl ?_
 have e0:=fun h1=>Qcp (b:=b) (h1:=h1) s
 have e2:Yvu (E b).toEnv 9 (.string ⟨⟨[0]⟩⟩) (.int .i64 0)=some (.int .u8 0):=by kernel_rfl
 have e3:Qbv (binOp .eql 9 (.string ⟨⟨[0]⟩⟩) (.string ⟨⟨[]⟩⟩))=some (.bool false):=by kernel_rfl
 have e4:(ByteArray.mk ⟨[0]⟩).size=1:=by rfl
 cases xs with
 | nil =>
  simp at e0
  simp[Qjf,Qpf,Y4,Qmi,Zmq,Ywf,Qkj,Qjh,Wi,Wy,Qft,Yvy,Yv3,Qe8,Qev,Qdg,Qdx,e0]
  exact hk _ 0 h (fun _=>by kernel_rfl) (by simp[isT]) (Old.refl _)
 | cons z tl =>
  have hne:¬ ((tl.length:Int)+1=0):=by omega
  simp at e0
  obtain⟨_,_,c1,n1,w1,ys1,rfl,rfl,s1,l1,t1⟩:=Zbs b s hn (fun r h' => ∃ w ys,r=.ret w∧h=h'∧SB h w ys∧ys.length≤(z::tl).length∧isT ys=isT (z::tl)) (fun w ys q1 q2 q3=>⟨w,ys,rfl,rfl,q1,q2,q3⟩)
  obtain⟨_,h2,c2,n2,w2,ys2,rfl,s2,l2,t2,hd2,old2⟩:=Zck b s1 (by omega) (fun r h' => ∃ w ys,r=.ret w∧SB h' w ys∧ys.length≤ys1.length∧isT ys=isT ys1∧(ys=[]∨ys.head? ≠ some 0)∧Old h h') (fun w ys h' q1 q2 q3 q4 q5=>⟨w,ys,rfl,q1,q2,q3,q4,q5⟩)
  simp[Qjf,Qpf,Y4,Qmi,Zmq,Ywf,Qkj,Qjh,Wi,Wy,Qft,Yvy,Yv3,Qe8,Qev,Qdg,Qdx,e0,hne,e2,e3,e4]
  refine Qeo [⟨125,[v,.int .u8 0],h,w1,h,true⟩,⟨124,[w1,.int .u8 0],h,w2,h2,true⟩] ?_ Xs8 Xtc Xs0 (by simp[Ab.runT,Z2,Yp,ldv,Nat.testBit,Vu,Zc,Yy,Zf,loadAt,Qa6,J9,Xz0,X52,X4q,Qjf,Qpf,Y4,Qmi,Zmq,Ywf,Qkj,Qjh,Wi,Wy,Qft,Yvy,Yv3,Qe8,Qev,Qdg,Qdx,e2,Qlu];exact⟨rfl,rfl⟩) ?_ ?_
  ·simp only[List.mem_cons,List.not_mem_nil,or_false]
   rintro e (rfl | rfl)
   ·exact⟨c1,n1,fun _ _ _=>rfl⟩
   ·exact⟨c2,n2,fun _ c hc=>old2.2 c hc⟩
  ·simp[Z2,Yp,Qec,ldv,Ab.runT,Z2,Yp,ldv,Nat.testBit,Vu,Zc,Yy,Zf,loadAt,Qa6,J9,Qjf,Qpf,Y4,Qmi,Zmq,Ywf,Qkj,Qjh,Wi,Wy,Qft,Yvy,Yv3,Qe8,Qev,Qdg,Qdx,e2]
  simp[Qjf,Qpf,Y4,Qmi,Zmq,Ywf,Qkj,Qjh,Wi,Wy,Qft,Yvy,Yv3,Qe8,Qev,Qdg,Qdx]
  refine hk w2 ys2.length h2 (fun h1=>Qcp s2) ?_ old2
  rw[← t1,← t2]
  cases ys2 with
  | nil=>simp[isT]
  | cons y l =>
   have : y≠0:=by simpa using hd2
   simp[isT,this]
theorem X9s(b:Nat){h:Heap}{v:Value}{xs:List Int}(s:SB h v xs)(hn:xs.length < 1000000000)(K:AEnd→Heap→Prop)(hk:∀ h',Old h h'→K (.ret (.bool (isT xs))) h'):FnK Tryd.prog (E b).G 53 [v] h K:=by
 refine Ur (E b) (Qa1 b) (Vj b) Wf (Qa5 b) (Us b) (Xd b) Xus Yag X5x rfl ?_
 simp[Qpi,Xbe,Xd,Zk]
 refine Zjy b s hn _ fun w n h' q1 q2 q3 => ?_
 have e:decide ((0:Int) < (n:Int))=isT xs:=by rw[← q2];congr 1;simp
 simp[Qpi,Xbe,Xd,Zk,q1,-Int.natCast_pos,e]
 exact hk h' q3
end
theorem Mach.old{h h':Heap}{MB:Nat→Prop}{μ:Nat}{e:Menv}{ps:List (Value × List Int)}{op:List Br}(M:Mach h MB μ e ps op)(a:Old h h'):Mach h' MB μ e ps op:=by
 obtain⟨⟨sv,ov,z,r⟩,its,low⟩:=M
 refine⟨⟨sv,ov,z,?_⟩,fun p hp=>(its p hp).mv (Mv.old a),fun c hc=>Nat.lt_of_lt_of_le (low c hc) a.1⟩
 exact⟨a.get r.at',r.mb,r.st.keep fun c _ hc=>a.2 c hc,r.op.keep fun c _ hc=>a.2 c hc,r.ms,r.mo⟩
theorem Itm.nil{h:Heap}{MB:Nat→Prop}:Itm h MB (.slice none 0 0) []:=⟨Sl.nil,(fun _ h=>by cases h),(fun _ h=>by cases h)⟩
def Y6f(x:Bool):List Int:=if x then [1]else []
theorem Itm.new{h:Heap}{MB:Nat→Prop}(low:∀ c,MB c→c < h.next){xs:List Int}(hb:Bytes xs)(hl:xs.length < 1000000):Itm (h.push (.cells true 1 (xs.map i8))) MB (.slice (some ⟨h.next,0,none⟩) xs.length xs.length) xs:=by
 refine⟨(Own.new (n0:=0) (Nat.zero_le _) (by rw[Heap.get_push,if_pos rfl]) (by simp) (by unfold Qfv;omega) (.inr rfl)).sl,hb,fun c hc hm => ?_⟩
 cases hc
 exact absurd (low _ hm) (Nat.lt_irrefl _)
section
attribute [local simp] Qb7 Qd9 Xg X4 Xp Xm Xk Xt Qt X0 Xn X8 Qx Xo Q4 Xf Z4 Yt aop Qg nth Ab.g0 gv gs Q7 Qd aev evs evO Qi Tr.get_put St.put Tm.put flat flatA Yu Qp Qo Qm Qq Ql Qn Qk X3 Qj Q5 Q6 Qu Xj Xa Qz Qh X9 Qy Qr Yh Zb Yg Xv Xs.putAll X7 Qc Q2 Q1 Qa Qb Q9 Q0 Q3 Q8
theorem Y82(b:Nat){h:Heap}{MB:Nat→Prop}{μ:Nat}{e:Menv}{ps:List (Value × List Int)}{op:List Br}(x:Bool)(M:Mach h MB μ e ps op)(K:AEnd→Heap→Prop)(hk:ps.length < 16→∀ v h' MB',Mach h' MB' μ e ((v,Y6f x)::ps) op→Mv MB MB' h h'→K (.ret (.tuple #[])) h')
  (hp:16≤ps.length→∀ h',Old h h'→K (.panic (pe 16)) h'):FnK Tryd.prog (E b).G 88 [.pointer (some ⟨μ,0,none⟩),.bool x] h K:=by
 refine Ur (E b) (Qa1 b) (Vj b) Wf (Qa5 b) (Us b) (Xg b) Q3z Xh2 Xe8 rfl ?_
 cases x with
 | true =>
  have i:=Itm.new (h:=h) (MB:=MB) M.low (xs:=[1]) (by intro z hz;simp at hz;omega) (by simp)
  simp[Qvn]
  by_cases hl:ps.length < 16
  ·refine Q8l b (M.old (Old.push _ _)) i hl _ fun h' MB' q1 q2 => ?_
   simp
   exact hk hl _ h' MB' q1 ((Mv.old (Old.push _ _)).trans q2)
  ·refine Q5h b (M.old (Old.push _ _)) (by omega) _ ?_
   simp
   exact hp (by omega) _ (Old.push _ _)
 | false =>
  simp
  by_cases hl:ps.length < 16
  ·refine Q8l b M Itm.nil hl _ fun h' MB' q1 q2 => ?_
   simp
   exact hk hl _ h' MB' q1 q2
  ·refine Q5h b M (by omega) _ ?_
   simp
   exact hp (by omega) _ (Old.refl _)
end
def Y72:List Br→Bool
 | []=>false
 | x::_=>x.off
theorem Zp2(b:Nat){h:Heap}{ov:Value}{x:Br}{r:List Br}(o:Own h 0 3 ov (x::r).length (Qfd (x::r).reverse))(k:IntKind):∃ bk o1,U7 ov=some bk∧Zn (E b).toEnv 105 ov (.int k (r.length:Int))=some (.pointer (some ⟨bk,o1,none⟩))∧V2 h bk o1=some (.bool x.off)∧V2 h bk (o1+1)=some (.bool x.dead)∧V2 h bk (o1+2)=some (.bool x.turned):=by
 obtain⟨bk,o1,q1,q2,q3, -⟩:=Xfu (Zcd b) Xlf o.sl (k:=k) (i:=(r.length:Int)) (by omega) (by simp;try omega)
 have e1:Qfd (x::r).reverse=Qfd r.reverse++x.cells:=by simp[Qfd]
 have e2:(Qfd r.reverse).length=r.length*3:=by rw[Q76];simp
 have g:∀ j,j < 3→V2 h bk (o1+j)=x.cells[j]? := fun j hj=>by
  rw[q3 j hj,e1,Int.toNat_natCast,← e2,List.getElem?_append_right (Nat.le_add_right _ _),Nat.add_sub_cancel_left]
 exact⟨bk,o1,q1,q2,g 0 (by omega),g 1 (by omega),g 2 (by omega)⟩
section
attribute [local simp] Qak Qcq Qw Qbn Vt Qb1 Qb5 Zk Vq Qew Qae Qs7 Xp Xm Xk Xt Qt X0 Xn X8 Qx Xo Q4 Xf Z4 Yt aop Qg nth Ab.g0 gv gs Q7 Qd aev evs evO Qi Tr.get_put St.put Tm.put flat flatA Yu Qp Qo Qm Qq Ql Qn Qk X3 Qj Q5 Q6 Qu Xj Xa Qz Qh X9 Qy Qr Yh Zb Yg Xv Xs.putAll X7 Qc Q2 Q1 Qa Qb Q9 Q0 Q3 Q8
theorem Xku(b:Nat){h:Heap}{MB:Nat→Prop}{μ:Nat}{e:Menv}{ps:List (Value × List Int)}{op:List Br}(M:Mach h MB μ e ps op)(hl:op.length < 1000)(K:AEnd→Heap→Prop)(hk:K (.ret (.bool (Y72 op))) h):FnK Tryd.prog (E b).G 85 [.pointer (some ⟨μ,0,none⟩)] h K:=by
 refine Ur (E b) (Qa1 b) (Vj b) Wf (Qa5 b) (Us b) (Qw b) Q71 Xod Xk8 rfl ?_
 obtain⟨⟨sv,ov,z,r⟩,its,low⟩:=M
 have e0:∀ h1,Qkb (E b).toEnv 105 ov h1=some (.int .i64 (op.length:Int)):=fun h1=>Qdf (Zcd b) r.op.sl
 simp
 cases op with
 | nil =>
  simp at e0
  refine Qeo [] (by simp) Qm9 Qn8 Qmf (by simp[Ab.runT,Z2,Yp,ldv,Nat.testBit,Vu,Zc,Yy,Zf,loadAt,Qa6,J9,Qng,Qno,Qax,r.c35,e0];exact⟨rfl,rfl⟩) ?_ ?_
  ·simp[Z2,Yp,Qcw,ldv,Ab.runT,Z2,Yp,ldv,Nat.testBit,Vu,Zc,Yy,Zf,loadAt,Qa6,J9]
  simp
  exact hk
 | cons x l =>
  obtain⟨bk,o1,q1,q2,g0',g1,g2⟩:=Zp2 b r.op .i64
  have h0:(0:Int) < (l.length:Int)+1:=by omega
  have hw:IntKind.i64.wrap (l.length:Int)=(l.length:Int):=by
   simp at hl
   exact Ug (by omega) (by omega)
  simp at e0
  refine Qeo [] (by simp) Qm9 Qn8 Qmf (by simp[Ab.runT,Z2,Yp,ldv,Nat.testBit,Vu,Zc,Yy,Zf,loadAt,Qa6,J9,Qng,Qno,Qax,r.c35,e0,h0,hw,q2,g0'];exact⟨rfl,rfl⟩) ?_ ?_
  ·simp[Z2,Yp,Qcw,ldv,Ab.runT,Z2,Yp,ldv,Nat.testBit,Vu,Zc,Yy,Zf,loadAt,Qa6,J9]
  simp
  exact hk
end
end Go.Proofs.YtgeeklmjfbiieaaDoor
end
noncomputable section
namespace Go.Proofs.YtgeeklmjfbiieaaDoor
open Go Go.Ab
set_option maxRecDepth 100000
theorem Qq6{h:Heap}{n0 z n:Nat}{v:Value}{xs:List Value}(o:Own h n0 z v n xs){bk i:Nat}(hb:U7 v=some bk)(hi:i < xs.length)(w:Value) :
  ∃ h',Wg h bk i [w]=some h'∧Own h' n0 z v n (xs.set i w)∧h'.next=h.next∧∀ c,c≠bk→h'.get c=h.get c:=by
 rcases o with⟨rfl,rfl,rfl⟩ | ⟨bk',c,z',rest,rfl,h1,h2,h3,h4,h5,h6⟩
 ·cases hb
 ·simp only[U7,Option.some.injEq]at hb
  subst hb
  have hlt:=Heap.get_lt h2
  refine⟨_,Qbz h2 (by simp;omega),.inr ⟨bk',c,z',rest,rfl,h1,by rw[Heap.get_set _ _ _ _ hlt,if_pos rfl,List.set_append_left _ _ hi],by simpa using h3,h4,h5,by simpa using h6⟩,rfl,fun k hk=>by rw[Heap.get_set _ _ _ _ hlt,if_neg (Ne.symm hk)]⟩
theorem Zg0(b:Nat){h:Heap}{ov:Value}{x:Br}{r:List Br}(o:Own h 0 3 ov (x::r).length (Qfd (x::r).reverse)):∃ bk,U7 ov=some bk∧Zn (E b).toEnv 105 ov (.int .i64 (r.length:Int))=some (.pointer (some ⟨bk,r.length*3,none⟩))∧∀ h1 x1,Own h1 0 3 ov (x::r).length (Qfd r.reverse++x1)→x1.length=3→∀ j,j < 3→V2 h1 bk (r.length*3+j)=x1[j]? := by
 have e2:(Qfd r.reverse).length=r.length*3:=by rw[Q76];simp
 rcases o with⟨_,h,_⟩ | ⟨bk',c,z',rest,rfl,h1,h2,h3,h4,h5,h6⟩
 ·cases h
 ·refine⟨bk',rfl,?_,fun k x1 ho hx1 j hj => ?_⟩
  ·rw[Qew b ⟨by omega,by simp;try omega⟩]
   simp
  ·rcases ho with⟨h,_⟩ | ⟨bk2,c2,z2,rest2,e,g1,g2,g3⟩
   ·cases h
   ·simp only[Value.slice.injEq,Option.some.injEq,Addr.mk.injEq]at e
    obtain⟨⟨rfl,_⟩,_⟩:=e
    rw[Up g2,List.append_assoc,List.getElem?_append_right (by omega),e2,Nat.add_sub_cancel_left,List.getElem?_append_left (by omega)]
def brF(code:Int)(st:List (List Int))(op:List Br):Option (Option (List (List Int) × List Br)) :=
 if code=136 then some (if Y72 op then some (st,⟨true,true,false⟩::op)else match st with
  | []=>none
  | x::r=>some (r,⟨!isT x,false,false⟩::op))
 else if code=137∨code=138 then some (match op with
  | []=>none
  | x::l=>if code=138 then some (st,l)else if x.turned then none else some (st,⟨x.dead || !x.off,x.dead,true⟩::l))
 else none
def MOk(MB:Nat→Prop)(h:Heap)(μ:Nat)(e:Menv)(st:List (List Int))(op:List Br)(h':Heap):Prop:=∃ ps MB',ps.map (·.2)=st∧Mach h' MB' μ e ps op∧Mv MB MB' h h'
def Y1b(MB:Nat→Prop)(h h':Heap):Prop:=∃ MB',Mv MB MB' h h'
theorem Y3l(b:Nat)(x y:Bool):Qr0 (E b).toEnv 197 [(0,.bool x),(1,.bool y)]=some (.agg ⟨[.bool x,.bool y,.bool false]⟩):=by kernel_rfl
theorem Mach.opened{b:Nat}{h:Heap}{MB:Nat→Prop}{μ:Nat}{e:Menv}{ps:List (Value × List Int)}{op:List Br}(M:Mach h MB μ e ps op)(hl:op.length < 1000){ov:Value}(hov:V2 h μ 35=some ov)(x y:Bool) :
    ∃ ov' h2,Jp (E b).toEnv 105 1 [(0,.agg ⟨[.bool x,.bool y,.bool false]⟩)] h=some (.slice (some ⟨h.next,0,none⟩) 1 1,h.push (.cells true 1 [.bool x,.bool y,.bool false])) ∧
      Qhb (E b).toEnv 105 105 ov (.slice (some ⟨h.next,0,none⟩) 1 1) (h.push (.cells true 1 [.bool x,.bool y,.bool false]))=some (ov',h2) ∧
      ∃ h3,Qeu (E b).toEnv 105 (.pointer (some ⟨μ,35,none⟩)) ov' h2=some h3∧X5n (some ov) (some ov)=true∧∃ MB',Mach h3 MB' μ e ps (⟨x,y,false⟩::op)∧Mv MB MB' h h3:=by
  obtain⟨⟨sv,ov0,z,r⟩,its,low⟩:=M
  rw[r.c35]at hov
  cases hov
  have hbl:=Q4t (Zcd b) (z:=3) Xlf (by omega) (by omega) (y:=.agg ⟨[.bool x,.bool y,.bool false]⟩) rfl (ys:=[.bool x,.bool y,.bool false]) rfl rfl (h:=h)
  obtain⟨ov',h2,a1,a2,a3,a4⟩:=Qns (Zcd b) Xlf (by omega) r.op (Nat.zero_le _) (ys:=[.bool x,.bool y,.bool false]) rfl (by rw[Y5x];omega) (by omega)
  have hlt:=Heap.get_lt r.at'
  have g2:h2.get μ=some (.cells true z (e.cells ++ [sv,ov])):=by rw[a3.2 μ hlt fun q=>(r.mo _ q).2.1 rfl];exact r.at'
  have hlt2:μ < h2.next:=Heap.get_lt g2
  refine⟨ov',h2,hbl,a1,h2.set μ (some (.cells true z (e.cells ++ [sv,ov']))),?_,X9r r.op,fun c=>MB c∨U7 ov'=some c,?_,?_⟩
  · exact(Zg3 b h2 μ 35 ov' a2.one).trans (by rw[Qbz g2 (by simp[e.len]),Zn0])
  all_goals have mv:Mv MB (fun c=>MB c∨U7 ov'=some c) h (h2.set μ (some (.cells true z (e.cells ++ [sv,ov'])))) :=
    ⟨a3.1,fun c hc hn=>by rw[Heap.get_set _ _ _ _ hlt2,if_neg (fun q=>hn (by subst q;exact r.mb)),a3.2 c hc (fun q=>hn (r.mo c q).1)],
     fun c hc=>by
      rcases hc with hc | hc
      · exact .inl hc
      · rcases a4 c hc with q | q
        · exact .inl (r.mo c q).1
        · exact .inr q⟩
  · have nμ:∀ c,U7 ov'=some c→c≠μ:=fun c hc=>by
      rcases a4 c hc with q | q
      · exact(r.mo c q).2.1
      · omega
    refine⟨⟨sv,ov',z,?_⟩,fun p hp=>(its p hp).mv mv,?_⟩
    · refine⟨by rw[Heap.get_set _ _ _ _ hlt2,if_pos rfl],.inl r.mb,?_,?_,fun c hc=>⟨.inl (r.ms c hc).1,(r.ms c hc).2⟩,fun c hc=>⟨.inr hc,nμ c hc,fun q => ?_⟩⟩
      · exact r.st.keep fun c hc hlt3=>by rw[Heap.get_set _ _ _ _ hlt2,if_neg (Ne.symm (r.ms c hc).2),a3.2 c hlt3 (fun q=>(r.mo c q).2.2 hc)]
      · have : Own h2 0 3 ov' (⟨x,y,false⟩::op:List Br).length (Qfd (⟨x,y,false⟩::op:List Br).reverse):=by simpa[Qfd,Br.cells]using a2
        exact this.keep fun c hc _=>by rw[Heap.get_set _ _ _ _ hlt2,if_neg (Ne.symm (nμ c hc))]
      · rcases a4 c hc with q' | q'
        · exact(r.mo c q').2.2 q
        · have:=r.st.out q;omega
    · rintro c (hc | hc)
      · exact Nat.lt_of_lt_of_le (low c hc) a3.1
      · exact a2.out hc
  · exact mv
end Go.Proofs.YtgeeklmjfbiieaaDoor
end
noncomputable section
namespace Go.Proofs.YtgeeklmjfbiieaaDoor
open Go Go.Ab
set_option maxRecDepth 100000
theorem MOk.mk' {MB MB':Nat→Prop}{h h':Heap}{μ:Nat}{e:Menv}{ps:List (Value × List Int)}{op:List Br}{st:List (List Int)}(hs:ps.map (·.2)=st)(M:Mach h' MB' μ e ps op)(m:Mv MB MB' h h'):MOk MB h μ e st op h':=⟨ps,MB',hs,M,m⟩
theorem Zp5(b:Nat){h:Heap}{MB:Nat→Prop}{μ:Nat}{e:Menv}{ps:List (Value × List Int)}{op:List Br}(M:Mach h MB μ e ps op)(h1:ps.length < 1000)(h2:op.length < 1000)(h3:∀ p ∈ ps,p.2.length < 1000000000)(K:AEnd→Heap→Prop)
  (hk:∀ st' op',brF 136 (ps.map (·.2)) op=some (some (st',op'))→∀ h',MOk MB h μ e st' op' h'→K (.ret (.bool true)) h')
  (hp:brF 136 (ps.map (·.2)) op=some none→∀ h',Y1b MB h h'→K (.panic (pe 16)) h'):CallOK Tryd.prog (E b).G 84 [.pointer (some ⟨μ,0,none⟩),.int .i64 136] h K:=by
 refine Qnt (E b) (Qc2 _ _) (Qa1 b) (Vj b) Wf (Qa5 b) (Qf b) Qc8 Qdd Qd3 rfl ?_
 simp[Yf,Yl,Qf,Y4,Qw,Vt,Qb1,Qe,Xd,Qcc,Qb5,Zk,X2,Vq,Qew,Ye,Qca,Qs7,Qde,Qcb,Qae,Yd,Ya,Yc,Xp,Xm,Xk,Xt,Qt,X0,Xn,X8,Qx,Xo,Q4,Xf,Z4,Yt,aop,Qg,nth,Ab.g0,gv,gs,Q7,Qd,aev,evs,evO,Qi,Tr.get_put,St.put,Tm.put,flat,flatA,Yu,Qp,Qo,Qm,Qq,Ql,Qn,Qk,X3,Qj,Q5,Q6,Qu,Xj,Xa,Qz,Qh,X9,Qy,Qr,Yh,Zb,Yg,Xv,Xs.putAll,X7,Qc,Q2,Q1,Qa,Qb,Q9,Q0,Q3,Q8]
 refine(Xku b M h2 _ ?_).ok
 simp[Yf,Yl,Qf,Y4,Qw,Vt,Qb1,Qe,Xd,Qcc,Qb5,Zk,X2,Vq,Qew,Ye,Qca,Qs7,Qde,Qcb,Qae,Yd,Ya,Yc,Xp,Xm,Xk,Xt,Qt,X0,Xn,X8,Qx,Xo,Q4,Xf,Z4,Yt,aop,Qg,nth,Ab.g0,gv,gs,Q7,Qd,aev,evs,evO,Qi,Tr.get_put,St.put,Tm.put,flat,flatA,Yu,Qp,Qo,Qm,Qq,Ql,Qn,Qk,X3,Qj,Q5,Q6,Qu,Xj,Xa,Qz,Qh,X9,Qy,Qr,Yh,Zb,Yg,Xv,Xs.putAll,X7,Qc,Q2,Q1,Qa,Qb,Q9,Q0,Q3,Q8]
 obtain⟨ov,hov⟩:∃ ov,V2 h μ 35=some ov:=by
  obtain⟨⟨sv,ov,z,r⟩,_,_⟩:=M
  exact⟨ov,r.c35⟩
 cases hd:Y72 op with
 | true =>
  obtain⟨ov',h4,q1,q2,h5,q3,q4,MB',q5,q6⟩:=M.opened (b:=b) h2 hov true true
  refine Qeo [] (by simp) Qeq Qf9 Qil (by simp[Ab.runT,Z2,Yp,ldv,Nat.testBit,Vu,Zc,Yy,Zf,loadAt,Qa6,J9,aop,Qg,nth,Ab.g0,gv,gs,Q7,Qd,Xp,aev,evs,evO,Qi,Tr.get_put,St.put,Tm.put,flat,flatA,Yu,Qp,Qo,Qm,Qq,Ql,Qn,Qk,X3,Yt,Qj,Q5,Q6,X7,Qc,Q2,Q1,Qa,Qb,Q9,Q0,Q3,Q8,Qjq,Qjk,Qkg,Qkm,Qjn,Qjm,Yf,Yl,Qf,Y4,Qw,Vt,Qb1,Qe,Xd,Qcc,Qb5,Zk,X2,Vq,Qew,Ye,Qca,Qs7,Qde,Qcb,Qae,Yd,Ya,Yc,Qax,hov,Y3l,q1,q2,q3];exact⟨rfl,rfl⟩) ?_ ?_
  ·simp[Z2,Yp,J3,ldv,Ab.runT,Z2,Yp,ldv,Nat.testBit,Vu,Zc,Yy,Zf,loadAt,Qa6,J9,aop,Qg,nth,Ab.g0,gv,gs,Q7,Qd,Xp,aev,evs,evO,Qi,Tr.get_put,St.put,Tm.put,flat,flatA,Yu,Qp,Qo,Qm,Qq,Ql,Qn,Qk,X3,Yt,Qj,Q5,Q6,X7,Qc,Q2,Q1,Qa,Qb,Q9,Q0,Q3,Q8,Yf,Yl,Qf,Y4,Qw,Vt,Qb1,Qe,Xd,Qcc,Qb5,Zk,X2,Vq,Qew,Ye,Qca,Qs7,Qde,Qcb,Qae,Yd,Ya,Yc,q4,hov]
  simp[Xp,Xm,Xk,Xt,Qt,X0,Xn,X8,Qx,Xo,Q4,Xf,Z4,Yt,aop,Qg,nth,Ab.g0,gv,gs,Q7,Qd,aev,evs,evO,Qi,Tr.get_put,St.put,Tm.put,flat,flatA,Yu,Qp,Qo,Qm,Qq,Ql,Qn,Qk,X3,Qj,Q5,Q6,Qu,Xj,Xa,Qz,Qh,X9,Qy,Qr,Yh,Zb,Yg,Xv,Xs.putAll,X7,Qc,Q2,Q1,Qa,Qb,Q9,Q0,Q3,Q8,Yf,Yl,Qf,Y4,Qw,Vt,Qb1,Qe,Xd,Qcc,Qb5,Zk,X2,Vq,Qew,Ye,Qca,Qs7,Qde,Qcb,Qae,Yd,Ya,Yc]
  exact hk _ _ (by simp[brF,hd]) _ ⟨ps,MB',rfl,q5,q6⟩
 | false =>
  cases ps with
  | nil =>
   have hdl:Xp6 8 86 #[.tmp 19] U4 J3 0=[⟨(some 12),.move (.tmp 0),0, "",#[],none⟩,⟨(some 13),.move (.tmp 0),0, "",#[],none⟩,⟨(some 14),.nilCheck (.tmp 13),0, "",#[],none⟩,⟨(some 15),.fieldAddr 107 (.tmp 14) 2,0, "",#[],none⟩,⟨(some 16),.load 105 (.tmp 15),0, "",#[],none⟩,⟨(some 17),.move (.tmp 5),0, "",#[],none⟩,⟨(some 18),.move (.tmp 17),0, "",#[],none⟩,⟨(some 19),.move (.tmp 0),0, "",#[],(some (6,false))⟩,⟨(some 20),.makeFunc (.func 86) #[(.tmp 19)] #[],0, "",#[],(some (6,false))⟩,⟨(some 21),.assign (.const (.bool false)),0, "",#[],(some (6,false))⟩,⟨(some 22),.assign (.const (.bool false)),0, "",#[],(some (6,false))⟩,⟨(some 23),.assign (.const (.bool false)),0, "",#[],none⟩,⟨(some 24),.move (.tmp 5),0, "",#[],none⟩,⟨(some 25),.assign (.const (.bool false)),0, "",#[],none⟩,⟨(some 26),.assign (.const (.bool false)),0, "",#[],none⟩,⟨(some 27),.assign (.const (.bool false)),0, "",#[],none⟩,⟨(some 28),.assign (.const (.bool false)),0, "",#[],none⟩,⟨(some 29),.assign (.const (.bool false)),0, "",#[],none⟩,⟨none,.assign (.const (.bool false)),0, "",#[],none⟩]:=by kernel_rfl
   refine Zos (p0:=8) (d0:=20) (f:=86) (args:=#[.tmp 19]) (o:=(Qah.toList[8]?).getD ⟨none,.move (.tmp 0),0, "",#[],none⟩) (c:={callee:=.value (.func 86),args:=#[.tmp 19],argTypes:=#[100]}) (l:=[.pointer (some ⟨μ,0,none⟩)]) (ch:=pe 16) (h':=h) rfl Qeq Qf9 (by kernel_rfl) (by kernel_rfl) (by kernel_rfl) rfl rfl (by kernel_rfl) (by kernel_rfl) (by kernel_rfl) (by rw[hdl];simp[Qqa,Q6a,Xly,Xl7,aop,Qg,nth,Ab.g0,gv,gs,Q7,Qd,Xp,aev,evs,evO,Qi,Tr.get_put,St.put,Tm.put,flat,flatA,Yu,Qp,Qo,Qm,Qq,Ql,Qn,Qk,X3,Yt,Qj,Q5,Q6,X7,Qc,Q2,Q1,Qa,Qb,Q9,Q0,Q3,Q8,Yf,Yl,Qf,Y4,Qw,Vt,Qb1,Qe,Xd,Qcc,Qb5,Zk,X2,Vq,Qew,Ye,Qca,Qs7,Qde,Qcb,Qae,Yd,Ya,Yc,Qax,hov,Xwy];rfl) (by simp[Tr.get_put]) (by kernel_rfl) ?_ ?_
   ·exact(Qx7 b M (fun r h1=>r=.panic (pe 16)∧h1=h) ⟨rfl,rfl⟩).ok
   ·intro T hT
    simp[Xp,Xm,Xk,Xt,Qt,X0,Xn,X8,Qx,Xo,Q4,Xf,Z4,Yt,aop,Qg,nth,Ab.g0,gv,gs,Q7,Qd,aev,evs,evO,Qi,Tr.get_put,St.put,Tm.put,flat,flatA,Yu,Qp,Qo,Qm,Qq,Ql,Qn,Qk,X3,Qj,Q5,Q6,Qu,Xj,Xa,Qz,Qh,X9,Qy,Qr,Yh,Zb,Yg,Xv,Xs.putAll,X7,Qc,Q2,Q1,Qa,Qb,Q9,Q0,Q3,Q8,Yf,Yl,Qf,Y4,Qw,Vt,Qb1,Qe,Xd,Qcc,Qb5,Zk,X2,Vq,Qew,Ye,Qca,Qs7,Qde,Qcb,Qae,Yd,Ya,Yc]
    exact hp (by simp[brF,hd]) h ⟨MB,Mv.refl _ _⟩
  | cons p ps =>
   obtain⟨v,x⟩:=p
   have hx:=h3 (v,x) (by simp)
   obtain⟨_,h4,c1,n1,rfl,M1,m1,e1,i1,k1⟩:=Qn2 b M (by simp at h1;omega) (fun r h'=>r=.ret v∧Mach h' MB μ e ps op∧Mv MB MB h h'∧h'.next=h.next∧Itm h' MB v x∧(∀ ov,V2 h μ 35=some ov→V2 h' μ 35=some ov)) (fun h' q1 q2 q3 q4 q5=>⟨rfl,q1,q2,q3,q4,q5⟩)
   obtain⟨_,h5,c2,n2,rfl,a2⟩:=X9s b i1.sb hx (fun r h'=>r=.ret (.bool (isT x))∧Old h4 h') (fun h' q=>⟨rfl,q⟩)
   have hov4:=k1 ov hov
   have hov5:V2 h5 μ 35=some ov:=by
    obtain⟨⟨sv,ov1,z,r⟩,_,_⟩:=M1
    rw[r.c35]at hov4
    rw[Up (a2.get r.at'),Zjk]
    exact hov4
   obtain⟨ov',h6,q1,q2,h7,q3,q4,MB',q5,q6⟩:=(M1.old a2).opened (b:=b) h2 hov5 (!isT x) false
   refine Qeo [⟨86,[.pointer (some ⟨μ,0,none⟩)],h,v,h4,false⟩,⟨53,[v],h4,.bool (isT x),h5,true⟩] ?_ Qeq Qf9 Qil (by simp[Ab.runT,Z2,Yp,ldv,Nat.testBit,Vu,Zc,Yy,Zf,loadAt,Qa6,J9,aop,Qg,nth,Ab.g0,gv,gs,Q7,Qd,Xp,aev,evs,evO,Qi,Tr.get_put,St.put,Tm.put,flat,flatA,Yu,Qp,Qo,Qm,Qq,Ql,Qn,Qk,X3,Yt,Qj,Q5,Q6,X7,Qc,Q2,Q1,Qa,Qb,Q9,Q0,Q3,Q8,Qjq,Qjk,Qkg,Qkm,Qjn,Qjm,Yf,Yl,Qf,Y4,Qw,Vt,Qb1,Qe,Xd,Qcc,Qb5,Zk,X2,Vq,Qew,Ye,Qca,Qs7,Qde,Qcb,Qae,Yd,Ya,Yc,Qax,hov,Y3l,q1,q2,q3,Qlu];exact⟨rfl,rfl⟩) ?_ ?_
   ·simp only[List.mem_cons,List.not_mem_nil,or_false]
    rintro e (rfl | rfl)
    ·exact⟨c1,n1,fun q=>by cases q⟩
    ·exact⟨c2,n2,fun _ c hc=>a2.2 c hc⟩
   ·simp[Z2,Yp,J3,ldv,Ab.runT,Z2,Yp,ldv,Nat.testBit,Vu,Zc,Yy,Zf,loadAt,Qa6,J9,aop,Qg,nth,Ab.g0,gv,gs,Q7,Qd,Xp,aev,evs,evO,Qi,Tr.get_put,St.put,Tm.put,flat,flatA,Yu,Qp,Qo,Qm,Qq,Ql,Qn,Qk,X3,Yt,Qj,Q5,Q6,X7,Qc,Q2,Q1,Qa,Qb,Q9,Q0,Q3,Q8,Yf,Yl,Qf,Y4,Qw,Vt,Qb1,Qe,Xd,Qcc,Qb5,Zk,X2,Vq,Qew,Ye,Qca,Qs7,Qde,Qcb,Qae,Yd,Ya,Yc,q4,hov,hov4,hov5]
   simp[Xp,Xm,Xk,Xt,Qt,X0,Xn,X8,Qx,Xo,Q4,Xf,Z4,Yt,aop,Qg,nth,Ab.g0,gv,gs,Q7,Qd,aev,evs,evO,Qi,Tr.get_put,St.put,Tm.put,flat,flatA,Yu,Qp,Qo,Qm,Qq,Ql,Qn,Qk,X3,Qj,Q5,Q6,Qu,Xj,Xa,Qz,Qh,X9,Qy,Qr,Yh,Zb,Yg,Xv,Xs.putAll,X7,Qc,Q2,Q1,Qa,Qb,Q9,Q0,Q3,Q8,Yf,Yl,Qf,Y4,Qw,Vt,Qb1,Qe,Xd,Qcc,Qb5,Zk,X2,Vq,Qew,Ye,Qca,Qs7,Qde,Qcb,Qae,Yd,Ya,Yc]
   refine hk _ _ (by simp[brF,hd]) _ ⟨ps,MB',rfl,q5,m1.trans ((Mv.old a2).trans q6)⟩
section
attribute [local simp] Yf Yl Qf Y4 Qw Vt Qb1 Qe Xd Qcc Qb5 Zk X2 Vq Qew Ye Qca Qs7 Qde Qcb Qae Yd Ya Yc Xp Xm Xk Xt Qt X0 Xn X8 Qx Xo Q4 Xf Z4 Yt aop Qg nth Ab.g0 gv gs Q7 Qd aev evs evO Qi Tr.get_put St.put Tm.put flat flatA Yu Qp Qo Qm Qq Ql Qn Qk X3 Qj Q5 Q6 Qu Xj Xa Qz Qh X9 Qy Qr Yh Zb Yg Xv Xs.putAll X7 Qc Q2 Q1 Qa Qb Q9 Q0 Q3 Q8
theorem Q26(b:Nat){h:Heap}{μ:Nat}{code:Int}(hc:brF code [] []=none)(K:AEnd→Heap→Prop)(hk:K (.ret (.bool false)) h):CallOK Tryd.prog (E b).G 84 [.pointer (some ⟨μ,0,none⟩),.int .i64 code] h K:=by
 have c1:¬ code=136:=fun q=>by subst q;simp[brF]at hc
 have c2:¬ code=137:=fun q=>by subst q;simp[brF]at hc
 have c3:¬ code=138:=fun q=>by subst q;simp[brF]at hc
 refine Qnt (E b) (Qc2 _ _) (Qa1 b) (Vj b) Wf (Qa5 b) (Qf b) Qc8 Qdd Qd3 rfl ?_
 simp[c1,c2,c3]
 exact hk
theorem Y8f(b:Nat){h:Heap}{MB:Nat→Prop}{μ:Nat}{e:Menv}{ps:List (Value × List Int)}(M:Mach h MB μ e ps []){code:Int}(hc:code=137∨code=138)(K:AEnd→Heap→Prop)(hp:K (.panic (pe 16)) h):CallOK Tryd.prog (E b).G 84 [.pointer (some ⟨μ,0,none⟩),.int .i64 code] h K:=by
 obtain⟨⟨sv,ov,z,r⟩,its,low⟩:=M
 have e0:∀ h1,Qkb (E b).toEnv 105 ov h1=some (.int .i64 0):=fun h1=>Qdf (Zcd b) r.op.sl
 refine Qnt (E b) (Qc2 _ _) (Qa1 b) (Vj b) Wf (Qa5 b) (Qf b) Qc8 Qdd Qd3 rfl ?_
 rcases hc with rfl | rfl
 all_goals
  simp[Qax,r.c35,e0]
  refine(Q15 b h 16 _ ?_).ok
  simp
  exact hp
theorem Zms(b:Nat){h:Heap}{MB:Nat→Prop}{μ:Nat}{e:Menv}{ps:List (Value × List Int)}{x:Br}{l:List Br}(M:Mach h MB μ e ps (x::l))(hl:l.length < 1000)(K:AEnd→Heap→Prop)(hk:∀ h',Mach h' MB μ e ps l→Mv MB MB h h'→K (.ret (.bool true)) h'):CallOK Tryd.prog (E b).G 84 [.pointer (some ⟨μ,0,none⟩),.int .i64 138] h K:=by
 obtain⟨⟨sv,ov,z,r⟩,its,low⟩:=M
 have e0:∀ h1,Qkb (E b).toEnv 105 ov h1=some (.int .i64 ((l.length:Int)+1)):=fun h1=>by have:=Qdf (Zcd b) r.op.sl (h1:=h1);simpa using this
 have h0:(0:Int) < (l.length:Int)+1:=by omega
 have hw:IntKind.i64.wrap (l.length:Int)=(l.length:Int):=Ug (by omega) (by omega)
 obtain⟨bk,q1,q2,q3⟩:=Zg0 b r.op
 obtain⟨ov',t1,t2,t3⟩:=Ynn (Zcd b) Xlf (by omega) r.op (k:=.i64) (i:=(l.length:Int)) (by omega) (by simp;try omega)
 have t2':Own h 0 3 ov' l.length (Qfd l.reverse):=by
  have e1:Qfd (x::l).reverse=Qfd l.reverse++x.cells:=by simp[Qfd]
  have e2:(Qfd l.reverse).length=l.length*3:=by rw[Q76];simp
  rw[e1,Int.toNat_natCast,← e2,List.take_left]at t2
  exact t2
 have st:Qeu (E b).toEnv 105 (.pointer (some ⟨μ,35,none⟩)) ov' h=_:=(Zg3 b h μ 35 ov' t2'.one).trans (r.s35 ov')
 have hos:X5n (some ov) (some ov)=true:=X9r r.op
 refine Qnt (E b) (Qc2 _ _) (Qa1 b) (Vj b) Wf (Qa5 b) (Qf b) Qc8 Qdd Qd3 rfl ?_
 simp[Qax,r.c35,e0,h0]
 refine(Xam b h 16 _ ?_).ok
 simp
 refine Qeo [] (by simp) Qim Qj4 Qio (by simp[Ab.runT,Z2,Yp,ldv,Nat.testBit,Vu,Zc,Yy,Zf,loadAt,Qa6,J9,Qjo,Qax,r.c35,e0,hw,q2];exact⟨rfl,rfl⟩) ?_ ?_
 ·simp[Z2,Yp,Qau,ldv,Ab.runT,Z2,Yp,ldv,Nat.testBit,Vu,Zc,Yy,Zf,loadAt,Qa6,J9]
 simp
 refine Qeo [] (by simp) Qpz Qqh Qpn (by simp[Ab.runT,Z2,Yp,ldv,Nat.testBit,Vu,Zc,Yy,Zf,loadAt,Qa6,J9,Qrm,Qs1,Qax,r.c35,e0,hw,t1,st];exact⟨rfl,rfl⟩) ?_ ?_
 ·simp[Z2,Yp,Wn,ldv,Ab.runT,Z2,Yp,ldv,Nat.testBit,Vu,Zc,Yy,Zf,loadAt,Qa6,J9,hos,r.c35]
 simp
 have hlt:=Heap.get_lt r.at'
 have mv:Mv MB MB h (h.set μ (some (.cells true z (e.cells ++ [sv,ov'])))):=⟨Nat.le_refl _,fun c _ hn=>by rw[Heap.get_set _ _ _ _ hlt,if_neg (fun q=>hn (by subst q;exact r.mb))],fun _ h => .inl h⟩
 have kp:∀ c,c≠μ→(h.set μ (some (.cells true z (e.cells ++ [sv,ov'])))).get c=h.get c:=fun c hc=>by rw[Heap.get_set _ _ _ _ hlt,if_neg (Ne.symm hc)]
 refine hk _ ⟨⟨sv,ov',z,?_⟩,fun p hp=>(its p hp).mv mv,low⟩ mv
 exact⟨by rw[Heap.get_set _ _ _ _ hlt,if_pos rfl],r.mb,r.st.keep fun c hc _=>kp c (r.ms c hc).2,t2'.keep fun c hc _=>kp c (r.mo c (t3 ▸ hc)).2.1,r.ms,fun c hc=>r.mo c (t3 ▸ hc)⟩
theorem Zh4(b:Nat){h:Heap}{MB:Nat→Prop}{μ:Nat}{e:Menv}{ps:List (Value × List Int)}{x:Br}{l:List Br}(M:Mach h MB μ e ps (x::l))(hl:l.length < 1000)(K:AEnd→Heap→Prop)(hk:x.turned=false→∀ h',Mach h' MB μ e ps (⟨x.dead || !x.off,x.dead,true⟩::l)→Mv MB MB h h'→K (.ret (.bool true)) h')
  (hp:x.turned=true→K (.panic (pe 16)) h):CallOK Tryd.prog (E b).G 84 [.pointer (some ⟨μ,0,none⟩),.int .i64 137] h K:=by
 obtain⟨⟨sv,ov,z,r⟩,its,low⟩:=M
 have e0:∀ h1,Qkb (E b).toEnv 105 ov h1=some (.int .i64 ((l.length:Int)+1)):=fun h1=>by have:=Qdf (Zcd b) r.op.sl (h1:=h1);simpa using this
 have h0:(0:Int) < (l.length:Int)+1:=by omega
 have hw:IntKind.i64.wrap (l.length:Int)=(l.length:Int):=Ug (by omega) (by omega)
 have e1:Qfd (x::l).reverse=Qfd l.reverse++x.cells:=by simp[Qfd]
 have e2:(Qfd l.reverse).length=l.length*3:=by rw[Q76];simp
 obtain⟨bk,q1,q2,q3⟩:=Zg0 b r.op
 have o0:=r.op
 rw[e1]at o0
 have g:=q3 h x.cells o0 rfl
 have g2:V2 h bk (l.length*3+2)=some (.bool x.turned):=g 2 (by omega)
 obtain⟨h1,s1,o1,n1,k1⟩:=Qq6 o0 q1 (i:=l.length*3+2) (by simp[e2,Br.cells]) (.bool true)
 have w1:(Qfd l.reverse++x.cells).set (l.length*3+2) (.bool true)=Qfd l.reverse ++ [Value.bool x.off,.bool x.dead,.bool true]:=by rw[List.set_append_right _ _ (by omega),e2,Nat.add_sub_cancel_left];rfl
 rw[w1]at o1
 have f:=q3 h1 _ o1 rfl
 have f0:V2 h1 bk (l.length*3)=some (.bool x.off):=f 0 (by omega)
 have f1:V2 h1 bk (l.length*3+1)=some (.bool x.dead):=f 1 (by omega)
 obtain⟨h2,s2,o2,n2,k2⟩:=Qq6 o1 q1 (i:=l.length*3) (by simp[e2]) (.bool (x.dead || !x.off))
 have w2:(Qfd l.reverse ++ [Value.bool x.off,.bool x.dead,.bool true]).set (l.length*3) (.bool (x.dead || !x.off))=Qfd (⟨x.dead || !x.off,x.dead,true⟩::l:List Br).reverse:=by rw[List.set_append_right _ _ (by omega),e2,Nat.sub_self];simp[Qfd,Br.cells]
 rw[w2]at o2
 refine Qnt (E b) (Qc2 _ _) (Qa1 b) (Vj b) Wf (Qa5 b) (Qf b) Qc8 Qdd Qd3 rfl ?_
 simp[Qax,r.c35,e0,h0]
 refine(Xam b h 16 _ ?_).ok
 simp
 refine Qeo [] (by simp) Qim Qj4 Qio (by simp[Ab.runT,Z2,Yp,ldv,Nat.testBit,Vu,Zc,Yy,Zf,loadAt,Qa6,J9,Qjo,Qax,r.c35,e0,hw,q2];exact⟨rfl,rfl⟩) ?_ ?_
 ·simp[Z2,Yp,Qau,ldv,Ab.runT,Z2,Yp,ldv,Nat.testBit,Vu,Zc,Yy,Zf,loadAt,Qa6,J9]
 simp[Qax,g2]
 cases ht:x.turned with
 | true =>
  refine(Q15 b h 16 _ ?_).ok
  simp
  exact hp ht
 | false =>
  refine(Xam b h 16 _ ?_).ok
  have sb:bk≠μ∧U7 sv≠some bk:=(r.mo bk q1).2
  have kk:∀ c,c≠bk→h2.get c=h.get c:=fun c hc=>by rw[k2 c hc,k1 c hc]
  have mv:Mv MB MB h h2:=⟨by omega,fun c _ hn=>kk c (fun q=>hn (by subst q;exact(r.mo _ q1).1)),fun _ h => .inl h⟩
  have fin:Mach h2 MB μ e ps (⟨x.dead || !x.off,x.dead,true⟩::l):=by
   refine⟨⟨sv,ov,z,?_⟩,fun p hp=>(its p hp).mv mv,fun c hc=>by rw[n2,n1];exact low c hc⟩
   exact⟨by rw[kk μ (Ne.symm sb.1)];exact r.at',r.mb,r.st.keep fun c hc _=>kk c (fun q=>sb.2 (by subst q;exact hc)),by simpa using o2,r.ms,r.mo⟩
  cases hd:x.dead with
  | true =>
   simp[hd]at f1 s2
   simp[Qax,s1,f1,s2]
   exact hk ht h2 (by simpa[hd]using fin) mv
  | false =>
   simp[hd]at f1 s2
   simp[Qax,s1,f1,f0,s2]
   exact hk ht h2 (by simpa[hd]using fin) mv
end
end Go.Proofs.YtgeeklmjfbiieaaDoor
end
