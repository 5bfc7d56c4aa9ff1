/-
  The document's digest: a block pressed, whole.
-/
import Derived.Test.YtcokebbiblnonaaDoorRfA
import Derived.Test.YtcokebbiblnonaaDoorBlB
set_option linter.all false
noncomputable section
namespace Go.Proofs.YtcokebbiblnonaaDoor
open Go Go.Ab
set_option maxRecDepth 100000
theorem rd8(b:Nat){g:Heap}{v:Value}{n:Nat}{l:List Nat}(s:Sl g 1 v n (l.map u8v)){i:Nat}(hi:i < n) : ∃ bk o,Qnv v=some bk∧Vo (E b).toEnv 51 v (.int .i64 (i:Int))=some (.pointer (some ⟨bk,o,none⟩))∧Qhe g bk o=some (.int .u8 ((wd l i:Nat):Int)):=by
 obtain⟨bk,o,h1,h2,h3, -⟩:=Ywo (T51 b) Q09 s (k := .i64) (i:=(i:Int)) (by omega) (by omega)
 have hl:l.length=n:=by simpa using s.len
 refine⟨bk,o,h1,h2,?_⟩
 have:=h3 0 (by omega)
 rw[Int.toNat_natCast,Nat.add_zero,Nat.add_zero,Nat.mul_one,List.getElem?_map,List.getElem?_eq_getElem (by omega)]at this
 rw[this]
 simp[wd,u8v,List.getElem?_eq_getElem (show i < l.length by omega)]
def Ydt(l:List Nat)(i:Nat):Nat:=Bl.w32 (Bl.w32 (Bl.w32 (Bl.w32 (wd l i)+Bl.w32 (Bl.w32 (wd l (i+1))*256))+Bl.w32 (Bl.w32 (wd l (i+2))*65536))+Bl.w32 (Bl.w32 (wd l (i+3))*16777216))
def Yth(l:List Nat):List Nat:=(List.range 16).map fun j=>Ydt l (4*j)
def w0L(hs:List Nat)(count:Nat)(last:Bool):List Nat :=
 let a:=((hs++BG).set 12 (Bl.xr 1359893119 (Bl.w32 count))).set 13 (Bl.xr 2600822924 (Bl.w32 (Nat.div count 4294967296)))
 match last with
 | true=>a.set 14 3766232660
 | false=>a
def Ze5(hs l:List Nat)(count:Nat)(last:Bool):List Nat:=Zgq hs (Xt1 (Yth l) (w0L hs count last) 10)
theorem Y5f(a:Nat):IntKind.u32.wrap (a:Int)=((Bl.w32 a:Nat):Int):=Qwf a
theorem Zmv(a b:Nat):IntKind.u32.wrap ((a:Int)+(b:Int))=((Bl.w32 (a+b):Nat):Int):=Y1n a b
theorem Zpa(a c:Nat):IntKind.u32.wrap ((a:Int)*(c:Int))=((Bl.w32 (a*c):Nat):Int):=by rw[← Int.natCast_mul,Qwf]
theorem Zqw:aUn .xor (.int .u32 528734635)=some (.int .u32 3766232660):=by kernel_rfl
def RfM(h:Heap)(hv bv:Value)(l:List Nat)(count:Nat)(last:Bool)(k:Nat)(s:St):Prop := ∃ (tr:Tr Value) (g:Heap) (mv:Value) (j i:Nat),s=⟨⟨153,tr⟩,[],g⟩∧tr.get 0=some hv∧tr.get 1=some bv∧tr.get 2=some (.int .u64 (count:Int))∧tr.get 3=some (.bool last)∧tr.get 9=some mv∧tr.get 10=some (.int .i64 (i:Int))∧i=4*j∧j≤16∧k=16-j∧Old h g∧Own g h.next 1 mv j (((Yth l).take j).map Vq)
theorem Wrow.old{h h1 h2:Heap}{bk z':Nat}{rest:List Value}{ws:List Nat}(W:Wrow h h1 bk z' rest ws):Fr (fun c=>c=bk) h h1:=⟨by rw[W.next];exact Nat.le_refl _,fun c _ hc=>W.same c hc⟩
theorem Rw2.low{h:Heap}{n0 n1 n m:Nat}{v:Value}{ls:List (List Nat)}(R:Rw2 h n1 v n m ls)(hl:n0≤n1):Rw2 h n0 v n m ls:=by
 obtain⟨bk,bs,e,l1,l2,lo,g,each⟩:=R
 exact⟨bk,bs,e,l1,l2,Nat.le_trans hl lo,g,fun i q l h1 h2=>by
  obtain⟨a,c,d⟩:=each i q l h1 h2
  exact⟨Nat.le_trans hl a,c,d⟩⟩
theorem Wrow.own{h h1:Heap}{bk z' c n0:Nat}{rest:List Value}{ws:List Nat}(W:Wrow h h1 bk z' rest ws)(h0:n0≤bk)(h4:16≤c)(h5:c≤Qz9)(h6:c=Qz9∧z'=1∨c≠Qz9∧16+rest.length=c*1):Own h1 n0 1 (.slice (some ⟨bk,0,none⟩) 16 c) 16 (ws.map Vq) :=
 .inr ⟨bk,c,z',rest,rfl,h0,W.at',by simp[W.len],h4,h5,by simpa[W.len]using h6⟩
section
attribute [local simp] Wq Qcm V2 Wv Qa2 Qa0 Yi Wt Wy Wx Qa1 Xr3 Yri Qui Quh Yk Qug Qnj U6 Wg Vu Ww Uf Ws Uy Ux Ju U4 Qlg Qok Vh Qof Qog Qgi Ut Vg Up U3 Vt We Ud U1 Qa6 Vw Qa4 Vv Ug Uj Wm U5 W6 Wi Vx Wk U8 Wd Q6c Xr4 Qly Qxb Qis Vm Uc Ue W8 W5 W7 Ul Ua Uq Uo Wh Wj U0 Uz Ur Wa U7 Wc U2 Wb Uk Wl Uu Vs Un Vz Ui Uv Wf Vi Um Vy Ub U9 W9 Us Uh Uw Wz Wu Yl kON kOC Jx kNN kNP kRR kRP kEN kER Qe Ye Qgd Qa8 aop Qf nth Ab.g0 gv gs Qd Qc aev evs evO Qh St.put Tm.put flat flatA Qa5 Qo Qp Qn Qm Qk Qj Ql Ya Qi Q5 Q6 kTN kTR kTX kTP kBN kBR kBX kBP kCS kCR kCE kAM Yc Qb Q4 Q2 Q9 Qa Q8 Q1 Q3 Q7
set_option maxHeartbeats 4000000 in
theorem Zgo(b:Nat){h:Heap}{hv bv:Value}{hs l:List Nat}(sh:Sl h 1 hv 8 (hs.map Vq))(sb:Sl h 1 bv 64 (l.map u8v))(count:Nat)(hc:count < 9223372036854775808)(last:Bool)(K:AEnd→Heap→Prop)
  (hk : ∀ v h',Own h' h.next 1 v 8 ((Ze5 hs l count last).map Vq)→Old h h'→K (.ret v) h'):FnK Tryd.prog (E b).G 69 [hv,bv, .int .u64 (count:Int), .bool last] h K:=by
 refine Qv4 (E b) (Q4m b) (Qqz b) mixed (Q6d b) (Qv5 b) (V2 b) Yux Y1k Yyo rfl ?_
 have hhs:hs.length=8:=by simpa using sh.len
 have hR:R90.bytes=4:=by kernel_rfl
 simp[Vn,Vk,Tr.get_put,Ji.putAll]
 refine Xda (RfM h hv bv l count last) 16 ⟨_,h, .slice none 0 0,0,0,rfl,by simp[Tr.get_put],by simp[Tr.get_put],by simp[Tr.get_put],by simp[Tr.get_put],by simp[Tr.get_put],by simp[Tr.get_put],rfl,by omega,rfl,Old.refl _,Own.nil⟩ ?_
 rintro k s' ⟨tr,g,mv,j,i,rfl,t0,t1,t2,t3,t9,t10,ei,hj,rfl,a,ow⟩ _
 by_cases hlt:j < 16
 ·have hlt':(i:Int) < 64:=by omega
  obtain⟨i1,e1⟩ : ∃ x:Nat,x=i+1:=⟨_,rfl⟩
  obtain⟨i2,e2⟩ : ∃ x:Nat,x=i+2:=⟨_,rfl⟩
  obtain⟨i3,e3⟩ : ∃ x:Nat,x=i+3:=⟨_,rfl⟩
  obtain⟨i4,e4⟩ : ∃ x:Nat,x=i+4:=⟨_,rfl⟩
  have w1:IntKind.i64.wrap ((i:Int)+1)=(i1:Int):=by rw[Qoo (by omega) (by omega)];omega
  have w2:IntKind.i64.wrap ((i:Int)+2)=(i2:Int):=by rw[Qoo (by omega) (by omega)];omega
  have w3:IntKind.i64.wrap ((i:Int)+3)=(i3:Int):=by rw[Qoo (by omega) (by omega)];omega
  have w4:IntKind.i64.wrap ((i:Int)+4)=(i4:Int):=by rw[Qoo (by omega) (by omega)];omega
  obtain⟨b0,o0, -,x0,c0⟩:=rd8 b (sb.old a) (i:=i) (by omega)
  obtain⟨b1,o1, -,x1,c1⟩:=rd8 b (sb.old a) (i:=i1) (by omega)
  obtain⟨b2,o2, -,x2,c2⟩:=rd8 b (sb.old a) (i:=i2) (by omega)
  obtain⟨b3,o3, -,x3,c3⟩:=rd8 b (sb.old a) (i:=i3) (by omega)
  obtain⟨y0,f0⟩ : ∃ y,y=Bl.w32 (wd l i):=⟨_,rfl⟩
  obtain⟨y1,f1⟩ : ∃ y,y=Bl.w32 (wd l i1):=⟨_,rfl⟩
  obtain⟨y2,f2⟩ : ∃ y,y=Bl.w32 (wd l i2):=⟨_,rfl⟩
  obtain⟨y3,f3⟩ : ∃ y,y=Bl.w32 (wd l i3):=⟨_,rfl⟩
  obtain⟨m1,g1⟩ : ∃ y,y=Bl.w32 (y1*256):=⟨_,rfl⟩
  obtain⟨m2,g2⟩ : ∃ y,y=Bl.w32 (y2*65536):=⟨_,rfl⟩
  obtain⟨m3,g3⟩ : ∃ y,y=Bl.w32 (y3*16777216):=⟨_,rfl⟩
  have v0:IntKind.u32.wrap ((wd l i:Nat):Int)=(y0:Int):=by rw[Y5f,f0]
  have v1:IntKind.u32.wrap ((wd l i1:Nat):Int)=(y1:Int):=by rw[Y5f,f1]
  have v2:IntKind.u32.wrap ((wd l i2:Nat):Int)=(y2:Int):=by rw[Y5f,f2]
  have v3:IntKind.u32.wrap ((wd l i3:Nat):Int)=(y3:Int):=by rw[Y5f,f3]
  have u1:IntKind.u32.wrap ((y1:Int)*256)=(m1:Int):=(Zpa y1 256).trans (by rw[g1])
  have u2:IntKind.u32.wrap ((y2:Int)*65536)=(m2:Int):=(Zpa y2 65536).trans (by rw[g2])
  have u3:IntKind.u32.wrap ((y3:Int)*16777216)=(m3:Int):=(Zpa y3 16777216).trans (by rw[g3])
  obtain⟨n1,k1⟩ : ∃ y,y=Bl.w32 (y0+m1):=⟨_,rfl⟩
  obtain⟨n2,k2⟩ : ∃ y,y=Bl.w32 (n1+m2):=⟨_,rfl⟩
  obtain⟨y,k3⟩ : ∃ y,y=Bl.w32 (n2+m3):=⟨_,rfl⟩
  have z1:IntKind.u32.wrap ((y0:Int)+(m1:Int))=(n1:Int):=by rw[Zmv,k1]
  have z2:IntKind.u32.wrap ((n1:Int)+(m2:Int))=(n2:Int):=by rw[Zmv,k2]
  have z3:IntKind.u32.wrap ((n2:Int)+(m3:Int))=(y:Int):=by rw[Zmv,k3]
  have hb:=Ytk (Zau b) (z:=1) Q9x (by omega) (by omega) (y := .int .u32 (y:Int)) rfl (ys := [Vq y]) rfl rfl (h:=g)
  obtain⟨v',g2',q1,q2,q3,q4⟩:=Xve (Zau b) Q9x (by omega) ow a.1 (ys := [Vq y]) rfl (by rw[hR];omega) (by omega)
  simp[Vn,Vk,Tr.get_put,Ji.putAll,t0,t1,t2,t3,t9,t10,hlt']
  refine Qz7 [] (by simp) Yl7 Yo2 Yl2 (by simp (config := {maxSteps:=1000000}) [Ab.runT,Vb,V4,ldv,Nat.testBit,Qiu,Ve,V6,Wn,loadAt,Qn4,Qb8,aop,Qf,nth,Ab.g0,gv,gs,Qd,Qc,Yl,aev,evs,evO,Qh,Tr.get_put,St.put,Tm.put,flat,flatA,Qa5,Qo,Qp,Qn,Qm,Qk,Qj,Ql,Ya,Qa8,Qi,Q5,Q6,Yc,Qb,Q4,Q2,Q9,Qa,Q8,Q1,Q3,Q7,Yow,Yqc,Wq,Qcm,V2,Wv,Qa2,Qa0,Yi,Wt,Wy,Wx,Qa1,Xr3,Yri,Qui,Quh,Yk,Qug,Qnj,U6,Wg,Vu,Ww,Uf,Ws,Uy,Ux,Ju,U4,Qlg,Qok,Vh,Qof,Qog,Qgi,Ut,Vg,Up,U3,Vt,We,Ud,U1,Qa6,Vw,Qa4,Vv,Ug,Uj,Wm,U5,W6,Wi,Vx,Wk,U8,Wd,Q6c,Xr4,Qly,Qxb,Qis,Vm,Uc,Ue,W8,W5,W7,Ul,Ua,Uq,Uo,Wh,Wj,U0,Uz,Ur,Wa,U7,Wc,U2,Wb,Uk,Wl,Uu,Vs,Un,Vz,Ui,Uv,Wf,Vi,Vn,Um,Vk,Vy,Ub,U9,W9,Us,Uh,Uw,Wz,Wu,t1,t9,t10,w1,w2,w3,x0,x1,x2,x3,c0,c1,c2,c3,v0,v1,v2,v3,u1,u2,u3,z1,z2,z3,hb,q1];first | exact⟨rfl,rfl⟩ | rfl) ?_ ?_
  ·simp (config := {maxSteps:=1000000}) [Vb,V4,Qxa,ldv,Ab.runT,Vb,V4,ldv,Nat.testBit,Qiu,Ve,V6,Wn,loadAt,Qn4,Qb8,aop,Qf,nth,Ab.g0,gv,gs,Qd,Qc,Yl,aev,evs,evO,Qh,Tr.get_put,St.put,Tm.put,flat,flatA,Qa5,Qo,Qp,Qn,Qm,Qk,Qj,Ql,Ya,Qa8,Qi,Q5,Q6,Yc,Qb,Q4,Q2,Q9,Qa,Q8,Q1,Q3,Q7,Wq,Qcm,V2,Wv,Qa2,Qa0,Yi,Wt,Wy,Wx,Qa1,Xr3,Yri,Qui,Quh,Yk,Qug,Qnj,U6,Wg,Vu,Ww,Uf,Ws,Uy,Ux,Ju,U4,Qlg,Qok,Vh,Qof,Qog,Qgi,Ut,Vg,Up,U3,Vt,We,Ud,U1,Qa6,Vw,Qa4,Vv,Ug,Uj,Wm,U5,W6,Wi,Vx,Wk,U8,Wd,Q6c,Xr4,Qly,Qxb,Qis,Vm,Uc,Ue,W8,W5,W7,Ul,Ua,Uq,Uo,Wh,Wj,U0,Uz,Ur,Wa,U7,Wc,U2,Wb,Uk,Wl,Uu,Vs,Un,Vz,Ui,Uv,Wf,Vi,Vn,Um,Vk,Vy,Ub,U9,W9,Us,Uh,Uw,Wz,Wu,t1,t9,t10,w1,w2,w3,x0,x1,x2,x3,c0,c1,c2,c3]
  simp[Vn,Vk,Tr.get_put,Ji.putAll,t0,t1,t2,t3,t9,t10,w4]
  refine⟨16-(j+1),by omega,_,g2',v',j+1,i4,rfl,by simp[Tr.get_put,t0],by simp[Tr.get_put,t1],by simp[Tr.get_put,t2],by simp[Tr.get_put,t3],by simp[Tr.get_put],by simp[Tr.get_put],by omega,by omega,rfl,Beyond.old a ow q3,?_⟩
  have hy:(Yth l)[j]? = some y:=by
   rw[Yth,List.getElem?_map,List.getElem?_range hlt,Option.map_some,← ei,k3,k2,k1,g3,g2,g1,f0,f1,f2,f3,e1,e2,e3]
   rfl
  rw[Y3l hy]
  exact q2
 have hlt' : ¬ (i:Int) < 64:=by omega
 have ej:j=16:=by omega
 subst ej
 rw[List.take_of_length_le (by simp[Yth])]at ow
 obtain⟨w1v,g1,p1,o1,y1,z1⟩:=X9x (Zau b) Q9x (by omega) (Own.nil (h:=g) (n0:=g.next) (z:=1)) (Nat.le_refl _) (Yf7 (Zau b) Q9x (sh.old a)) (by simp[hhs]) (by rw[hR];omega) (by omega)
 have a1:Old g g1:=Beyond.old (z:=1) (Old.refl _) Own.nil y1
 simp[Vn,Vk,Tr.get_put,Ji.putAll,t0,t1,t2,t3,t9,t10,hlt',p1]
 refine Y2u b g1 _ ?_
 have sB:Sl (g1.push (.cells true 1 (BG.map Vq))) 1 (.slice (some ⟨g1.next,0,none⟩) 8 8) 8 (BG.map Vq) := .inr ⟨g1.next,0,8,true,1,[],[],rfl,by rw[Heap.get_push,if_pos rfl];simp,rfl,rfl,Nat.le_refl _,by unfold Qz9;omega,fun h=>by unfold Qz9 at h;omega⟩
 have aP:Old g1 (g1.push (.cells true 1 (BG.map Vq))):=Old.push _ _
 obtain⟨wv,g2,p2,o2,y2,z2⟩:=X9x (Zau b) Q9x (by omega) (Xy1 aP o1) (by rw[Yxx];have:=a1.1;omega) (Yf7 (Zau b) Q9x sB) (by simp[BG]) (by rw[hR];omega) (by omega)
 have a2:Old g g2:=Beyond.old (a1.trans aP) (Xy1 aP o1) y2
 have o2':Own g2 g.next 1 wv 16 ((hs++BG).map Vq):=by simpa using o2
 rcases o2' with⟨_,e,_⟩ | ⟨bk,c,z',rest,rfl,h1,h2,h3,h4,h5,h6⟩
 ·cases e
 have hL:(hs++BG).length=16:=by simp[hhs,BG]
 have W0:Wrow g2 g2 bk z' rest (hs++BG):=⟨h2,rfl,fun _ _=>rfl,hL⟩
 have h6':c=Qz9∧z'=1∨c≠Qz9∧16+rest.length=c*1:=by
  rcases h6 with q | ⟨q,q'⟩
  ·exact .inl q
  ·rw[List.length_append,List.length_map,hL]at q'
   exact .inr ⟨q,q'⟩
 have ix : ∀ i:Nat,i < 16→Vo (E b).toEnv tW (.slice (some ⟨bk,0,none⟩) 16 c) (.int .i64 (i:Int))=some (.pointer (some ⟨bk,i,none⟩)):=fun i hi=>by
  rw[Qyu (Zau b) Q9x ⟨by omega,by omega⟩]
  simp
 have x12:Vo (E b).toEnv tW (.slice (some ⟨bk,0,none⟩) 16 c) (.int .i64 12)=some (.pointer (some ⟨bk,12,none⟩)):=ix 12 (by omega)
 have x13:Vo (E b).toEnv tW (.slice (some ⟨bk,0,none⟩) 16 c) (.int .i64 13)=some (.pointer (some ⟨bk,13,none⟩)):=ix 13 (by omega)
 have x14:Vo (E b).toEnv tW (.slice (some ⟨bk,0,none⟩) 16 c) (.int .i64 14)=some (.pointer (some ⟨bk,14,none⟩)):=ix 14 (by omega)
 obtain⟨cA,fA⟩ : ∃ y,y=Bl.w32 count:=⟨_,rfl⟩
 obtain⟨cB,fB⟩ : ∃ y,y=Bl.w32 (Nat.div count 4294967296):=⟨_,rfl⟩
 have vA:IntKind.u32.wrap (Int.tmod (count:Int) 4294967296)=(cA:Int):=by
  have e:Int.tmod (count:Int) 4294967296=((count % 4294967296:Nat):Int):=(Int.ofNat_tmod count 4294967296).symm
  rw[e,Y5f,fA]
  show((count % 4294967296 % 4294967296:Nat):Int)=((count % 4294967296:Nat):Int)
  omega
 have vB:IntKind.u32.wrap (IntKind.u64.wrap (Int.tdiv (count:Int) 4294967296))=(cB:Int):=by
  have e:Int.tdiv (count:Int) 4294967296=((count / 4294967296:Nat):Int):=(Int.ofNat_tdiv count 4294967296).symm
  have e2:IntKind.u64.wrap ((count / 4294967296:Nat):Int)=((count / 4294967296:Nat):Int):=by
   show((count / 4294967296:Nat):Int) % (2 ^ 64:Int)=_
   omega
  rw[e,e2,Y5f,fB]
  rfl
 have vA2:IntKind.u32.wrap ((count:Int) % 4294967296)=(cA:Int):=by rw[← vA];congr 1
 have vB2:IntKind.u32.wrap (IntKind.u64.wrap ((count:Int) / 4294967296))=(cB:Int):=by rw[← vB];congr 2
 obtain⟨y12,f12⟩ : ∃ y,y=Bl.xr (wd (hs++BG) 12) cA:=⟨_,rfl⟩
 obtain⟨g3,s3,W1⟩:=W0.put (i:=12) (by omega) y12
 have c12:=W0.cell (i:=12) (by omega)
 obtain⟨y13,f13⟩ : ∃ y,y=Bl.xr (wd ((hs++BG).set 12 y12) 13) cB:=⟨_,rfl⟩
 obtain⟨g4,s4,W2⟩:=W1.put (i:=13) (by omega) y13
 have c13:=W1.cell (i:=13) (by omega)
 have e12:wd (hs++BG) 12=1359893119:=by simp[wd,hhs,BG]
 have e13:wd ((hs++BG).set 12 y12) 13=2600822924:=by simp[wd,hhs,BG,List.getElem?_append_right,List.getElem?_set]
 have e14:wd (((hs++BG).set 12 y12).set 13 y13) 14=528734635:=by simp[wd,hhs,BG,List.getElem?_append_right,List.getElem?_set]
 have c14:Qhe g4 bk 14=some (.int .u32 528734635):=by have:=W2.cell (i:=14) (by omega);rw[e14]at this;exact this
 have fin : ∀ (tr:Tr Value) (g5:Heap) (W3:Wrow g2 g5 bk z' rest (w0L hs count last)),tr.get 0=some hv→tr.get 9=some mv→tr.get 11=some (.slice (some ⟨bk,0,none⟩) 16 c) →
   Q0 (E b) (Q9c Tryd.prog (E b).G) (D0 b) none Xpe ⟨⟨153,tr⟩,[],g5⟩ (Yyp (E b) (DD b) Q95 K):=by
  intro tr g5 W3 t0 t9 t11
  have a5:Old g g5:=⟨by rw[W3.next];exact a2.1,fun k hk=>by rw[W3.same k (by omega),a2.2 k hk]⟩
  simp[Vn,Vk,Tr.get_put,Ji.putAll,t0,t9,t11]
  refine Zdh b g5 _ fun ov g6 Ro a6 => ?_
  simp[Vn,Vk,Tr.get_put,Ji.putAll,t0,t9,t11]
  refine Zev b g6 _ fun pv g7 Rp a7 => ?_
  simp[Vn,Vk,Tr.get_put,Ji.putAll,t0,t9,t11,-Vn]
  have a57:=a6.trans a7
  have lbk:bk < g5.next:=Heap.get_lt W3.at'
  have a7':Old g g7:=a5.trans a57
  have o7:=Xy1 a57 (W3.own (n0:=g.next) h1 h4 h5 h6')
  refine Y2a b (n0:=g.next) (n1:=g5.next) (bk:=bk) (ms:=Yth l) (ws:=w0L hs count last) ((sh.old a).old a7') (Xy1 a7' ow).sl o7 W3.len rfl (fun e=>by have:=(sh.old a).blk e;omega) (fun e=>by have:=(ow.from e).2;omega) (Ro.keep fun c h1 h2=>a7.2 c h2) (Rp.low a6.1) lbk (by simp[Tr.get_put,t0]) (by simp[Tr.get_put,t9]) (by simp[Tr.get_put,t11]) (by simp[Tr.get_put]) (by simp[Tr.get_put]) K fun v h' o' n' s'=>hk v h' (o'.low (by have:=a.1;have:=a7'.1;omega)) ?_
  refine⟨by have:=a.1;have:=a7'.1;omega,fun k hk => ?_⟩
  have h1':=a.1
  have h2':=a7'.1
  rw[s' k (by omega) (by omega),a7'.2 k (by omega),a.2 k hk]
 cases last with
 | false =>
  simp[Vn,Vk,Tr.get_put,Ji.putAll,t0,t1,t2,t3,t9,t10,p2,x12,c12,vA,vA2,Zja,Zms,← f12,s3,x13,c13,vB,vB2,← f13,s4,-Vk]
  refine fin _ g4 ?_ ?_ ?_ ?_
  rotate_left
  ·simp[Tr.get_put,t0]
  ·simp[Tr.get_put,t9]
  ·simp[Tr.get_put]
  have : ((hs++BG).set 12 y12).set 13 y13=w0L hs count false:=by rw[f13,e13,f12,e12,fA,fB];rfl
  rw[← this];exact W2
 | true =>
  obtain⟨g5,s5,W3⟩:=W2.put (i:=14) (by omega) 3766232660
  have s5':Qtd g4 bk 14 [.int .u32 3766232660]=some g5:=s5
  simp[Vn,Vk,Tr.get_put,Ji.putAll,t0,t1,t2,t3,t9,t10,p2,x12,c12,vA,vA2,Zja,Zms,← f12,s3,x13,c13,vB,vB2,← f13,s4,x14,c14,Zqw,s5',-Vk]
  refine fin _ g5 ?_ ?_ ?_ ?_
  rotate_left
  ·simp[Tr.get_put,t0]
  ·simp[Tr.get_put,t9]
  ·simp[Tr.get_put]
  have : (((hs++BG).set 12 y12).set 13 y13).set 14 3766232660=w0L hs count true:=by rw[f13,e13,f12,e12,fA,fB];rfl
  rw[← this];exact W3
end
end Go.Proofs.YtcokebbiblnonaaDoor
end
noncomputable section
namespace Go.Proofs.YtcokebbiblnonaaDoor
open Go Go.Ab
set_option maxRecDepth 100000
theorem Y5s{x i:Nat}(h:x < 2 ^ i)(y:Nat):Nat.lor x (y*2 ^ i)=x+y*2 ^ i:=by
 have:=Nat.two_pow_add_eq_or_of_lt h y
 show x ||| y*2 ^ i=_
 rw[Nat.or_comm,Nat.mul_comm y,← this,Nat.add_comm]
theorem Yfi{n:Nat}(h:n < 4294967296):Bl.w32 n=n:=Nat.mod_eq_of_lt h
theorem Zjs{a b c d:Nat}(ha:a < 256)(hb:b < 256)(hc:c < 256)(hd:d < 256):Bl.le4 a b c d=Bl.w32 (Bl.w32 (Bl.w32 (Bl.w32 a+Bl.w32 (Bl.w32 b*256))+Bl.w32 (Bl.w32 c*65536))+Bl.w32 (Bl.w32 d*16777216)):=by
 have e1:Nat.mul b 256=b*256:=rfl
 have e2:Nat.mul c 65536=c*65536:=rfl
 have e3:Nat.mul d 16777216=d*16777216:=rfl
 have q1:Nat.lor a (b*256)=a+b*256:=Y5s (i:=8) (by omega) b
 have q2:Nat.lor (a+b*256) (c*65536)=a+b*256+c*65536:=Y5s (i:=16) (by omega) c
 have q3:Nat.lor (a+b*256+c*65536) (d*16777216)=a+b*256+c*65536+d*16777216:=Y5s (i:=24) (by omega) d
 have w1:=Yfi (n:=a) (by omega)
 have w2:=Yfi (n:=b) (by omega)
 have w3:=Yfi (n:=c) (by omega)
 have w4:=Yfi (n:=d) (by omega)
 have w5:=Yfi (n:=b*256) (by omega)
 have w6:=Yfi (n:=c*65536) (by omega)
 have w7:=Yfi (n:=d*16777216) (by omega)
 have w8:=Yfi (n:=a+b*256) (by omega)
 have w9:=Yfi (n:=a+b*256+c*65536) (by omega)
 have w10:=Yfi (n:=a+b*256+c*65536+d*16777216) (by omega)
 simp only[Bl.le4,Bl.orr,w1,w2,w3,w4,e1,e2,e3,w5,w6,w7,q1,w8,q2,w9,q3,w10]
def LE(l:List Nat)(n:Nat):Nat:=Bl.le4 (wd l n) (wd l (n+1)) (wd l (n+2)) (wd l (n+3))
theorem Zjj(l:List Nat)(n i:Nat):wd (l.drop n) i=wd l (n+i):=by simp[wd,List.getD,List.getElem?_drop]
theorem Zq1{A:Type}{l:List Nat}(h:4≤l.length)(K:Nat→List Nat→A):Bl.nx l K=K (LE l 0) (l.drop 4):=by
 match l,h with
 | a::b::c::d::l,_=>rfl
theorem Xka{A:Type}{l:List Nat}(n:Nat)(h:n+4≤l.length)(K:Nat→List Nat→A):Bl.nx (l.drop n) K=K (LE l n) (l.drop (n+4)):=by
 rw[Zq1 (by rw[List.length_drop];omega),List.drop_drop]
 simp only[LE,Zjj,Nat.add_zero]
theorem Zh1{A:Type}{l:List Nat}(h:l.length=64)(K:Nat→Nat→Nat→Nat→Nat→Nat→Nat→Nat→Nat→Nat→Nat→Nat→Nat→Nat→Nat→Nat→A):Bl.words l K=K (LE l 0) (LE l 4) (LE l 8) (LE l 12) (LE l 16) (LE l 20) (LE l 24) (LE l 28) (LE l 32) (LE l 36) (LE l 40) (LE l 44) (LE l 48) (LE l 52) (LE l 56) (LE l 60):=by
 unfold Bl.words
 have e:Bl.nx l=Bl.nx (A:=A) (l.drop 0):=rfl
 rw[e]
 rw[Xka 0 (by omega)]
 rw[Xka 4 (by omega)]
 rw[Xka 8 (by omega)]
 rw[Xka 12 (by omega)]
 rw[Xka 16 (by omega)]
 rw[Xka 20 (by omega)]
 rw[Xka 24 (by omega)]
 rw[Xka 28 (by omega)]
 rw[Xka 32 (by omega)]
 rw[Xka 36 (by omega)]
 rw[Xka 40 (by omega)]
 rw[Xka 44 (by omega)]
 rw[Xka 48 (by omega)]
 rw[Xka 52 (by omega)]
 rw[Xka 56 (by omega)]
 rw[Xka 60 (by omega)]
theorem Zhx{l:List Nat}(hb : ∀ x ∈ l,x < 256)(n:Nat):Ydt l n=LE l n:=by
 have q : ∀ i,wd l i < 256:=fun i=>by
  unfold wd
  rw[List.getD_eq_getElem?_getD]
  cases e:l[i]? with
  | none=>simp
  | some x=>exact hb x (List.mem_of_getElem? e)
 rw[LE,Zjs (q _) (q _) (q _) (q _)]
 rfl
theorem Zct{l:List Nat}(hb : ∀ x ∈ l,x < 256):Yth l = [LE l 0,LE l 4,LE l 8,LE l 12,LE l 16,LE l 20,LE l 24,LE l 28,LE l 32,LE l 36,LE l 40,LE l 44,LE l 48,LE l 52,LE l 56,LE l 60]:=by
 have : Yth l = [Ydt l 0,Ydt l 4,Ydt l 8,Ydt l 12,Ydt l 16,Ydt l 20,Ydt l 24,Ydt l 28,Ydt l 32,Ydt l 36,Ydt l 40,Ydt l 44,Ydt l 48,Ydt l 52,Ydt l 56,Ydt l 60]:=rfl
 rw[this]
 simp only[Zhx hb]
theorem Zhf(a b c:Nat):Bl.xr (Bl.xr a b) c=Bl.xr a (Bl.xr b c):=by
 have h : ∀ x y:Nat,Bl.xr x y=(x ^^^ y) % 2 ^ 32:=fun x y=>by
  show((x % 4294967296) ^^^ (y % 4294967296)) % 4294967296=_
  have e:(4294967296:Nat)=2 ^ 32:=rfl
  rw[e,Nat.xor_mod_two_pow,Nat.mod_mod,Nat.mod_mod,← Nat.xor_mod_two_pow]
 rw[h,h,h,h,Nat.xor_mod_two_pow,Nat.mod_mod,← Nat.xor_mod_two_pow,Nat.xor_mod_two_pow (a:=a),Nat.mod_mod,← Nat.xor_mod_two_pow,Nat.xor_assoc]
theorem Y00{A B:Type}(F:A→B)(p0 p1 p2 p3 p4 p5 p6 p7 p8 p9 p10 p11 p12 p13 p14 p15 m0 m1 m2 m3 m4 m5 m6 m7 m8 m9 m10 m11 m12 m13 m14 m15:Nat)(K:Nat→Nat→Nat→Nat→Nat→Nat→Nat→Nat→Nat→Nat→Nat→Nat→Nat→Nat→Nat→Nat→A):F (Bl.rounds p0 p1 p2 p3 p4 p5 p6 p7 p8 p9 p10 p11 p12 p13 p14 p15 m0 m1 m2 m3 m4 m5 m6 m7 m8 m9 m10 m11 m12 m13 m14 m15 K)=Bl.rounds p0 p1 p2 p3 p4 p5 p6 p7 p8 p9 p10 p11 p12 p13 p14 p15 m0 m1 m2 m3 m4 m5 m6 m7 m8 m9 m10 m11 m12 m13 m14 m15 (fun p0 p1 p2 p3 p4 p5 p6 p7 p8 p9 p10 p11 p12 p13 p14 p15=>F (K p0 p1 p2 p3 p4 p5 p6 p7 p8 p9 p10 p11 p12 p13 p14 p15)):=Eq.trans rfl rfl
theorem Zee(p:Bl.P8){l:List Nat}(h:l.length=64)(hb : ∀ x ∈ l,x < 256)(count:Nat)(last:Bool):Ze5 (X7m p) l count last=X7m (Bl.take p l count last):=by
 obtain⟨h0,h1,h2,h3,h4,h5,h6,h7⟩:=p
 have e0:w0L (X7m ⟨h0,h1,h2,h3,h4,h5,h6,h7⟩) count last = [h0,h1,h2,h3,h4,h5,h6,h7,1779033703,3144134277,1013904242,2773480762,Bl.xr 1359893119 (Bl.w32 count),Bl.xr 2600822924 (Bl.w32 (Nat.div count 4294967296)),(match last with | true=>Bl.xr 4294967295 528734635 | false=>528734635),1541459225]:=by cases last <;> rfl
 have e1 : ∀ p0 p1 p2 p3 p4 p5 p6 p7 p8 p9 p10 p11 p12 p13 p14 p15:Nat,Zgq (X7m ⟨h0,h1,h2,h3,h4,h5,h6,h7⟩) [p0,p1,p2,p3,p4,p5,p6,p7,p8,p9,p10,p11,p12,p13,p14,p15]=X7m ⟨Bl.xr h0 (Bl.xr p0 p8),Bl.xr h1 (Bl.xr p1 p9),Bl.xr h2 (Bl.xr p2 p10),Bl.xr h3 (Bl.xr p3 p11),Bl.xr h4 (Bl.xr p4 p12),Bl.xr h5 (Bl.xr p5 p13),Bl.xr h6 (Bl.xr p6 p14),Bl.xr h7 (Bl.xr p7 p15)⟩:=by
  intro p0 p1 p2 p3 p4 p5 p6 p7 p8 p9 p10 p11 p12 p13 p14 p15
  simp only[← Zhf]
  rfl
 unfold Ze5
 rw[e0,Zct hb,Zdw,Y00 (Zgq (X7m ⟨h0,h1,h2,h3,h4,h5,h6,h7⟩))]
 simp only[e1]
 rw[← Y00 X7m]
 simp only[Bl.take]
 rw[Zh1 h]
 cases last <;> rfl
end Go.Proofs.YtcokebbiblnonaaDoor
end
noncomputable section
namespace Go.Proofs.YtcokebbiblnonaaDoor
open Go Go.Ab
set_option maxRecDepth 100000
def Yxc(hs:List Nat)(j:Nat):Nat:=wd hs (j / 4) / 256 ^ (j % 4) % 256
def X9v(hs:List Nat)(i:Nat):List Nat:=(List.range 32).map fun j=>if j < i then Yxc hs j else 0
theorem X9a(hs:List Nat)(i:Nat):(X9v hs i).length=32:=by simp[X9v]
theorem Zae(hs:List Nat){i:Nat}(hi:i < 32):(X9v hs i).set i (Yxc hs i)=X9v hs (i+1):=by
 apply List.ext_getElem?
 intro j
 rw[List.getElem?_set]
 by_cases hj:j < 32
 ·have e : ∀ m,(X9v hs m)[j]? = some (if j < m then Yxc hs j else 0):=fun m=>by
   rw[X9v,List.getElem?_map,List.getElem?_range hj];rfl
  by_cases hij:i=j
  ·subst hij
   rw[if_pos rfl,if_pos (by rw[X9a];exact hi),e,if_pos (by omega)]
  ·rw[if_neg hij,e,e]
   by_cases h1:j < i
   ·rw[if_pos h1,if_pos (by omega)]
   ·rw[if_neg h1,if_neg (by omega)]
 ·rw[if_neg (by omega),List.getElem?_eq_none (by rw[X9a];omega),List.getElem?_eq_none (by rw[X9a];omega)]
theorem Yyw(p:Bl.P8):X9v (X7m p) 32=Bl.out p:=by
 obtain⟨h0,h1,h2,h3,h4,h5,h6,h7⟩:=p
 have e : ∀ hs,X9v hs 32=(List.range 32).map (Yxc hs):=fun hs=>by
  unfold X9v
  refine List.map_congr_left fun j hj => ?_
  rw[if_pos (List.mem_range.1 hj)]
 rw[e]
 simp[List.range,List.range.loop,Yxc,wd,X7m,Bl.out,Bl.by4]
 and_intros <;> rfl
structure RfO (g0 g:Heap) (A B:Nat) (hs:List Nat) (i:Nat):Prop where
 at':g.get B=some (.cells true 1 ((X9v hs i).map u8v))
 next:g.next=g0.next
 same : ∀ c,c≠B→g.get c=g0.get c
def RfJ(g:Heap)(hv:Value)(A B i r x:Nat)(k:Nat)(s:St):Prop := ∃ (tr:Tr Value) (m:Nat),s=⟨⟨109,tr⟩,[],g⟩∧tr.get 4=some (.pointer (some ⟨A,0,none⟩))∧tr.get 7=some hv∧tr.get 11=some (.pointer (some ⟨B,0,none⟩))∧tr.get 12=some (.int .i64 (i:Int))∧tr.get 13=some (.int .u32 ((x / 256 ^ m:Nat):Int))∧tr.get 14=some (.int .i64 (m:Int))∧m≤r∧k=r-m
def RfB(g0:Heap)(hv:Value)(A B:Nat)(hs:List Nat)(k:Nat)(s:St):Prop := ∃ (tr:Tr Value) (g:Heap) (i:Nat),s=⟨⟨109,tr⟩,[],g⟩∧tr.get 4=some (.pointer (some ⟨A,0,none⟩))∧tr.get 7=some hv∧tr.get 11=some (.pointer (some ⟨B,0,none⟩))∧tr.get 12=some (.int .i64 (i:Int))∧i≤32∧k=32-i∧RfO g0 g A B hs i
section
attribute [local simp] Qg4 Qix Qha Qgn Xod Vc Qgs Qn0 Qgp Qgr Qgk Qgt Qgq Qgm Qgl Qdh Qdw Qdu Yi Qde Qcy Qcz Qdd Qex Qcu Qdr Qey Qeq Qdb Qe6 Qdl Qdx Ju Qe0 Qlg Qok Qly Qtb Qp0 Qgi Qeo Qe2 Qf1 Qd9 Qaw Qet Qeb Qee Yk Qew Qcv Qdn Qcx Qer Qem Qdp Qek Qdj Qes Qcs Qt7 Qtc V2 Qe1 Qe9 Qdf Qel Qe7 Wo Qdv Qez Qd8 Qdc Qd2 Qeh Qej Qcw Qef Qd3 Qdz Qnz Qep Qds Qo0 Qct Qd1 Qdk Qdi Qm5 Qev Qdm Qe5 Qeu Qec Qea Qdo Qm3 Qt9 Qta Xms Q11 Qd5 Qd6 Qdt Qd0 Qei Qeg Qed Qe4 Qe8 Qjw Qd7 Qe3 Qdg Wp Qcd Qd4 Qen Qa9 Qdy Qda Qgj Qgo Yl kON kOC Jx kNN kNP kRR kRP kEN kER Qe Ye Qgd Qa8 aop Qf nth Ab.g0 gv gs Qd Qc aev evs evO Qh St.put Tm.put flat flatA Qa5 Qo Qp Qn Qm Qk Qj Ql Ya Qi Q5 Q6 kTN kTR kTX kTP kBN kBR kBX kBP kCS kCR kCE kAM Yc Qb Q4 Q2 Q9 Qa Q8 Q1 Q3 Q7
set_option maxHeartbeats 2000000 in
theorem Za2(b:Nat){tr:Tr Value}{g:Heap}{hv:Value}{p:Bl.P8}{A:Nat}(sh:Sl g 1 hv 8 ((X7m p).map Vq))(hp : ∀ x ∈ X7m p,x < 4294967296)(gA:g.get A=some (.cells true 1 z32))(t4:tr.get 4=some (.pointer (some ⟨A,0,none⟩)))(t7:tr.get 7=some hv)(K:AEnd→Heap→Prop)
  (hk : ∀ h',g.next≤h'.next→(∀ c,c < g.next→c≠A→h'.get c=g.get c)→K (.ret (.agg ⟨(Bl.out p).map u8v⟩)) h') :
  Q0 (E b) (Q9c Tryd.prog (E b).G) (D0 b) none Xpb ⟨⟨109,tr⟩,[],g⟩ (Yyp (E b) (DD b) Q9i K):=by
 obtain⟨gB,eB⟩ : ∃ gB,gB=g.push (.cells true 1 z32):=⟨_,rfl⟩
 have alB:Q10 (E b).toEnv 30 g=some (.pointer (some ⟨g.next,0,none⟩),gB):=by rw[eB];exact Qn1 b g
 have aB:Old g gB:=by rw[eB];exact Old.push _ _
 have nB:gB.next=g.next+1:=by rw[eB];rfl
 have g0B:gB.get g.next=some (.cells true 1 ((X9v (X7m p) 0).map u8v)):=by
  rw[eB,Heap.get_push,if_pos rfl]
  have : (X9v (X7m p) 0).map u8v=z32:=by simp[X9v,z32,List.range,List.range.loop];rfl
  rw[this]
 simp[Qn1,Tr.get_put,Ji.putAll,-Qn1,alB,t4,t7]
 refine Xda (RfB gB hv A g.next (X7m p)) 32 ⟨_,gB,0,rfl,by simp[Tr.get_put,t4],by simp[Tr.get_put,t7],by simp[Tr.get_put],by simp[Tr.get_put],by omega,rfl,⟨g0B,rfl,fun _ _=>rfl⟩⟩ ?_
 clear t4 t7
 rintro k s' ⟨tr,g1,i,rfl,t4,t7,t11,t12,hi,rfl,O⟩ _
 have lA:=Heap.get_lt gA
 by_cases hlt:i < 32
 ·have hlt':(i:Int) < 32:=by omega
  obtain⟨i4,e4⟩ : ∃ x:Nat,x=i / 4:=⟨_,rfl⟩
  obtain⟨r4,er⟩ : ∃ x:Nat,x=i % 4:=⟨_,rfl⟩
  obtain⟨i1,e1⟩ : ∃ x:Nat,x=i+1:=⟨_,rfl⟩
  have vq:IntKind.i64.wrap (Int.tdiv (i:Int) 4)=(i4:Int):=by
   rw[show Int.tdiv (i:Int) 4=((i / 4:Nat):Int)from(Int.ofNat_tdiv i 4).symm,Qoo (by omega) (by omega),e4]
  have vq2:IntKind.i64.wrap ((i:Int) / 4)=(i4:Int):=by rw[← vq];congr 1
  have vr:Int.tmod (i:Int) 4=(r4:Int):=by rw[show Int.tmod (i:Int) 4=((i % 4:Nat):Int)from(Int.ofNat_tmod i 4).symm,er]
  have vr2:(i:Int) % 4=(r4:Int):=by omega
  have w1:IntKind.i64.wrap ((i:Int)+1)=(i1:Int):=by rw[Qoo (by omega) (by omega)];omega
  obtain⟨bk,o,hbk,x0,c0⟩:=Zmq b (sh.old aB) (i:=i4) (by omega)
  have nbk:bk≠g.next:=fun e=>by have:=sh.blk hbk;omega
  have c1:Qhe g1 bk o=some (.int .u32 ((wd (X7m p) i4:Nat):Int)):=by
   unfold Qhe at c0 ⊢
   rw[O.same bk nbk];exact c0
  obtain⟨x,ex⟩ : ∃ x,x=wd (X7m p) i4:=⟨_,rfl⟩
  rw[← ex]at c1
  have hx:x < 4294967296:=by
   rw[ex]
   unfold wd
   rw[List.getD_eq_getElem?_getD]
   cases e:(X7m p)[i4]? with
   | none=>simp
   | some y=>exact hp y (List.mem_of_getElem? e)
  simp[Qn1,Tr.get_put,Ji.putAll,t4,t7,t11,t12,hlt',vq,vq2,x0,c1]
  refine Xda (RfJ g1 hv A g.next i r4 x) r4 ⟨_,0,rfl,by simp[Tr.get_put,t4],by simp[Tr.get_put,t7],by simp[Tr.get_put,t11],by simp[Tr.get_put,t12],by simp[Tr.get_put],by simp[Tr.get_put],by omega,rfl⟩ ?_
  clear t4 t7 t11 t12
  rintro k s' ⟨tr,m,rfl,t4,t7,t11,t12,t13,t14,hm,rfl⟩ _
  have hmx:x / 256 ^ m < 4294967296:=Nat.lt_of_le_of_lt (Nat.div_le_self _ _) hx
  obtain⟨y,ey⟩ : ∃ y,y=x / 256 ^ m:=⟨_,rfl⟩
  rw[← ey]at t13 hmx
  by_cases hml:m < r4
  ·have hml':(m:Int) < (r4:Int):=by omega
   obtain⟨m1,em⟩ : ∃ x:Nat,x=m+1:=⟨_,rfl⟩
   have wm:IntKind.i64.wrap ((m:Int)+1)=(m1:Int):=by rw[Qoo (by omega) (by omega)];omega
   obtain⟨y1,ey1⟩ : ∃ z,z=y / 256:=⟨_,rfl⟩
   have vd:IntKind.u32.wrap (Int.tdiv (y:Int) 256)=(y1:Int):=by
    rw[show Int.tdiv (y:Int) 256=((y / 256:Nat):Int)from(Int.ofNat_tdiv y 256).symm,Y5f,← ey1,Yfi (by omega)]
   have vd2:IntKind.u32.wrap ((y:Int) / 256)=(y1:Int):=by rw[← vd];congr 1
   simp[Qn1,Tr.get_put,Ji.putAll,t4,t7,t11,t12,t13,t14,vr,vr2,hml',vd,vd2,wm]
   exact⟨r4-m1,by omega,_,m1,rfl,by simp[Tr.get_put,t4],by simp[Tr.get_put,t7],by simp[Tr.get_put,t11],by simp[Tr.get_put,t12],by rw[em,Nat.pow_succ,← Nat.div_div_eq_div_mul,← ey,← ey1];simp[Tr.get_put],by simp[Tr.get_put],by omega,rfl⟩
  ·have hml' : ¬ (m:Int) < (r4:Int):=by omega
   have : m=r4:=by omega
   subst this
   obtain⟨z,ez⟩ : ∃ z,z=y % 256:=⟨_,rfl⟩
   have hz:z < 256:=by omega
   have vm:IntKind.u8.wrap (Int.tmod (y:Int) 256)=(z:Int):=by
    rw[show Int.tmod (y:Int) 256=((y % 256:Nat):Int)from(Int.ofNat_tmod y 256).symm,← ez,Zpk hz]
   have vm2:IntKind.u8.wrap ((y:Int) % 256)=(z:Int):=by rw[← vm];congr 1
   have hzb:z=Yxc (X7m p) i:=by rw[ez,ey,ex,Yxc,e4,er]
   have st:=Xoa (v := .int .u8 (z:Int)) O.at' (o:=i) (by rw[List.length_map,X9a];exact hlt)
   have lB:=Heap.get_lt O.at'
   simp[Qn1,Tr.get_put,Ji.putAll,t4,t7,t11,t12,t13,t14,vr,vr2,hml',vm,vm2,hlt',st,w1]
   refine⟨32-i1,by omega,_,_,i1,rfl,by simp[Tr.get_put,t4],by simp[Tr.get_put,t7],by simp[Tr.get_put,t11],by simp[Tr.get_put],by omega,rfl,⟨?_,O.next,fun c hc => ?_⟩⟩
   ·rw[Heap.get_set _ _ _ _ lB,if_pos rfl,e1,← Zae _ hlt,← hzb,List.map_set]
    rfl
   ·rw[Heap.get_set _ _ _ _ lB,if_neg (Ne.symm hc),O.same c hc]
 ·have hlt' : ¬ (i:Int) < 32:=by omega
  have : i=32:=by omega
  subst this
  have gB:=O.at'
  rw[Yyw]at gB
  have lo:(Bl.out p).length=32:=by rw[← Yyw,X9a]
  have ld:Qte g1 g.next 0 32=some (.agg ⟨(Bl.out p).map u8v⟩):=by
   rw[Qq8 gB (by rw[List.length_map,lo];omega),List.drop_zero,List.take_of_length_le (by rw[List.length_map,lo];omega)]
  have gA1:g1.get A=some (.cells true 1 z32):=by rw[O.same A (by omega)];exact aB.get gA
  have lz:z32.length=32:=rfl
  have st:Qtd g1 A 0 ((Bl.out p).map u8v)=some (g1.set A (some (.cells true 1 ((Bl.out p).map u8v)))):=by
   rw[Q0a gA1 (by rw[List.length_map,lo,lz];omega),List.take_zero,List.nil_append,Nat.zero_add,List.drop_of_length_le (by rw[List.length_map,lo,lz];omega),List.append_nil]
  have lA1:=Heap.get_lt gA1
  have ld2:Qte (g1.set A (some (.cells true 1 ((Bl.out p).map u8v)))) A 0 32=some (.agg ⟨(Bl.out p).map u8v⟩):=by
   have : (g1.set A (some (.cells true 1 ((Bl.out p).map u8v)))).get A=some (.cells true 1 ((Bl.out p).map u8v)):=by rw[Heap.get_set _ _ _ _ lA1,if_pos rfl]
   rw[Qq8 this (by rw[List.length_map,lo];omega),List.drop_zero,List.take_of_length_le (by rw[List.length_map,lo];omega)]
  simp[Qn1,Tr.get_put,Ji.putAll,t4,t7,t11,t12,ld,st,lo,ld2]
  refine hk _ (by show g.next≤g1.next;rw[O.next,nB];omega) fun c hc hne => ?_
  rw[Heap.get_set _ _ _ _ lA1,if_neg (Ne.symm hne),O.same c (by omega),aB.2 c hc]
end
end Go.Proofs.YtcokebbiblnonaaDoor
end
noncomputable section
namespace Go.Proofs.YtcokebbiblnonaaDoor
open Go Go.Ab
set_option maxRecDepth 100000
def X9t(xs:List Nat)(n:Nat):List Nat:=xs++List.replicate (n-xs.length) 0
theorem Yzc(xs:List Nat):X9t xs xs.length=xs:=by simp[X9t]
theorem Y9x{xs:List Nat}{n:Nat}(h:xs.length≤n):X9t xs (n+1)=X9t xs n ++ [0]:=by
 unfold X9t
 rw[show n+1-xs.length=n-xs.length+1 by omega,List.replicate_succ',List.append_assoc]
theorem Y3x{xs:List Nat}{n:Nat}(h:xs.length≤n):(X9t xs n).length=n:=by simp[X9t];omega
theorem Y08(b:Nat){g:Heap}{n0 n:Nat}{v:Value}{xs:List Nat}(o:Own g n0 1 v n ((X9t xs n).map u8v))(h0:n0≤g.next)(hn:xs.length≤n)(hl:n < 1000000) :
  ∃ v' g',Qhq (E b).toEnv 51 1 [(0, .int .u8 0)] g=some (.slice (some ⟨g.next,0,none⟩) 1 1,g.push (.cells true 1 [u8v 0]))∧Xc9 (E b).toEnv 51 51 v (.slice (some ⟨g.next,0,none⟩) 1 1) (g.push (.cells true 1 [u8v 0]))=some (v',g')∧Own g' n0 1 v' (n+1) ((X9t xs (n+1)).map u8v)∧Beyond v g g':=by
 have hb:=Ytk (T51 b) (z:=1) Q09 (by omega) (by omega) (y := .int .u8 0) rfl (ys := [u8v 0]) rfl rfl (h:=g)
 obtain⟨v',g',q1,q2,q3⟩:=Zha (T51 b) Q09 (by omega) o h0 (ys := [u8v 0]) rfl (by rw[Xxv];omega) (by omega)
 refine⟨v',g',hb,q1,?_,q3⟩
 rw[Y9x hn,List.map_append]
 exact q2
def RfP(g2:Heap)(n0:Nat)(tv hv:Value)(A a e:Nat)(xs:List Nat)(k:Nat)(s:St):Prop := ∃ (tr:Tr Value) (g:Heap) (v:Value) (n:Nat),s=⟨⟨109,tr⟩,[],g⟩∧tr.get 4=some (.pointer (some ⟨A,0,none⟩))∧tr.get 6=some tv∧tr.get 7=some hv∧tr.get 8=some (.int .i64 (a:Int))∧tr.get 9=some (.int .i64 (e:Int))∧tr.get 10=some v∧xs.length≤n∧n≤64∧k=64-n∧g2.next≤g.next∧(∀ c,c < n0→g.get c=g2.get c)∧Own g n0 1 v n ((X9t xs n).map u8v)
section
attribute [local simp] Qg4 Qix Qha Qn1 Qgn Xod Vc Qgs Qn0 Qgp Qgr Qgk Qgt Qgq Qgm Qgl Qdh Qdw Qdu Yi Qde Qcy Qcz Qdd Qex Qcu Qdr Qey Qeq Qdb Qe6 Qdl Qdx Ju Qe0 Qlg Qok Qly Qtb Qp0 Qgi Qeo Qe2 Qd9 Qaw Qet Qeb Qee Yk Qew Qcv Qdn Qcx Qer Qem Qdp Qek Qdj Qes Qcs Qt7 Qtc V2 Qe1 Qe9 Qdf Qel Qe7 Wo Qdv Qez Qd8 Qdc Qd2 Qeh Qej Qcw Qef Qd3 Qdz Qnz Qep Qds Qo0 Qct Qd1 Qdk Qdi Qm5 Qev Qdm Qe5 Qeu Qec Qea Qdo Qm3 Qt9 Qta Xms Q11 Qd5 Qd6 Qdt Qd0 Qei Qeg Qed Qe4 Qe8 Qjw Qd7 Qe3 Qdg Wp Qcd Qd4 Qen Qa9 Qdy Qda Qgj Qgo Yl kON kOC Jx kNN kNP kRR kRP kEN kER Qe Ye Qgd Qa8 aop Qf nth Ab.g0 gv gs Qd Qc aev evs evO Qh St.put Tm.put flat flatA Qa5 Qo Qp Qn Qm Qk Qj Ql Ya Qi Q5 Q6 kTN kTR kTX kTP kBN kBR kBX kBP kCS kCR kCE kAM Yc Qb Q4 Q2 Q9 Qa Q8 Q1 Q3 Q7
set_option maxHeartbeats 4000000 in
theorem Yu4(b:Nat){tr:Tr Value}{g:Heap}{tv hv:Value}{p:Bl.P8}{text:List Nat}{A a:Nat}(st:SN g tv text)(sh:Sl g 1 hv 8 ((X7m p).map Vq))(hb : ∀ x ∈ text,x < 256)(hl:text.length < 1000000000)(ha:a≤text.length)(e:Nat)(he:e=min (a+64) text.length)
  (t4:tr.get 4=some (.pointer (some ⟨A,0,none⟩))) (t6:tr.get 6=some tv) (t7:tr.get 7=some hv) (t8:tr.get 8=some (.int .i64 (a:Int))) (K:Exit→St→Prop)
  (hk : ∀ tr' g' v',tr'.get 4=some (.pointer (some ⟨A,0,none⟩))→tr'.get 6=some tv→tr'.get 7=some v'→tr'.get 8=some (.int .i64 (a:Int))→Old g g'→Sl g' 1 v' 8 ((X7m (Bl.take p ((text.drop a).take (e-a)) e (decide (e=text.length)))).map Vq)→K .normal ⟨⟨109,tr'⟩,[],g'⟩) :
  Q0 (E b) (Q9c Tryd.prog (E b).G) (D0 b) none Xql ⟨⟨109,tr⟩,[],g⟩ K:=by
 obtain⟨a64,ea⟩ : ∃ x:Nat,x=a+64:=⟨_,rfl⟩
 have wa:IntKind.i64.wrap ((a:Int)+64)=(a64:Int):=by rw[Qoo (by omega) (by omega)];omega
 have vm:Ys1 false [.int .i64 (a64:Int), .int .i64 (text.length:Int)]=some (.int .i64 (e:Int)):=by
  rw[Zi4]
  congr 2
  split <;> omega
 have lent : ∀ hx,Yl8 (E b).toEnv 51 tv hx=some (.int .i64 (text.length:Int)):=fun hx=>Xry (T51 b) st
 obtain⟨xs,exs⟩ : ∃ xs,xs=(text.drop a).take (e-a):=⟨_,rfl⟩
 have lx:xs.length=e-a:=by rw[exs,List.length_take,List.length_drop];omega
 obtain⟨v1,g1,c1,s1,a1, -⟩:=Zki (T51 b) (k := .i64) (k2 := .i64) Q09 (by omega) st (i:=(a:Int)) (j:=(e:Int)) (by omega) (by omega) (by omega)
 simp only[Int.toNat_natCast,Nat.mul_one]at s1
 rw[← List.map_drop,← List.map_take,← exs]at s1
 obtain⟨v2,g2,c2,o2,b2⟩:=Xyb (T51 b) (tx:=51) Q09 (by omega) (Own.nil (h:=g1) (n0:=g1.next) (z:=1)) (Nat.le_refl _) (Yf7 (T51 b) Q09 s1) (by simp[lx]) (by rw[Xxv];omega) (by omega)
 have a2:Old g1 g2:=Beyond.old (z:=1) (Old.refl _) Own.nil b2
 have o2':Own g2 g1.next 1 v2 (e-a) ((X9t xs (e-a)).map u8v):=by
  rw[← lx,Yzc,lx]
  simpa using o2
 simp[Qf1,Tr.get_put,Ji.putAll,t4,t6,t7,t8,wa,lent,vm,c1,c2]
 refine Xda (RfP g2 g1.next tv hv A a e xs) (64-(e-a)) ⟨_,g2,v2,e-a,rfl,by simp[Tr.get_put,t4],by simp[Tr.get_put,t6],by simp[Tr.get_put,t7],by simp[Tr.get_put,t8],by simp[Tr.get_put],by simp[Tr.get_put],by omega,by omega,rfl,Nat.le_refl _,fun _ _=>rfl,o2'⟩ ?_
 clear t4 t6 t7 t8
 rintro k s' ⟨tr,g3,v,n,rfl,t4,t6,t7,t8,t9,t10,hn,hn2,rfl,nx,fr,ow⟩ _
 have lenv : ∀ hx,Yl8 (E b).toEnv 51 v hx=some (.int .i64 (n:Int)):=fun hx=>Xry (T51 b) ow.sl
 by_cases hlt:n < 64
 ·have hlt':(n:Int) < 64:=by omega
  obtain⟨v',g',q1,q2,q3,q4⟩:=Y08 b ow (by have:=a2.1;omega) hn (by omega)
  simp[Qf1,Tr.get_put,Ji.putAll,t4,t6,t7,t8,t9,t10,lenv,hlt',q1,q2]
  refine⟨64-(n+1),by omega,_,g',v',n+1,rfl,by simp[Tr.get_put,t4],by simp[Tr.get_put,t6],by simp[Tr.get_put,t7],by simp[Tr.get_put,t8],by simp[Tr.get_put,t9],by simp[Tr.get_put],by omega,by omega,rfl,Nat.le_trans nx q4.1,fun c hc => ?_,q3⟩
  have:=a2.1
  rw[q4.2 c (by omega) (fun e=>by have:=(ow.from e).1;omega),fr c hc]
 ·have hlt' : ¬ (n:Int) < 64:=by omega
  have : n=64:=by omega
  subst this
  have w64:IntKind.u64.wrap (e:Int)=(e:Int):=by
   show(e:Int) % (2 ^ 64:Int)=_
   omega
  have a3:Old g g3:=by
   have h1:=a1.1
   have h2:=a2.1
   refine⟨by omega,fun c hc => ?_⟩
   rw[fr c (by omega),a2.2 c (by omega),a1.2 c hc]
  have hbx : ∀ x ∈ X9t xs 64,x < 256:=by
   intro x hx
   rcases List.mem_append.1 hx with h | h
   ·rw[exs]at h
    exact hb x (List.mem_of_mem_drop (List.mem_of_mem_take h))
   ·rw[(List.mem_replicate.1 h).2];omega
  have de:(decide ((e:Int)=(text.length:Int)))=decide (e=text.length):=by
   by_cases q:e=text.length
   ·rw[decide_eq_true q,decide_eq_true (by omega)]
   ·rw[decide_eq_false q,decide_eq_false (by omega)]
  obtain⟨last,elast⟩ : ∃ l,l=decide (e=text.length):=⟨_,rfl⟩
  rw[← elast]at de hk
  have bq:Qsp (binOp .eql 3 (.int .i64 (e:Int)) (.int .i64 (text.length:Int)))=some (.bool last):=by rw[Qf1,de]
  simp[Qf1,Tr.get_put,Ji.putAll,t4,t6,t7,t8,t9,t10,lenv,lent,w64,-Qf1,bq]
  refine Zgo b (sh.old a3) ow.sl e (by omega) last _ fun v' h' o' a' => ?_
  rw[Zee p (Y3x hn) hbx,Y8w p (l:=xs) (l':=X9t xs 64) ⟨64-xs.length,rfl⟩,exs]at o'
  simp[Qf1,Tr.get_put,Ji.putAll]
  exact hk _ h' v' (by simp[Tr.get_put,t4]) (by simp[Tr.get_put,t6]) (by simp[Tr.get_put]) (by simp[Tr.get_put,t8]) (a3.trans a') o'.sl
end
end Go.Proofs.YtcokebbiblnonaaDoor
end
noncomputable section
namespace Go.Proofs.YtcokebbiblnonaaDoor
open Go Go.Ab
set_option maxRecDepth 100000
theorem Zq3(a b:Nat):Bl.xr a b < 4294967296:=Nat.mod_lt _ (by decide)
theorem Zhw(l:List Nat) : ∃ m0 m1 m2 m3 m4 m5 m6 m7 m8 m9 m10 m11 m12 m13 m14 m15:Nat,∀ (K:Nat→Nat→Nat→Nat→Nat→Nat→Nat→Nat→Nat→Nat→Nat→Nat→Nat→Nat→Nat→Nat→Bl.P8),Bl.words l K=K m0 m1 m2 m3 m4 m5 m6 m7 m8 m9 m10 m11 m12 m13 m14 m15:=by
 unfold Bl.words
 obtain⟨m0,l0,_,e0, -, -⟩:=Qz6 (l:=l) (l':=l) ⟨0,by simp⟩
 obtain⟨m1,l1,_,e1, -, -⟩:=Qz6 (l:=l0) (l':=l0) ⟨0,by simp⟩
 obtain⟨m2,l2,_,e2, -, -⟩:=Qz6 (l:=l1) (l':=l1) ⟨0,by simp⟩
 obtain⟨m3,l3,_,e3, -, -⟩:=Qz6 (l:=l2) (l':=l2) ⟨0,by simp⟩
 obtain⟨m4,l4,_,e4, -, -⟩:=Qz6 (l:=l3) (l':=l3) ⟨0,by simp⟩
 obtain⟨m5,l5,_,e5, -, -⟩:=Qz6 (l:=l4) (l':=l4) ⟨0,by simp⟩
 obtain⟨m6,l6,_,e6, -, -⟩:=Qz6 (l:=l5) (l':=l5) ⟨0,by simp⟩
 obtain⟨m7,l7,_,e7, -, -⟩:=Qz6 (l:=l6) (l':=l6) ⟨0,by simp⟩
 obtain⟨m8,l8,_,e8, -, -⟩:=Qz6 (l:=l7) (l':=l7) ⟨0,by simp⟩
 obtain⟨m9,l9,_,e9, -, -⟩:=Qz6 (l:=l8) (l':=l8) ⟨0,by simp⟩
 obtain⟨m10,l10,_,e10, -, -⟩:=Qz6 (l:=l9) (l':=l9) ⟨0,by simp⟩
 obtain⟨m11,l11,_,e11, -, -⟩:=Qz6 (l:=l10) (l':=l10) ⟨0,by simp⟩
 obtain⟨m12,l12,_,e12, -, -⟩:=Qz6 (l:=l11) (l':=l11) ⟨0,by simp⟩
 obtain⟨m13,l13,_,e13, -, -⟩:=Qz6 (l:=l12) (l':=l12) ⟨0,by simp⟩
 obtain⟨m14,l14,_,e14, -, -⟩:=Qz6 (l:=l13) (l':=l13) ⟨0,by simp⟩
 obtain⟨m15,l15,_,e15, -, -⟩:=Qz6 (l:=l14) (l':=l14) ⟨0,by simp⟩
 exact⟨m0,m1,m2,m3,m4,m5,m6,m7,m8,m9,m10,m11,m12,m13,m14,m15,fun K=>by simp only[e0,e1,e2,e3,e4,e5,e6,e7,e8,e9,e10,e11,e12,e13,e14,e15]⟩
theorem Zlc(p:Bl.P8)(l:List Nat)(count:Nat)(last:Bool) : ∀ x ∈ X7m (Bl.take p l count last),x < 4294967296:=by
 obtain⟨h0,h1,h2,h3,h4,h5,h6,h7⟩:=p
 have key : ∃ a b c d e f g h i j k m n o q r:Nat,Bl.take ⟨h0,h1,h2,h3,h4,h5,h6,h7⟩ l count last=⟨Bl.xr a b,Bl.xr c d,Bl.xr e f,Bl.xr g h,Bl.xr i j,Bl.xr k m,Bl.xr n o,Bl.xr q r⟩:=by
  obtain⟨m0,m1,m2,m3,m4,m5,m6,m7,m8,m9,m10,m11,m12,m13,m14,m15,e⟩:=Zhw l
  simp only[Bl.take]
  rw[e]
  exact⟨_,_,_,_,_,_,_,_,_,_,_,_,_,_,_,_,rfl⟩
 obtain⟨a,b,c,d,e,f,g,h,i,j,k,m,n,o,q,r,e⟩:=key
 rw[e]
 intro x hx
 simp only[X7m,List.mem_cons,List.not_mem_nil,or_false]at hx
 rcases hx with rfl | rfl | rfl | rfl | rfl | rfl | rfl | rfl <;> exact Zq3 _ _
end Go.Proofs.YtcokebbiblnonaaDoor
end
noncomputable section
namespace Go.Proofs.YtcokebbiblnonaaDoor
open Go Go.Ab
set_option maxRecDepth 100000
def RfL(g0:Heap)(tv:Value)(A:Nat)(text:List Nat)(F:Bl.P8)(k:Nat)(s:St):Prop := ∃ (tr:Tr Value) (g:Heap) (hv:Value) (p:Bl.P8) (a:Nat),s=⟨⟨109,tr⟩,[],g⟩∧tr.get 4=some (.pointer (some ⟨A,0,none⟩))∧tr.get 6=some tv∧tr.get 7=some hv∧tr.get 8=some (.int .i64 (a:Int))∧Old g0 g∧Sl g 1 hv 8 ((X7m p).map Vq) ∧
 ((a < text.length∨a=0)∧a≤text.length∧Y8d p (text.drop a) a=F∨text.length≤a∧a≠0∧p=F ∧ ∀ x ∈ X7m p,x < 4294967296)∧a≤text.length+64∧k=text.length+65-a
theorem Y8q{p F:Bl.P8}{text:List Nat}{a e:Nat}(ha:a≤text.length)(hf:Y8d p (text.drop a) a=F)(he:e=min (a+64) text.length) :
  let p':=Bl.take p ((text.drop a).take (e-a)) e (decide (e=text.length))
  (a+64 < text.length∨a+64=0)∧a+64≤text.length∧Y8d p' (text.drop (a+64)) (a+64)=F∨text.length≤a+64∧a+64≠0∧p'=F ∧ ∀ x ∈ X7m p',x < 4294967296:=by
 intro p'
 have lt:(text.drop a).length=text.length-a:=List.length_drop
 by_cases h:a+64 < text.length
 ·left
  refine⟨.inl h,by omega,?_⟩
  have e1:e=a+64:=by omega
  have e2:p'=Bl.take p ((text.drop a).take 64) (a+64) false:=by
   show Bl.take p ((text.drop a).take (e-a)) e (decide (e=text.length))=_
   rw[decide_eq_false (by omega),e1]
   congr 2
   omega
  rw[e2,← hf,Y2i (p8:=p) (text:=text.drop a) (by omega),List.drop_drop]
 ·right
  refine⟨by omega,by omega,?_,Zlc _ _ _ _⟩
  have e1:e=text.length:=by omega
  show Bl.take p ((text.drop a).take (e-a)) e (decide (e=text.length))=F
  rw[decide_eq_true e1,← hf,Y4d (by omega),List.take_of_length_le (by omega),lt,show a+(text.length-a)=e by omega]
section
attribute [local simp] Qg4 Qix Qha Qn1 Qgn Xod Vc Qgs Qn0 Qgp Qgr Qgk Qgt Qgq Qgm Qgl Qdh Qdw Qdu Yi Qde Qcy Qcz Qdd Qex Qcu Qdr Qey Qeq Qdb Qe6 Qdl Qdx Ju Qe0 Qlg Qok Qly Qtb Qp0 Qgi Qeo Qe2 Qf1 Qd9 Qaw Qet Qeb Qee Yk Qew Qcv Qdn Qcx Qer Qem Qdp Qek Qdj Qes Qcs Qt7 Qtc V2 Qe1 Qe9 Qdf Qel Qe7 Qdv Qez Qd8 Qdc Qd2 Qeh Qej Qcw Qef Qd3 Qdz Qnz Qep Qds Qo0 Qct Qd1 Qdk Qdi Qm5 Qev Qdm Qe5 Qeu Qec Qea Qdo Qm3 Qt9 Qta Xms Q11 Qd5 Qd6 Qdt Qd0 Qei Qeg Qed Qe4 Qe8 Qjw Qd7 Qe3 Qdg Qcd Qd4 Qen Qa9 Qdy Qda Qgj Qgo Yl kON kOC Jx kNN kNP kRR kRP kEN kER Qe Ye Qgd Qa8 aop Qf nth Ab.g0 gv gs Qd Qc aev evs evO Qh St.put Tm.put flat flatA Qa5 Qo Qp Qn Qm Qk Qj Ql Ya Qi Q5 Q6 kTN kTR kTX kTP kBN kBR kBX kBP kCS kCR kCE kAM Yc Qb Q4 Q2 Q9 Qa Q8 Q1 Q3 Q7
set_option maxHeartbeats 4000000 in
theorem Y0o(b:Nat){tr:Tr Value}{g0:Heap}{tv hv:Value}{p0:Bl.P8}{text:List Nat}{A:Nat}(st:SN g0 tv text)(sh:Sl g0 1 hv 8 ((X7m p0).map Vq))(hb : ∀ x ∈ text,x < 256)(hl:text.length < 1000000000)(gA:g0.get A=some (.cells true 1 z32))
  (t4:tr.get 4=some (.pointer (some ⟨A,0,none⟩))) (t6:tr.get 6=some tv) (t7:tr.get 7=some hv) (K:AEnd→Heap→Prop) (hk : ∀ h',g0.next≤h'.next→(∀ c,c < g0.next→c≠A→h'.get c=g0.get c)→K (.ret (.agg ⟨(Bl.out (Y8d p0 text 0)).map u8v⟩)) h') :
  Q0 (E b) (Q9c Tryd.prog (E b).G) (D0 b) none Xor ⟨⟨109,tr⟩,[],g0⟩ (Yyp (E b) (DD b) Q9i K):=by
 have lent : ∀ hx,Yl8 (E b).toEnv 51 tv hx=some (.int .i64 (text.length:Int)):=fun hx=>Xry (T51 b) st
 simp[Wo,Wp,Tr.get_put,Ji.putAll,t4,t6,t7,-Wp,-Wo]
 refine Xda (RfL g0 tv A text (Y8d p0 text 0)) (text.length+65) ⟨_,g0,hv,p0,0,rfl,by simp[Tr.get_put,t4],by simp[Tr.get_put,t6],by simp[Tr.get_put,t7],by simp[Tr.get_put],Old.refl _,sh, .inl ⟨.inr rfl,by omega,rfl⟩,by omega,rfl⟩ ?_
 clear t4 t6 t7
 rintro k s' ⟨tr,g,hv,p,a,rfl,t4,t6,t7,t8,ag,sh,hst,ha,rfl⟩ _
 rcases hst with⟨h1,h2,h3⟩ | ⟨h1,h2,h3,h4⟩
 ·obtain⟨e,he⟩ : ∃ e,e=min (a+64) text.length:=⟨_,rfl⟩
  obtain⟨a64,ea⟩ : ∃ x:Nat,x=a+64:=⟨_,rfl⟩
  have wa:IntKind.i64.wrap ((a:Int)+64)=(a64:Int):=by rw[Qoo (by omega) (by omega)];omega
  by_cases hlt:a < text.length
  ·have hlt':(a:Int) < (text.length:Int):=by omega
   simp[Wo,Wp,Tr.get_put,Ji.putAll,t4,t6,t7,t8,lent,hlt',-Wp,-Wo]
   refine Yu4 b (A:=A) (p:=p) (hv:=hv) (st.old ag) sh hb hl h2 e he (by simp[Tr.get_put,t4]) (by simp[Tr.get_put,t6]) (by simp[Tr.get_put,t7]) (by simp[Tr.get_put,t8]) _ fun tr' g' v' u4 u6 u7 u8 a' s' => ?_
   simp[Wo,Wp,Tr.get_put,Ji.putAll,u4,u6,u7,u8,wa,-Wp,-Wo]
   refine⟨text.length+65-a64,by omega,_,g',v',_,a64,rfl,by simp[Tr.get_put,u4],by simp[Tr.get_put,u6],by simp[Tr.get_put,u7],by simp[Tr.get_put],ag.trans a',s',?_,by omega,rfl⟩
   rw[ea]
   exact Y8q h2 h3 he
  ·have hlt' : ¬ (a:Int) < (text.length:Int):=by omega
   have a0:a=0:=by omega
   have hz:text.length=0:=by omega
   simp[Wo,Wp,Tr.get_put,Ji.putAll,t4,t6,t7,t8,lent,a0,hz,-Wp,-Wo]
   refine Yu4 b (A:=A) (p:=p) (hv:=hv) (a:=a) (st.old ag) sh hb hl h2 e he (by simp[Tr.get_put,t4]) (by simp[Tr.get_put,t6]) (by simp[Tr.get_put,t7]) (by simp[Tr.get_put,t8,a0]) _ fun tr' g' v' u4 u6 u7 u8 a' s' => ?_
   simp[Wo,Wp,Tr.get_put,Ji.putAll,u4,u6,u7,u8,wa,-Wp,-Wo]
   refine⟨text.length+65-a64,by omega,_,g',v',_,a64,rfl,by simp[Tr.get_put,u4],by simp[Tr.get_put,u6],by simp[Tr.get_put,u7],by simp[Tr.get_put],ag.trans a',s',?_,by omega,rfl⟩
   rw[ea]
   exact Y8q h2 h3 he
 ·have hlt' : ¬ (a:Int) < (text.length:Int):=by omega
  have a0' : ¬ (a:Int)=0:=by omega
  subst h3
  simp[Wo,Wp,Tr.get_put,Ji.putAll,t4,t6,t7,t8,lent,hlt',a0',h2,-Wp,-Wo]
  refine Za2 b (A:=A) sh h4 (ag.get gA) (by simp[Tr.get_put,t4]) (by simp[Tr.get_put,t7]) K fun h' n' s'=>hk h' (Nat.le_trans ag.1 n') fun c hc hne => ?_
  rw[s' c (Nat.lt_of_lt_of_le hc ag.1) hne,ag.2 c hc]
end
def Y4i(k:Nat):Int:=X93 (X93 1779033703 16842784) (IntKind.u32.wrap (256*(k:Int)))
theorem Zdb : ∀ k,k < 33→Y4i k=Int.ofNat (Bl.start k).h0:=by decide
def RfQ(g2:Heap)(n0:Nat)(kv tv:Value)(A:Nat)(xs:List Nat)(k:Nat)(s:St):Prop := ∃ (tr:Tr Value) (g:Heap) (v:Value) (n:Nat),s=⟨⟨109,tr⟩,[],g⟩∧tr.get 0=some kv∧tr.get 1=some tv∧tr.get 4=some (.pointer (some ⟨A,0,none⟩))∧tr.get 6=some v∧xs.length≤n∧n≤64∧k=64-n∧g2.next≤g.next∧(∀ c,c < n0→g.get c=g2.get c)∧Own g n0 1 v n ((X9t xs n).map u8v)
section
attribute [local simp] Qg4 Qix Qha Qgn Xod Vc Qgs Qn0 Qgp Qgr Qgk Qgt Qgq Qgm Qgl Qdh Qdw Qdu Yi Qde Qcy Qcz Qdd Qex Qcu Qdr Qey Qeq Qdb Qe6 Qdl Qdx Ju Qe0 Qlg Qok Qly Qtb Qgi Qeo Qe2 Qf1 Qd9 Qaw Qet Qeb Qee Yk Qew Qcv Qdn Qcx Qer Qem Qdp Qek Qdj Qes Qcs Qt7 Qtc V2 Qe1 Qe9 Qdf Qel Qe7 Wo Qdv Qez Qd8 Qdc Qd2 Qeh Qej Qcw Qef Qd3 Qdz Qnz Qep Qds Qo0 Qct Qd1 Qdk Qdi Qm5 Qev Qdm Qe5 Qeu Qec Qea Qdo Qm3 Qt9 Qta Xms Q11 Qd5 Qd6 Qdt Qd0 Qei Qeg Qed Qe4 Qe8 Qjw Qd7 Qe3 Qdg Wp Qd4 Qen Qdy Qda Qgj Qgo Yl kON kOC Jx kNN kNP kRR kRP kEN kER Qe Ye Qgd Qa8 aop Qf nth Ab.g0 gv gs Qd Qc aev evs evO Qh St.put Tm.put flat flatA Qa5 Qo Qp Qn Qm Qk Qj Ql Ya Qi Q5 Q6 kTN kTR kTX kTP kBN kBR kBX kBP kCS kCR kCE kAM Yc Qb Q4 Q2 Q9 Qa Q8 Q1 Q3 Q7
set_option maxHeartbeats 4000000 in
theorem Zcc(b:Nat){h:Heap}{kv tv:Value}{key l:List Nat}(sk:SN h kv key)(sl:SN h tv l)(hkey:key.length≤32)(hl:l.length < 100000000)(bk : ∀ x ∈ key,x < 256)(bl : ∀ x ∈ l,x < 256)(K:AEnd→Heap→Prop)(hk : ∀ h',Old h h'→K (.ret (.agg ⟨(Bl.keyed1 key l).map u8v⟩)) h') :
  FnK Tryd.prog (E b).G 61 [kv,tv] h K:=by
 refine Qv4 (E b) (Q4m b) (Qqz b) mixed (Q6d b) (Qv5 b) (Qha b) Yuq Y0n Yyc rfl ?_
 have lenk : ∀ hx,Yl8 (E b).toEnv 51 kv hx=some (.int .i64 (key.length:Int)):=fun hx=>Xry (T51 b) sk
 have h32 : ¬ (32:Int) < (key.length:Int):=by omega
 obtain⟨hA,eA⟩ : ∃ hA,hA=h.push (.cells true 1 z32):=⟨_,rfl⟩
 have aA:Old h hA:=by rw[eA];exact Old.push _ _
 have nA:hA.next=h.next+1:=by rw[eA];rfl
 have gA:hA.get h.next=some (.cells true 1 z32):=by rw[eA,Heap.get_push,if_pos rfl]
 have alA:Q10 (E b).toEnv 30 h=some (.pointer (some ⟨h.next,0,none⟩),hA):=by rw[eA];exact Qn1 b h
 have key1:Bl.keyed1 key l=Bl.out (Y8d (Bl.start key.length) (Bl.textOf key l) 0):=rfl
 have fin : ∀ (tr:Tr Value) (g:Heap) (v:Value) (xs:List Nat),xs++l=Bl.textOf key l→tr.get 0=some kv→tr.get 1=some tv→tr.get 4=some (.pointer (some ⟨h.next,0,none⟩))→tr.get 6=some v→Own g hA.next 1 v xs.length (xs.map u8v)→Old hA g→xs.length≤64→(∀ x ∈ xs,x < 256) →
   Q0 (E b) (Q9c Tryd.prog (E b).G) (D0 b) none Xqn ⟨⟨109,tr⟩,[],g⟩ (Yyp (E b) (DD b) Q9i K):=by
  intro tr g v xs ex t0 t1 t4 t6 ow ag hx bx
  obtain⟨v2,g2,c2,o2,b2⟩:=Xyb (T51 b) (tx:=51) Q09 (by omega) ow ag.1 (Yf7 (T51 b) Q09 ((sl.old aA).old ag)) (by simp) (by rw[Xxv];omega) (by omega)
  have a2:Old hA g2:=Beyond.old ag ow b2
  have s2:SN g2 v2 (Bl.textOf key l):=by
   rw[← ex]
   have:=o2.sl
   rw[← List.map_append]at this
   rw[SN,List.length_append]
   exact this
  obtain⟨g3,e3⟩ : ∃ g3,g3=g2.push (.cells true 1 (BG.map Vq)):=⟨_,rfl⟩
  have g3g:g3.get g2.next=some (.cells true 1 (BG.map Vq)):=by rw[e3,Heap.get_push,if_pos rfl]
  have a3:Old g2 g3:=by rw[e3];exact Old.push _ _
  have l3:=Heap.get_lt g3g
  obtain⟨g4,e4⟩ : ∃ g4,g4=g3.set g2.next (some (.cells true 1 ((BG.map Vq).set 0 (.int .u32 (Y4i key.length))))):=⟨_,rfl⟩
  have st:Qtd g3 g2.next 0 [.int .u32 (Y4i key.length)]=some g4:=by rw[e4];exact Xoa g3g (by simp[BG])
  have a4:Old g2 g4:=by rw[e4];exact a3.set _ (Nat.le_refl _) l3
  have g4g:g4.get g2.next=some (.cells true 1 ((X7m (Bl.start key.length)).map Vq)):=by
   rw[e4,Heap.get_set _ _ _ _ l3,if_pos rfl,Zdb _ (by omega)];rfl
  have sh:Sl g4 1 (.slice (some ⟨g2.next,0,none⟩) 8 8) 8 ((X7m (Bl.start key.length)).map Vq) := .inr ⟨g2.next,0,8,true,1,[],[],rfl,by simpa using g4g,rfl,rfl,Nat.le_refl _,by unfold Qz9;omega,fun h=>by unfold Qz9 at h;omega⟩
  have x0:Vo (E b).toEnv 109 (.slice (some ⟨g2.next,0,none⟩) 8 8) (.int .i64 0)=some (.pointer (some ⟨g2.next,0,none⟩)):=by
   rw[Qyu (Zau b) Q9x ⟨by omega,by omega⟩];rfl
  have c0:Qhe g3 g2.next 0=some (.int .u32 1779033703):=by rw[Qoj g3g];rfl
  have wm:IntKind.i64.wrap (256*(key.length:Int))=256*(key.length:Int):=Qoo (by omega) (by omega)
  obtain⟨q1,f1⟩ : ∃ q,q=X93 1779033703 16842784:=⟨_,rfl⟩
  obtain⟨q2,f2⟩ : ∃ q,q=IntKind.u32.wrap (256*(key.length:Int)):=⟨_,rfl⟩
  obtain⟨q3,f3⟩ : ∃ q,q=Y4i key.length:=⟨_,rfl⟩
  have y1:Qsp (binOp .xor 90 (.int .u32 1779033703) (.int .u32 16842784))=some (.int .u32 q1):=by rw[f1];exact Zja _ _
  have y2:Xpd (E b).toEnv 3 90 (.int .i64 (256*(key.length:Int)))=some (.int .u32 q2):=by rw[f2];exact Qp0 b _ _
  have y3:Qsp (binOp .xor 90 (.int .u32 q1) (.int .u32 q2))=some (.int .u32 q3):=by rw[f3,Y4i,← f1,← f2];exact Zja _ _
  rw[← f3]at st
  simp[Qn1,Qp0,Qcd,Qa9,Tr.get_put,Ji.putAll,t0,t1,t4,t6,c2]
  refine Y2u b g2 _ ?_
  rw[← e3]
  simp[Qn1,Qp0,Qcd,Qa9,Tr.get_put,Ji.putAll,t0,t1,t4,t6,lenk,x0,c0,wm,-Qp0,y1,y2,y3,st,-Qcd]
  have lt:(Bl.textOf key l).length < 1000000000:=by rw[← ex,List.length_append];omega
  have bt : ∀ x ∈ Bl.textOf key l,x < 256:=by
   rw[← ex]
   intro x hx
   rcases List.mem_append.1 hx with h | h
   ·exact bx x h
   ·exact bl x h
  refine Y0o b (s2.old a4) sh bt lt (a4.get (a2.get gA)) (by simp[Tr.get_put,t4]) (by simp[Tr.get_put]) (by simp[Tr.get_put]) K fun h' n' s' => ?_
  rw[← key1]
  refine hk h' ⟨by have:=aA.1;have:=a2.1;have:=a4.1;omega,fun c hc => ?_⟩
  have h1:=a2.1
  have h2:=a4.1
  rw[s' c (by omega) (by omega),a4.2 c (by omega),a2.2 c (by omega),aA.2 c hc]
 cases hkc:key with
 | nil =>
  subst hkc
  simp[Qn1,Qp0,Qcd,Qa9,Tr.get_put,Ji.putAll,-Qn1,alA,lenk,-Qa9]
  exact fin _ hA _ [] rfl (by simp[Tr.get_put]) (by simp[Tr.get_put]) (by simp[Tr.get_put]) (by simp[Tr.get_put]) Own.nil (Old.refl _) (by simp) (by simp)
 | cons k ks =>
  have h0:0 < key.length:=by rw[hkc];simp
  obtain⟨v1,g1,c1,o1,b1⟩:=Xyb (T51 b) (tx:=51) Q09 (by omega) (Own.nil (h:=hA) (n0:=hA.next) (z:=1)) (Nat.le_refl _) (Yf7 (T51 b) Q09 (sk.old aA)) (by simp) (by rw[Xxv];omega) (by omega)
  have a1:Old hA g1:=Beyond.old (z:=1) (Old.refl _) Own.nil b1
  have o1':Own g1 hA.next 1 v1 key.length ((X9t key key.length).map u8v):=by
   rw[Yzc]
   simpa using o1
  simp[Qn1,Qp0,Qcd,Qa9,Tr.get_put,Ji.putAll,-Qn1,alA,lenk,h32,h0,c1,-Qa9]
  refine Xda (RfQ g1 hA.next kv tv h.next key) (64-key.length) ⟨_,g1,v1,key.length,rfl,by simp[Tr.get_put],by simp[Tr.get_put],by simp[Tr.get_put],by simp[Tr.get_put],Nat.le_refl _,by omega,rfl,Nat.le_refl _,fun _ _=>rfl,o1'⟩ ?_
  rintro k s' ⟨tr,g3,v,n,rfl,t0,t1,t4,t6,hn,hn2,rfl,nx,fr,ow⟩ _
  have lenv : ∀ hx,Yl8 (E b).toEnv 51 v hx=some (.int .i64 (n:Int)):=fun hx=>Xry (T51 b) ow.sl
  by_cases hlt:n < 64
  ·have hlt':(n:Int) < 64:=by omega
   obtain⟨v',g',q1,q2,q3,q4⟩:=Y08 b ow (by have:=a1.1;omega) hn (by omega)
   simp[Qn1,Qp0,Qcd,Qa9,Tr.get_put,Ji.putAll,t0,t1,t4,t6,lenv,hlt',q1,q2,-Qa9]
   refine⟨64-(n+1),by omega,_,g',v',n+1,rfl,by simp[Tr.get_put,t0],by simp[Tr.get_put,t1],by simp[Tr.get_put,t4],by simp[Tr.get_put],by omega,by omega,rfl,Nat.le_trans nx q4.1,fun c hc => ?_,q3⟩
   have:=a1.1
   rw[q4.2 c (by omega) (fun e=>by have:=(ow.from e).1;omega),fr c hc]
  ·have hlt' : ¬ (n:Int) < 64:=by omega
   have : n=64:=by omega
   subst this
   have a3:Old hA g3:=by
    have h1:=a1.1
    exact⟨by omega,fun c hc=>by rw[fr c hc,a1.2 c hc]⟩
   have tx:X9t key 64++l=Bl.textOf key l:=by
    have z : ∀ n,Bl.zeros n=List.replicate n 0:=fun n=>by
     induction n with
     | zero=>rfl
     | succ n ih=>rw[Bl.zeros,ih,List.replicate_succ]
    have : Bl.textOf key l=key++(Bl.zeros (64-key.length)++l):=by rw[hkc];rfl
    rw[this,z,X9t,List.append_assoc]
   have lp:(X9t key 64).length=64:=Y3x hn
   have bx : ∀ x ∈ X9t key 64,x < 256:=by
    intro x hx
    rcases List.mem_append.1 hx with h | h
    ·exact bk x h
    ·rw[(List.mem_replicate.1 h).2];omega
   simp[Qn1,Qp0,Qcd,Qa9,Tr.get_put,Ji.putAll,t0,t1,t4,t6,lenv,-Qa9]
   exact fin _ g3 v (X9t key 64) tx (by simp[Tr.get_put,t0]) (by simp[Tr.get_put,t1]) (by simp[Tr.get_put,t4]) (by simp[Tr.get_put,t6]) (by rw[lp];exact ow) a3 (by omega) bx
end
section
attribute [local simp] X6j Ytw Qnr Ymw Qha Qn0 Ymb Ym7 Ym2 Yl kON kOC Jx kNN kNP kRR kRP kEN kER Qe Ye Qgd Qa8 aop Qf nth Ab.g0 gv gs Qd Qc aev evs evO Qh St.put Tm.put flat flatA Qa5 Qo Qp Qn Qm Qk Qj Ql Ya Qi Q5 Q6 kTN kTR kTX kTP kBN kBR kBX kBP kCS kCR kCE kAM Yc Qb Q4 Q2 Q9 Qa Q8 Q1 Q3 Q7
theorem Zmk(b:Nat){h:Heap}{tv:Value}{l:List Nat}(sl:SN h tv l)(hl:l.length < 100000000)(bl : ∀ x ∈ l,x < 256)(K:AEnd→Heap→Prop)(hk : ∀ h',Old h h'→K (.ret (.agg ⟨(Bl.keyed1 [] l).map u8v⟩)) h') :
  FnK Tryd.prog (E b).G 48 [tv] h K:=by
 refine Qv4 (E b) (Q4m b) (Qqz b) mixed (Q6d b) (Qv5 b) (Qnr b) Yyj Y5b Y2x rfl ?_
 obtain⟨hA,eA⟩ : ∃ hA,hA=h.push (.cells true 1 z32):=⟨_,rfl⟩
 have aA:Old h hA:=by rw[eA];exact Old.push _ _
 have gA:hA.get h.next=some (.cells true 1 z32):=by rw[eA,Heap.get_push,if_pos rfl]
 have alA:Q10 (E b).toEnv 30 h=some (.pointer (some ⟨h.next,0,none⟩),hA):=by rw[eA];exact Qn1 b h
 simp[Qn1,Tr.get_put,Ji.putAll,-Qn1,alA]
 refine Zcc b (kv := .slice none 0 0) (key := []) Sl.nil (sl.old aA) (by simp) hl (by simp) bl _ fun h2 a2 => ?_
 have g2:h2.get h.next=some (.cells true 1 z32):=a2.get gA
 have kl:(Bl.keyed1 [] l).length=32:=Xwc _
 have l2:=Heap.get_lt g2
 have st:Qtd h2 h.next 0 ((Bl.keyed1 [] l).map u8v)=some (h2.set h.next (some (.cells true 1 ((Bl.keyed1 [] l).map u8v)))):=by
  rw[Q0a g2 (by simp[z32,kl])]
  congr 4
 have g3:Qte (h2.set h.next (some (.cells true 1 ((Bl.keyed1 [] l).map u8v)))) h.next 0 32=some (.agg ⟨(Bl.keyed1 [] l).map u8v⟩):=by
  rw[Qq8 (by rw[Heap.get_set _ _ _ _ l2,if_pos rfl]) (by simp[kl])]
  congr 3
 simp[Qn1,Tr.get_put,Ji.putAll,Qjw,st,kl,g3]
 exact hk _ ((aA.trans a2).set _ (Nat.le_refl _) l2)
end
end Go.Proofs.YtcokebbiblnonaaDoor
end
