import Derived.Test.YtgjlmnnggnajmaaGreatDoorLgI
import Derived.Test.YtgjlmnnggnajmaaGreatDoorMkA
import Derived.Test.YtgjlmnnggnajmaaGreatDoorHtA
import Derived.Test.YtgjlmnnggnajmaaGreatDoorAbH
set_option linter.all false
noncomputable section
namespace Go.Proofs.YtgjlmnnggnajmaaGreatDoor
open Go Go.Ab
set_option maxRecDepth 100000
theorem Zt4(b:Nat)(c1 c2:TxV)(h:Heap):V5 (E b).toEnv 52 2 [(0,.agg ⟨txC c1.iv c1.ov c1.lock⟩),(1,.agg ⟨txC c2.iv c2.ov c2.lock⟩)] h=some (.slice (some ⟨h.next,0,none⟩) 2 2,h.push (.cells true 1 (c1.cells++c2.cells))):=by kernel_rfl
theorem Y7l(b:Nat)(c1:TxV)(h:Heap):V5 (E b).toEnv 52 1 [(0,.agg ⟨txC c1.iv c1.ov c1.lock⟩)] h=some (.slice (some ⟨h.next,0,none⟩) 1 1,h.push (.cells true 1 c1.cells)):=by kernel_rfl
theorem Zzk{h:Heap}{x:TxV}(t:TxAt h x):TxsAt (h.push (.cells true 1 x.cells)) (.slice (some ⟨h.next,0,none⟩) 1 1) [x] :=
 ⟨(Own.new (n0:=0) (z:=3) (Nat.zero_le _) (by rw[Heap.get_push];exact if_pos rfl) rfl (by decide) (.inr rfl)).sl,by simp,fun y hy=>by rw[List.mem_singleton.1 hy];exact t.old (Old.push _ _)⟩
theorem Z0o {h : Heap} {x y : TxV} (t : TxAt h x) (u : TxAt h y) : TxsAt (h.push (.cells true 1 (x.cells ++ y.cells))) (.slice (some ⟨h.next, 0, none⟩) 2 2) [x, y] :=
  ⟨(Own.new (n0 := 0) (z := 3) (Nat.zero_le _) (by rw [Heap.get_push]; exact if_pos rfl) rfl (by decide) (.inr rfl)).sl, by simp, fun z hz => by
    simp only [List.mem_cons,List.not_mem_nil,or_false] at hz
    rcases hz with rfl | rfl
    · exact t.old (Old.push _ _)
    · exact u.old (Old.push _ _)⟩
theorem Xxe{h:Heap}{B:Nat}{x:TxV}(g:h.get B=some (.cells true 1 x.cells)):Qb9 h B 0 3=some (.agg ⟨txC x.iv x.ov x.lock⟩):=by
 rw[Jx g (by rw[TxV.len];omega)];rfl
theorem LedS.size{h:Heap}{lb mb z ν clk:Nat}{ks:List Nat}{un:Value}{ls:List LC}{ud:List (List BK)}(S:LedS h lb mb z ν clk ks un ls ud):lb < h.next/\mb < h.next:=⟨Heap.get_lt S.gl,Heap.get_lt S.co.gm⟩
attribute [local simp] Yv Z0 Yz U4 Uk Zx Zd Vz U3 Vw Vx Qe9 Vy Qhi U0 Xv Vm Jn Zb Zl Zg Jw Yo Wk Z6 U8 Ur Zw Js Zq Ze Ys Y9 Yb V2 X0 Zy Z7 Wm Jy Xi Yt Yd Yc Y5 Xm Xs Xo Ym Je Ww Vo Uh Zc Z8 Wl Yp Ya Yq Yr Y6 U2 Vt Qq V6 Yl Y7 Xq Xr Xt Xk Xl Xp Xj Xn Yk Yn Y8 Xu Yy kON kOC Z5 kNN kNP kRR kRP kEN kER Q4 Xg J4 Zv aop Qg nth Ab.g0 gv gs Qb Qa aev evs evO Qh Tr.get_put St.put Tm.put flat flatA Zu Qm Qp Qn Qo Qk Ql Qj Qw Qi Q5 Q6 kTN kTR kTX kTP kBN kBR kBX kBP kCS kCR kCE kAM Z1.putAll X7 Q9 Q3 Q0 Q8 Qc Qd Q1 Q2 Q7 Zp Zz ldv J7 J0 J3 Nat.testBit loadAt Ab.runT Jm Vv Qal
section
attribute [local simp] Qdx Wj Y4 Y1 Yf Yj Ye Y3 Yh Yi Yg Y2 Y0 Yu
set_option maxHeartbeats 1000000 in
theorem Zd4(b:Nat){h:Heap}{lb mb ν clk C R:Nat}{un:Value}{ls:List LC}{ud:List (List BK)}(S:LedS h lb mb 1 ν clk Qhc un ls ud)(hud:ud.length < 1000){xc xr:TxV}(gC:h.get C=some (.cells true 1 xc.cells))(gR:h.get R=some (.cells true 1 xr.cells))(tc:TxAt h xc)(tr:TxAt h xr)
  {e d:Int} (he:e≠0) (hb:Qtr Qhc S.ks (ud.length:Int) (Qen ls) [xc.p,xr.p]=.error e) (hd:(Qkd Qhc S.ks (Qen ls) (ud.length:Int) xr.p).2=d) {t:Tr Value} (t8:t.get 8=some (.pointer (some ⟨lb,0,none⟩))) (t15:t.get 15=some (.pointer (some ⟨C,0,none⟩))) (t17:t.get 17=some (.pointer (some ⟨R,0,none⟩))) (t24:t.get 24=some (.int .i64 d))
  (K:KP) (hk:∀ h',K (.ret (.bool true)) h'):Wv (E b) (Q50 Tryz.prog (E b).G) (D0 b) none Qr7 ⟨⟨266,t⟩,[],h⟩ (Yas (E b) (DD b) Qab K):=by
 simp[t8,t15,t17,t24,Xxe gC,Xxe gR,Zt4]
 have aB:Old h (h.push (.cells true 1 (xc.cells++xr.cells))):=Old.push _ _
 have Sx:=S.old aB
 refine X0e b Sx (by omega) (Z0o tc tr) _ (fun m' hm => ?_) fun e' he' h1 ls1 clk1 S1 em1 bt1 => ?_
 ·have : Qtr Qhc S.ks (ud.length:Int) (Qen ls) [xc.p,xr.p]=.ok m':=hm
  rw[hb]at this
  cases this
 have : Qtr Qhc S.ks (ud.length:Int) (Qen ls) [xc.p,xr.p]=.error e':=he'
 rw[hb]at this
 cases this
 have gR1:=bt1.get (aB.get gR) Sx.co.gm
 have tr1:=TxAt.but Sx.co.gm bt1 (tr.old aB)
 simp[t8,t15,t17,t24,he,Xxe gR1,Y7l]
 have ap:=Yz3 (ks:=Qhc) (hks:=S.ks) (ht:=(ud.length:Int)) (m:=Qen ls) xr.p
 have aB1:Old h1 (h1.push (.cells true 1 xr.cells)):=Old.push _ _
 have S2:=S1.old aB1
 have fin:∀ (z:Int) (hz:Heap) (_:Ab.LaidIn hz laidAll) (tt:Tr Value),z=d->True:=fun _ _ _ _ _=>trivial
 refine X0e b S2 (by omega) (Zzk tr1) _ (fun m' hm h3 un3 ls3 clk3 bks3 S3 _ _ _ _ => ?_) fun e' he' h3 ls3 clk3 S3 _ _ => ?_
 ·have hm:Qtr Qhc S.ks (ud.length:Int) (Qen ls1) [xr.p]=.ok m':=hm
  rw[em1,ap,hd]at hm
  by_cases h0:d=0
  ·subst h0
   simp[t8,t15,t17,t24]
   refine(Yuf b S3.la _ ?_).ok
   simp[t8,t15,t17,t24]
   exact hk _
  ·rw[if_neg h0]at hm;cases hm
 ·have he':Qtr Qhc S.ks (ud.length:Int) (Qen ls1) [xr.p]=.error e':=he'
  rw[em1,ap,hd]at he'
  by_cases h0:d=0
  ·rw[if_pos h0]at he';cases he'
  ·rw[if_neg h0]at he'
   cases he'
   simp[t8,t15,t17,t24]
   refine(Yuf b S3.la _ ?_).ok
   simp[t8,t15,t17,t24]
   exact hk _
end
theorem Zdo(b:Nat)(B:Nat)(h:Heap):Qer (E b).toEnv 23 (.pointer (some ⟨B,4,none⟩)) none none none h=some (.slice (some ⟨B,4,none⟩) 32 32,h):=by kernel_rfl
theorem Zq8{h:Heap}{X:Nat}{x:Swp}(g:h.get X=some (.cells true 1 x.cells)):SN h (.slice (some ⟨X,4,none⟩) 32 32) x.sec:=by
 have e:x.cells=[.int .i64 x.value,.int .i64 x.amount,.int .i64 x.fee,.int .i64 x.less]++x.sec.map u8v ++ [.int .i64 x.til,.int .i64 x.blocks,.bool x.own]:=rfl
 rw[e]at g
 have hl:=x.hs
 show Sl h 1 (.slice (some ⟨X,4,none⟩) 32 32) x.sec.length (x.sec.map u8v)
 rw[hl]
 exact .inr ⟨X,4,32,true,1,_,_,rfl,g,rfl,by simp[hl],by omega,by unfold Qhx;omega,fun hc=>by exact absurd hc (by unfold Qhx;omega)⟩
theorem Zu7(b:Nat)(p q:Bool):Y1s (E b).toEnv .neq 4 (.bool p) (.bool q)=some (.bool (p != q)):=by cases p <;> cases q <;> kernel_rfl
theorem Ht.hashAt{h:Heap}{Y:Nat}{y:Ht}(g:h.get Y=some (.cells true 1 y.cells)):Qb9 h Y 0 32=some (.agg ⟨y.hash.map u8v⟩):=by
 rw[Jx g (by rw[Ht.len];omega),List.drop_zero,Ht.cells,List.take_left' (by simp[y.hd])]
section
attribute [local simp] Qdx Wj Y1 Yf Yj Ye Y3 Yh Yi Yg Y2 Y0 Yu
set_option maxHeartbeats 2000000 in
theorem Zw4(b:Nat){h:Heap}{lb mb ν clk C R X Y:Nat}{un:Value}{ls:List LC}{ud:List (List BK)}{x:Swp}{y:Ht}{s:Int}(S:LedS h lb mb 1 ν clk Qhc un ls ud)(hud:ud.length < 1000){xc xr:TxV}(gC:h.get C=some (.cells true 1 xc.cells))(gR:h.get R=some (.cells true 1 xr.cells))(tc:TxAt h xc)(tr:TxAt h xr)
  (gX:h.get X=some (.cells true 1 x.cells)) (gY:h.get Y=some (.cells true 1 y.cells)) (hcv:Qkd Qhc S.ks (Qen ls) (ud.length:Int) xc.p=if y.hash=Bl.keyed1 [] x.sec then(s,0)else(0,16)) (hrv:Qkd Qhc S.ks (Qen ls) (ud.length:Int) xr.p=if(ud.length:Int)+1 < y.til then(0,18)else(s,0))
  (hb:∃ e,e≠0/\Qtr Qhc S.ks (ud.length:Int) (Qen ls) [xc.p,xr.p]=.error e) {t:Tr Value} (t1:t.get 1=some (.pointer (some ⟨X,0,none⟩))) (t5:t.get 5=some (.int .i64 s)) (t7:t.get 7=some (.pointer (some ⟨Y,0,none⟩))) (t8:t.get 8=some (.pointer (some ⟨lb,0,none⟩))) (t15:t.get 15=some (.pointer (some ⟨C,0,none⟩))) (t17:t.get 17=some (.pointer (some ⟨R,0,none⟩)))
  (K:KP) (hk:∀ h',K (.ret (.bool true)) h'):Wv (E b) (Q50 Tryz.prog (E b).G) (D0 b) none Qm8 ⟨⟨266,t⟩,[],h⟩ (Yas (E b) (DD b) Qab K):=by
 obtain⟨_,h1,q1,n1,rfl,a1⟩:=Yp3 b (Qx5 S.la) (Zq8 gX) (by rw[x.hs];omega) (fun r h'=>r=.ret (.agg ⟨(Bl.keyed1 [] x.sec).map u8v⟩)/\Old h h') (fun h' a=>⟨rfl,a⟩)
 obtain⟨kd,hkd⟩:∃ kd,kd=Bl.keyed1 [] x.sec:=⟨_,rfl⟩
 have lkd:kd.length=32:=by rw[hkd];exact Qls _
 rw[<- hkd]at q1 hcv
 have lh:=Ht.hashAt gY
 have e32:=heq b y.hd lkd
 simp only[Y1]
 refine Qfn [⟨5,[.slice (some ⟨X,4,none⟩) 32 32],h,.agg ⟨kd.map u8v⟩,h1,true⟩] ?_ Q7a Q9n Q7k (by simp[Xci,Xj5,Y4,t1,t7,lh,Zdo,Qe6,-Vt,e32];first | exact⟨rfl,rfl⟩ | rfl) ?_ ?_
 ·exact zk1 ⟨q1,n1,fun _ c hc=>a1.2 c hc⟩
 ·simp[Qe0,Y4,lh]
 obtain⟨ow,zν,gν⟩:=S.gν
 obtain⟨eb,heb,hab⟩:=hb
 have e1:ptx xc.ins xc.outs xc.lock=xc.p:=rfl
 have e2:ptx xr.ins xr.outs xr.lock=xr.p:=rfl
 have gC1:=a1.get gC
 have hwn:IntKind.i64.wrap ((ud.length:Int)+1)=(ud.length:Int)+1:=Qao (by omega) (by omega)
 have l34:∀ {hx:Heap},hx.get Y=some (.cells true 1 y.cells)->Jl hx Y 34=some (.int .i64 y.til):=fun g=>by rw[J5 g];exact y.at.2.2
 by_cases hN:y.hash=kd
 ·rw[if_pos hN]at hcv
  by_cases hT:(ud.length:Int)+1 < y.til
  ·rw[if_pos hT]at hrv
   have hT':¬ y.til<=(ud.length:Int)+1:=by omega
   simp[Y4,t8,t15,t17,Xxe gC1]
   refine Qy2 b S.ks (Laid.old S.la a1) (a1.get S.gl) (a1.get gν) S.ur.len (by omega) (S.co.old a1) (tc.i.old a1) (tc.o.old a1) tc.p _ fun h2 a2 => ?_
   rw[e1,hcv]
   have gR2:=a2.get (a1.get gR)
   have a12:=a1.trans a2
   simp[Y4,t8,t15,t17,Xxe gR2]
   refine Qy2 b S.ks (Laid.old S.la a12) (a12.get S.gl) (a12.get gν) S.ur.len (by omega) (S.co.old a12) (tr.i.old a12) (tr.o.old a12) tr.p _ fun h3 a3 => ?_
   rw[e2,hrv]
   have a13:=a12.trans a3
   have S3:=S.old a13
   have gY3:=a13.get gY
   obtain⟨_,h4,q4,n4,rfl,rfl⟩:=Xe1 b S3.gl S3.ur.len (fun r h'=>r=.ret (.int .i64 (ud.length:Int))/\h3=h') ⟨rfl,rfl⟩
   simp[Y4,t8,t15,t17]
   refine Qfn [⟨16,[.pointer (some ⟨lb,0,none⟩)],h3,.int .i64 (ud.length:Int),h3,true⟩] ?_ Qgv Qhm Qgu (by simp[Qin,Qjg,Y4,t7,t8,l34 gY3,Qe6,hwn];first | exact⟨rfl,rfl⟩ | rfl) ?_ ?_
   ·exact zk1 ⟨q4,n4,fun _ c hc=>rfl⟩
   ·simp[Qad,Y4,l34 gY3]
   simp[Y4,-Y4,Zu7,t5,hN,hT,hT']
   exact Zd4 b S3 hud (a13.get gC) (a13.get gR) (tc.old a13) (tr.old a13) heb hab (d:=18) (by rw[hrv]) (by simp[t8]) (by simp[t15]) (by simp[t17]) (by simp) K hk
  ·rw[if_neg hT]at hrv
   have hT':y.til<=(ud.length:Int)+1:=by omega
   simp[Y4,t8,t15,t17,Xxe gC1]
   refine Qy2 b S.ks (Laid.old S.la a1) (a1.get S.gl) (a1.get gν) S.ur.len (by omega) (S.co.old a1) (tc.i.old a1) (tc.o.old a1) tc.p _ fun h2 a2 => ?_
   rw[e1,hcv]
   have gR2:=a2.get (a1.get gR)
   have a12:=a1.trans a2
   simp[Y4,t8,t15,t17,Xxe gR2]
   refine Qy2 b S.ks (Laid.old S.la a12) (a12.get S.gl) (a12.get gν) S.ur.len (by omega) (S.co.old a12) (tr.i.old a12) (tr.o.old a12) tr.p _ fun h3 a3 => ?_
   rw[e2,hrv]
   have a13:=a12.trans a3
   have S3:=S.old a13
   have gY3:=a13.get gY
   obtain⟨_,h4,q4,n4,rfl,rfl⟩:=Xe1 b S3.gl S3.ur.len (fun r h'=>r=.ret (.int .i64 (ud.length:Int))/\h3=h') ⟨rfl,rfl⟩
   simp[Y4,t8,t15,t17]
   refine Qfn [⟨16,[.pointer (some ⟨lb,0,none⟩)],h3,.int .i64 (ud.length:Int),h3,true⟩] ?_ Qgv Qhm Qgu (by simp[Qin,Qjg,Y4,t7,t8,l34 gY3,Qe6,hwn];first | exact⟨rfl,rfl⟩ | rfl) ?_ ?_
   ·exact zk1 ⟨q4,n4,fun _ c hc=>rfl⟩
   ·simp[Qad,Y4,l34 gY3]
   simp[Y4,-Y4,Zu7,t5,hN,hT,hT']
   exact Zd4 b S3 hud (a13.get gC) (a13.get gR) (tc.old a13) (tr.old a13) heb hab (d:=0) (by rw[hrv]) (by simp[t8]) (by simp[t15]) (by simp[t17]) (by simp) K hk
 ·rw[if_neg hN]at hcv
  by_cases hT:(ud.length:Int)+1 < y.til
  ·rw[if_pos hT]at hrv
   have hT':¬ y.til<=(ud.length:Int)+1:=by omega
   simp[Y4,t8,t15,t17,Xxe gC1]
   refine Qy2 b S.ks (Laid.old S.la a1) (a1.get S.gl) (a1.get gν) S.ur.len (by omega) (S.co.old a1) (tc.i.old a1) (tc.o.old a1) tc.p _ fun h2 a2 => ?_
   rw[e1,hcv]
   have gR2:=a2.get (a1.get gR)
   have a12:=a1.trans a2
   simp[Y4,t8,t15,t17,Xxe gR2]
   refine Qy2 b S.ks (Laid.old S.la a12) (a12.get S.gl) (a12.get gν) S.ur.len (by omega) (S.co.old a12) (tr.i.old a12) (tr.o.old a12) tr.p _ fun h3 a3 => ?_
   rw[e2,hrv]
   have a13:=a12.trans a3
   have S3:=S.old a13
   have gY3:=a13.get gY
   obtain⟨_,h4,q4,n4,rfl,rfl⟩:=Xe1 b S3.gl S3.ur.len (fun r h'=>r=.ret (.int .i64 (ud.length:Int))/\h3=h') ⟨rfl,rfl⟩
   simp[Y4,t8,t15,t17]
   refine Qfn [⟨16,[.pointer (some ⟨lb,0,none⟩)],h3,.int .i64 (ud.length:Int),h3,true⟩] ?_ Qgv Qhm Qgu (by simp[Qin,Qjg,Y4,t7,t8,l34 gY3,Qe6,hwn];first | exact⟨rfl,rfl⟩ | rfl) ?_ ?_
   ·exact zk1 ⟨q4,n4,fun _ c hc=>rfl⟩
   ·simp[Qad,Y4,l34 gY3]
   simp[Y4,-Y4,Zu7,t5,hN,hT,hT']
   exact Zd4 b S3 hud (a13.get gC) (a13.get gR) (tc.old a13) (tr.old a13) heb hab (d:=18) (by rw[hrv]) (by simp[t8]) (by simp[t15]) (by simp[t17]) (by simp) K hk
  ·rw[if_neg hT]at hrv
   have hT':y.til<=(ud.length:Int)+1:=by omega
   simp[Y4,t8,t15,t17,Xxe gC1]
   refine Qy2 b S.ks (Laid.old S.la a1) (a1.get S.gl) (a1.get gν) S.ur.len (by omega) (S.co.old a1) (tc.i.old a1) (tc.o.old a1) tc.p _ fun h2 a2 => ?_
   rw[e1,hcv]
   have gR2:=a2.get (a1.get gR)
   have a12:=a1.trans a2
   simp[Y4,t8,t15,t17,Xxe gR2]
   refine Qy2 b S.ks (Laid.old S.la a12) (a12.get S.gl) (a12.get gν) S.ur.len (by omega) (S.co.old a12) (tr.i.old a12) (tr.o.old a12) tr.p _ fun h3 a3 => ?_
   rw[e2,hrv]
   have a13:=a12.trans a3
   have S3:=S.old a13
   have gY3:=a13.get gY
   obtain⟨_,h4,q4,n4,rfl,rfl⟩:=Xe1 b S3.gl S3.ur.len (fun r h'=>r=.ret (.int .i64 (ud.length:Int))/\h3=h') ⟨rfl,rfl⟩
   simp[Y4,t8,t15,t17]
   refine Qfn [⟨16,[.pointer (some ⟨lb,0,none⟩)],h3,.int .i64 (ud.length:Int),h3,true⟩] ?_ Qgv Qhm Qgu (by simp[Qin,Qjg,Y4,t7,t8,l34 gY3,Qe6,hwn];first | exact⟨rfl,rfl⟩ | rfl) ?_ ?_
   ·exact zk1 ⟨q4,n4,fun _ c hc=>rfl⟩
   ·simp[Qad,Y4,l34 gY3]
   simp[Y4,-Y4,Zu7,t5,hN,hT,hT']
   exact Zd4 b S3 hud (a13.get gC) (a13.get gR) (tc.old a13) (tr.old a13) heb hab (d:=0) (by rw[hrv]) (by simp[t8]) (by simp[t15]) (by simp[t17]) (by simp) K hk
end
theorem Zvs(x:Int):Qep (binOp .rem 3 (.int .i64 x) (.int .i64 20))=some (.int .i64 (Int.tmod x 20)):=by kernel_rfl
theorem Swp.at2(x:Swp):x.cells[0]? = some (.int .i64 x.value)/\x.cells[3]? = some (.int .i64 x.less)/\x.cells[37]? = some (.int .i64 x.blocks)/\x.cells[38]? = some (.bool x.own):=by
 refine⟨rfl,rfl,?_,?_⟩
 ·rw[Swp.cells,List.getElem?_append_right (by simp[x.hs])]
  simp[x.hs]
 ·rw[Swp.cells,List.getElem?_append_right (by simp[x.hs])]
  simp[x.hs]
structure Wt (nA nB lb mb:Nat) (hC h:Heap):Prop where
 n:hC.next<=h.next
 k:∀ c,c < hC.next->(c < nA∨nB<=c)->c≠lb->c≠mb->h.get c=hC.get c
theorem Wt.rise{nA nB lb mb:Nat}{hC h:Heap}(w:Wt nA nB lb mb hC h)(hl:lb < nB)(hm:mb < nB):Rise nB hC h:=⟨w.n,fun c h1 h2=>w.k c h2 (.inr h1) (by omega) (by omega)⟩
structure E1 (lb C R X Y:Nat) (s:Int) (t:Tr Value) (i:Nat):Prop where
 t1:t.get 1=some (.pointer (some ⟨X,0,none⟩))
 t5:t.get 5=some (.int .i64 s)
 t7:t.get 7=some (.pointer (some ⟨Y,0,none⟩))
 t8:t.get 8=some (.pointer (some ⟨lb,0,none⟩))
 t15:t.get 15=some (.pointer (some ⟨C,0,none⟩))
 t17:t.get 17=some (.pointer (some ⟨R,0,none⟩))
 t19:t.get 19=some (.int .i64 (i:Int))
def EI1(nA nB lb mb ν C R X Y:Nat)(s:Int)(m:Q8k)(hC:Heap)(k:Nat)(st:St):Prop:=∃ (t:Tr Value) (h:Heap) (i clk:Nat) (un:Value) (ls:List LC) (ud:List (List BK)),st=⟨⟨266,t⟩,[],h⟩/\E1 lb C R X Y s t i/\i<=20/\k=20-i/\LedS h lb mb 1 ν clk Qhc un ls ud/\ud.length=1+i/\Qen ls=m/\Wt nA nB lb mb hC h/\∀ c,U1 un=some c->(nA<=c/\c < nB)∨hC.next<=c
section
attribute [local simp] Qdx Wj Y4 Yf Yj Ye Y3 Yh Yi Yg Y2 Y0 Yu
set_option maxHeartbeats 1000000 in
theorem Zsp(b:Nat){hC:Heap}{nA nB lb mb ν clk C R X Y:Nat}{un:Value}{ls:List LC}{ud:List (List BK)}{x:Swp}{y:Ht}{s:Int}(S:LedS hC lb mb 1 ν clk Qhc un ls ud)(hud:ud.length=1){xc xr:TxV}(gC:hC.get C=some (.cells true 1 xc.cells))(gR:hC.get R=some (.cells true 1 xr.cells))
  (tc:∀ h',Rise nB hC h'->TxAt h' xc) (tr:∀ h',Rise nB hC h'->TxAt h' xr) (gX:hC.get X=some (.cells true 1 x.cells)) (gY:hC.get Y=some (.cells true 1 y.cells)) (hlb:lb < nA) (hmb:mb < nA) (hX:X < nA) (hY:Y < nA) (hXl:X≠lb) (hYl:Y≠lb) (hAB:nA<=nB) (hCB:nB<=C) (hRB:nB<=R) (hu:∀ c,U1 un=some c->nA<=c/\c < nB)
  (hcv:∀ n:Nat,Qkd Qhc S.ks (Qen ls) (n:Int) xc.p=if y.hash=Bl.keyed1 [] x.sec then(s,0)else(0,16)) (hrv:∀ n:Nat,Qkd Qhc S.ks (Qen ls) (n:Int) xr.p=if(n:Int)+1 < y.til then(0,18)else(s,0))
  (hb:∀ n:Nat,∃ e,e≠0/\Qtr Qhc S.ks (n:Int) (Qen ls) [xc.p,xr.p]=.error e) {t:Tr Value} (t1:t.get 1=some (.pointer (some ⟨X,0,none⟩))) (t5:t.get 5=some (.int .i64 s)) (t7:t.get 7=some (.pointer (some ⟨Y,0,none⟩))) (t8:t.get 8=some (.pointer (some ⟨lb,0,none⟩))) (t15:t.get 15=some (.pointer (some ⟨C,0,none⟩))) (t17:t.get 17=some (.pointer (some ⟨R,0,none⟩)))
  (K:KP) (hk:∀ h',K (.ret (.bool true)) h'):Wv (E b) (Q50 Tryz.prog (E b).G) (D0 b) none Qqx ⟨⟨266,t⟩,[],hC⟩ (Yas (E b) (DD b) Qab K):=by
 obtain⟨p0,p1⟩:=Xg7 x.blocks (n:=20) (by omega)
 have lC:=Heap.get_lt gC
 have lR:=Heap.get_lt gR
 have lX:=Heap.get_lt gX
 have lY:=Heap.get_lt gY
 obtain⟨m,hm⟩:∃ m,m=Qen ls:=⟨_,rfl⟩
 rw[<- hm]at hcv hrv hb
 simp[Y1,-Y1]
 refine Qj1 (EI1 nA nB lb mb ν C R X Y s m hC) 20 ⟨_,hC,0,clk,un,ls,ud,rfl,⟨by simp[t1],by simp[t5],by simp[t7],by simp[t8],by simp[t15],by simp[t17],by simp⟩,by omega,rfl,S,hud,hm.symm,⟨Nat.le_refl _,fun _ _ _ _ _=>rfl⟩,fun c hc => .inl (hu c hc)⟩ ?_
 rintro k st ⟨t,h,i,clk,un,ls,ud,rfl,⟨t1,t5,t7,t8,t15,t17,t19⟩,hi,rfl,S1,hud1,em,w,hu1⟩ -
 have nXm:X≠mb:=fun e=>by have:=S.co.gm;rw[<- e,gX]at this;cases this
 have nYm:Y≠mb:=fun e=>by have:=S.co.gm;rw[<- e,gY]at this;cases this
 have gX1:h.get X=some (.cells true 1 x.cells):=by rw[w.k X lX (.inl hX) hXl nXm];exact gX
 have gY1:h.get Y=some (.cells true 1 y.cells):=by rw[w.k Y lY (.inl hY) hYl nYm];exact gY
 have cB:Jl h X 37=some (.int .i64 x.blocks):=by rw[J5 gX1];exact x.at2.2.2.1
 simp[Y1,-Y1,t1,t19,cB]
 refine(Xsb b x.blocks (by omega) (by omega) (Zvs _) h _ ?_).ok
 by_cases hlt:(i:Int) < Q79 x.blocks 20
 ·have hw:=wS (i:=i) (by omega)
  simp[Y1,-Y1,t1,t5,t7,t8,t15,t17,t19,hlt]
  refine X0e b S1 (by omega) (l:=[]) ⟨Sl.nil,by simp,by simp⟩ _ (fun m' hm' h2 un2 ls2 clk2 bks S2 em2 _ sy nb => ?_) fun e he=>by cases he
  have : m'=Qen ls:=by cases hm';rfl
  subst this
  simp[Y1,-Y1,t1,t5,t7,t8,t15,t17,t19,hw]
  refine⟨20-(i+1),by omega,_,h2,i+1,clk2,un2,ls2,ud ++ [bks],rfl,⟨by simp[t1],by simp[t5],by simp[t7],by simp[t8],by simp[t15],by simp[t17],by simp⟩,by omega,rfl,S2,by simp[hud1];omega,em2.trans em,⟨Nat.le_trans w.n sy.1,fun c h1 h2 h3 h4 => ?_⟩,fun c hc => ?_⟩
  ·rw[sy.2 c (Nat.lt_of_lt_of_le h1 w.n) h3 h4 fun e=>by rcases hu1 c e with q | q <;> omega,w.k c h1 h2 h3 h4]
  ·rcases nb c hc with q | q
   ·exact hu1 c q
   ·have:=w.n;exact .inr (by omega)
 ·simp[Y1,-Y1,t1,t5,t7,t8,t15,t17,t19,hlt]
  have r:=w.rise (by omega) (by omega)
  have ks:∀ (n:Nat) (p:PTx),Qkd Qhc S1.ks (Qen ls) (n:Int) p=Qkd Qhc S.ks m (n:Int) p:=fun n p=>by rw[em]
  exact Zw4 b S1 (by omega) (by rw[w.k C lC (.inr hCB) (by omega) (by omega)];exact gC) (by rw[w.k R lR (.inr hRB) (by omega) (by omega)];exact gR) (tc h r) (tr h r) gX1 gY1 (by rw[em];exact hcv _) (by rw[em];exact hrv _) (by rw[em];exact hb _) (by simp[t1]) (by simp[t5]) (by simp[t7]) (by simp[t8]) (by simp[t15]) (by simp[t17]) K hk
end
theorem Zam{N:Nat}{h3:Heap}{r:AEnd}{t:PTx}(m:MadeAt N h3 r (.ok t))(hp:∀ z ∈ t.ins,PtB z.pt):∃ x:TxV,x.p=t/\r=.ret (.tuple #[.agg ⟨txC x.iv x.ov x.lock⟩,.int .i64 0])/\∀ h',Rise N h3 h'->TxAt h' x:=by
 obtain⟨iv,ov,ins,outs,hr,hst,hpt⟩:=m
 refine⟨⟨iv,ov,ins,outs,t.lock⟩,hpt,hr,fun h' q=>⟨(hst h' q).1,(hst h' q).2,fun y hy => ?_⟩⟩
 have : y.p ∈ t.ins:=by
  rw[<- hpt]
  exact List.mem_map.2 ⟨y,hy,rfl⟩
 exact hp y.p this
theorem Rise.mono{n m:Nat}{h3 hC h':Heap}(r:Rise n hC h')(a:Old h3 hC)(hm:n<=m):Rise m h3 h':=⟨Nat.le_trans a.1 r.1,fun c h1 h2=>by rw[r.2 c (by omega) (Nat.lt_of_lt_of_le h2 a.1),a.2 c h2]⟩
theorem Swp.secAt{h:Heap}{X:Nat}{x:Swp}(g:h.get X=some (.cells true 1 x.cells)):Qb9 h X 4 32=some (.agg ⟨x.sec.map u8v⟩):=by
 rw[Jx g (by rw[x.len];omega),x.at.2.2.2]
theorem Ht.allAt{h:Heap}{Y:Nat}{y:Ht}(g:h.get Y=some (.cells true 1 y.cells)):Qb9 h Y 0 35=some (.agg ⟨y.cells⟩):=by
 rw[Jx g (by rw[Ht.len];omega),List.drop_zero,List.take_of_length_le (by rw[Ht.len];omega)]
theorem Pt.allAt{h:Heap}{B:Nat}{p:Pt}(g:h.get B=some (.cells true 1 p.cells)):Qb9 h B 0 33=some (.agg ⟨p.cells⟩):=by
 rw[Jx g (by rw[Pt.len];omega),List.drop_zero,List.take_of_length_le (by rw[Pt.len];omega)]
section
attribute [local simp] Qdx Y4 Y1 Y3 Yh Yi Yg Y2 Y0 Yu
set_option maxHeartbeats 2000000 in
theorem Zs1(b:Nat){hB:Heap}{nA lb mb ν clk L X Y:Nat}{un:Value}{ls:List LC}{ud:List (List BK)}{x:Swp}{y:Ht}{v a f s:Int}(S:LedS hB lb mb 1 ν clk Qhc un ls ud)(hud:ud.length=1){xl:TxV}(exl:xl.p=Q7j Qhc v y a f)(gL:hB.get L=some (.cells true 1 xl.cells))(tl:TxAt hB xl)
  (gX:hB.get X=some (.cells true 1 x.cells)) (gY:hB.get Y=some (.cells true 1 y.cells)) (hlb:lb < nA) (hmb:mb < nA) (hX:X < nA) (hY:Y < nA) (hXl:X≠lb) (hYl:Y≠lb) (hAB:nA<=hB.next) (hu:∀ c,U1 un=some c->nA<=c) (em:Qen ls=m1 Qhc v y a f)
  (hy0:htF y=0) (hy2:y.claimer=2) (hy1:y.refunder=1) (hyt:0<=y.til/\y.til < 20) (ha:10<=a/\a<=3000) (hs:0<=s/\s<=100) {t:Tr Value} (t1:t.get 1=some (.pointer (some ⟨X,0,none⟩))) (t5:t.get 5=some (.int .i64 s)) (t6:t.get 6=some (.int .i64 a)) (t7:t.get 7=some (.pointer (some ⟨Y,0,none⟩))) (t8:t.get 8=some (.pointer (some ⟨lb,0,none⟩))) (t9:t.get 9=some (.pointer (some ⟨L,0,none⟩)))
  (K:KP) (hk:∀ h',K (.ret (.bool true)) h'):Wv (E b) (Q50 Tryz.prog (E b).G) (D0 b) none Qj8 ⟨⟨266,t⟩,[],hB⟩ (Yas (E b) (DD b) Qab K):=by
 simp[Wj,Yf,Yj,Ye,-Ye,t9,Xxe gL]
 refine(Zwe b S.la tl.i tl.o tl.p _ fun h1 a1 => ?_).ok
 have e1:ptx xl.ins xl.outs xl.lock=Q7j Qhc v y a f:=exl
 rw[e1]
 obtain⟨p,ep⟩:∃ p,p=Zqv Qhc v y a f:=⟨_,rfl⟩
 have pc:(dgF idS (Q7j Qhc v y a f)).map u8v ++ [.int .i64 0]=p.cells:=by rw[ep];rfl
 have bp:Qg1 (E b).toEnv 46 [(0,.agg ⟨(dgF idS (Q7j Qhc v y a f)).map u8v⟩)]=some (.agg ⟨p.cells⟩):=by rw[<- pc];exact Zoi b (Q5w _ _)
 have pb:PtB p:=by rw[ep];exact Y3o _ _
 have pn0:p.n=0:=by rw[ep];rfl
 obtain⟨hA2,h2,alA,stA,stA',g2,a2,n2⟩:=Qv6 b (X7m b) (l:=p.cells) (by rw[Pt.len,Xkr]) (by kernel_rfl) h1
 have plen:=p.len
 simp[Wj,Yf,Yj,Ye,-Ye,bp,-Wj,alA,stA,stA',plen]
 have a12:=a1.trans a2
 obtain⟨_,h3,q3,n3,ν3,rfl,gν3,a3⟩:=Yum b (Laid.old S.la a12) (fun r h' => ∃ ν',r=.ret (.pointer (some ⟨ν',0,none⟩))/\h'.get ν'=some (.cells true 1 (Qhc.map u8v))/\Old h2 h') (fun ν' h' g _ a=>⟨ν',rfl,g,a⟩)
 have a13:=a12.trans a3
 obtain⟨r4,h4,q4,n4,N4,hN4,a4,md4⟩:=Zn6 b (Laid.old S.la a13) gν3 X11 pb a y x.hs x.bs s (fun r h' => ∃ N,h3.next < N/\Old h3 h'/\MadeAt N h' r (Xlm Qhc p a y y.claimer 0 s fun tg=>Qwm tg x.sec)) (fun r h' N hN a m=>⟨N,hN,a,m⟩)
 rw[Zn4 hy0 hy2 pn0 ha hs x.hs]at md4
 have a14:=a13.trans a4
 have lS:=Swp.secAt (a13.get gX)
 have lY:=Ht.allAt (a13.get gY)
 have lP:=Pt.allAt (a3.get g2)
 have pr4:∃ (cc:List Value) (e4:Int),r4=.ret (.tuple #[.agg ⟨cc⟩,.int .i64 e4])/\cc.length=3/\((a-s < 10/\e4=20)∨(¬ a-s < 10/\e4=0/\∃ xc:TxV,xc.p=Qqu Qhc p a s x.sec/\cc=xc.cells/\∀ h',Rise N4 h4 h'->TxAt h' xc)):=by
  by_cases hd:a-s < 10
  ·rw[if_pos hd]at md4
   exact⟨Q6m,20,md4.2,rfl,.inl ⟨hd,rfl⟩⟩
  ·rw[if_neg hd]at md4
   obtain⟨xc,h1x,h2x,h3x⟩:=Zam md4 fun z hz=>by
    have : z=⟨p,Qwm (Ql8 (Quk Qhc 2) (dgF Qzz (tk0 p a 2 0 s))) x.sec⟩:=by simpa[Qqu,Qcz,tk0]using hz
    rw[this];exact pb
   exact⟨xc.cells,0,h2x,rfl,.inr ⟨hd,rfl,xc,h1x,rfl,h3x⟩⟩
 obtain⟨cc,e4,rfl,lcc,pr4⟩:=pr4
 obtain⟨hA5,h5,alC,stC,stC',g5,a5,n5⟩:=Qv6 b (Y98 b) (l:=cc) (by rw[lcc,Q88]) (by kernel_rfl) h4
 have lS2:=Swp.secAt (a12.get gX)
 have lY2:=Ht.allAt (a12.get gY)
 have lP2:=Pt.allAt g2
 simp only[Ye]
 refine Qfn [⟨8,[],h2,.pointer (some ⟨ν3,0,none⟩),h3,true⟩,⟨14,[.pointer (some ⟨ν3,0,none⟩),.agg ⟨p.cells⟩,.int .i64 a,.agg ⟨y.cells⟩,.agg ⟨x.sec.map u8v⟩,.int .i64 s],h3,.tuple #[.agg ⟨cc⟩,.int .i64 e4],h4,true⟩] ?_ Q77 Xal Q74 (by simp[Xdw,Xds,Wj,Yf,Yj,Ye,t1,t5,t6,t7,lS,lY,lP,Qe6,Qm0,-U8,alC,stC,stC',lcc];first | exact⟨rfl,rfl⟩ | rfl) ?_ ?_
 ·exact zk2 ⟨q3,n3,fun _ c hc=>a3.2 c hc⟩ ⟨q4,n4,fun _ c hc=>a4.2 c hc⟩
 ·simp[Qdw,Wj,Yf,Yj,Ye,lS,lY,lP,lS2,lY2,lP2]
 have a15:=a14.trans a5
 obtain⟨_,h6,q6,n6,ν6,rfl,gν6,a6⟩:=Yum b (Laid.old S.la a15) (fun r h' => ∃ ν',r=.ret (.pointer (some ⟨ν',0,none⟩))/\h'.get ν'=some (.cells true 1 (Qhc.map u8v))/\Old h5 h') (fun ν' h' g _ a=>⟨ν',rfl,g,a⟩)
 have a16:=a15.trans a6
 obtain⟨r7,h7,q7,n7,N7,hN7,a7,md7⟩:=Zfm b (Laid.old S.la a16) gν6 X11 pb a y s (fun r h' => ∃ N,h6.next < N/\Old h6 h'/\MadeAt N h' r (Xlm Qhc p a y y.refunder y.til s fun tg=>Qmu tg)) (fun r h' N hN a m=>⟨N,hN,a,m⟩)
 rw[Zwy hy0 hy1 (by omega) pn0 ha hs]at md7
 have a17:=a16.trans a7
 have pr7:∃ (cr:List Value) (e7:Int),r7=.ret (.tuple #[.agg ⟨cr⟩,.int .i64 e7])/\cr.length=3/\((a-s < 10/\e7=20)∨(¬ a-s < 10/\e7=0/\∃ xr:TxV,xr.p=Y7r Qhc p a y.til s/\cr=xr.cells/\∀ h',Rise N7 h7 h'->TxAt h' xr)):=by
  by_cases hd:a-s < 10
  ·rw[if_pos hd]at md7
   exact⟨Q6m,20,md7.2,rfl,.inl ⟨hd,rfl⟩⟩
  ·rw[if_neg hd]at md7
   obtain⟨xc,h1x,h2x,h3x⟩:=Zam md7 fun z hz=>by
    have : z=⟨p,Qmu (Ql8 (Quk Qhc 1) (dgF Qzz (tk0 p a 1 y.til s)))⟩:=by simpa[Y7r,Qcz,tk0]using hz
    rw[this];exact pb
   exact⟨xc.cells,0,h2x,rfl,.inr ⟨hd,rfl,xc,h1x,rfl,h3x⟩⟩
 obtain⟨cr,e7,rfl,lcr,pr7⟩:=pr7
 obtain⟨hA8,h8,alR,stR,stR',g8,a8,n8⟩:=Qv6 b (Y98 b) (l:=cr) (by rw[lcr,Q88]) (by kernel_rfl) h7
 have a25:=a3.trans (a4.trans a5)
 have lY5:=Ht.allAt (a15.get gY)
 have lP5:=Pt.allAt (a25.get g2)
 have lY6:=Ht.allAt (a16.get gY)
 have lP6:=Pt.allAt (a6.get (a25.get g2))
 simp[Wj,Yf,Yj,Ye,-Yj,t8]
 refine Qfn [⟨8,[],h5,.pointer (some ⟨ν6,0,none⟩),h6,true⟩,⟨15,[.pointer (some ⟨ν6,0,none⟩),.agg ⟨p.cells⟩,.int .i64 a,.agg ⟨y.cells⟩,.int .i64 s],h6,.tuple #[.agg ⟨cr⟩,.int .i64 e7],h7,true⟩] ?_ Q7n Q98 Q7x (by simp[Xcw,Xb6,Wj,Yf,Yj,Ye,t1,t5,t6,t7,lY6,lP6,Qe6,Qm0,-U8,alR,stR,stR',lcr];first | exact⟨rfl,rfl⟩ | rfl) ?_ ?_
 ·exact zk2 ⟨q6,n6,fun _ c hc=>a6.2 c hc⟩ ⟨q7,n7,fun _ c hc=>a7.2 c hc⟩
 ·simp[Qdy,Wj,Yf,Yj,Ye,lY5,lP5,lY6,lP6]
 have a18:=a17.trans a8
 have was:IntKind.i64.wrap (a-s)=a-s:=Qao (by omega) (by omega)
 rcases pr4 with⟨hd,rfl⟩ | ⟨hd,rfl,xc,exc,rfl,tc⟩
 ·rcases pr7 with⟨-,rfl⟩ | ⟨hd', -⟩
  ·have hd2:¬ 10<=a-s:=by omega
   simp[Wj,Yf,Yj,Ye,-Yf,t5,t6,was,hd,hd2,Zu7]
   refine(Yuf b (Laid.old S.la a18) _ ?_).ok
   simp[Wj,Yf,Yj,Ye]
   exact hk _
  ·exact absurd hd hd'
 ·rcases pr7 with⟨hd', -⟩ | ⟨-,rfl,xr,exr,rfl,tr⟩
  ·exact absurd hd' hd
  ·have hd2:10<=a-s:=by omega
   have mp:Qen ls p=some ⟨a,Qv0 y,1⟩:=by rw[em,ep];exact Zya
   simp[Wj,Yf,Yj,Ye,-Yf,t5,t6,was,hd,hd2,Zu7]
   have a58:=a6.trans (a7.trans a8)
   have S8:=S.old a18
   have n04:hB.next<=h4.next:=a14.1
   have n07:hB.next<=h7.next:=a17.1
   have nN4:hB.next<=N4:=by have:=a13.1;omega
   have nN7:hB.next<=N7:=by have:=a16.1;omega
   refine Zsp b (s:=s) (nA:=nA) (nB:=hB.next) (C:=h4.next) (R:=h7.next) S8 hud (a58.get g5) g8 (fun h' r=>tc h' (r.mono (a5.trans a58) nN4)) (fun h' r=>tr h' (r.mono a8 nN7)) (a18.get gX) (a18.get gY) hlb hmb hX hY hXl hYl hAB n04 n07 (fun c hc=>⟨hu c hc,S.ur.lt hc⟩) (fun n => ?_) (fun n => ?_) (fun n => ?_) (by simp[t1]) (by simp[t5]) (by simp[t7]) (by simp[t8]) (by simp) (by simp) K hk
   ·rw[exc,Yf8 pn0 mp hy2 (by omega) hs.1 x.hs (by omega)]
    by_cases hh:y.hash=Bl.keyed1 [] x.sec
    ·rw[if_pos hh,if_pos (Zhj.2 hh)]
    ·rw[if_neg hh,if_neg fun q=>hh (Zhj.1 q)]
   ·rw[exr]
    exact Zhn pn0 mp hy1 hyt (by omega) hs.1
   ·rw[exc,exr]
    exact Zss pn0 mp hy2 hy1 hyt (by omega) hs.1 x.hs (by omega)
end
section
attribute [local simp] Qdx Wj Y4 Y1 Yf Yj Ye Y2 Y0 Yu
set_option maxHeartbeats 2000000 in
theorem Znu(b:Nat){hA:Heap}{N lb mb ν clk L X Y:Nat}{ls:List LC}{x:Swp}{y:Ht}{v a f s:Int}(S:LedS hA lb mb 1 ν clk Qhc (.slice none 0 0) ls []){xl:TxV}(exl:xl.p=Q7j Qhc v y a f)(gL:hA.get L=some (.cells true 1 xl.cells))(tl:∀ h',Rise N hA h'->TxAt h' xl)(hlN:lb < N)(hmN:mb < N)(hLl:L≠lb)
  (gX:hA.get X=some (.cells true 1 x.cells)) (gY:hA.get Y=some (.cells true 1 y.cells)) (hXl:X≠lb) (hYl:Y≠lb) (em:Qen ls=m0 v)
  (hy0:htF y=0) (hy2:y.claimer=2) (hy1:y.refunder=1) (hyt:0<=y.til/\y.til < 20) (hv:0<=v/\v<=3000) (ha:10<=a/\a<=3000) (hf:0<=f/\f<=100) (hs:0<=s/\s<=100) (hle:¬ v < a+f) {t:Tr Value} (t1:t.get 1=some (.pointer (some ⟨X,0,none⟩))) (t3:t.get 3=some (.int .i64 v)) (t4:t.get 4=some (.int .i64 f)) (t5:t.get 5=some (.int .i64 s)) (t6:t.get 6=some (.int .i64 a)) (t7:t.get 7=some (.pointer (some ⟨Y,0,none⟩))) (t8:t.get 8=some (.pointer (some ⟨lb,0,none⟩))) (t9:t.get 9=some (.pointer (some ⟨L,0,none⟩)))
  (K:KP) (hk:∀ h',K (.ret (.bool true)) h'):Wv (E b) (Q50 Tryz.prog (E b).G) (D0 b) none Qre ⟨⟨266,t⟩,[],hA⟩ (Yas (E b) (DD b) Qab K):=by
 obtain⟨ow,zν,gν⟩:=S.gν
 have tA:=tl hA (Rise.refl _ _)
 simp[Y3,Yh,Yi,Yg,-Yi,t8,t9,Xxe gL]
 refine Qy2 b (nu:=0) S.ks S.la S.gl gν S.ur.len (by omega) S.co tA.i tA.o tA.p _ fun h1 a1 => ?_
 have e1:ptx xl.ins xl.outs xl.lock=Q7j Qhc v y a f:=exl
 have hvl:=Zg2 (ks:=Qhc) (hks:=S.ks) (x:=y) hv ha hf hle
 rw[e1,em]
 rw[show((0:Nat):Int)=0 from rfl,hvl]
 have w1:IntKind.i64.wrap (v-a)=v-a:=Qao (by omega) (by omega)
 obtain⟨lf,hlf⟩:∃ lf,lf=v-a-f:=⟨_,rfl⟩
 have w2:IntKind.i64.wrap (v-a-f)=lf:=by rw[hlf];exact Qao (by omega) (by omega)
 have w3:IntKind.i64.wrap (f+lf)=f+lf:=Qao (by omega) (by omega)
 obtain⟨pd,hpd⟩:∃ pd,pd=v-(a+Zpt v a f):=⟨_,rfl⟩
 rw[<- hpd]
 have hlf0:¬ lf < 0:=by omega
 have gL1:=a1.get gL
 simp[Y3,Yh,Yi,Yg,-Yh,t3,t4,t6,t8,t9,w1,w2]
 have S1:=S.old a1
 have aB:Old h1 (h1.push (.cells true 1 xl.cells)):=Old.push _ _
 have S2:=S1.old aB
 have T1:=tA.old a1
 have tail:∀ tt:Tr Value,tt.get 1=some (.pointer (some ⟨X,0,none⟩))->tt.get 5=some (.int .i64 s)->tt.get 6=some (.int .i64 a)->tt.get 7=some (.pointer (some ⟨Y,0,none⟩))->tt.get 8=some (.pointer (some ⟨lb,0,none⟩))->tt.get 9=some (.pointer (some ⟨L,0,none⟩))->∀ (h':Heap) (un':Value) (ls':List LC) (clk':Nat) (bks:List BK),LedS h' lb mb 1 ν clk' Qhc un' ls' ([] ++ [bks])->Qen ls'=m1 Qhc v y a f->Z0d lb mb (.slice none 0 0) (h1.push (.cells true 1 xl.cells)) h'->(∀ c,U1 un'=some c->U1 (.slice none 0 0)=some c∨(h1.push (.cells true 1 xl.cells)).next<=c) ->
   Wv (E b) (Q50 Tryz.prog (E b).G) (D0 b) none Qj8 ⟨⟨266,tt⟩,[],h'⟩ (Yas (E b) (DD b) Qab K):=by
  intro tt q1 q5 q6 q7 q8 q9 h' un' ls' clk' bks S' em' sy nb
  have a2:=a1.trans aB
  have gm:=S.co.gm
  have nX:X≠mb:=fun e=>by rw[e,gm]at gX;cases gX
  have nY:Y≠mb:=fun e=>by rw[e,gm]at gY;cases gY
  have nL:L≠mb:=fun e=>by rw[e,gm]at gL;cases gL
  have kp:∀ c,c < hA.next->c≠lb->c≠mb->h'.get c=hA.get c:=fun c hc h1' h2'=>by
   rw[sy.2 c (Nat.lt_of_lt_of_le hc a2.1) h1' h2' (by simp[U1]),a2.2 c hc]
  have hr:Rise N hA h':=⟨Nat.le_trans a2.1 sy.1,fun c h1' h2'=>kp c h2' (by omega) (by omega)⟩
  have lX:=Heap.get_lt gX
  have lY:=Heap.get_lt gY
  have lL:=Heap.get_lt gL
  have ⟨llb,lmb⟩:=S.size
  have n2:=a2.1
  exact Zs1 b (v:=v) (a:=a) (f:=f) (s:=s) (nA:=(h1.push (.cells true 1 xl.cells)).next) S' rfl exl (by rw[kp L lL hLl nL];exact gL) (tl h' hr) (by rw[kp X lX hXl nX];exact gX) (by rw[kp Y lY hYl nY];exact gY) (by omega) (by omega) (by omega) (by omega) hXl hYl sy.1 (fun c hc=>by
   rcases nb c hc with q | q
   ·cases q
   ·exact q) em' hy0 hy2 hy1 hyt ha hs q1 q5 q6 q7 q8 q9 K hk
 have ap:=Yz3 (ks:=Qhc) (hks:=S.ks) (ht:=0) (m:=m0 v) (Q7j Qhc v y a f)
 rw[hvl,if_pos rfl]at ap
 by_cases h10:10<=lf
 ·have hl10:¬ lf < 10:=by omega
  have hpf:pd=f:=by rw[hpd];unfold Zpt;rw[if_pos (by omega)];omega
  simp (config:={maxSteps:=2000000}) [Y3,Yh,Yi,Yg,-Y3,t3,t4,t6,t8,t9,hlf0,hl10,h10,hpf,Xxe gL1,Y7l]
  refine X0e b S2 (by simp) (Zzk T1) _ (fun m' hm' h3 un3 ls3 clk3 bks S3 em3 _ sy nb => ?_) fun e he => ?_
  ·have hm':Qtr Qhc S.ks 0 (Qen ls) [xl.p]=.ok m':=hm'
   rw[exl,em,ap]at hm'
   have hm1:m'=m1 Qhc v y a f:=by cases hm';rfl
   simp[Y3,Yh,Yi,Yg,-Y3]
   exact tail _ (by simp[t1]) (by simp[t5]) (by simp[t6]) (by simp[t7]) (by simp[t8]) (by simp[t9]) h3 un3 ls3 clk3 bks S3 (em3.trans hm1) sy nb
  ·have he:Qtr Qhc S.ks 0 (Qen ls) [xl.p]=.error e:=he
   rw[exl,em,ap]at he
   cases he
 ·have hl10:lf < 10:=by omega
  have hpf:pd=f+lf:=by rw[hpd];unfold Zpt;rw[if_neg (by omega)];omega
  simp (config:={maxSteps:=2000000}) [Y3,Yh,Yi,Yg,-Y3,t3,t4,t6,t8,t9,hlf0,hl10,h10,hpf,w3,Xxe gL1,Y7l]
  refine X0e b S2 (by simp) (Zzk T1) _ (fun m' hm' h3 un3 ls3 clk3 bks S3 em3 _ sy nb => ?_) fun e he => ?_
  ·have hm':Qtr Qhc S.ks 0 (Qen ls) [xl.p]=.ok m':=hm'
   rw[exl,em,ap]at hm'
   have hm1:m'=m1 Qhc v y a f:=by cases hm';rfl
   simp[Y3,Yh,Yi,Yg,-Y3]
   exact tail _ (by simp[t1]) (by simp[t5]) (by simp[t6]) (by simp[t7]) (by simp[t8]) (by simp[t9]) h3 un3 ls3 clk3 bks S3 (em3.trans hm1) sy nb
  ·have he:Qtr Qhc S.ks 0 (Qen ls) [xl.p]=.error e:=he
   rw[exl,em,ap]at he
   cases he
theorem Ztu(b:Nat):Qg1 (E b).toEnv 46 []=some (.agg ⟨(pn 0).cells⟩):=by kernel_rfl
set_option maxHeartbeats 2000000 in
theorem Zr1(b:Nat){h:Heap}{lb mb ν clk X Y:Nat}{ls:List LC}{x:Swp}{y:Ht}{v a f s:Int}(S:LedS h lb mb 1 ν clk Qhc (.slice none 0 0) ls [])
  (gX:h.get X=some (.cells true 1 x.cells)) (gY:h.get Y=some (.cells true 1 y.cells)) (hXl:X≠lb) (hYl:Y≠lb) (em:Qen ls=m0 v) (hyb:∀ n ∈ y.hash,n < 256)
  (hy0:htF y=0) (hy2:y.claimer=2) (hy1:y.refunder=1) (hyt:0<=y.til/\y.til < 20) (hv:0<=v/\v<=3000) (ha:10<=a/\a<=3000) (hf:0<=f/\f<=100) (hs:0<=s/\s<=100) {t:Tr Value} (t1:t.get 1=some (.pointer (some ⟨X,0,none⟩))) (t3:t.get 3=some (.int .i64 v)) (t4:t.get 4=some (.int .i64 f)) (t5:t.get 5=some (.int .i64 s)) (t6:t.get 6=some (.int .i64 a)) (t7:t.get 7=some (.pointer (some ⟨Y,0,none⟩))) (t8:t.get 8=some (.pointer (some ⟨lb,0,none⟩)))
  (K:KP) (hk:∀ h',K (.ret (.bool true)) h'):Wv (E b) (Q50 Tryz.prog (E b).G) (D0 b) none Qr9 ⟨⟨266,t⟩,[],h⟩ (Yas (E b) (DD b) Qab K):=by
 obtain⟨_,h1,q1,n1,ν1,rfl,gν1,a1⟩:=Yum b S.la (fun r h' => ∃ ν',r=.ret (.pointer (some ⟨ν',0,none⟩))/\h'.get ν'=some (.cells true 1 (Qhc.map u8v))/\Old h h') (fun ν' h' g _ a=>⟨ν',rfl,g,a⟩)
 obtain⟨h2,e2⟩:∃ h2,h2=h1.push (.cells true 1 (pn 0).cells):=⟨_,rfl⟩
 have a2:=Qkm e2
 have bl:V5 (E b).toEnv 47 1 [(0,.agg ⟨(pn 0).cells⟩)] h1=some (.slice (some ⟨h1.next,0,none⟩) 1 1,h2):=by rw[e2];exact Q84 (T47 b) (z:=33) Xkr (by omega) (by omega) (y:=.agg ⟨(pn 0).cells⟩) (ys:=(pn 0).cells) rfl rfl (Pt.len _)
 have sp:Sl h2 33 (.slice (some ⟨h1.next,0,none⟩) 1 1) [pn 0].length (Xrj [pn 0]):=(Own.new (n0:=0) (z:=33) (Nat.zero_le _) (by rw[e2,Heap.get_push];exact if_pos rfl) (by simp[Xrj,Pt.len]) (by decide) (.inr rfl)).sl
 have a12:=a1.trans a2
 obtain⟨r3,h3,q3,n3,N3,hN3,a3,md3⟩:=Zph b (Laid.old S.la a12) (a2.get gν1) X11 1 sp (by simp) (fun p hp=>by rw[List.mem_singleton.1 hp];exact Zyp 0) v y hyb a f (fun r h' => ∃ N,h2.next < N/\Old h2 h'/\MadeAt N h' r (Y37 Qhc 1 [pn 0] v y a f)) (fun r h' N hN a m=>⟨N,hN,a,m⟩)
 rw[Zo5 hy0 hv ha hf]at md3
 have pr3:∃ (cc:List Value) (e:Int),r3=.ret (.tuple #[.agg ⟨cc⟩,.int .i64 e])/\cc.length=3/\((v < a+f/\e=22)∨(¬ v < a+f/\e=0/\∃ xl:TxV,xl.p=Q7j Qhc v y a f/\cc=xl.cells/\∀ h',Rise N3 h3 h'->TxAt h' xl)):=by
  by_cases hd:v < a+f
  ·rw[if_pos hd]at md3
   exact⟨Q6m,22,md3.2,rfl,.inl ⟨hd,rfl⟩⟩
  ·rw[if_neg hd]at md3
   obtain⟨xc,h1x,h2x,h3x⟩:=Zam md3 fun z hz=>by
    have : z=⟨pn 0,Q6i (Ql8 (Quk Qhc 1) (dgF Qzz (lk0 [pn 0] 1 v y a f)))⟩:=by simpa[Q7j,Qcz,lk0]using hz
    rw[this];exact Zyp 0
   exact⟨xc.cells,0,h2x,rfl,.inr ⟨hd,rfl,xc,h1x,rfl,h3x⟩⟩
 obtain⟨cc,e,rfl,lcc,pr3⟩:=pr3
 have a13:=a12.trans a3
 obtain⟨hA4,h4,alC,stC,stC',g4,a4,n4⟩:=Qv6 b (Y98 b) (l:=cc) (by rw[lcc,Q88]) (by kernel_rfl) h3
 have a14:=a13.trans a4
 have lY0:=Ht.allAt gY
 have lY1:=Ht.allAt (a1.get gY)
 have lY2:=Ht.allAt (a12.get gY)
 simp only[Y2]
 refine Qfn [⟨8,[],h,.pointer (some ⟨ν1,0,none⟩),h1,true⟩,⟨9,[.pointer (some ⟨ν1,0,none⟩),.int .i64 1,.slice (some ⟨h1.next,0,none⟩) 1 1,.int .i64 v,.agg ⟨y.cells⟩,.int .i64 a,.int .i64 f],h2,.tuple #[.agg ⟨cc⟩,.int .i64 e],h3,true⟩] ?_ Xaa Xc4 Xau (by simp[Xfd,Xj6,Y3,Yh,Yi,Yg,t3,t4,t6,t7,Ztu,bl,lY2,Qe6,Qm0,-U8,alC,stC,stC',lcc];first | exact⟨rfl,rfl⟩ | rfl) ?_ ?_
 ·exact zk2 ⟨q1,n1,fun _ c hc=>a1.2 c hc⟩ ⟨q3,n3,fun _ c hc=>a3.2 c hc⟩
 ·simp[Qeh,Y3,Yh,Yi,Yg,lY0,lY1,lY2]
 have waf:IntKind.i64.wrap (a+f)=a+f:=Qao (by omega) (by omega)
 rcases pr3 with⟨hd,rfl⟩ | ⟨hd,rfl,xl,exl,rfl,tl⟩
 ·simp[Y3,Yh,Yi,Yg,-Yg,t3,t4,t6,waf,hd]
  refine(Yuf b (Laid.old S.la a14) _ ?_).ok
  simp[Y3,Yh,Yi,Yg]
  exact hk _
 ·simp[Y3,Yh,Yi,Yg,-Yg,t3,t4,t6,waf,hd]
  have ⟨llb,lmb⟩:=S.size
  have n02:=a12.1
  have n03:=a13.1
  exact Znu b (N:=N3) (s:=s) (S.old a14) exl g4 (fun h' r=>tl h' (r.mono a4 (Nat.le_refl _))) (by omega) (by omega) (by omega) (a14.get gX) (a14.get gY) hXl hYl em hy0 hy2 hy1 hyt hv ha hf hs hd (by simp[t1]) (by simp[t3]) (by simp[t4]) (by simp[t5]) (by simp[t6]) (by simp[t7]) (by simp[t8]) (by simp) K hk
end
theorem Z10(x:Int)(m:Nat):Qep (binOp .rem 3 (.int .i64 x) (.int .i64 (Int.ofNat (m+1))))=some (.int .i64 (Int.tmod x (Int.ofNat (m+1)))):=by kernel_rfl
theorem Zw1(x:Int){n:Int}(hn:0 < n):Qep (binOp .rem 3 (.int .i64 x) (.int .i64 n))=some (.int .i64 (Int.tmod x n)):=by
 obtain⟨m,rfl⟩:∃ m:Nat,n=Int.ofNat (m+1):=⟨n.toNat-1,by
  have:=Int.toNat_of_nonneg (Int.le_of_lt hn)
  show n=((n.toNat-1+1:Nat):Int)
  omega⟩
 exact Z10 x m
theorem Yzm{f:FuncId}{args args':List Value}{h0 h h1:Heap}{v:Value}{q:Bool}{l:List KE}(ha:args≠args'):Q7u (⟨f,args,h0,v,h1,q⟩::l) f args' h=Q7u l f args' h:=by simp[Q7u,ha]
theorem Zrp(b:Nat)(a:Addr):Y1s (E b).toEnv .eql 31 (.pointer (some a)) (.pointer none)=some (.bool false):=by kernel_rfl
theorem Zrt(b:Nat)(z:Int)(v:Value)(h:Heap):V5 (E b).toEnv 36 1 [(0,.agg ⟨[.int .i64 z,v]⟩)] h=some (.slice (some ⟨h.next,0,none⟩) 1 1,h.push (.cells true 1 [.int .i64 z,v])):=by kernel_rfl
theorem Ht.put{y:Ht}{d:List Nat}(hd:d.length=32):d.map u8v++y.cells.drop 32=(⟨d,y.claimer,y.refunder,y.til,hd⟩:Ht).cells:=by
 unfold Ht.cells
 rw[List.drop_append_of_le_length (by simp[y.hd]),List.drop_of_length_le (by simp[y.hd])]
 rfl
section
attribute [local simp] Wj Y4 Y1 Yf Yj Ye Y3 Yh Yi Yg
set_option maxHeartbeats 2000000 in
theorem Zpk(b:Nat){h:Heap}{X Y:Nat}{x:Swp}{y:Ht}{v a f s:Int}(laid:Ab.LaidIn h laidAll)
  (gX:h.get X=some (.cells true 1 x.cells)) (gY:h.get Y=some (.cells true 1 y.cells)) (hyb:∀ n ∈ y.hash,n < 256)
  (hy0:htF y=0) (hy2:y.claimer=2) (hy1:y.refunder=1) (hyt:0<=y.til/\y.til < 20) (hv:0<=v/\v<=3000) (ha:10<=a/\a<=3000) (hf:0<=f/\f<=100) (hs:0<=s/\s<=100) {t:Tr Value} (t1:t.get 1=some (.pointer (some ⟨X,0,none⟩))) (t3:t.get 3=some (.int .i64 v)) (t4:t.get 4=some (.int .i64 f)) (t5:t.get 5=some (.int .i64 s)) (t6:t.get 6=some (.int .i64 a)) (t7:t.get 7=some (.pointer (some ⟨Y,0,none⟩)))
  (K:KP) (hk:∀ h',K (.ret (.bool true)) h'):Wv (E b) (Q50 Tryz.prog (E b).G) (D0 b) none Qrm ⟨⟨266,t⟩,[],h⟩ (Yas (E b) (DD b) Qab K):=by
 simp[Qdx,Y2,Y0,Yu,-Y2,t3]
 refine(Zl4 b 1 h _ fun sv h1 o1 a1 => ?_).ok
 simp[Qdx,Y2,Y0,Yu,-Y2,Ypv b v o1.sl,Zrt]
 obtain⟨h2,e2,a2,g2⟩:=Qoa h1 [.int .i64 v,sv]
 rw[<- e2]
 have a12:=a1.trans a2
 have so2:Outs h2 (.slice (some ⟨h1.next,0,none⟩) 1 1) [⟨v,sv,Xvq 1⟩]:=⟨(Own.new (n0:=0) (z:=2) (Nat.zero_le _) g2 rfl (by decide) (.inr rfl)).sl,by simp,fun z hz=>by
  rw[List.mem_singleton.1 hz]
  exact⟨(o1.sl).old a2,Yos 1,by show(Xvq 1).length < 1000000;decide⟩⟩
 refine(Yum b (Laid.old laid a12) _ fun ν h3 g3 _ a3 => ?_).ok
 simp[Qdx,Y2,Y0,Yu,-Y2]
 have a13:=a12.trans a3
 refine Zhm b (Laid.old laid a13) ⟨_,_,g3⟩ X11 (so2.old a3) (fun o ho=>by
  rw[List.mem_singleton.1 ho];show 0<=v/\v<=1125899906842624;omega) _ fun lb mb clk h4 ls S em el a4 hlb hmb => ?_
 have a14:=a13.trans a4
 have lX:=Heap.get_lt gX
 have lY:=Heap.get_lt gY
 have nn:=a13.1
 simp[Qdx,Y2,Y0,Yu,-Y2,Zrp]
 exact Zr1 (v:=v) (a:=a) (f:=f) (s:=s) b S (a14.get gX) (a14.get gY) (by omega) (by omega) em hyb hy0 hy2 hy1 hyt hv ha hf hs (by simp[t1]) (by simp[t3]) (by simp[t4]) (by simp[t5]) (by simp[t6]) (by simp[t7]) (by simp) K hk
set_option maxHeartbeats 2000000 in
theorem Zcd(b:Nat){h:Heap}{X:Nat}{x:Swp}{v f s:Int}(laid:Ab.LaidIn h laidAll)(gX:h.get X=some (.cells true 1 x.cells))(hv:0 < v/\v<=2900)(hf:0<=f/\f<=100)(hs:0<=s/\s<=100){t:Tr Value}(t1:t.get 1=some (.pointer (some ⟨X,0,none⟩)))(t3:t.get 3=some (.int .i64 v))(t4:t.get 4=some (.int .i64 f))(t5:t.get 5=some (.int .i64 s))
  (K:KP) (hk:∀ h',K (.ret (.bool true)) h'):Wv (E b) (Q50 Tryz.prog (E b).G) (D0 b) none Qtf ⟨⟨266,t⟩,[],h⟩ (Yas (E b) (DD b) Qab K):=by
 obtain⟨x1,x2,x36,x4⟩:=x.at
 obtain⟨x0,x3,x37,x38⟩:=x.at2
 have c1:Jl h X 1=some (.int .i64 x.amount):=by rw[J5 gX,x1]
 have c36:Jl h X 36=some (.int .i64 x.til):=by rw[J5 gX,x36]
 simp[Qdx,Y2,Y0,Yu,-Y0,t1,t3,c1]
 refine(Xsb b x.amount (n:=v) hv.1 (by omega) (Zw1 _ hv.1) h _ ?_).ok
 obtain⟨am0,am1⟩:=Xg7 x.amount hv.1
 obtain⟨a,ea⟩:∃ a,a=10+Q79 x.amount v:=⟨_,rfl⟩
 have wa:IntKind.i64.wrap (10+Q79 x.amount v)=a:=by rw[ea,Qao (by omega) (by omega)]
 simp[Qdx,Y2,Y0,Yu,-Y0,t1,t3,c36,wa]
 refine(Xsb b x.til (n:=20) (by omega) (by omega) (Zw1 _ (by omega)) h _ ?_).ok
 obtain⟨u0,u1⟩:=Xg7 x.til (n:=20) (by omega)
 obtain⟨y,ey⟩:∃ y:Ht,y=⟨List.replicate 32 0,2,1,Q79 x.til 20,by simp⟩:=⟨_,rfl⟩
 have by_:Qg1 (E b).toEnv 28 [(1,.int .i64 2),(2,.int .i64 1),(3,.int .i64 (Q79 x.til 20))]=some (.agg ⟨y.cells⟩):=by rw[ey];exact Zg9 b _ _ _
 have yl:=y.len
 obtain⟨hB0,hB,eB,sB,gB,aB,nB⟩:=Y7u h (zs:=(List.replicate 32 0).map u8v ++ [.int .i64 0,.int .i64 0,.int .i64 0]) (l:=y.cells) (by rw[yl];simp)
 have alB:Qba (E b).toEnv 28 h=some (.pointer (some ⟨h.next,0,none⟩),hB0):=by rw[eB];exact Qdx b h
 have cB:Jl hB X 38=some (.bool x.own):=by rw[J5 (aB.get gX),x38]
 have lX:=Heap.get_lt gX
 have hy0:htF y=0:=by
  rw[ey]
  show(if inF 2 1 32=false∨inF 1 1 32=false∨Q79 x.til 20 < 0∨1073741824 < Q79 x.til 20 then 1 else 0:Int)=0
  rw[if_neg (by simp[inF];omega)]
 have hyt:0<=y.til/\y.til < 20:=by rw[ey];exact⟨u0,u1⟩
 simp[Qdx,Y2,Y0,Yu,-Y0,-Qdx,t1,by_,alB,yl,sB,cB]
 have hyb:∀ n ∈ y.hash,n < 256:=by
  rw[ey]
  intro n hn
  have:=List.eq_of_mem_replicate hn
  omega
 by_cases ho:x.own
 ·simp[Qdx,Y2,Y0,Yu,-Y0,ho,t1,Zdo]
  refine(Yp3 b (Qx5 (Laid.old laid aB)) (Zq8 (aB.get gX)) (by rw[x.hs];omega) _ fun h2 a2 => ?_).ok
  have lkd:(Bl.keyed1 [] x.sec).length=32:=Qls _
  have gY2:=a2.get gB
  have lY2:=Heap.get_lt gY2
  obtain⟨y2,ey2⟩:∃ y2:Ht,y2=⟨Bl.keyed1 [] x.sec,y.claimer,y.refunder,y.til,lkd⟩:=⟨_,rfl⟩
  obtain⟨h3,e3⟩:∃ h3,h3=h2.set h.next (some (.cells true 1 y2.cells)):=⟨_,rfl⟩
  have st3:Uj h2 h.next 0 ((Bl.keyed1 [] x.sec).map u8v)=some h3:=by
   rw[W5 gY2 (by simp[lkd,yl]),e3,ey2,<- Ht.put lkd]
   simp[lkd]
  have g3:h3.get h.next=some (.cells true 1 y2.cells):=by rw[e3,Heap.get_set _ _ _ _ lY2,if_pos rfl]
  have a3:Old h h3:=by rw[e3];exact(aB.trans a2).set _ (Nat.le_refl _) lY2
  simp[Qdx,Y2,Y0,Yu,-Y0,lkd,st3]
  refine Zpk (v:=v) (a:=a) (f:=f) (s:=s) b (Laid.old laid a3) (a3.get gX) g3 (by rw[ey2];exact Zbw _) (by rw[ey2];exact hy0) (by rw[ey2];show y.claimer=2;rw[ey]) (by rw[ey2];show y.refunder=1;rw[ey]) (by rw[ey2];exact hyt) (by omega) (by omega:10<=a/\a<=3000) hf hs (by simp[t1]) (by simp[t3]) (by simp[t4]) (by simp[t5]) (by simp) (by simp) K hk
 ·simp[Qdx,Y2,Y0,Yu,-Y0,ho]
  exact Zpk (v:=v) (a:=a) (f:=f) (s:=s) b (Laid.old laid aB) (aB.get gX) gB hyb hy0 (by rw[ey]) (by rw[ey]) hyt (by omega) (by omega:10<=a/\a<=3000) hf hs (by simp[t1]) (by simp[t3]) (by simp[t4]) (by simp[t5]) (by simp) (by simp) K hk
set_option maxHeartbeats 2000000 in
theorem Zpe(b:Nat)(x:Swp)(h:Heap)(laid:Ab.LaidIn h laidAll)(K:KP)(hk:∀ h',K (.ret (.bool true)) h'):CallOK Tryz.prog (E b).G 3 [.agg ⟨x.cells⟩] h K:=by
 refine Qm4 (E b) (Qa4 _ _) (We b) (V7 b) Uz (Wg b) (Yz b) Xq4 X28 Xx3 rfl ?_
 obtain⟨x1,x2,x36,x4⟩:=x.at
 obtain⟨x0,x3,x37,x38⟩:=x.at2
 obtain⟨hA,eA,aA,gA⟩:=Qoa h x.cells
 have bxA:=Qr2 eA
 have c0:Jl hA h.next 0=some (.int .i64 x.value):=by rw[J5 gA,x0]
 have c1:Jl hA h.next 1=some (.int .i64 x.amount):=by rw[J5 gA,x1]
 have c2:Jl hA h.next 2=some (.int .i64 x.fee):=by rw[J5 gA,x2]
 have c3:Jl hA h.next 3=some (.int .i64 x.less):=by rw[J5 gA,x3]
 have c36:Jl hA h.next 36=some (.int .i64 x.til):=by rw[J5 gA,x36]
 obtain⟨v0,v1⟩:=Xg7 x.value (n:=2000) (by omega)
 obtain⟨f0,f1⟩:=Xg7 x.fee (n:=30) (by omega)
 obtain⟨s0,s1⟩:=Xg7 x.less (n:=30) (by omega)
 obtain⟨_,_,qv,nv',rfl,rfl⟩:=Xsb b x.value (n:=2000) (by omega) (by omega) (Zw1 _ (by omega)) hA (fun r h'=>r=.ret (.int .i64 (Q79 x.value 2000))/\hA=h') ⟨rfl,rfl⟩
 obtain⟨_,_,qf,nf',rfl,rfl⟩:=Xsb b x.fee (n:=30) (by omega) (by omega) (Zw1 _ (by omega)) hA (fun r h'=>r=.ret (.int .i64 (Q79 x.fee 30))/\hA=h') ⟨rfl,rfl⟩
 obtain⟨_,_,qs,ns',rfl,rfl⟩:=Xsb b x.less (n:=30) (by omega) (by omega) (Zw1 _ (by omega)) hA (fun r h'=>r=.ret (.int .i64 (Q79 x.less 30))/\hA=h') ⟨rfl,rfl⟩
 have wv:IntKind.i64.wrap (20+Q79 x.value 2000)=20+Q79 x.value 2000:=Qao (by omega) (by omega)
 obtain⟨v,hv⟩:∃ v,v=20+Q79 x.value 2000:=⟨_,rfl⟩
 rw[<- hv]at wv
 simp[Qdx,Y2,Y0,Yu,-Yu,bxA]
 obtain⟨f,ef⟩:∃ f,f=Q79 x.fee 30:=⟨_,rfl⟩
 obtain⟨s,es⟩:∃ s,s=Q79 x.less 30:=⟨_,rfl⟩
 rw[<- ef]at qf f0 f1
 rw[<- es]at qs s0 s1
 have laA:=Laid.old laid aA
 by_cases hd:x.fee=x.less
 ·have hsf:s=f:=by rw[es,ef,hd]
  subst hsf
  rw[<- hd]at c3
  refine Qfn [⟨4,[.int .i64 x.value,.int .i64 2000],hA,.int .i64 (Q79 x.value 2000),hA,true⟩,⟨4,[.int .i64 x.fee,.int .i64 30],hA,.int .i64 s,hA,true⟩] ?_ Qru Qtu Qsb (by simp[Qv9,Qw7,Qw3,Qwj,Qdx,Y2,Y0,Yu,c0,c2,c3,<- hv,wv,Qe6,Yzm];first | exact⟨rfl,rfl⟩ | rfl) ?_ ?_
  ·exact zk2 ⟨qv,nv',fun _ c hc=>rfl⟩ ⟨qf,nf',fun _ c hc=>rfl⟩
  ·simp[W7,Qdx,Y2,Y0,Yu,c0,c2,c3]
  refine Zcd (v:=v) (f:=s) (s:=s) b laA gA (by omega:0 < v/\v<=2900) (by omega) (by omega) (by simp) (by simp) (by simp) (by simp) K hk
 ·refine Qfn [⟨4,[.int .i64 x.value,.int .i64 2000],hA,.int .i64 (Q79 x.value 2000),hA,true⟩,⟨4,[.int .i64 x.fee,.int .i64 30],hA,.int .i64 f,hA,true⟩,⟨4,[.int .i64 x.less,.int .i64 30],hA,.int .i64 s,hA,true⟩] ?_ Qru Qtu Qsb (by simp[Qv9,Qw7,Qw3,Qwj,Qdx,Y2,Y0,Yu,c0,c2,c3,<- hv,wv,Qe6,Yzm,hd];first | exact⟨rfl,rfl⟩ | rfl) ?_ ?_
  ·exact zk3 ⟨qv,nv',fun _ c hc=>rfl⟩ ⟨qf,nf',fun _ c hc=>rfl⟩ ⟨qs,ns',fun _ c hc=>rfl⟩
  ·simp[W7,Qdx,Y2,Y0,Yu,c0,c2,c3]
  refine Zcd (v:=v) (f:=f) (s:=s) b laA gA (by omega:0 < v/\v<=2900) (by omega) (by omega) (by simp) (by simp) (by simp) (by simp) K hk
end
end Go.Proofs.YtgjlmnnggnajmaaGreatDoor
end
noncomputable section
namespace Go.Proofs.YtgjlmnnggnajmaaGreatDoor
open Go Go.Ab
open Go.ChangeShapes Go.WideShapes Go.RowKit
set_option maxRecDepth 1000000
theorem Zli:∀ (n:Nat) {cs:List Value},IntsOf (List.replicate n .u8) cs->∃ ds:List Nat,cs=ds.map u8v/\ds.length=n/\∀ x ∈ ds,x < 256
 | 0,cs,h=>⟨[],by simpa[IntsOf]using h,rfl,by simp⟩
 | n+1,cs,h=>by
  rw[List.replicate_succ]at h
  obtain⟨z,r,rfl,hw,hr⟩:=h
  obtain⟨ds,rfl,h2,h3⟩:=Zli n hr
  have hz:=Zyf hw
  refine⟨z.toNat::ds,?_,by simp[h2],fun x hx => ?_⟩
  ·rw[List.map_cons]
   show Value.int .u8 z::_=.int .u8 ((z.toNat:Nat):Int)::_
   rw[Int.toNat_of_nonneg hz.1]
  ·rcases List.mem_cons.1 hx with rfl | hx
   ·omega
   ·exact h3 x hx
def Zdn:Array Field:=match Tryz.prog.underlying 25 with
 | some (.struct fs)=>fs
 | _ => #[]
def Q0r(i:Nat):Field:=(Zdn[i]?).getD default
abbrev Zue:Heap->List Value->Prop:=fun _ cs=>IntsOf [.i64] cs
abbrev Zv0:Heap->List Value->Prop:=Zy1 [Zue,Zue,Zue,Zue,fun _ cs=>IntsOf (List.replicate 32 .u8) cs,Zue,Zue,fun _ cs => ∃ b,cs=[.bool b]]
section
variable{H:Type}{enc:TypeId × Value->H}{W:World}
theorem Zkl:Zu9 enc Tryz.prog ⟨nv,W.heap.size⟩ W 25 Zv0:=by
 refine Zau (fs:=Zdn) (by kernel_rfl) ?_ (by kernel_rfl)
 rw[show Zdn.toList=[Q0r 0,Q0r 1,Q0r 2,Q0r 3,Q0r 4,Q0r 5,Q0r 6,Q0r 7] by kernel_rfl]
 refine⟨by kernel_rfl,?_,Qp5 _,by kernel_rfl,?_,Qp5 _,by kernel_rfl,?_,Qp5 _,by kernel_rfl,?_,Qp5 _,by kernel_rfl,?_,Qp5 _,by kernel_rfl,?_,Qp5 _,by kernel_rfl,?_,Qp5 _,by kernel_rfl,?_,Qp5 _,trivial⟩
 ·rw[show(Q0r 0).type=3 by kernel_rfl];exact Q52 (by kernel_rfl)
 ·rw[show(Q0r 1).type=3 by kernel_rfl];exact Q52 (by kernel_rfl)
 ·rw[show(Q0r 2).type=3 by kernel_rfl];exact Q52 (by kernel_rfl)
 ·rw[show(Q0r 3).type=3 by kernel_rfl];exact Q52 (by kernel_rfl)
 ·rw[show(Q0r 4).type=23 by kernel_rfl];exact Q52 (by kernel_rfl)
 ·rw[show(Q0r 5).type=3 by kernel_rfl];exact Q52 (by kernel_rfl)
 ·rw[show(Q0r 6).type=3 by kernel_rfl];exact Q52 (by kernel_rfl)
 ·rw[show(Q0r 7).type=4 by kernel_rfl];exact Zid (by kernel_rfl)
end
theorem Zqe{h:Heap}{cs:List Value}(q:Zv0 h cs):∃ x:Swp,cs=x.cells:=by
 obtain⟨c1,r1,rfl,q1,c2,r2,rfl,q2,c3,r3,rfl,q3,c4,r4,rfl,q4,c5,r5,rfl,q5,c6,r6,rfl,q6,c7,r7,rfl,q7,c8,r8,rfl,q8,q9⟩:=q
 obtain rfl:r8=[]:=q9
 obtain⟨z1,y1,rfl, -,e1⟩:=q1
 obtain⟨z2,y2,rfl, -,e2⟩:=q2
 obtain⟨z3,y3,rfl, -,e3⟩:=q3
 obtain⟨z4,y4,rfl, -,e4⟩:=q4
 obtain⟨ds,rfl,dl,db⟩:=Zli 32 q5
 obtain⟨z6,y6,rfl, -,e6⟩:=q6
 obtain⟨z7,y7,rfl, -,e7⟩:=q7
 obtain⟨o,rfl⟩:=q8
 obtain rfl:y1=[]:=e1
 obtain rfl:y2=[]:=e2
 obtain rfl:y3=[]:=e3
 obtain rfl:y4=[]:=e4
 obtain rfl:y6=[]:=e6
 obtain rfl:y7=[]:=e7
 exact⟨⟨z1,z2,z3,z4,ds,z6,z7,o,dl,db⟩,by simp[Swp.cells]⟩
end Go.Proofs.YtgjlmnnggnajmaaGreatDoor
end
