/-
  The script's machine: sign.
-/
import Derived.Test.YtgeeklmjfbiieaaDoorScB
import Derived.Test.YtgeeklmjfbiieaaDoorBlB
import Derived.Test.YtgeeklmjfbiieaaDoorFactsL
import Derived.Test.YtgeeklmjfbiieaaDoorBlA
set_option linter.all false
noncomputable section
namespace Go.Proofs.YtgeeklmjfbiieaaDoor
open Go Go.Ab
set_option maxRecDepth 100000
theorem Xxq{y:List Int}(hy:Bytes y):y.map i8=(Xlw y).map u8v:=by
 rw[Xlw,List.map_map]
 apply List.map_congr_left
 intro z hz
 have:=hy z hz
 show Value.int .u8 z=.int .u8 ((z.toNat:Nat):Int)
 rw[Int.toNat_of_nonneg this.1]
theorem X2f(b:Nat){h:Heap}{v:Value}{y:List Int}(s:SB h v y)(hy:y.length=16):∃ bk o,Q30 (E b).toEnv 90 v=some (.pointer (some ⟨bk,o,none⟩))∧Qgg h bk o 16=some (.agg ⟨y.map i8⟩):=by
 rcases s with⟨c,_,_,e,_⟩ | ⟨bk,o,c,ow,z',pre,post,rfl,g1,g2,g3,g4,_⟩
 ·omega
 ·refine⟨bk,o,?_,?_⟩
  ·have hd:R90.desc=.array 16 5:=by kernel_rfl
   simp only[Q30,Xze,hd,hy]
   rfl
  ·rw[Qau g1 (by simp;omega),List.append_assoc,← g2,List.drop_left,List.take_append_of_le_length (by simp;omega),List.take_of_length_le (by simp;omega)]
theorem Wd.old{h h':Heap}{MB:Nat→Prop}{e:Menv}{a:Asks}(w:Wd h MB e a)(o:Old h h'):Wd h' MB e a:=w.mv (Mv.old o)
theorem Mach.env{h:Heap}{MB:Nat→Prop}{μ:Nat}{e:Menv}{ps:List (Value × List Int)}{op:List Br}(M:Mach h MB μ e ps op):Vs h μ 0=some e.nk∧Qgg h μ 1 32=some (.agg ⟨e.dig⟩):=by
 obtain⟨⟨sv,ov,z,r⟩,_,_⟩:=M
 refine⟨?_,?_⟩
 ·rw[Qas r.at'];rfl
 ·rw[Qau r.at' (by simp[e.len])]
  congr 3
  show((e.dig ++ [Value.int .i64 e.lk]) ++ [sv,ov]).take 32=_
  rw[List.append_assoc,List.take_append_of_le_length (by rw[e.hd];exact Nat.le_refl _),List.take_of_length_le (by rw[e.hd];exact Nat.le_refl _)]
section
attribute [local simp] Yy Za Qj Z5 Q0 Ys Ym Qa Z4 Yz Ua Qf3 Qxz Qaf Qiv W8 We Qf5 Qec Qf1 Yo Yh Z2 aop X4 nth Ab.g0 gv gs Qx X2 aev evs evO X7 Tr.get_put St.put Tm.put flat flatA Z3 Xe Xc Xf Xa Xb Xd X9 Xj X8 Qt Qu Xy X0 Qb Q3 Qy Qz X1 Q4 Qc Qw
set_option maxHeartbeats 1000000 in
theorem Xvv(b:Nat){h:Heap}{MB:Nat→Prop}{μ:Nat}{e:Menv}{a:Asks}{v w:Value}{x y:List Int}{ps:List (Value × List Int)}{op:List Br}(M:Mach h MB μ e ((v,x)::(w,y)::ps) op)(wd:Wd h MB e a)(hl:ps.length < 900)(K:AEnd→Heap→Prop)
  (hk:x.length=1→y.length=16→∀ h',Mach h' MB μ e ps op→Mv MB MB h h'→K (.ret (.bool (X0n a (x.getD 0 0) y))) h') (hp:¬ (x.length=1∧y.length=16)→∀ h',Mv MB MB h h'→K (.panic (pe 16)) h'):FnK Tryd.prog (E b).G 89 [.pointer (some ⟨μ,0,none⟩)] h K:=by
 refine Qal (E b) (Wp b) (V2 b) Vm (Wv b) (Qak b) (Qj b) Qfg Qia Qgz rfl ?_
 simp[Xh,X6,Yj,Q5,Qd,Xg,Qq,Qe,Xi,Qk,Y1,Z9,Q6,X5,Qo,Qf,Q2,Qp,Qg,Q7,Yf,Yn,Ye,Y0,Yi.putAll]
 refine Qe3 b M (by simp;omega) _ fun h1 M1 m1 _ i1 _ => ?_
 simp[Xh,X6,Yj,Q5,Qd,Xg,Qq,Qe,Xi,Qk,Y1,Z9,Q6,X5,Qo,Qf,Q2,Qp,Qg,Q7,Yf,Yn,Ye,Y0,Yi.putAll]
 refine Qe3 b M1 (by omega) _ fun h2 M2 m2 _ i2 _ => ?_
 have len1:=fun hx=>Qdr (b:=b) (h1:=hx) i1.sb
 have len2:=fun hx=>Qdr (b:=b) (h1:=hx) i2.sb
 have m12:=m1.trans m2
 by_cases hx:x.length=1
 ·rw[hx]at len1
  have len1':∀ hx,Qib (E b).toEnv 47 v hx=some (.int .i64 1):=len1
  by_cases hy:y.length=16
  ·rw[hy]at len2
   have len2':∀ hx,Qib (E b).toEnv 47 w hx=some (.int .i64 16):=len2
   simp[Xh,X6,Yj,Q5,Qd,Xg,Qq,Qe,Xi,Qk,Y1,Z9,Q6,X5,Qo,Qf,Q2,Qp,Qg,Q7,Yf,Yn,Ye,Y0,Yi.putAll,len1',len2']
   refine Qs2 b h2 16 _ ?_
   have wd2:=wd.mv m12
   obtain⟨ν,z,ow,q1,q2,q3⟩:=wd2.nota
   obtain⟨z1,rfl⟩:∃ z1,x=[z1]:=by
    match x,hx with
    | [z1],_=>exact⟨z1,rfl⟩
   have i1':=i1.mv m2
   obtain⟨bk,o,x1,x2,x3⟩:=Xp0 (b:=b) i1'.sb (k:=.i64) (i:=0) (z:=z1) rfl
   obtain⟨bt,ot,y1,y2⟩:=X2f b i2.sb hy
   obtain⟨e1,e2⟩:=M2.env
   rw[q1]at e1
   rw[wd2.dg]at e2
   rw[Xxq i2.by8]at y2
   have hz:=i1.by8 z1 (by simp)
   have w1:IntKind.i64.wrap z1=z1:=Qbe (by omega) (by omega)
   have htg:(Xlw y).length=16:=by simp[Xlw,hy]
   obtain⟨_,h3,c1,n1,rfl,a3⟩:=Xtq b wd2.laid (o:=z1) q2 a.hks a.hdg htg (fun r h'=>r=.ret (.bool (X0n a z1 y))∧Old h2 h') (fun h' q=>⟨rfl,q⟩)
   simp only[i8]at x3
   simp at x2
   simp[Xh,X6,Yj,Q5,Qd,Xg,Qq,Qe,Xi,Qk,Y1,Z9,Q6,X5,Qo,Qf,Q2,Qp,Qg,Q7,Yf,Yn,Ye,Y0,Yi.putAll]
   refine Qke [⟨123,[.pointer (some ⟨ν,0,none⟩),.int .i64 z1,.agg ⟨a.dg.map u8v⟩,.agg ⟨(Xlw y).map u8v⟩],h2,.bool (X0n a z1 y),h3,true⟩] ?_ Qj2 Qjs Qiu (by simp[Ab.runT,Zk,Zb,ldv,Nat.testBit,U8,Zj,Z1,Zt,loadAt,Qa9,Vo,Qlp,Qlf,Qb1,e1,e2,x2,x3,y1,y2,w1,Q85];exact⟨rfl,rfl⟩) ?_ ?_
   ·simp only[List.mem_cons,List.not_mem_nil,or_false]
    rintro e rfl
    exact⟨c1,n1,fun _ c hc=>a3.2 c hc⟩
   ·simp[Zk,Zb,V3,ldv,Ab.runT,Zk,Zb,ldv,Nat.testBit,U8,Zj,Z1,Zt,loadAt,Qa9,Vo]
   simp[Xh,X6,Yj,Q5,Qd,Xg,Qq,Qe,Xi,Qk,Y1,Z9,Q6,X5,Qo,Qf,Q2,Qp,Qg,Q7,Yf,Yn,Ye,Y0,Yi.putAll]
   exact hk rfl hy h3 (M2.old a3) (m12.trans (Mv.old a3))
  ·have hy':¬ (y.length:Int)=16:=by omega
   simp[Xh,X6,Yj,Q5,Qd,Xg,Qq,Qe,Xi,Qk,Y1,Z9,Q6,X5,Qo,Qf,Q2,Qp,Qg,Q7,Yf,Yn,Ye,Y0,Yi.putAll,len1',len2,hy']
   refine Qm9 b h2 16 _ ?_
   simp[Xh,X6,Yj,Q5,Qd,Xg,Qq,Qe,Xi,Qk,Y1,Z9,Q6,X5,Qo,Qf,Q2,Qp,Qg,Q7,Yf,Yn,Ye,Y0,Yi.putAll]
   exact hp (fun q=>hy q.2) h2 m12
 ·have hx':¬ (x.length:Int)=1:=by omega
  simp[Xh,X6,Yj,Q5,Qd,Xg,Qq,Qe,Xi,Qk,Y1,Z9,Q6,X5,Qo,Qf,Q2,Qp,Qg,Q7,Yf,Yn,Ye,Y0,Yi.putAll,len1,hx']
  refine Qm9 b h2 16 _ ?_
  simp[Xh,X6,Yj,Q5,Qd,Xg,Qq,Qe,Xi,Qk,Y1,Z9,Q6,X5,Qo,Qf,Q2,Qp,Qg,Q7,Yf,Yn,Ye,Y0,Yi.putAll]
  exact hp (fun q=>hx q.1) h2 m12
end
section
attribute [local simp] Yy Za Qj Z5 Q0 Ys Ym Qa Z4 Yz Ua Qf3 Qxz Qaf Qiv W8 We Qf5 Qec Qf1 Yo Yh Xh X6 Yj Q5 Qd Xg Qq Qe Xi Qk Y1 Z9 Z2 aop X4 nth Ab.g0 gv gs Qx X2 aev evs evO X7 Tr.get_put St.put Tm.put flat flatA Z3 Xe Xc Xf Xa Xb Xd X9 Xj X8 Qt Qu Q6 X5 Qo Qf Q2 Qp Qg Q7 Yf Yn Ye Y0 Yi.putAll Xy X0 Qb Q3 Qy Qz X1 Q4 Qc Qw
theorem Xg3(b:Nat){h:Heap}{MB:Nat→Prop}{μ:Nat}{e:Menv}{ps:List (Value × List Int)}{op:List Br}(M:Mach h MB μ e ps op)(hl:ps.length < 2)(K:AEnd→Heap→Prop)
  (hp:∀ h',Mv MB MB h h'→K (.panic (pe 16)) h'):FnK Tryd.prog (E b).G 89 [.pointer (some ⟨μ,0,none⟩)] h K:=by
 refine Qal (E b) (Wp b) (V2 b) Vm (Wv b) (Qak b) (Qj b) Qfg Qia Qgz rfl ?_
 simp
 match ps,hl with
 | [],_ =>
  refine Qk7 b M _ ?_
  simp
  exact hp h (Mv.refl _ _)
 | [p],_ =>
  obtain⟨v,x⟩:=p
  refine Qe3 b M (by simp) _ fun h1 M1 m1 _ i1 _ => ?_
  simp
  refine Qk7 b M1 _ ?_
  simp
  exact hp h1 m1
end
end Go.Proofs.YtgeeklmjfbiieaaDoor
end
noncomputable section
namespace Go.Proofs.YtgeeklmjfbiieaaDoor
open Go Go.Ab
set_option maxRecDepth 100000
theorem X1m(h:Nat):∀ n ∈ Bl.by4 h,n < 256:=by
 intro n hn
 simp only[Bl.by4,List.mem_cons,List.not_mem_nil,or_false]at hn
 rcases hn with rfl | rfl | rfl | rfl <;> exact Nat.mod_lt _ (by decide)
theorem X22(p:Bl.P8):∀ n ∈ Bl.out p,n < 256:=by
 obtain⟨h0,h1,h2,h3,h4,h5,h6,h7⟩:=p
 intro n hn
 simp only[Bl.out,List.mem_append]at hn
 rcases hn with((((((hn | hn) | hn) | hn) | hn) | hn) | hn) | hn <;> exact X1m _ n hn
theorem Xph{l:List Nat}(h:∀ n ∈ l,n < 256):Bytes (X1h l):=by
 intro z hz
 obtain⟨n,hn,rfl⟩:=List.mem_map.1 hz
 have:=h n hn
 show(0:Int)≤(n:Int)∧(n:Int) < 256
 omega
theorem X1s(l:List Nat):l.map u8v=(X1h l).map i8:=by
 rw[X1h,List.map_map]
 rfl
theorem Xi2(x:List Int):(Xms x).length=32:=by
 have : (Bl.keyed1 [] (Xlw x)).length=32:=Qfs _
 simp[Xms,X1h,this]
theorem Xql(x:List Int):Bytes (Xms x):=Xph (X22 _)
theorem Itm.at{h:Heap}{MB:Nat→Prop}{B z:Nat}{ow:Bool}{xs:List Int}(hg:h.get B=some (.cells ow z (xs.map i8)))(hb:Bytes xs)(hl:xs.length < 1000000)(hm:¬ MB B):Itm h MB (.slice (some ⟨B,0,none⟩) xs.length xs.length) xs :=
 ⟨.inr ⟨B,0,xs.length,ow,z,[],[],rfl,by simpa using hg,rfl,by simp,Nat.le_refl _,by unfold Qaz;omega,fun q=>by unfold Qaz at q;omega⟩,hb,fun c hc=>by cases hc;exact hm⟩
theorem Qhe(b:Nat)(h:Heap)(code:Int)(dv:Value):Xmn (.agg ⟨[.int .i64 code,dv]⟩) h=some (.pointer (some ⟨h.next,0,none⟩),h.push (.cells true 1 [.int .i64 code,dv])):=rfl
theorem Qlc(h:Heap)(code:Int)(dv:Value):Vs (h.push (.cells true 1 [.int .i64 code,dv])) h.next 0=some (.int .i64 code):=(Qas (z:=1) (ow:=true) (c:=[.int .i64 code,dv]) ((Heap.get_push _ _ _).trans (if_pos rfl))).trans rfl
theorem X3v(h:Heap)(code:Int)(dv:Value):Vs (h.push (.cells true 1 [.int .i64 code,dv])) h.next 1=some dv:=(Qas (z:=1) (ow:=true) (c:=[.int .i64 code,dv]) ((Heap.get_push _ _ _).trans (if_pos rfl))).trans rfl
structure At (h:Heap) (MB:Nat→Prop) (μ:Nat) (e:Menv) (a:Asks) (ps:List (Value × List Int)) (op:List Br) (dv:Value) (data:List Int):Prop where
 m:Mach h MB μ e ps op
 w:Wd h MB e a
 i:Itm h MB dv data
 l1:ps.length≤16
 l2:op.length < 1000
 l3:∀ p ∈ ps,p.2.length≤64
section
variable(b:Nat){h:Heap}{MB:Nat→Prop}{μ:Nat}{e:Menv}{a:Asks}{ps:List (Value × List Int)}{op:List Br}{dv:Value}{data:List Int}(A:At h MB μ e a ps op dv data)
include A
section
attribute [local simp] Qm X3 Q8 Yr Qa5 Q1 Q9 Qr Ql Ym Q0 Qh Y5 J8 Jf Y2 Qv Qn Qa Qj Qi Ys Zv Zu Yq Zs Yh Xh X6 Yj Q5 Qd Xg Qq Qe Xi Qk Y1 Z9 Z2 aop X4 nth Ab.g0 gv gs Qx X2 aev evs evO X7 Tr.get_put St.put Tm.put flat flatA Z3 Xe Xc Xf Xa Xb Xd X9 Xj X8 Qt Qu Q6 X5 Qo Qf Q2 Qp Qg Q7 Yf Yn Ye Y0 Yi.putAll Xy X0 Qb Q3 Qy Qz X1 Q4 Qc Qw
theorem Xwd(hoff:Xlb op=true){code:Int}(hc:brF code [] []=none)(K:AEnd→Heap→Prop)(hk:∀ h',MOk MB h μ e (ps.map (·.2)) op h'→K (.ret (.tuple #[])) h'):CallOK Tryd.prog (E b).G 52 [.pointer (some ⟨μ,0,none⟩),.agg ⟨[.int .i64 code,dv]⟩] h K:=by
 refine Qe9 (E b) (Vg _ _) (Wp b) (V2 b) Vm (Wv b) (Q8 b) Zd Zr Zl rfl ?_
 simp[Qhe b,Qlc]
 refine Qmo b hc _ ?_
 simp
 refine(Qvi b (A.m.old (Old.push _ _)) A.l2 _ ?_).ok
 simp[hoff]
 exact hk _ ⟨ps,MB,rfl,A.m.old (Old.push _ _),Mv.old (Old.push _ _)⟩
end
variable(hoff:Xlb op=false)
include hoff
section
attribute [local simp] Qm X3 Q8 Yr Qa5 Q1 Q9 Qr Ql Ym Q0 Qh Y5 J8 Jf Y2 Qv Qn Qa Qj Qi Ys Zv Zu Yq Zs Yh Xh X6 Yj Q5 Qd Xg Qq Qe Xi Qk Y1 Z9 Z2 aop X4 nth Ab.g0 gv gs Qx X2 aev evs evO X7 Tr.get_put St.put Tm.put flat flatA Z3 Xe Xc Xf Xa Xb Xd X9 Xj X8 Qt Qu Q6 X5 Qo Qf Q2 Qp Qg Q7 Yf Yn Ye Y0 Yi.putAll Xy X0 Qb Q3 Qy Qz X1 Q4 Qc Qw
theorem Xtk(K:AEnd→Heap→Prop)(hk:∀ st',doF a 130 data (ps.map (·.2))=.ok st'→∀ h',MOk MB h μ e st' op h'→K (.ret (.tuple #[])) h')(hp:∀ z,doF a 130 data (ps.map (·.2))=.error z→∀ h',Xm6 MB h h'→K (.panic (pe z)) h') :
  CallOK Tryd.prog (E b).G 52 [.pointer (some ⟨μ,0,none⟩),.agg ⟨[.int .i64 130,dv]⟩] h K:=by
 have M0:=A.m.old (Old.push h (.cells true 1 [.int .i64 130,dv]))
 have m0:Mv MB MB h (h.push (.cells true 1 [.int .i64 130,dv])):=Mv.old (Old.push _ _)
 refine Qe9 (E b) (Vg _ _) (Wp b) (V2 b) Vm (Wv b) (Q8 b) Zd Zr Zl rfl ?_
 simp[Qhe b,Qlc]
 refine Qmo b (by simp[brF]) _ ?_
 simp
 refine(Qvi b M0 A.l2 _ ?_).ok
 simp[hoff,Qlc]
 match ps,A with
 | [],A =>
  refine(Qk7 b M0 _ ?_).ok
  simp
  exact hp 16 (by simp[doF]) _ ⟨MB,m0⟩
 | (v,x)::ps,A =>
  refine(Qe3 b M0 (by have:=A.l1;simp at this;omega) _ fun h1 M1 m1 _ i1 _ => ?_).ok
  simp
  exact hk _ (by simp[doF]) _ ⟨ps,MB,rfl,M1,m0.trans m1⟩
end
end
end Go.Proofs.YtgeeklmjfbiieaaDoor
end
noncomputable section
namespace Go.Proofs.YtgeeklmjfbiieaaDoor
open Go Go.Ab
set_option maxRecDepth 100000
section
attribute [local simp] Z8 Zq Qi Q0 Ys Ym Qa Zo Qaf Qiv W8 We Qet Yw Ua Qif Qa5 Qs9 Yh Xh X6 Yj Q5 Qd Xg Qq Qe Xi Qk Y1 Z9 Z2 aop X4 nth Ab.g0 gv gs Qx X2 aev evs evO X7 Tr.get_put St.put Tm.put flat flatA Z3 Xe Xc Xf Xa Xb Xd X9 Xj X8 Qt Qu Q6 X5 Qo Qf Q2 Qp Qg Q7 Yf Yn Ye Y0 Yi.putAll Xy X0 Qb Q3 Qy Qz X1 Q4 Qc Qw
theorem Xrz(b:Nat){h:Heap}{MB:Nat→Prop}{μ:Nat}{e:Menv}{op:List Br}(M:Mach h MB μ e [] op)(K:AEnd→Heap→Prop)(hp:K (.panic (pe 16)) h):FnK Tryd.prog (E b).G 90 [.pointer (some ⟨μ,0,none⟩)] h K:=by
 refine Qal (E b) (Wp b) (V2 b) Vm (Wv b) (Qak b) (Qi b) Qep Qgx Qg1 rfl ?_
 simp
 refine Qk7 b M _ ?_
 simp
 exact hp
end
section
variable(b:Nat){h:Heap}{MB:Nat→Prop}{μ:Nat}{e:Menv}{a:Asks}{ps:List (Value × List Int)}{op:List Br}{dv:Value}{data:List Int}(A:At h MB μ e a ps op dv data)(hoff:Xlb op=false)
include A hoff
section
attribute [local simp] Qm X3 Q8 Yr Qa5 Q1 Q9 Qr Ql Ym Q0 Qh Y5 Jf Y2 Qv Qn Qa Qj Qi Ys Zv Zu Yq Zs Yh Xh X6 Yj Q5 Qd Xg Qq Qe Xi Qk Y1 Z9 Z2 aop X4 nth Ab.g0 gv gs Qx X2 aev evs evO X7 Tr.get_put St.put Tm.put flat flatA Z3 Xe Xc Xf Xa Xb Xd X9 Xj X8 Qt Qu Q6 X5 Qo Qf Q2 Qp Qg Q7 Yf Yn Ye Y0 Yi.putAll Xy X0 Qb Q3 Qy Qz X1 Q4 Qc Qw
theorem Xx5(K:AEnd→Heap→Prop)(hk:∀ st',doF a 129 data (ps.map (·.2))=.ok st'→∀ h',MOk MB h μ e st' op h'→K (.ret (.tuple #[])) h')(hp:∀ z,doF a 129 data (ps.map (·.2))=.error z→∀ h',Xm6 MB h h'→K (.panic (pe z)) h') :
  CallOK Tryd.prog (E b).G 52 [.pointer (some ⟨μ,0,none⟩),.agg ⟨[.int .i64 129,dv]⟩] h K:=by
 have M0:=A.m.old (Old.push h (.cells true 1 [.int .i64 129,dv]))
 have m0:Mv MB MB h (h.push (.cells true 1 [.int .i64 129,dv])):=Mv.old (Old.push _ _)
 refine Qe9 (E b) (Vg _ _) (Wp b) (V2 b) Vm (Wv b) (Q8 b) Zd Zr Zl rfl ?_
 simp[J8,Qhe b,Qlc]
 refine Qmo b (by simp[brF]) _ ?_
 simp[J8]
 refine(Qvi b M0 A.l2 _ ?_).ok
 simp[J8,hoff,Qlc]
 match ps,A with
 | [],A =>
  refine(Qk7 b M0 _ ?_).ok
  simp[J8]
  exact hp 16 (by simp[doF]) _ ⟨MB,m0⟩
 | (v,x)::ps,A =>
  have l1:ps.length < 16:=by have:=A.l1;simp at this;omega
  have lx:x.length≤64:=A.l3 (v,x) (by simp)
  refine(Qe3 b M0 (by omega) _ fun h1 M1 m1 _ i1 _ => ?_).ok
  simp[J8]
  refine(Qq8 b M1 i1 l1 _ fun h2 MB2 M2 m2 => ?_).ok
  simp[J8]
  by_cases l2:ps.length+1 < 16
  ·refine(Qq8 b M2 (i1.mv m2) (by simpa using l2) _ fun h3 MB3 M3 m3 => ?_).ok
   simp[J8]
   exact hk (x::x::ps.map (·.2)) (by simp[doF,Qic,l1,l2,Except.bind]) _ ⟨_,MB3,by simp,M3,m0.trans (m1.trans (m2.trans m3))⟩
  ·refine(Qoj b M2 (by simp;omega) _ ?_).ok
   simp[J8]
   exact hp 16 (by simp[doF,Qic,l1,l2,Except.bind]) _ ⟨MB2,m0.trans (m1.trans m2)⟩
theorem Xsj(K:AEnd→Heap→Prop)(hk:∀ st',doF a 131 data (ps.map (·.2))=.ok st'→∀ h',MOk MB h μ e st' op h'→K (.ret (.tuple #[])) h')(hp:∀ z,doF a 131 data (ps.map (·.2))=.error z→∀ h',Xm6 MB h h'→K (.panic (pe z)) h') :
  CallOK Tryd.prog (E b).G 52 [.pointer (some ⟨μ,0,none⟩),.agg ⟨[.int .i64 131,dv]⟩] h K:=by
 have M0:=A.m.old (Old.push h (.cells true 1 [.int .i64 131,dv]))
 have m0:Mv MB MB h (h.push (.cells true 1 [.int .i64 131,dv])):=Mv.old (Old.push _ _)
 refine Qe9 (E b) (Vg _ _) (Wp b) (V2 b) Vm (Wv b) (Q8 b) Zd Zr Zl rfl ?_
 simp[J8,Qhe b,Qlc]
 refine Qmo b (by simp[brF]) _ ?_
 simp[J8]
 refine(Qvi b M0 A.l2 _ ?_).ok
 simp[J8,hoff,Qlc]
 match ps,A with
 | [],A =>
  refine(Qk7 b M0 _ ?_).ok
  simp[J8]
  exact hp 16 (by simp[doF]) _ ⟨MB,m0⟩
 | (v,x)::ps,A =>
  have l1:ps.length < 16:=by have:=A.l1;simp at this;omega
  have lx:x.length≤64:=A.l3 (v,x) (by simp)
  refine(Qe3 b M0 (by omega) _ fun h1 M1 m1 _ i1 _ => ?_).ok
  simp[J8]
  have sn:SN h1 v (Xlw x):=by
   have:=i1.sb
   rw[SB,Xxq i1.by8]at this
   rwa [show x.length=(Xlw x).length by simp[Xlw]]at this
  refine(X12 b ((A.w.mv (m0.trans m1)).laid) sn (by simp[Xlw];omega) _ fun h2 a2 => ?_).ok
  have kl:(Bl.keyed1 [] (Xlw x)).length=32:=Qfs _
  obtain⟨hZ,eZ⟩:∃ hZ,hZ=h2.push (.cells true 1 z32):=⟨_,rfl⟩
  have alZ:Qdl (E b).toEnv 23 h2=some (.pointer (some ⟨h2.next,0,none⟩),hZ):=by rw[eZ];exact J8 b h2
  have gZ:hZ.get h2.next=some (.cells true 1 z32):=by rw[eZ,Heap.get_push,if_pos rfl]
  have aZ:Old h2 hZ:=by rw[eZ];exact Old.push _ _
  have lZ:=Heap.get_lt gZ
  obtain⟨hW,eW⟩:∃ hW,hW=hZ.set h2.next (some (.cells true 1 ((Bl.keyed1 [] (Xlw x)).map u8v))):=⟨_,rfl⟩
  have stW:Uv hZ h2.next 0 ((Bl.keyed1 [] (Xlw x)).map u8v)=some hW:=by
   rw[Qeo gZ (by simp[z32,kl]),eW]
   congr 4
  have gW:hW.get h2.next=some (.cells true 1 ((Xms x).map i8)):=by rw[eW,Heap.get_set _ _ _ _ lZ,if_pos rfl,X1s];rfl
  have aW:Old h2 hW:=by rw[eW];exact aZ.set _ (Nat.le_refl _) lZ
  simp[J8,-J8,alZ,kl,stW,Xmo]
  have M2:=(M1.old a2).old aW
  have iw:Itm hW MB (.slice (some ⟨h2.next,0,none⟩) 32 32) (Xms x):=by
   have:=Itm.at (MB:=MB) gW (Xql x) (by rw[Xi2];omega) (fun q=>by have:=(M1.old a2).low _ q;omega)
   rwa [Xi2]at this
  refine(Qq8 b M2 iw l1 _ fun h3 MB3 M3 m3 => ?_).ok
  simp[J8]
  exact hk (Xms x::ps.map (·.2)) (by simp[doF,Qic,l1]) _ ⟨_,MB3,by simp,M3,m0.trans (m1.trans ((Mv.old (a2.trans aW)).trans m3))⟩
theorem Xpp(K:AEnd→Heap→Prop)(hk:∀ st',doF a 132 data (ps.map (·.2))=.ok st'→∀ h',MOk MB h μ e st' op h'→K (.ret (.tuple #[])) h')(hp:∀ z,doF a 132 data (ps.map (·.2))=.error z→∀ h',Xm6 MB h h'→K (.panic (pe z)) h') :
  CallOK Tryd.prog (E b).G 52 [.pointer (some ⟨μ,0,none⟩),.agg ⟨[.int .i64 132,dv]⟩] h K:=by
 have M0:=A.m.old (Old.push h (.cells true 1 [.int .i64 132,dv]))
 have m0:Mv MB MB h (h.push (.cells true 1 [.int .i64 132,dv])):=Mv.old (Old.push _ _)
 refine Qe9 (E b) (Vg _ _) (Wp b) (V2 b) Vm (Wv b) (Q8 b) Zd Zr Zl rfl ?_
 simp[J8,Qhe b,Qlc]
 refine Qmo b (by simp[brF]) _ ?_
 simp[J8]
 refine(Qvi b M0 A.l2 _ ?_).ok
 simp[J8,hoff,Qlc]
 match ps,A with
 | [],A =>
  refine(Qk7 b M0 _ ?_).ok
  simp[J8]
  exact hp 16 (by simp[doF]) _ ⟨MB,m0⟩
 | [(v,x)],A =>
  refine(Qe3 b M0 (by simp) _ fun h1 M1 m1 _ i1 _ => ?_).ok
  simp[J8]
  refine(Qk7 b M1 _ ?_).ok
  simp[J8]
  exact hp 16 (by simp[doF]) _ ⟨MB,m0.trans m1⟩
 | (v,x)::(w,y)::ps,A =>
  have l1:ps.length < 15:=by have:=A.l1;simp at this;omega
  refine(Qe3 b M0 (by simp;omega) _ fun h1 M1 m1 _ i1 _ => ?_).ok
  simp[J8]
  refine(Qe3 b M1 (by omega) _ fun h2 M2 m2 _ i2 _ => ?_).ok
  have i1':=i1.mv m2
  simp[J8]
  refine(Xx2 b i1'.sb i2.sb i1.by8 i2.by8 _ ?_).ok
  simp[J8]
  refine(Xu5 b (decide (x=y)) M2 _ (fun _ v3 h3 MB3 M3 m3 => ?_) (fun q=>by omega)).ok
  simp[J8]
  exact hk (Xzx (decide (x=y))::ps.map (·.2)) (by simp[doF,Qic];omega) _ ⟨_,MB3,by simp,M3,m0.trans (m1.trans (m2.trans m3))⟩
theorem Xn3(K:AEnd→Heap→Prop)(hk:∀ st',doF a 133 data (ps.map (·.2))=.ok st'→∀ h',MOk MB h μ e st' op h'→K (.ret (.tuple #[])) h')(hp:∀ z,doF a 133 data (ps.map (·.2))=.error z→∀ h',Xm6 MB h h'→K (.panic (pe z)) h') :
  CallOK Tryd.prog (E b).G 52 [.pointer (some ⟨μ,0,none⟩),.agg ⟨[.int .i64 133,dv]⟩] h K:=by
 have M0:=A.m.old (Old.push h (.cells true 1 [.int .i64 133,dv]))
 have m0:Mv MB MB h (h.push (.cells true 1 [.int .i64 133,dv])):=Mv.old (Old.push _ _)
 refine Qe9 (E b) (Vg _ _) (Wp b) (V2 b) Vm (Wv b) (Q8 b) Zd Zr Zl rfl ?_
 simp[J8,Qhe b,Qlc]
 refine Qmo b (by simp[brF]) _ ?_
 simp[J8]
 refine(Qvi b M0 A.l2 _ ?_).ok
 simp[J8,hoff,Qlc]
 match ps,A with
 | [],A =>
  refine(Qk7 b M0 _ ?_).ok
  simp[J8]
  exact hp 16 (by simp[doF]) _ ⟨MB,m0⟩
 | (v,x)::ps,A =>
  have l1:ps.length < 16:=by have:=A.l1;simp at this;omega
  have lx:x.length≤64:=A.l3 (v,x) (by simp)
  refine(Qe3 b M0 (by omega) _ fun h1 M1 m1 _ i1 _ => ?_).ok
  simp[J8]
  refine(Xc4 b i1.sb (by omega) _ fun h2 a2 => ?_).ok
  cases ht:isT x with
  | true =>
   simp[J8]
   refine(Qs2 b h2 16 _ ?_).ok
   simp[J8]
   exact hk (ps.map (·.2)) (by simp[doF,ht]) _ ⟨ps,MB,rfl,M1.old a2,m0.trans (m1.trans (Mv.old a2))⟩
  | false =>
   simp[J8]
   refine(Qm9 b h2 16 _ ?_).ok
   simp[J8]
   exact hp 16 (by simp[doF,ht]) _ ⟨MB,m0.trans (m1.trans (Mv.old a2))⟩
theorem Xss(K:AEnd→Heap→Prop)(hk:∀ st',doF a 134 data (ps.map (·.2))=.ok st'→∀ h',MOk MB h μ e st' op h'→K (.ret (.tuple #[])) h')(hp:∀ z,doF a 134 data (ps.map (·.2))=.error z→∀ h',Xm6 MB h h'→K (.panic (pe z)) h') :
  CallOK Tryd.prog (E b).G 52 [.pointer (some ⟨μ,0,none⟩),.agg ⟨[.int .i64 134,dv]⟩] h K:=by
 have M0:=A.m.old (Old.push h (.cells true 1 [.int .i64 134,dv]))
 have m0:Mv MB MB h (h.push (.cells true 1 [.int .i64 134,dv])):=Mv.old (Old.push _ _)
 refine Qe9 (E b) (Vg _ _) (Wp b) (V2 b) Vm (Wv b) (Q8 b) Zd Zr Zl rfl ?_
 simp[J8,Qhe b,Qlc]
 refine Qmo b (by simp[brF]) _ ?_
 simp[J8]
 refine(Qvi b M0 A.l2 _ ?_).ok
 simp[J8,hoff,Qlc]
 match ps,A with
 | [],A =>
  refine(Xg3 b M0 (by simp) _ fun h1 m1 => ?_).ok
  simp[J8]
  exact hp 16 (by simp[doF]) _ ⟨MB,m0.trans m1⟩
 | [(v,x)],A =>
  refine(Xg3 b M0 (by simp) _ fun h1 m1 => ?_).ok
  simp[J8]
  exact hp 16 (by simp[doF]) _ ⟨MB,m0.trans m1⟩
 | (v,x)::(w,y)::ps,A =>
  have l1:ps.length < 15:=by have:=A.l1;simp at this;omega
  refine(Xvv b M0 (A.w.mv m0) (by omega) _ (fun q1 q2 h1 M1 m1 => ?_) (fun q h1 m1 => ?_)).ok
  ·simp[J8]
   refine(Xu5 b (X0n a (x.getD 0 0) y) M1 _ (fun _ v3 h3 MB3 M3 m3 => ?_) (fun q=>by omega)).ok
   simp[J8]
   exact hk (Xzx (X0n a (x.getD 0 0) y)::ps.map (·.2)) (by simp[doF,Qic,q1,q2];omega) _ ⟨_,MB3,by simp,M3,m0.trans (m1.trans m3)⟩
  ·simp[J8]
   exact hp 16 (by simp only[doF,List.map_cons];simp[q]) _ ⟨MB,m0.trans m1⟩
theorem Xq1(K:AEnd→Heap→Prop)(hk:∀ st',doF a 135 data (ps.map (·.2))=.ok st'→∀ h',MOk MB h μ e st' op h'→K (.ret (.tuple #[])) h')(hp:∀ z,doF a 135 data (ps.map (·.2))=.error z→∀ h',Xm6 MB h h'→K (.panic (pe z)) h') :
  CallOK Tryd.prog (E b).G 52 [.pointer (some ⟨μ,0,none⟩),.agg ⟨[.int .i64 135,dv]⟩] h K:=by
 have M0:=A.m.old (Old.push h (.cells true 1 [.int .i64 135,dv]))
 have m0:Mv MB MB h (h.push (.cells true 1 [.int .i64 135,dv])):=Mv.old (Old.push _ _)
 refine Qe9 (E b) (Vg _ _) (Wp b) (V2 b) Vm (Wv b) (Q8 b) Zd Zr Zl rfl ?_
 simp[J8,Qhe b,Qlc]
 refine Qmo b (by simp[brF]) _ ?_
 simp[J8]
 refine(Qvi b M0 A.l2 _ ?_).ok
 simp[J8,hoff,Qlc]
 match ps,A with
 | [],A =>
  refine(Xrz b M0 _ ?_).ok
  simp[J8]
  exact hp 16 (by simp[doF]) _ ⟨MB,m0⟩
 | (v,x)::ps,A =>
  have l1:ps.length < 16:=by have:=A.l1;simp at this;omega
  refine(Xw7 b M0 (by omega) _ (fun q1 q2 h1 M1 m1 => ?_) (fun q1 h1 m1 => ?_) (fun q1 q2 h1 m1 => ?_)).ok
  ·simp[J8]
   rw[A.w.lk]at q2
   exact hk (ps.map (·.2)) (by simp[doF,q1,q2]) _ ⟨ps,MB,rfl,M1,m0.trans m1⟩
  ·simp[J8]
   exact hp 16 (by simp[doF,q1]) _ ⟨MB,m0.trans m1⟩
  ·simp[J8]
   rw[A.w.lk]at q2
   exact hp 18 (by simp[doF,q1,q2]) _ ⟨MB,m0.trans m1⟩
theorem Xt6(K:AEnd→Heap→Prop)(hk:∀ st',doF a 139 data (ps.map (·.2))=.ok st'→∀ h',MOk MB h μ e st' op h'→K (.ret (.tuple #[])) h')(hp:∀ z,doF a 139 data (ps.map (·.2))=.error z→∀ h',Xm6 MB h h'→K (.panic (pe z)) h') :
  CallOK Tryd.prog (E b).G 52 [.pointer (some ⟨μ,0,none⟩),.agg ⟨[.int .i64 139,dv]⟩] h K:=by
 have M0:=A.m.old (Old.push h (.cells true 1 [.int .i64 139,dv]))
 have m0:Mv MB MB h (h.push (.cells true 1 [.int .i64 139,dv])):=Mv.old (Old.push _ _)
 refine Qe9 (E b) (Vg _ _) (Wp b) (V2 b) Vm (Wv b) (Q8 b) Zd Zr Zl rfl ?_
 simp[J8,Qhe b,Qlc]
 refine Qmo b (by simp[brF]) _ ?_
 simp[J8]
 refine(Qvi b M0 A.l2 _ ?_).ok
 simp[J8,hoff,Qlc]
 match ps,A with
 | [],A =>
  refine(Qk7 b M0 _ ?_).ok
  simp[J8]
  exact hp 16 (by simp[doF]) _ ⟨MB,m0⟩
 | (v,x)::ps,A =>
  have l1:ps.length < 16:=by have:=A.l1;simp at this;omega
  have lx:x.length≤64:=A.l3 (v,x) (by simp)
  refine(Qe3 b M0 (by omega) _ fun h1 M1 m1 _ i1 _ => ?_).ok
  simp[J8]
  refine(Qq8 b M1 i1 l1 _ fun h2 MB2 M2 m2 => ?_).ok
  have i2:=i1.mv m2
  have len:=fun hx=>Qdr (b:=b) (h1:=hx) i2.sb
  have w8:IntKind.u8.wrap (x.length:Int)=(x.length:Int):=X3x (by omega)
  simp[J8,len,w8,Qqx]
  have m3:Mv MB2 MB2 h2 (h2.push (.cells true 1 [i8 (x.length:Int)])):=Mv.old (Old.push _ _)
  have i3:=Itm.new (h:=h2) (MB:=MB2) M2.low (xs:=[(x.length:Int)]) (by intro z hz;simp at hz;omega) (by simp)
  by_cases l2:ps.length+1 < 16
  ·refine(Qq8 b (M2.old (Old.push _ _)) i3 (by simpa using l2) _ fun h4 MB4 M4 m4 => ?_).ok
   simp[J8]
   exact hk ([(x.length:Int)]::x::ps.map (·.2)) (by simp[doF,Qic,l1,l2,Except.bind]) _ ⟨_,MB4,by simp,M4,m0.trans (m1.trans (m2.trans (m3.trans m4)))⟩
  ·refine(Qoj b (M2.old (Old.push _ _)) (by simp;omega) _ ?_).ok
   simp[J8]
   exact hp 16 (by simp[doF,Qic,l1,l2,Except.bind]) _ ⟨MB2,m0.trans (m1.trans (m2.trans m3))⟩
theorem Xu8{code:Int}(e1:¬ code=129)(e2:¬ code=130)(e3:¬ code=131)(e4:¬ code=132)(e5:¬ code=133)(e6:¬ code=134)(e7:¬ code=135)(c8:¬ code=136)(c9:¬ code=137)(c10:¬ code=138)(e11:¬ code=139)(K:AEnd→Heap→Prop)(hk:∀ st',doF a code data (ps.map (·.2))=.ok st'→∀ h',MOk MB h μ e st' op h'→K (.ret (.tuple #[])) h')(hp:∀ z,doF a code data (ps.map (·.2))=.error z→∀ h',Xm6 MB h h'→K (.panic (pe z)) h') :
  CallOK Tryd.prog (E b).G 52 [.pointer (some ⟨μ,0,none⟩),.agg ⟨[.int .i64 code,dv]⟩] h K:=by
 have M0:=A.m.old (Old.push h (.cells true 1 [.int .i64 code,dv]))
 have m0:Mv MB MB h (h.push (.cells true 1 [.int .i64 code,dv])):=Mv.old (Old.push _ _)
 refine Qe9 (E b) (Vg _ _) (Wp b) (V2 b) Vm (Wv b) (Q8 b) Zd Zr Zl rfl ?_
 simp[J8,Qhe b,Qlc]
 refine Qmo b (by simp[brF,c8,c9,c10]) _ ?_
 simp[J8]
 refine(Qvi b M0 A.l2 _ ?_).ok
 simp[J8,hoff,Qlc,X3v,e1,e2,e3,e4,e5,e6,e7,e11]
 by_cases l1:ps.length < 16
 ·refine(Qq8 b M0 (A.i.mv m0) l1 _ fun h2 MB2 M2 m2 => ?_).ok
  simp[J8]
  exact hk (data::ps.map (·.2)) (by simp[doF,Qic,l1,e1,e2,e3,e4,e5,e6,e7,e11]) _ ⟨_,MB2,by simp,M2,m0.trans m2⟩
 ·refine(Qoj b M0 (by omega) _ ?_).ok
  simp[J8]
  exact hp 16 (by simp[doF,Qic,l1,e1,e2,e3,e4,e5,e6,e7,e11]) _ ⟨MB,m0⟩
end
end
end Go.Proofs.YtgeeklmjfbiieaaDoor
end
noncomputable section
namespace Go.Proofs.YtgeeklmjfbiieaaDoor
open Go Go.Ab
set_option maxRecDepth 100000
section
variable(b:Nat){h:Heap}{MB:Nat→Prop}{μ:Nat}{e:Menv}{a:Asks}{ps:List (Value × List Int)}{op:List Br}{dv:Value}{data:List Int}(A:At h MB μ e a ps op dv data)
include A
section
attribute [local simp] Qm X3 Q8 Yr Qa5 Q1 Q9 Qr Ql Ym Q0 Qh Y5 J8 Jf Y2 Qv Qn Qa Qj Qi Ys Zv Zu Yq Zs Yh Xh X6 Yj Q5 Qd Xg Qq Qe Xi Qk Y1 Z9 Z2 aop X4 nth Ab.g0 gv gs Qx X2 aev evs evO X7 Tr.get_put St.put Tm.put flat flatA Z3 Xe Xc Xf Xa Xb Xd X9 Xj X8 Qt Qu Q6 X5 Qo Qf Q2 Qp Qg Q7 Yf Yn Ye Y0 Yi.putAll Xy X0 Qb Q3 Qy Qz X1 Q4 Qc Qw
theorem Xzz(K:AEnd→Heap→Prop)(hk:∀ st' op',brF 136 (ps.map (·.2)) op=some (some (st',op'))→∀ h',MOk MB h μ e st' op' h'→K (.ret (.tuple #[])) h')(hp:brF 136 (ps.map (·.2)) op=some none→∀ h',Xm6 MB h h'→K (.panic (pe 16)) h') :
  CallOK Tryd.prog (E b).G 52 [.pointer (some ⟨μ,0,none⟩),.agg ⟨[.int .i64 136,dv]⟩] h K:=by
 have M0:=A.m.old (Old.push h (.cells true 1 [.int .i64 136,dv]))
 have m0:Mv MB MB h (h.push (.cells true 1 [.int .i64 136,dv])):=Mv.old (Old.push _ _)
 refine Qe9 (E b) (Vg _ _) (Wp b) (V2 b) Vm (Wv b) (Q8 b) Zd Zr Zl rfl ?_
 simp[Qhe b,Qlc]
 refine X3j b M0 (by have:=A.l1;omega) A.l2 (fun p hp=>by have:=A.l3 p hp;omega) _ (fun st' op' q h' m => ?_) (fun q h' m => ?_)
 ·obtain⟨ps',MB',q1,q2,q3⟩:=m
  simp
  exact hk st' op' q h' ⟨ps',MB',q1,q2,m0.trans q3⟩
 ·obtain⟨MB',q1⟩:=m
  simp
  exact hp q h' ⟨MB',m0.trans q1⟩
theorem Xth(K:AEnd→Heap→Prop)(hk:∀ st' op',brF 137 (ps.map (·.2)) op=some (some (st',op'))→∀ h',MOk MB h μ e st' op' h'→K (.ret (.tuple #[])) h')(hp:brF 137 (ps.map (·.2)) op=some none→∀ h',Xm6 MB h h'→K (.panic (pe 16)) h') :
  CallOK Tryd.prog (E b).G 52 [.pointer (some ⟨μ,0,none⟩),.agg ⟨[.int .i64 137,dv]⟩] h K:=by
 have M0:=A.m.old (Old.push h (.cells true 1 [.int .i64 137,dv]))
 have m0:Mv MB MB h (h.push (.cells true 1 [.int .i64 137,dv])):=Mv.old (Old.push _ _)
 refine Qe9 (E b) (Vg _ _) (Wp b) (V2 b) Vm (Wv b) (Q8 b) Zd Zr Zl rfl ?_
 simp[Qhe b,Qlc]
 match op,A with
 | [],A =>
  refine Xto b M0 (.inl rfl) _ ?_
  simp
  exact hp (by simp[brF]) _ ⟨MB,m0⟩
 | x::l,A =>
  refine X0f b M0 (by have:=A.l2;simp at this;omega) _ (fun ht h1 M1 m1 => ?_) (fun ht => ?_)
  ·simp
   exact hk _ _ (by simp[brF,ht]) _ ⟨ps,MB,rfl,M1,m0.trans m1⟩
  ·simp
   exact hp (by simp[brF,ht]) _ ⟨MB,m0⟩
theorem Xw5(K:AEnd→Heap→Prop)(hk:∀ st' op',brF 138 (ps.map (·.2)) op=some (some (st',op'))→∀ h',MOk MB h μ e st' op' h'→K (.ret (.tuple #[])) h')(hp:brF 138 (ps.map (·.2)) op=some none→∀ h',Xm6 MB h h'→K (.panic (pe 16)) h') :
  CallOK Tryd.prog (E b).G 52 [.pointer (some ⟨μ,0,none⟩),.agg ⟨[.int .i64 138,dv]⟩] h K:=by
 have M0:=A.m.old (Old.push h (.cells true 1 [.int .i64 138,dv]))
 have m0:Mv MB MB h (h.push (.cells true 1 [.int .i64 138,dv])):=Mv.old (Old.push _ _)
 refine Qe9 (E b) (Vg _ _) (Wp b) (V2 b) Vm (Wv b) (Q8 b) Zd Zr Zl rfl ?_
 simp[Qhe b,Qlc]
 match op,A with
 | [],A =>
  refine Xto b M0 (.inr rfl) _ ?_
  simp
  exact hp (by simp[brF]) _ ⟨MB,m0⟩
 | x::l,A =>
  refine X23 b M0 (by have:=A.l2;simp at this;omega) _ (fun h1 M1 m1 => ?_)
  simp
  exact hk _ _ (by simp[brF]) _ ⟨ps,MB,rfl,M1,m0.trans m1⟩
end
theorem X0d{code:Int}(K:AEnd→Heap→Prop)(hk:∀ st' op',Qgi a code data (ps.map (·.2)) op=.ok (st',op')→∀ h',MOk MB h μ e st' op' h'→K (.ret (.tuple #[])) h')(hp:∀ z,Qgi a code data (ps.map (·.2)) op=.error z→∀ h',Xm6 MB h h'→K (.panic (pe z)) h') :
  CallOK Tryd.prog (E b).G 52 [.pointer (some ⟨μ,0,none⟩),.agg ⟨[.int .i64 code,dv]⟩] h K:=by
 by_cases c8:code=136
 ·subst c8
  exact Xzz b A K (fun st' op' q=>hk st' op' (by simp only[Qgi,q])) (fun q=>hp 16 (by simp only[Qgi,q]))
 by_cases c9:code=137
 ·subst c9
  exact Xth b A K (fun st' op' q=>hk st' op' (by simp only[Qgi,q])) (fun q=>hp 16 (by simp only[Qgi,q]))
 by_cases c10:code=138
 ·subst c10
  exact Xw5 b A K (fun st' op' q=>hk st' op' (by simp only[Qgi,q])) (fun q=>hp 16 (by simp only[Qgi,q]))
 have hbr:∀ st op,brF code st op=none:=fun st op=>by simp[brF,c8,c9,c10]
 cases hoff:Xlb op with
 | true=>exact Xwd b A hoff (hbr _ _) K (fun h' m=>hk _ _ (by simp[Qgi,hbr,hoff]) h' m)
 | false =>
  have e1:∀ st',doF a code data (ps.map (·.2))=.ok st'→Qgi a code data (ps.map (·.2)) op=.ok (st',op):=fun st' q=>by simp[Qgi,hbr,hoff,q,Except.map]
  have e2:∀ z,doF a code data (ps.map (·.2))=.error z→Qgi a code data (ps.map (·.2)) op=.error z:=fun z q=>by simp[Qgi,hbr,hoff,q,Except.map]
  have k1:∀ st',doF a code data (ps.map (·.2))=.ok st'→∀ h',MOk MB h μ e st' op h'→K (.ret (.tuple #[])) h':=fun st' q h' m=>hk _ _ (e1 st' q) h' m
  have k2:∀ z,doF a code data (ps.map (·.2))=.error z→∀ h',Xm6 MB h h'→K (.panic (pe z)) h':=fun z q h' m=>hp _ (e2 z q) h' m
  clear hk hp e1 e2
  by_cases c1:code=129
  ·subst c1;exact Xx5 b A hoff K k1 k2
  by_cases c2:code=130
  ·subst c2;exact Xtk b A hoff K k1 k2
  by_cases c3:code=131
  ·subst c3;exact Xsj b A hoff K k1 k2
  by_cases c4:code=132
  ·subst c4;exact Xpp b A hoff K k1 k2
  by_cases c5:code=133
  ·subst c5;exact Xn3 b A hoff K k1 k2
  by_cases c6:code=134
  ·subst c6;exact Xss b A hoff K k1 k2
  by_cases c7:code=135
  ·subst c7;exact Xq1 b A hoff K k1 k2
  by_cases c11:code=139
  ·subst c11;exact Xt6 b A hoff K k1 k2
  exact Xu8 b A hoff c1 c2 c3 c4 c5 c6 c7 c8 c9 c10 c11 K k1 k2
end
end Go.Proofs.YtgeeklmjfbiieaaDoor
end
noncomputable section
namespace Go.Proofs.YtgeeklmjfbiieaaDoor
open Go Go.Ab
set_option maxRecDepth 100000
theorem Xyj(b:Nat){l:List Value}(hl:l.length=34):Qzu (E b).toEnv 107 [(0,.agg ⟨l⟩)]=some (.agg ⟨l ++ [.slice none 0 0,.slice none 0 0]⟩):=by
 have e:Qzu (E b).toEnv 107 [(0,.agg ⟨l⟩)]=(Q9l (nth [(0,34),(34,1),(35,1)]) ((.pointer none::List.replicate 32 (.int .u8 0)) ++ [.int .i64 0,.slice none 0 0,.slice none 0 0]) [(0,.agg ⟨l⟩)]).map fun c => .agg c.toArray:=by kernel_rfl
 rw[e]
 have hc:(Value.agg ⟨l⟩).cells.toList=l:=rfl
 have hs:(Value.agg ⟨l⟩).cells.size=34:=hl
 have hz:((.pointer none::List.replicate 32 (.int .u8 0)) ++ [.int .i64 0,.slice none 0 0,.slice none 0 0]:List Value).length=36:=by simp
 have hp:Qgl ((.pointer none::List.replicate 32 (.int .u8 0)) ++ [.int .i64 0,.slice none 0 0,.slice none 0 0]:List Value) 0 l=some (l ++ [.slice none 0 0,.slice none 0 0]):=by
  rw[Qkz (by rw[hz,hl];omega),hl]
  rfl
 have hb:(Qef (.agg ⟨l⟩) && (Value.agg ⟨l⟩).cells.size == 34 && Nat.ble (0+34) ((.pointer none::List.replicate 32 (.int .u8 0)) ++ [.int .i64 0,.slice none 0 0,.slice none 0 0]:List Value).length)=true:=by
  rw[hs,hz];rfl
 simp only[Q9l,nth,hb,if_true,hc,hp]
 rfl
def ItsAt(h:Heap)(items:List (Value × List Int)):Prop:=∀ p ∈ items,SB h p.1 p.2∧Bytes p.2
theorem ItsAt.old{h h':Heap}{items:List (Value × List Int)}(i:ItsAt h items)(a:Old h h'):ItsAt h' items:=fun p hp=>⟨(i p hp).1.old a,(i p hp).2⟩
def BGI(sv:Value)(items:List (Value × List Int))(e:Menv)(h:Heap)(μ:Nat)(k:Nat)(s:St):Prop:=∃ (t:Tr Value) (h1:Heap) (MB:Nat→Prop) (ps:List (Value × List Int)) (i:Nat),s=⟨⟨26,t⟩,[],h1⟩∧t.get 5=some (.pointer (some ⟨μ,0,none⟩))∧t.get 11=some sv∧t.get 12=some (.int .i64 (items.length:Int))∧t.get 13=some (.int .i64 (i:Int))∧i≤items.length∧k=items.length-i∧Mach h1 MB μ e ps []∧Old h h1∧(∀ c,MB c→h.next≤c) ∧
 Qt7 (items.map (·.2)) []=Qt7 ((items.drop i).map (·.2)) (ps.map (·.2))
section
attribute [local simp] U9 Wu Z0 Qgo Jd Zo Qbf Zs Ys Qh5 Qa Qh Yw Yh Xh X6 Yj Q5 Qd Xg Qq Qe Xi Qk Y1 Z9 Z2 aop X4 nth Ab.g0 gv gs Qx X2 aev evs evO X7 Tr.get_put St.put Tm.put flat flatA Z3 Xe Xc Xf Xa Xb Xd X9 Xj X8 Qt Qu Q6 X5 Qo Qf Q2 Qp Qg Q7 Yf Yn Ye Y0 Yi.putAll Xy X0 Qb Q3 Qy Qz X1 Q4 Qc Qw
theorem Xwc(b:Nat){h:Heap}{sv:Value}{items:List (Value × List Int)}{e:Menv}(ss:Sl h 1 sv items.length (items.map (·.1)))(hn:items.length < 1000000)(its:ItsAt h items)(K:AEnd→Heap→Prop)
  (hk:∀ h' μ MB ps,Qt7 (items.map (·.2)) []=.ok (ps.map (·.2))→Mach h' MB μ e ps []→Old h h'→(∀ c,MB c→h.next≤c)→K (.ret (.pointer (some ⟨μ,0,none⟩))) h')
  (hp:Qt7 (items.map (·.2)) []=.error 16→∀ h',Old h h'→K (.panic (pe 16)) h'):FnK Tryd.prog (E b).G 51 [sv,.agg ⟨e.cells⟩] h K:=by
 refine Qal (E b) (Wp b) (V2 b) Vm (Wv b) (Qak b) (Z0 b) Q2s Xen Xa8 rfl ?_
 obtain⟨hA,eA⟩:∃ hA,hA=h.push (.cells true 1 e.cells):=⟨_,rfl⟩
 have bxA:Xmn (.agg ⟨e.cells⟩) h=some (.pointer (some ⟨h.next,0,none⟩),hA):=by rw[eA];rfl
 have gA:hA.get h.next=some (.cells true 1 e.cells):=by rw[eA,Heap.get_push,if_pos rfl]
 have aA:Old h hA:=by rw[eA];exact Old.push _ _
 have nA:hA.next=h.next+1:=by rw[eA];rfl
 have ldA:Qgg hA h.next 0 34=some (.agg ⟨e.cells⟩):=by rw[Qau gA (by rw[e.len];omega),List.drop_zero,List.take_of_length_le (by rw[e.len];exact Nat.le_refl _)]
 have bxB:Xmn (.agg ⟨e.cells ++ [.slice none 0 0,.slice none 0 0]⟩) hA=some (.pointer (some ⟨hA.next,0,none⟩),hA.push (.cells true 1 (e.cells ++ [.slice none 0 0,.slice none 0 0]))):=rfl
 obtain⟨hB,eB⟩:∃ hB,hB=hA.push (.cells true 1 (e.cells ++ [.slice none 0 0,.slice none 0 0])):=⟨_,rfl⟩
 rw[← eB]at bxB
 have gB:hB.get hA.next=some (.cells true 1 (e.cells ++ [.slice none 0 0,.slice none 0 0])):=by rw[eB,Heap.get_push,if_pos rfl]
 have aB:Old hA hB:=by rw[eB];exact Old.push _ _
 have lenS:∀ hx,Qib (E b).toEnv 43 sv hx=some (.int .i64 (items.length:Int)):=fun hx=>Qdu (T43 b) ss
 simp[bxA,ldA,Xyj b e.len,bxB,lenS]
 have lB:=Heap.get_lt gB
 have M0:Mach hB (fun c=>c=hA.next) hA.next e [] []:=by
  refine⟨⟨.slice none 0 0,.slice none 0 0,1,gB,rfl,?_,?_,fun c hc=>by simp[Vn]at hc,fun c hc=>by simp[Vn]at hc⟩,by simp,fun c hc=>by rw[hc];exact lB⟩
  ·exact Own.nil
  ·exact Own.nil
 refine Qs0 (BGI sv items e h hA.next) items.length ⟨_,hB,fun c=>c=hA.next,[],0,rfl,by simp,by simp,by simp,by simp,by omega,rfl,M0,aA.trans aB,fun c hc=>by omega,by simp⟩ ?_
 rintro k s' ⟨t,h1,MB,ps,i,rfl,t5,t11,t12,t13,hi,rfl,M,hold,hmb,hF⟩ _
 by_cases hlt:i < items.length
 ·have hlt':(i:Int) < (items.length:Int):=by omega
  obtain⟨p,hpi⟩:∃ p,items[i]? = some p:=⟨_,List.getElem?_eq_getElem hlt⟩
  obtain⟨v,x⟩:=p
  have hd:items.drop i=(v,x)::items.drop (i+1):=by
   rw[List.drop_eq_getElem_cons hlt]
   rw[List.getElem?_eq_getElem hlt]at hpi
   rw[Option.some.inj hpi]
  obtain⟨bk,off,q1,q2,q3, -⟩:=Xiw (T43 b) Qcj (ss.old hold) (k:=.i64) (i:=(i:Int)) (by omega) (by omega)
  have q4:Vs h1 bk off=some v:=by
   have:=q3 0 (by omega)
   simpa[hpi]using this
  obtain⟨sx,bx⟩:=its (v,x) (List.mem_of_getElem? hpi)
  have iv:Itm h1 MB v x:=⟨sx.old hold,bx,fun c hc hm=>by have:=sx.blk hc;have:=hmb c hm;omega⟩
  have len:=fun hx=>Qdr (b:=b) (h1:=hx) iv.sb
  have hw:IntKind.i64.wrap ((i:Int)+1)=((i+1:Nat):Int):=by rw[Qbe (by omega) (by omega)];omega
  rw[hd]at hF
  by_cases hx:x.length≤64
  ·have hx':(x.length:Int)≤64:=by omega
   simp[t5,t11,t12,t13,hlt',q2,q4,len,hx']
   refine Qs2 b h1 16 _ ?_
   simp[t5,t11,t12,t13]
   by_cases hl:ps.length < 16
   ·refine Qq8 b M iv hl _ fun h2 MB2 M2 m2 => ?_
    simp[t5,t11,t12,t13,hw]
    refine⟨items.length-(i+1),by omega,_,h2,MB2,(v,x)::ps,i+1,rfl,by simp[t5],by simp[t11],by simp[t12],by simp,by omega,rfl,M2,⟨Nat.le_trans hold.1 m2.next,fun c hc => ?_⟩,fun c hc => ?_,?_⟩
    ·rw[m2.same c (Nat.lt_of_lt_of_le hc hold.1) (fun q=>by have:=hmb c q;omega),hold.2 c hc]
    ·rcases m2.sub c hc with q | q
     ·exact hmb c q
     ·exact Nat.le_trans hold.1 q
    ·rw[hF]
     simp[Qt7,hx,Qic,hl,Except.bind]
   ·refine Qoj b M (by omega) _ ?_
    simp[t5,t11,t12,t13]
    exact hp (by rw[hF];simp[Qt7,hx,Qic,hl,Except.bind]) h1 hold
  ·have hx':¬ (x.length:Int)≤64:=by omega
   simp[t5,t11,t12,t13,hlt',q2,q4,len,hx']
   refine Qm9 b h1 16 _ ?_
   simp[t5,t11,t12,t13]
   exact hp (by rw[hF];simp[Qt7,hx]) h1 hold
 ·have hlt':¬ (i:Int) < (items.length:Int):=by omega
  simp[t5,t11,t12,t13,hlt']
  have : i=items.length:=by omega
  subst this
  exact hk h1 hA.next MB ps (by rw[hF];simp[Qt7]) M hold hmb
end
end Go.Proofs.YtgeeklmjfbiieaaDoor
end
noncomputable section
namespace Go.Ab
section
variable{P:Program}{E:Env2 P}{C:CallF}{k:Nat}
theorem Q8g:∀ l:List Oper,Xax (l.map bare)=Xax l
 | []=>rfl
 | o::r=>by
  simp only[List.map_cons,Xax,Q8g r]
  rfl
theorem Xkh(ops:List Oper):∀ (l:List Oper) (u:FrameMode) (s:St),Xla E (ops.map bare) (l.map bare) u s=Xla E ops l u s
 | [],u,s=>rfl
 | o::r,u,s=>by
  have ih:=Xkh ops r
  have e1:(bare o).dst=o.dst:=rfl
  have e2:Xir (bare o)=Xir o:=rfl
  have e3:Zt (bare o)=Zt o:=rfl
  have e4:∀ t h,aop E t h (bare o)=aop E t h o:=fun _ _=>rfl
  simp only[List.map_cons,Xla,Qh9,e1,e2,e3,e4,ih]
theorem Qnb:∀ (c:Code) (u:FrameMode) (s:St),Qgr E C k (Uu c) u s=Qgr E C k c u s
 | .seq x y,u,s=>by
  simp only[Uu,Qgr,Qnb x]
  split
  ·exact Qnb y _ _
  ·rfl
 | .cond c x y,u,s=>by
  simp only[Uu,Qgr]
  split
  ·exact Qnb x u s
  ·exact Qnb y u s
  ·rfl
 | .block id c,u,s=>by simp only[Qgr,Qeu (.block id c)];simp only[Uu,Qgr];rw[← Qeu (.block id c)];rfl
 | .loop c,u,s=>by
  have:=Qeu (E:=E) (C:=C) (rd:=none) (k:=k) (.loop c) s
  simp only[Uu]at this
  simp only[Uu,Qgr,this]
 | .region id ops false,u,s=>by
  have h1:=Qeu (E:=E) (C:=C) (rd:=none) (k:=k) (.region id ops false) s
  simp only[Uu]at h1
  have h2:=Q8g ops.toList
  have h3:=Xkh (E:=E) ops.toList ops.toList u s
  simp only[Uu,Qgr,h1,h2,h3]
 | .region id ops true,u,s=>rfl
 | .skip,u,s=>rfl
 | .label _,u,s=>rfl
 | .ret,u,s=>rfl
 | .exit _,u,s=>rfl
 | .rangeFunc ..,u,s=>rfl
 | .scope ..,u,s=>rfl
 | .goto ..,u,s=>rfl
 | .refuse ..,u,s=>rfl
theorem Xnq{f n:Nat}{args:List Value}{u u':FrameMode}{h h':Heap}{fn:Func}{c cb:Code}{e:Exit}{t:Tm}{v:Value}(hfn:E.fn.get f=some fn)(hb:fn.body=some c)(hn:fn.ntmps=n)(hc:Uu c=cb)(hle:Nat.ble args.length n=true)
  (hx:Qgr E C k cb u ⟨⟨n,Yi.putAll 0 args .leaf⟩,[],h⟩=some (e,u',⟨t,[],h'⟩)) (he:e=.normal∨e=.ret) (hr:Z9 E fn t h'=some v):Qrp E C k f args u h=some (.ret v,u',h'):=by
 subst hn hc
 rw[Qnb]at hx
 unfold Qrp
 simp only[hfn,hb,hle,Yi,hx]
 rcases he with rfl | rfl <;> simp only[hr]
end
end Go.Ab
namespace Go.Proofs.YtgeeklmjfbiieaaDoor
open Go Go.Ab
set_option maxRecDepth 100000
def peR(z:Int):List PanicEntry:=[{v:=.iface 35 (.int .i64 z),recovered:=true}]
theorem Xya(b:Nat)(q:Bool)(t:TypeId)(v:Value):Z3 (E b).toEnv .neq 20 q (.iface t v) .nilIface=some (.bool true):=by kernel_rfl
theorem Xyl(b:Nat):Z3 (E b).toEnv .neq 20 true .nilIface .nilIface=some (.bool false):=by kernel_rfl
theorem Xv3(b:Nat)(z:Int):Q9a (E b).toEnv (.iface 35 (.int .i64 z)) 35 false=some (.int .i64 z):=by kernel_rfl
section
attribute [local simp] Qhc Qjn Qkv Qjk Qjv Qjo Qkr Ql5 Qka Qk6 Qgr Xax Xir Xla Xqw Zt pe Yi.putAll Qgp Qvw Qy0 Qy1 aop X4 nth Ab.g0 gv gs Qx X2 Yh aev evs evO X7 Tr.get_put St.put Tm.put flat flatA Xe Xc Xf Xa Xb Xd X9 Xj Z2 X8 Qt Qu Xy X0 Qb Q3 Qy Qz X1 Q4 Qc Qw
theorem Xwr(b:Nat){h:Heap}{B:Nat}{y:Value}(z:Int)(hg:h.get B=some (.cells true 1 [y])):DD b 49 [.pointer (some ⟨B,0,none⟩)] (.panicking (pe z)) h=some (.ret (.tuple #[]),.panicking (peR z),h.set B (some (.cells true 1 [.int .i64 z]))):=by
 have e1:(E b).fn.get 49=some Qaj:=Qga b
 have st:Uv h B 0 [.int .i64 z]=some (h.set B (some (.cells true 1 [.int .i64 z]))):=Qd1 hg (by simp)
 refine Xnq (e:=.normal) e1 Qn7 Qxr Qw5 rfl (by simp[Z3,-Z3,Xya,Xv3,Qbm,st];first | exact rfl | exact⟨rfl,rfl⟩) (.inl rfl) ?_
 simp[Z9,Qv9]
theorem X1q(b:Nat){h:Heap}{B:Nat}{y:Value}:DD b 49 [.pointer (some ⟨B,0,none⟩)] .returning h=some (.ret (.tuple #[]),.returning,h):=by
 have e1:(E b).fn.get 49=some Qaj:=Qga b
 refine Xnq (e:=.normal) e1 Qn7 Qxr Qw5 rfl (by simp[Z3,-Z3,Xyl];first | exact rfl | exact⟨rfl,rfl⟩) (.inl rfl) ?_
 simp[Z9,Qv9]
end
end Go.Proofs.YtgeeklmjfbiieaaDoor
end
noncomputable section
namespace Go.Proofs.YtgeeklmjfbiieaaDoor
open Go Go.Ab
set_option maxRecDepth 100000
def Bd(st:List (List Int)):Prop:=st.length≤16∧∀ x ∈ st,x.length≤64
theorem Qje{x:List Int}{st st':List (List Int)}(h:Qic x st=.ok st')(hb:Bd st)(hx:x.length≤64):Bd st':=by
 unfold Qic at h
 split at h
 ·rename_i hl
  cases h
  refine⟨by simp;omega,fun y hy => ?_⟩
  rcases List.mem_cons.1 hy with rfl | hy
  ·exact hx
  ·exact hb.2 y hy
 ·cases h
theorem Qu5{x:List Int}{st:List (List Int)}(hb:Bd (x::st)):Bd st∧x.length≤64:=by
 obtain⟨h1,h2⟩:=hb
 simp at h1
 exact⟨⟨by omega,fun y hy=>h2 y (by simp[hy])⟩,h2 x (by simp)⟩
theorem Xly{A B:Type}{x:Except Int A}{f:A→Except Int B}{y:B}(h:x.bind f=.ok y):∃ z,x=.ok z∧f z=.ok y:=by
 cases x with
 | error e=>cases h
 | ok z=>exact⟨z,rfl,h⟩
theorem Xu3(x:Bool):(Xzx x).length≤64:=by cases x <;> simp[Xzx]
theorem X2l{a:Asks}{code:Int}{data:List Int}{st st':List (List Int)}(h:doF a code data st=.ok st')(hb:Bd st)(hd:data.length≤64):Bd st':=by
 unfold doF at h
 split at h
 ·split at h
  ·obtain⟨p1,p2⟩:=Qu5 hb
   obtain⟨z,z1,z2⟩:=Xly h
   exact Qje z2 (Qje z1 p1 p2) p2
  ·cases h
 split at h
 ·split at h
  ·cases h;exact(Qu5 hb).1
  ·cases h
 split at h
 ·split at h
  ·exact Qje h (Qu5 hb).1 (by rw[Xi2];omega)
  ·cases h
 split at h
 ·split at h
  ·exact Qje h (Qu5 (Qu5 hb).1).1 (Xu3 _)
  ·cases h
 split at h
 ·split at h
  ·split at h
   ·cases h;exact(Qu5 hb).1
   ·cases h
  ·cases h
 split at h
 ·split at h
  ·split at h
   ·exact Qje h (Qu5 (Qu5 hb).1).1 (Xu3 _)
   ·cases h
  ·cases h
 split at h
 ·split at h
  ·split at h
   ·split at h
    ·cases h;exact(Qu5 hb).1
    ·cases h
   ·cases h
  ·cases h
 split at h
 ·split at h
  ·obtain⟨p1,p2⟩:=Qu5 hb
   obtain⟨z,z1,z2⟩:=Xly h
   exact Qje z2 (Qje z1 p1 p2) (by simp)
  ·cases h
 exact Qje h hb hd
theorem X0z{code:Int}{st st':List (List Int)}{op op':List Br}(h:brF code st op=some (some (st',op')))(hb:Bd st):Bd st'∧op'.length≤op.length+1:=by
 unfold brF at h
 split at h
 ·split at h
  ·cases h;exact⟨hb,by simp⟩
  ·split at h
   ·cases h
   ·cases h;exact⟨(Qu5 hb).1,by simp⟩
 ·split at h
  ·split at h
   ·cases h
   ·split at h
    ·cases h;exact⟨hb,by simp;omega⟩
    ·split at h
     ·cases h
     ·cases h;exact⟨hb,by simp⟩
  ·cases h
theorem Xvb{a:Asks}{code:Int}{data:List Int}{st st':List (List Int)}{op op':List Br}(h:Qgi a code data st op=.ok (st',op'))(hb:Bd st)(hd:data.length≤64):Bd st'∧op'.length≤op.length+1:=by
 unfold Qgi at h
 split at h
 ·cases h
 ·rename_i p hp
  cases h
  exact X0z hp hb
 ·split at h
  ·cases h;exact⟨hb,by omega⟩
  ·cases hq:doF a code data st with
   | error e=>rw[hq]at h;cases h
   | ok st1 =>
    rw[hq]at h
    cases h
    exact⟨X2l hq hb hd,by omega⟩
theorem Xox:∀ {l st st':List (List Int)},Qt7 l st=.ok st'→Bd st→Bd st'
 | [],st,st',h,hb=>by cases h;exact hb
 | x::l,st,st',h,hb=>by
  unfold Qt7 at h
  split at h
  ·rename_i hx
   obtain⟨z,z1,z2⟩:=Xly h
   exact Xox z2 (Qje z1 hb hx)
  ·cases h
theorem Bd.nil:Bd []:=⟨by simp,by simp⟩
theorem Xhm:∀ {f:Nat} {xs:List Int} {l:List (Int × List Int)},Bytes xs→pz f xs=some l→∀ p ∈ l,Bytes p.2
 | f,[],l,_,h=>by cases f <;> (simp[pz]at h;subst h;simp)
 | 0,_::_,l,_,h=>by simp[pz]at h
 | f+1,c::r,l,hb,h=>by
  have hr:Bytes r:=fun z hz=>hb z (by simp[hz])
  simp only[pz]at h
  split at h
  ·rw[Option.map_eq_some_iff]at h
   obtain⟨l',h1,rfl⟩:=h
   intro p hp
   rcases List.mem_cons.1 hp with rfl | hp
   ·exact fun z hz=>hr z (List.mem_of_mem_take hz)
   ·exact Xhm (fun z hz=>hr z (List.mem_of_mem_drop hz)) h1 p hp
  ·split at h
   ·cases h
   ·rw[Option.map_eq_some_iff]at h
    obtain⟨l',h1,rfl⟩:=h
    intro p hp
    rcases List.mem_cons.1 hp with rfl | hp
    ·intro z hz;simp at hz
    ·exact Xhm hr h1 p hp
end Go.Proofs.YtgeeklmjfbiieaaDoor
end
noncomputable section
namespace Go.Proofs.YtgeeklmjfbiieaaDoor
open Go Go.Ab
set_option maxRecDepth 100000
def dfr(B:Nat):Deferred:={target:=.fn (.func 49) #[.pointer (some ⟨B,0,none⟩)],args:=#[]}
theorem X4j(b:Nat)(h:Heap)(bk o:Nat):Qdh (E b).toEnv 35 (.pointer (some ⟨bk,o,none⟩)) h=Vs h bk o:=Qzl (X10 b) Xz2
theorem Xr5(b:Nat){t:Tr Value}{h:Heap}{B:Nat}{y:Value}{z:Int}{K:AEnd→Heap→Prop}(ht:t.get 6=some (.pointer (some ⟨B,0,none⟩)))(hg:h.get B=some (.cells true 1 [y]))(hk:K (.ret (.int .i64 z)) (h.set B (some (.cells true 1 [.int .i64 z])))) :
  Xq5 (E b) (DD b) Qai K (.panic (pe z)) ⟨⟨59,t⟩,[dfr B],h⟩:=by
 have e1:(E b).fn.get 49=some Qaj:=Qga b
 have e2:=Xwr b z hg
 have e3:settle (.panicking (peR z))=.returning:=by kernel_rfl
 have lt:=Heap.get_lt hg
 have e4:Vs (h.set B (some (.cells true 1 [.int .i64 z]))) B 0=some (.int .i64 z):=(Qas (z:=1) (ow:=true) (c:=[.int .i64 z]) (by rw[Heap.get_set _ _ _ _ lt,if_pos rfl])).trans rfl
 show Qkq (E b) (DD b) Qai K (.panicking (pe z)) ⟨⟨59,t⟩,[dfr B],h⟩
 rw[Qk]
 have e5:Y1 (E b) (DD b) Qai ⟨59,t⟩ [dfr B] (.panicking (pe z)) h=some (.ret (.int .i64 z),h.set B (some (.cells true 1 [.int .i64 z]))):=by
  simp only[Y1,dfr,e1]
  simp[e2,e3,Y1,Z9,Z2,J3,ht,X4j,e4]
 rw[e5]
 exact hk
theorem Xz5(b:Nat){t:Tr Value}{h:Heap}{B:Nat}{z:Int}{K:AEnd→Heap→Prop}(ht:t.get 6=some (.pointer (some ⟨B,0,none⟩)))(hg:Vs h B 0=some (.int .i64 z))(hk:K (.ret (.int .i64 z)) h) :
  Qkq (E b) (DD b) Qai K .returning ⟨⟨59,t⟩,[dfr B],h⟩:=by
 have e1:(E b).fn.get 49=some Qaj:=Qga b
 have e2:=X1q b (h:=h) (B:=B) (y:=.bool true)
 have e3:settle .returning=.returning:=by kernel_rfl
 rw[Qk]
 have e5:Y1 (E b) (DD b) Qai ⟨59,t⟩ [dfr B] .returning h=some (.ret (.int .i64 z),h):=by
  simp only[Y1,dfr,e1]
  simp[e2,e3,Y1,Z9,Z2,J3,ht,X4j,hg]
 rw[e5]
 exact hk
abbrev Wo(h:Heap)(e:Menv)(a:Asks):Prop:=Wd h (fun _=>False) e a
theorem Wo.old{h h':Heap}{e:Menv}{a:Asks}(w:Wo h e a)(o:Old h h'):Wo h' e a:=w.mv (Mv.old o)
theorem Wo.mb{h h':Heap}{MB:Nat→Prop}{e:Menv}{a:Asks}(w:Wo h e a)(o:Old h h')(hm:∀ c,MB c→h.next≤c):Wd h' MB e a :=
 w.mv ⟨o.1,fun c hc _=>o.2 c hc,fun c hc => .inr (hm c hc)⟩
theorem X0s{h:Heap}{n0:Nat}{lv:Value}{os:List OpV}{te ts:TypeId}{re rs:TyRec}{b:Nat}(T:SlTy (E b).toEnv te ts re rs)(hz:re.size=2)(o:Own h n0 2 lv os.length (Qn1 os)){i:Nat}{p:OpV}(hp:os[i]? = some p) :
  ∃ bk off,J7 (E b).toEnv ts lv (.int .i64 (i:Int))=some (.pointer (some ⟨bk,off,none⟩))∧Qgg h bk off 2=some (.agg ⟨[.int .i64 p.code,p.val]⟩):=by
 obtain⟨bk,off,h1,h2,h3,h4⟩:=Xxy (b:=b) T hz o hp
 refine⟨bk,off,h2,?_⟩
 unfold Vs at h3 h4
 unfold Qgg
 cases hg:h.get bk with
 | none=>rw[hg]at h3;cases h3
 | some x =>
  cases x with
  | cells ow z c =>
   rw[hg]at h3 h4
   simp only at h3 h4
   have : Qkh 2 (c.drop off)=some [.int .i64 p.code,p.val]:=by
    have l1:off < c.length:=(List.getElem?_eq_some_iff.1 h3).1
    have l2:off+1 < c.length:=(List.getElem?_eq_some_iff.1 h4).1
    rw[List.drop_eq_getElem_cons l1,List.drop_eq_getElem_cons l2]
    rw[List.getElem?_eq_getElem l1]at h3
    rw[List.getElem?_eq_getElem l2]at h4
    rw[Option.some.inj h3,Option.some.inj h4]
    simp[Qkh]
   simp only[this]
   rfl
  | _=>rw[hg]at h3;cases h3
def RLI(a:Asks)(l:List (Int × List Int))(st0:List (List Int))(lv:Value)(os:List OpV)(e:Menv)(hq:Heap)(B μ:Nat)(k:Nat)(s:St):Prop:=∃ (t:Tr Value) (h1:Heap) (MB:Nat→Prop) (ps:List (Value × List Int)) (op:List Br) (i:Nat),s=⟨⟨59,t⟩,[dfr B],h1⟩∧t.get 6=some (.pointer (some ⟨B,0,none⟩))∧t.get 9=some (.pointer (some ⟨μ,0,none⟩))∧t.get 25=some lv∧t.get 26=some (.int .i64 (os.length:Int))∧t.get 27=some (.int .i64 (i:Int))∧i≤os.length∧k=os.length-i ∧
 Mach h1 MB μ e ps op∧Old hq h1∧(∀ c,MB c→hq.next≤c)∧Bd (ps.map (·.2))∧op.length≤i∧Wg a l st0 []=Wg a (l.drop i) (ps.map (·.2)) op
theorem Mv.oldq{MB MB':Nat→Prop}{hq h h':Heap}(a:Old hq h)(hm:∀ c,MB c→hq.next≤c)(m:Mv MB MB' h h'):Old hq h'∧∀ c,MB' c→hq.next≤c :=
 ⟨⟨Nat.le_trans a.1 m.next,fun c hc=>by rw[m.same c (Nat.lt_of_lt_of_le hc a.1) (fun q=>by have:=hm c q;omega),a.2 c hc]⟩,fun c hc=>by
  rcases m.sub c hc with q | q
  ·exact hm c q
  ·exact Nat.le_trans a.1 q⟩
section
attribute [local simp] Zn J3 Zw Xz Zf Qa Qgo Z0 Jn Zo Qfz Qb9 Qbi Qbk Q8 Yw Zi V0 V5 Ym Jx Qeb Jd Qbf Zs Qn Zp Zh Zc Qbm Yh Xh X6 Yj Q5 Qd Xg Qq Qe Xi Z9 Z2 aop X4 nth Ab.g0 gv gs Qx X2 aev evs evO X7 Tr.get_put St.put Tm.put flat flatA Z3 Xe Xc Xf Xa Xb Xd X9 Xj X8 Qt Qu Q6 X5 Qo Qf Q2 Qp Qg Q7 Yf Yn Ye Y0 Yi.putAll Xy X0 Qb Q3 Qy Qz X1 Q4 Qc Qw
set_option maxHeartbeats 1000000 in
theorem Xfx(b:Nat){h:Heap}{v sv:Value}{xs:List Int}{items:List (Value × List Int)}{e:Menv}{a:Asks}(s:SB h v xs)(hb:Bytes xs)(ss:Sl h 1 sv items.length (items.map (·.1)))(hn:items.length < 1000000)(its:ItsAt h items)(wo:Wo h e a)(K:AEnd→Heap→Prop)
  (hk:∀ h',Old h h'→K (.ret (.int .i64 (Xij a xs (items.map (·.2))))) h'):CallOK Tryd.prog (E b).G 18 [v,sv,.agg ⟨e.cells⟩] h K:=by
 refine Qe9 (E b) (Vg _ _) (Wp b) (V2 b) Vm (Wv b) (Zw b) Q8t Xjb Xgp rfl ?_
 obtain⟨hA,eA⟩:∃ hA,hA=h.push (.cells true 1 e.cells):=⟨_,rfl⟩
 obtain⟨hB,eB⟩:∃ hB,hB=hA.push (.cells true 1 [.int .i64 0]):=⟨_,rfl⟩
 have aA:Old h hA:=by rw[eA];exact Old.push _ _
 have aB:Old hA hB:=by rw[eB];exact Old.push _ _
 have aAB:=aA.trans aB
 have nA:hA.next=h.next+1:=by rw[eA];rfl
 have gA:hA.get h.next=some (.cells true 1 e.cells):=by rw[eA,Heap.get_push,if_pos rfl]
 have gB:hB.get hA.next=some (.cells true 1 [.int .i64 0]):=by rw[eB,Heap.get_push,if_pos rfl]
 have bxA:Xmn (.agg ⟨e.cells⟩) h=some (.pointer (some ⟨h.next,0,none⟩),hA):=by rw[eA];rfl
 have alB:Qdl (E b).toEnv 35 hA=some (.pointer (some ⟨hA.next,0,none⟩),hB):=by rw[eB];exact Qmr b hA
 have die:∀ (t:Tr Value) (h1:Heap) (z:Int),t.get 6=some (.pointer (some ⟨hA.next,0,none⟩))→Old hB h1→Xij a xs (items.map (·.2))=z→Xq5 (E b) (DD b) Qai K (.panic (pe z)) ⟨⟨59,t⟩,[dfr hA.next],h1⟩:=by
  intro t h1 z ht ho hz
  have g1:=ho.get gB
  refine Xr5 b ht g1 ?_
  rw[← hz]
  refine hk _ ((aAB.trans ho).set _ (by omega) (Heap.get_lt g1))
 simp[Qmr,Qk,Y1,bxA,-Qmr,alB,Q92]
 refine(Q7d b (s.old aAB) hb _ (fun hno h3 a3 => ?_) (fun l g1 g2 g3 lv os h3 q3 os3 a3 => ?_)).ok
 ·simp[Qmr,Qk,Y1]
  refine(Qm9 b h3 16 _ ?_).ok
  simp[Qmr,Qk,Y1]
  refine die _ h3 16 (by simp) a3 ?_
  rcases hno with q | q | ⟨l',q,q'⟩
  ·simp[Xij,q]
  ·unfold Xij
   split
   ·rfl
   ·rw[q]
  ·unfold Xij
   split
   ·rfl
   ·rw[q]
    simp only
    rw[if_pos q']
 ·have hF:Xij a xs (items.map (·.2))=Xrc a l (items.map (·.2)):=by
   unfold Xij
   rw[if_neg (by omega),g2]
   simp only
   rw[if_neg (by omega)]
  have ldA:Qgg h3 h.next 0 34=some (.agg ⟨e.cells⟩):=by rw[Qau ((aB.trans a3).get gA) (by rw[e.len];omega),List.drop_zero,List.take_of_length_le (by rw[e.len];exact Nat.le_refl _)]
  simp[Qmr,Qk,Y1]
  refine(Qs2 b h3 0 _ ?_).ok
  simp[Qmr,Qk,Y1,ldA]
  refine(Xwc b (ss.old (aAB.trans a3)) hn (its.old (aAB.trans a3)) _ (fun h4 μ MB ps p1 M4 a4 hmb => ?_) (fun p1 h4 a4 => ?_)).ok
  ·have hF1:Xij a xs (items.map (·.2))=Xuu (Wg a l (ps.map (·.2)) []):=by
    rw[hF]
    unfold Xrc
    rw[p1]
   have e1:∀ h,Qib (E b).toEnv 67 lv h=some (.int .i64 (os.length:Int)):=fun h=>Qdu (T67 b) os3.row.sl
   have hos:os.length≤64:=by rw[← Qvp os,q3];exact g3
   simp[Qmr,Qk,Y1,e1]
   refine Qs0 (RLI a l (ps.map (·.2)) lv os e h3 hA.next μ) os.length ⟨_,h4,MB,ps,[],0,rfl,?_,?_,?_,?_,?_,by omega,rfl,M4,a4,hmb,Xox p1 Bd.nil,by simp,by simp⟩ ?_
   ·simp
   ·simp
   ·simp
   ·simp
   ·simp
   rintro k s' ⟨t,h5,MB5,ps5,op5,i,rfl,t6,t9,t25,t26,t27,hi,rfl,M5,a5,hm5,bd5,ol5,hS⟩ _
   have w5:Wd h5 MB5 e a:=(wo.old (aAB.trans a3)).mb a5 hm5
   by_cases hlt:i < os.length
   ·have hlt':(i:Int) < (os.length:Int):=by omega
    obtain⟨p,hpi⟩:∃ p,os[i]? = some p:=⟨_,List.getElem?_eq_getElem hlt⟩
    have hli:l[i]? = some (p.code,p.data):=by
     rw[← q3,Qjy,List.getElem?_map,hpi]
     rfl
    have hld:l.drop i=(p.code,p.data)::l.drop (i+1):=by
     obtain⟨hl1,hl2⟩:=List.getElem?_eq_some_iff.1 hli
     rw[List.drop_eq_getElem_cons hl1,hl2]
    have hdl:p.data.length≤64:=Xm7 g2 (p.code,p.data) (List.mem_of_getElem? hli)
    have od:=(os3.old a5).data p (List.mem_of_getElem? hpi)
    obtain⟨bk,off,x1,x2⟩:=X0s (b:=b) (T67 b) Qfx (os3.old a5).row hpi
    have hw:IntKind.i64.wrap ((i:Int)+1)=((i+1:Nat):Int):=by rw[Qbe (by omega) (by omega)];omega
    obtain⟨h6,e6⟩:∃ h6,h6=(h5.push (.cells true 1 [.int .i64 0,.slice none 0 0])).set h5.next (some (.cells true 1 [.int .i64 p.code,p.val])):=⟨_,rfl⟩
    have g5:(h5.push (.cells true 1 [.int .i64 0,.slice none 0 0])).get h5.next=some (.cells true 1 [.int .i64 0,.slice none 0 0]):=by rw[Heap.get_push,if_pos rfl]
    have lt5:=Heap.get_lt g5
    have st5:Uv (h5.push (.cells true 1 [.int .i64 0,.slice none 0 0])) h5.next 0 [.int .i64 p.code,p.val]=some h6:=by
     rw[Qeo g5 (by simp),e6]
     rfl
    have a56:Old h5 h6:=by rw[e6];exact(Old.push _ _).set _ (Nat.le_refl _) lt5
    have g6:h6.get h5.next=some (.cells true 1 [.int .i64 p.code,p.val]):=by rw[e6,Heap.get_set _ _ _ _ lt5,if_pos rfl]
    have ld6:Qgg h6 h5.next 0 2=some (.agg ⟨[.int .i64 p.code,p.val]⟩):=by
     rw[Qau g6 (by simp)]
     rfl
    have dat:Bytes p.data:=Xhm hb g2 (p.code,p.data) (List.mem_of_getElem? hli)
    have id:Itm h6 MB5 p.val p.data:=⟨(od.sl.old a56),dat,fun c hc hm=>by
     have:=(os3.data p (List.mem_of_getElem? hpi)).out hc
     have:=hm5 c hm
     omega⟩
    have A6:At h6 MB5 μ e a ps5 op5 p.val p.data:=⟨M5.old a56,w5.old a56,id,by simpa using bd5.1,by omega,fun q hq=>bd5.2 q.2 (List.mem_map.2 ⟨q,hq,rfl⟩)⟩
    rw[hld]at hS
    simp[Qmr,Qk,Y1,t6,t9,t25,t26,t27,hlt',x1,x2,st5,ld6]
    refine X0d b A6 _ (fun st' op' q h7 m => ?_) (fun z q h7 m => ?_)
    ·obtain⟨ps7,MB7,rfl,M7,m7⟩:=m
     obtain⟨a7,hm7⟩:=Mv.oldq (a5.trans a56) hm5 m7
     obtain⟨bd7,ol7⟩:=Xvb q bd5 hdl
     simp[Qmr,Qk,Y1,t6,t9,t25,t26,t27,hw]
     refine⟨os.length-(i+1),by omega,_,h7,MB7,ps7,op',i+1,rfl,by simp[t6],by simp[t9],by simp[t25],by simp[t26],by simp,by omega,rfl,M7,a7,hm7,bd7,by omega,?_⟩
     rw[hS]
     simp only[Wg,q,Except.bind]
    ·obtain⟨MB7,m7⟩:=m
     obtain⟨a7,hm7⟩:=Mv.oldq (a5.trans a56) hm5 m7
     simp[Qmr,Qk,Y1,t6,t9,t25,t26,t27]
     refine die _ h7 z (by simp[t6]) (a3.trans a7) ?_
     rw[hF1,hS]
     simp only[Wg,q,Except.bind,Xuu]
   ·have hlt':¬ (i:Int) < (os.length:Int):=by omega
    have hie:i=l.length:=by
     have : l.length=os.length:=by rw[← q3,Qvp]
     omega
    rw[hie,List.drop_length]at hS
    simp only[Wg]at hS
    have hF2:Xij a xs (items.map (·.2))=if op5.length=0∧ps5.length=1∧isT ((ps5.map (·.2)).getD 0 [])=true then 0 else 16:=by
     rw[hF1,hS]
     simp only[Xuu,List.length_map]
    have g5:=(a3.trans a5).get gB
    have lt5:=Heap.get_lt g5
    obtain⟨⟨sv5,ov5,z5,r⟩,its5,low5⟩:=M5
    have c35:=r.c35
    have c34:=r.c34
    have lo:∀ hx,Qib (E b).toEnv 105 ov5 hx=some (.int .i64 (op5.length:Int)):=fun hx=>Qdu (Xv1 b) r.op.sl
    have ls:∀ hx,Qib (E b).toEnv 43 sv5 hx=some (.int .i64 (ps5.length:Int)):=fun hx=>Qdu (T43 b) r.st.sl
    by_cases ho:op5.length=0
    ·rw[ho]at lo
     have lo':∀ hx,Qib (E b).toEnv 105 ov5 hx=some (.int .i64 0):=lo
     by_cases hp1:ps5.length=1
     ·rw[hp1]at ls
      have ls':∀ hx,Qib (E b).toEnv 43 sv5 hx=some (.int .i64 1):=ls
      obtain⟨⟨v1,x1⟩,rfl⟩:∃ q,ps5=[q]:=by
       match ps5,hp1 with
       | [q],_=>exact⟨q,rfl⟩
      obtain⟨bk,o,y1,y2,y3, -⟩:=Xiw (T43 b) Qcj r.st.sl (k:=.i64) (i:=0) (by omega) (by simp)
      have y4:Vs h5 bk o=some v1:=by
       have:=y3 0 (by omega)
       simpa using this
      have i1:Itm h5 MB5 v1 x1:=its5 (v1,x1) (by simp)
      have lx:x1.length≤64:=bd5.2 x1 (by simp)
      simp only[List.map_cons,List.map_nil,List.getD_cons_zero,List.length_cons,List.length_nil,ho]at hF2
      simp[Qmr,Qk,Y1,t6,t9,t25,t26,t27,hlt',Qb1,c35,c34,lo',ls',y2,y4]
      refine(Xc4 b i1.sb (by omega) _ fun h6 a6 => ?_).ok
      cases ht:isT x1 with
      | true =>
       have g6:=a6.get g5
       have lt6:=Heap.get_lt g6
       have st6:Uv h6 hA.next 0 [.int .i64 0]=some (h6.set hA.next (some (.cells true 1 [.int .i64 0]))):=Qd1 g6 (by simp)
       simp[Qmr,Qk,Y1,-Qk,-Y1]
       refine(Qs2 b h6 16 _ ?_).ok
       simp[Qmr,Qk,Y1,-Qk,-Y1,t6,st6]
       refine Xz5 b (B:=hA.next) (z:=0) (by simp[t6]) ?_ ?_
       ·exact(Qas (z:=1) (ow:=true) (c:=[.int .i64 0]) (by rw[Heap.get_set _ _ _ _ lt6,if_pos rfl])).trans rfl
       ·rw[ht]at hF2
        simp at hF2
        rw[← hF2]
        exact hk _ (((aAB.trans a3).trans (a5.trans a6)).set _ (by omega) lt6)
      | false =>
       simp[Qmr,Qk,Y1]
       refine(Qm9 b h6 16 _ ?_).ok
       simp[Qmr,Qk,Y1]
       refine die _ h6 16 (by simp[t6]) (a3.trans (a5.trans a6)) ?_
       rw[hF2,ht]
       simp
     ·have hp1':¬ (ps5.length:Int)=1:=by omega
      simp[Qmr,Qk,Y1,t6,t9,t25,t26,t27,hlt',Qb1,c35,c34,lo',ls,hp1']
      refine(Qm9 b h5 16 _ ?_).ok
      simp[Qmr,Qk,Y1]
      exact die _ h5 16 (by simp[t6]) (a3.trans a5) (by rw[hF2,if_neg (fun q=>hp1 q.2.1)])
    ·have ho':¬ (op5.length:Int)=0:=by omega
     simp[Qmr,Qk,Y1,t6,t9,t25,t26,t27,hlt',Qb1,c35,c34,lo,ho,ho']
     refine(Qm9 b h5 16 _ ?_).ok
     simp[Qmr,Qk,Y1]
     exact die _ h5 16 (by simp[t6]) (a3.trans a5) (by rw[hF2,if_neg (fun q=>ho q.1)])
  ·simp[Qmr,Qk,Y1]
   exact die _ h4 16 (by simp) (a3.trans a4) (by rw[hF];unfold Xrc;rw[p1])
end
end Go.Proofs.YtgeeklmjfbiieaaDoor
end
noncomputable section
namespace Go.Proofs.YtgeeklmjfbiieaaDoor
open Go Go.Ab
set_option maxRecDepth 100000
theorem Xr6(k l:List Nat):(Bl.keyed k l).length=32:=by
 unfold Bl.keyed
 split <;> exact Qfs _
theorem Q3d(seed:List Nat):∀ n i,(Q7i seed n i).length=n*32
 | 0,_=>rfl
 | n+1,i=>by simp only[Q7i,List.length_append,Xr6,Q3d seed n];omega
theorem Xqr:Qe1.length=1024:=by unfold Qe1;rw[Q3d]
def X39:List Nat:=List.replicate 32 0
def Xyu(lk:Int):Asks:=⟨Qe1,X39,lk,Xqr,by simp[X39]⟩
def Xjx(ν:Nat)(lk:Int):Menv:=⟨.pointer (some ⟨ν,0,none⟩),X39.map u8v,lk,by simp[X39]⟩
theorem X16(b:Nat)(x0 x1 x2 x3:Int)(h:Heap):Jl (E b).toEnv 47 4 [(0,.int .u8 x0),(1,.int .u8 x1),(2,.int .u8 x2),(3,.int .u8 x3)] h=some (.slice (some ⟨h.next,0,none⟩) 4 4,h.push (.cells true 1 [.int .u8 x0,.int .u8 x1,.int .u8 x2,.int .u8 x3])):=by kernel_rfl
theorem Xtu(b:Nat){h:Heap}{B o n c:Nat}{z:Nat}{l:List Value}(hg:h.get B=some (.cells true z l)):Qv1 (E b).toEnv 47 47 (.slice (some ⟨B,o,none⟩) n c) h=some (.slice (some ⟨B,o,none⟩) n c,h):=by
 have h1:R47.desc=.slice 5:=(T47 b).d
 have h3:R5.desc=.int .u8:=by kernel_rfl
 simp only[Qv1,Qy5,h1,Xpe,h3,hg,beq_self_eq_true]
theorem Xu7(b ν:Nat)(lk:Int):Qzu (E b).toEnv 59 [(0,.pointer (some ⟨ν,0,none⟩)),(2,.int .i64 lk)]=some (.agg ⟨(Xjx ν lk).cells⟩):=by kernel_rfl
theorem X24(b:Nat){h:Heap}{B:Nat}(hg:h.get B=some (.cells true 1 (Qit.map u8v)))(laid:Ab.LaidIn h laidAll)(K:AEnd→Heap→Prop)(hk:K (.ret (.pointer (some ⟨h.next,0,none⟩))) (h.push (.cells true 1 (Qe1.map u8v)))):FnK Tryd.prog (E b).G 19 [.slice (some ⟨B,0,none⟩) 4 4] h K :=
 ⟨_,_,Xk4 (k:=10000) (m:=8) Vm Qz1 Qu4 Xff (Qwr _) laid Q2k (bs:=[B]) rfl (by simp) (fun k d r hd hr=>by
  cases k with
  | zero=>simp at hd hr;subst hd;subst hr;exact⟨hg,Qwr _⟩
  | succ k=>simp at hd) (Y7 (Q3h (by simp[emb])) Ji),Nat.le_succ _,hk⟩
theorem Xqs{h:Heap}(l:Ab.LaidIn h laidAll):Ab.LaidIn h Qat:=fun x hx=>l x (by
 simp only[Qat,laidAll,List.mem_cons,List.not_mem_nil,or_false]at hx ⊢
 rcases hx with rfl | rfl <;> simp)
theorem Xty{h:Heap}(l:Ab.LaidIn h laidAll):3≤h.next:=by
 have h1:=Heap.get_lt (l (0,W4) (by simp[laidAll]))
 have h2:=Heap.get_lt (l (1,Q8v) (by simp[laidAll]))
 have h3:=Heap.get_lt (l (2,Qjg) (by simp[laidAll]))
 simp only at h1 h2 h3
 omega
section
attribute [local simp] Qf9 Yh Xh X6 Yj Q5 Qd Xg Qq Qe Xi Qk Y1 Z9 Z2 aop X4 nth Ab.g0 gv gs Qx X2 aev evs evO X7 Tr.get_put St.put Tm.put flat flatA Z3 Xe Xc Xf Xa Xb Xd X9 Xj X8 Qt Qu Q6 X5 Qo Qf Q2 Qp Qg Q7 Yf Yn Ye Y0 Yi.putAll Xy X0 Qb Q3 Qy Qz X1 Q4 Qc Qw
theorem X2j(b:Nat){h:Heap}(laid:Ab.LaidIn h laidAll)(lk:Int)(K:AEnd→Heap→Prop)(hk:∀ h' ν,Wo h' (Xjx ν lk) (Xyu lk)→Old h h'→K (.ret (.agg ⟨(Xjx ν lk).cells⟩)) h'):FnK Tryd.prog (E b).G 64 [.int .i64 lk] h K:=by
 refine Qal (E b) (Wp b) (V2 b) Vm (Wv b) (Qak b) (Qf9 b) Xdj Xm0 Xjw rfl ?_
 obtain⟨z34,ez⟩:∃ z34:List Value,z34=.pointer none::List.replicate 32 (.int .u8 0) ++ [.int .i64 0]:=⟨_,rfl⟩
 obtain⟨hA,eA⟩:∃ hA,hA=h.push (.cells true 1 z34):=⟨_,rfl⟩
 have alA:Qdl (E b).toEnv 59 h=some (.pointer (some ⟨h.next,0,none⟩),hA):=by rw[eA,ez];exact Xx7 b h
 have gA:hA.get h.next=some (.cells true 1 z34):=by rw[eA,Heap.get_push,if_pos rfl]
 have aA:Old h hA:=by rw[eA];exact Old.push _ _
 obtain⟨hB,eB⟩:∃ hB,hB=hA.push (.cells true 1 (Qit.map u8v)):=⟨_,rfl⟩
 have bB:Jl (E b).toEnv 47 4 [(0,.int .u8 115),(1,.int .u8 101),(2,.int .u8 101),(3,.int .u8 100)] hA=some (.slice (some ⟨hA.next,0,none⟩) 4 4,hB):=by rw[eB];exact X16 b _ _ _ _ hA
 have gB:hB.get hA.next=some (.cells true 1 (Qit.map u8v)):=by rw[eB,Heap.get_push,if_pos rfl]
 have aB:Old hA hB:=by rw[eB];exact Old.push _ _
 simp[Qmx,Q3e,Xx7,Xns,Q80,X14,-Xx7,alA,bB,Xtu b gB]
 refine X24 b gB (Laid.old laid (aA.trans aB)) _ ?_
 obtain⟨hC,eC⟩:∃ hC,hC=hB.push (.cells true 1 (Qe1.map u8v)):=⟨_,rfl⟩
 rw[← eC]
 have gC:hC.get hB.next=some (.cells true 1 (Qe1.map u8v)):=by rw[eC,Heap.get_push,if_pos rfl]
 have aC:Old hB hC:=by rw[eC];exact Old.push _ _
 have gA2:hC.get h.next=some (.cells true 1 z34):=aC.get (aB.get gA)
 have l2:=Heap.get_lt gA2
 have cl:(Xjx hB.next lk).cells.length=34:=Menv.len _
 obtain⟨hD,eD⟩:∃ hD,hD=hC.set h.next (some (.cells true 1 (Xjx hB.next lk).cells)):=⟨_,rfl⟩
 have st:Uv hC h.next 0 (Xjx hB.next lk).cells=some hD:=by
  rw[Qeo gA2 (by rw[cl,ez];simp),eD]
  congr 4
  rw[ez,cl]
  simp
 have gD:hD.get h.next=some (.cells true 1 (Xjx hB.next lk).cells):=by rw[eD,Heap.get_set _ _ _ _ l2,if_pos rfl]
 have ld:Qgg hD h.next 0 34=some (.agg ⟨(Xjx hB.next lk).cells⟩):=by rw[Qau gD (by rw[cl];omega),List.drop_zero,List.take_of_length_le (by rw[cl];exact Nat.le_refl _)]
 have aD:Old h hD:=by rw[eD];exact((aA.trans aB).trans aC).set _ (Nat.le_refl _) l2
 have nB:h.next≠hB.next:=by rw[eB,eA];show h.next≠h.next+1+1;omega
 have gN:hD.get hB.next=some (.cells true 1 (Qe1.map u8v)):=by rw[eD,Heap.get_set _ _ _ _ l2,if_neg nB];exact gC
 simp[Qmx,Q3e,Xx7,Xns,Q80,X14,Xu7,cl,st,Qgo,ld]
 have lD:=Laid.old laid aD
 exact hk hD hB.next ⟨Xqs lD,fun c hc=>hc.elim,Xty lD,⟨hB.next,1,true,rfl,gN,fun q=>q⟩,rfl,rfl⟩ aD
theorem Xlm(b:Nat){h:Heap}{v sv:Value}{xs:List Int}{items:List (Value × List Int)}(laid:Ab.LaidIn h laidAll)(s:SB h v xs)(hb:Bytes xs)(ss:Sl h 1 sv items.length (items.map (·.1)))(hn:items.length < 1000000)(its:ItsAt h items)(K:AEnd→Heap→Prop)
  (hk:∀ h',Old h h'→K (.ret (.int .i64 (Xij (Xyu 9) xs (items.map (·.2))))) h'):CallOK Tryd.prog (E b).G 27 [v,sv] h K:=by
 refine Qe9 (E b) (Vg _ _) (Wp b) (V2 b) Vm (Wv b) (Yl b) Xam Xjk Xgf rfl ?_
 simp[Qg2,Qrl,Yl,Zw]
 refine(X2j b laid 9 _ fun h1 ν w a1 => ?_).ok
 simp[Qg2,Qrl,Yl,Zw]
 refine Xfx b (s.old a1) hb (ss.old a1) hn (its.old a1) w _ fun h2 a2 => ?_
 simp[Qg2,Qrl,Yl,Zw]
 exact hk h2 (a1.trans a2)
end
end Go.Proofs.YtgeeklmjfbiieaaDoor
end
noncomputable section
namespace Go.Proofs.YtgeeklmjfbiieaaDoor
open Go Go.Ab
set_option maxRecDepth 100000
end Go.Proofs.YtgeeklmjfbiieaaDoor
end
noncomputable section
namespace Go.Ab
variable{P:Program}{E:Env2 P}{C:CallP}{rd:Option Nat}{D0:CallF}
theorem kNN(F:St→Prop)(K:Exit→St→Prop)(s:St):Xgg F K .normal s=F s:=Eq.trans rfl rfl
theorem kNP(F:St→Prop)(K:Exit→St→Prop)(ch:List PanicEntry)(s:St):Xgg F K (.panic ch) s=K (.panic ch) s:=Eq.trans rfl rfl
theorem kRR(d:Option Tmp)(s:St)(K:Exit→St→Prop)(v:Value)(h:Heap):X0m d s K (.ret v) h=K .normal (s.put d v h):=Eq.trans rfl rfl
theorem kRP(d:Option Tmp)(s:St)(K:Exit→St→Prop)(ch:List PanicEntry)(h:Heap):X0m d s K (.panic ch) h=K (.panic ch) {s with h:=h}:=Eq.trans rfl rfl
theorem kTN(F:St→Prop)(K:Exit→St→Prop)(s:St):Qx6 F K .normal s=F s:=Eq.trans rfl rfl
theorem kTR(F:St→Prop)(K:Exit→St→Prop)(s:St):Qx6 F K .ret s=K .ret s:=Eq.trans rfl rfl
theorem kTX(F:St→Prop)(K:Exit→St→Prop)(id:Nat)(s:St):Qx6 F K (.exit id) s=K (.exit id) s:=Eq.trans rfl rfl
theorem kTP(F:St→Prop)(K:Exit→St→Prop)(ch:List PanicEntry)(s:St):Qx6 F K (.panic ch) s=K (.panic ch) s:=Eq.trans rfl rfl
theorem kBN(id:Nat)(K:Exit→St→Prop)(s:St):Qks id K .normal s=K .normal s:=Eq.trans rfl rfl
theorem kBR(id:Nat)(K:Exit→St→Prop)(s:St):Qks id K .ret s=K .ret s:=Eq.trans rfl rfl
theorem kBP(id:Nat)(K:Exit→St→Prop)(ch:List PanicEntry)(s:St):Qks id K (.panic ch) s=K (.panic ch) s:=Eq.trans rfl rfl
theorem kBX(id id':Nat)(K:Exit→St→Prop)(s:St):Qks id K (.exit id') s=if id'=id then K .normal s else K (.exit id') s:=Eq.trans rfl rfl
theorem kAM(y:Code)(K:Exit→St→Prop)(t:Tm)(ds:List Deferred)(h:Heap):X18 E C D0 rd y K ⟨t,ds,h⟩=Jp E C D0 rd y ⟨t,ds,h⟩ K:=Eq.trans rfl rfl
theorem kEN(D:Qdo)(fn:Func)(K:AEnd→Heap→Prop)(s:St):Xq5 E D fn K .normal s=Qkq E D fn K .returning s:=Eq.trans rfl rfl
theorem kER(D:Qdo)(fn:Func)(K:AEnd→Heap→Prop)(s:St):Xq5 E D fn K .ret s=Qkq E D fn K .returning s:=Eq.trans rfl rfl
theorem kON(ops:List Oper)(K:Exit→St→Prop)(t:Tm)(ds:List Deferred)(h:Heap):Q2o E C rd ops K [] ⟨t,ds,h⟩=K .normal ⟨t,ds,h⟩:=Eq.trans rfl rfl
theorem kOC(ops:List Oper)(K:Exit→St→Prop)(o:Oper)(r:List Oper)(t:Tm)(ds:List Deferred)(h:Heap):Q2o E C rd ops K (o::r) ⟨t,ds,h⟩ =
 (match X4 ops t o with
  | some true=>Yj E C rd o ⟨t,ds,h⟩ (Xgg (Q2o E C rd ops K r) K)
  | some false=>if Ww ⟨t,ds,h⟩ o.dst then Q2o E C rd ops K r (St.put ⟨t,ds,h⟩ o.dst Xj h)else False
  | none=>False):=Eq.trans rfl rfl
theorem kCS(s:St)(K:Exit→St→Prop):Jp E C D0 rd .skip s K=K .normal s:=Eq.trans rfl rfl
theorem kCR(s:St)(K:Exit→St→Prop):Jp E C D0 rd .ret s K=K .ret s:=Eq.trans rfl rfl
theorem kCE(id:Nat)(s:St)(K:Exit→St→Prop):Jp E C D0 rd (.exit id) s K=K (.exit id) s:=Eq.trans rfl rfl
end Go.Ab
end
noncomputable section
namespace Go.Proofs.YtgeeklmjfbiieaaDoor
open Go Go.Ab
set_option maxRecDepth 100000
theorem SB.push{h:Heap}{xs:List Int}(hl:xs.length < 1000000):SB (h.push (.cells true 1 (xs.map i8))) (.slice (some ⟨h.next,0,none⟩) xs.length xs.length) xs :=
 (Own.new (n0:=0) (Nat.zero_le _) (by rw[Heap.get_push,if_pos rfl]) (by simp) (by unfold Qaz;omega) (.inr rfl)).sl
theorem Xhw(b:Nat)(h:Heap)(v:Value)(hv:Xjn v=true):Jl (E b).toEnv 43 1 [(0,v)] h=some (.slice (some ⟨h.next,0,none⟩) 1 1,h.push (.cells true 1 [v]))∧Sl (h.push (.cells true 1 [v])) 1 (.slice (some ⟨h.next,0,none⟩) 1 1) 1 [v]:=by
 obtain⟨hnt,hcl⟩:=Q0z hv
 refine⟨Q7l (T43 b) (z:=1) Qcj (by omega) (by omega) hnt (ys:=[v]) (by rw[hcl]) rfl,?_⟩
 exact(Own.new (n0:=0) (z:=1) (Nat.zero_le _) (by rw[Heap.get_push,if_pos rfl]) rfl (by decide) (.inr rfl)).sl
end Go.Proofs.YtgeeklmjfbiieaaDoor
end
