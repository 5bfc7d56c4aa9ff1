import Derived.Test.YtapodfgjkmddlaaGreatDoorPdA
import Derived.Test.YtapodfgjkmddlaaGreatDoorBlA
import Derived.Test.YtapodfgjkmddlaaGreatDoorAbH
import Derived.Test.YtapodfgjkmddlaaGreatDoorLuL
set_option linter.all false
noncomputable section
namespace Go.Proofs.YtapodfgjkmddlaaGreatDoor
open Go Go.Ab
set_option maxRecDepth 100000
def Js0(v fv:Value)(l:List (Value × List Int))(p:List Int)(h:Heap)(k:Nat)(s:St):Prop:=∃ (t:Tr Value) (h1:Heap) (o:Value) (i:Nat),s=⟨⟨25,t⟩,[],h1⟩/\t.get 0=some o/\t.get 2=some fv/\t.get 13=some v/\t.get 14=some (.int .i64 (l.length:Int))/\t.get 15=some (.int .i64 (i:Int))/\i<=l.length/\k=l.length-i/\Old h h1/\OB h1 h.next o (p++(l.take i).flatMap fun x=>Yiq x.2)
attribute [local simp] Xj kON kOC Xn kNN kNP kRR kEN kER Q6 X2 Yn Ya aop Qg nth Ab.g0 gv gs Qd Qc aev evs evO Qh Tr.get_put St.put Tm.put flat flatA Y9 Qm Qp Qn Qo Qk Ql Qj Qt Qi Q7 Q8 kTN kTR kTX kTP kBN kBR kBX kBP kCS kCR kCE kAM Xm.putAll Qv Q0 Q9 Wj Yq Y1 ldv Yk Vi Nat.testBit loadAt Ab.runT Zc Yl Ys 
section
attribute [local simp] Qm3 Qut Qdz Qqg Jy Qq6 Z8 Qnz Qo6
def Joa(b:Nat){h:Heap}(laid:Ab.LaidIn h laidAll){bv v:Value}{xs:List Int}{l:List (Value × List Int)}(sb:SB h bv xs)(s:Sl h 1 v l.length (l.map (·.1)))(its:ItsAt h l)(hn:l.length < 1000000)(hl2:∀ p ∈ l,p.2.length < 1000000)(hl:xs.length+(l.flatMap fun x=>Yiq x.2).length < 900000000)
  (K:KP) (hk:∀ w h',OB h' h.next w (xs++(X9z l.length++l.flatMap fun x=>Yiq x.2))->Old h h'->K (.ret w) h') :
  FK b 82 [bv,v,.func (.func 81) #[] #[]] h K:=by
 refine F3 b (Qdz b) Ygk rfl ?_;have len:∀ hx,Qkc (E b).toEnv 66 v hx=some (.int .i64 (l.length:Int)):=fun hx=>Qa0 (T66 b) s;simp[len];refine Y4p b laid sb (n:=l.length) (by omega) (by omega) _ fun v0 h0 o0 a0 => ?_;have il:=Qyo l.length;simp[len];refine Qdf (Js0 v (.func (.func 81) #[] #[]) l (xs++X9z l.length) h) l.length ⟨_,h0,v0,0,rfl,by simp,by simp,by simp,by simp,by simp,by omega,rfl,a0,by simpa using o0⟩ ?_;rintro k s' ⟨t,h1,o,i,rfl,t0,t2,t13,t14,t15,hi,rfl,hold,ob⟩ _;have fl:=Z2t (fun x:Value × List Int=>Yiq x.2) l i;by_cases hlt:i < l.length
 ·have hlt':(i:Int) < (l.length:Int):=by omega
  obtain⟨⟨xv,y⟩,hx⟩:∃ x,l[i]? = some x:=⟨_,List.getElem?_eq_getElem hlt⟩;have hw:=wS (i:=i) (by omega);obtain⟨bk,off, -,x1,x3, -⟩:=Q7o (T66 b) Qic (s.old hold) (k:=.i64) (i:=(i:Int)) (by omega) (by omega);have x2:Yw h1 bk off=some xv:=by
   have:=x3 0 (by omega);simpa[hx]using this
  have hm:=List.mem_of_getElem? hx;obtain⟨sx, -⟩:=its (xv,y) hm;have ly:=hl2 (xv,y) hm;simp[t0,t2,t13,t14,t15,hlt',x1,x2];refine Jaf b (Laid.old laid hold) ob.sl (sx.old hold) (by simp only[ae];omega) ly _ fun w h2 o2 a2 => ?_;simp[t0,t2,t13,t14,t15,hw];refine⟨l.length-(i+1),by omega,_,h2,w,i+1,rfl,by simp,by simp[t2],by simp[t13],by simp[t14],by simp,by omega,rfl,hold.trans a2,?_⟩;rw[Y7e hx,<- aM];exact o2.low hold.1
 ·have hlt':¬ (i:Int) < (l.length:Int):=by omega
  have : i=l.length:=by omega
  subst this;rw[bc,aM]at ob;simp[t0,t2,t13,t14,t15];exact hk o h1 ob hold
end
def SpM.new{h:Heap}{mb:Nat}(g:h.get mb=some (.map #[] 0)):SpM h mb 0 (Qyx []):=⟨[],0,g,by simp,fun p=>by simp[Qyx],by simp,by simp,by omega⟩
section
def Z9n(b:Nat){h:Heap}(K:KP)(hk:∀ h' pb mb,h'.get pb=some (.cells true 1 [.int .i64 0,.slice none 0 0,.map (some mb)])->SpM h' mb 0 (Qyx [])->Old h h'->h.next<=pb->h.next<=mb->pb≠mb->K (.ret (pO pb 0)) h'):CallOK Tryz.prog (E b).G 5 [.int .i64 0] h K:=by
 refine Qh3 (E b) (Vy _ _) (Uf b) (Jd b) mixed (Ui b) (Qaa b) Zph.1 Zph.2.1 Zph.2.2 rfl ?_;have mk:Q3w (E b).toEnv 52 none h=some (.map (some h.next),h.push (.map #[] 0)):=Zk3 (te:=3) (Jex b) (by kernel_rfl);have bd:Qn1 (E b).toEnv 55 [(0,.int .i64 0),(2,.map (some h.next))]=some (.agg ⟨[.int .i64 0,.slice none 0 0,.map (some h.next)]⟩):=kR
 obtain⟨h1,e1⟩:∃ h1,h1=h.push (.map #[] 0):=⟨_,rfl⟩;rw[<- e1]at mk;have a1:=Qon e1;have g1:h1.get h.next=some (.map #[] 0):=by rw[e1,Heap.get_push,if_pos rfl]
 obtain⟨h2,e2,a2,g2⟩:=Q2n h1 [.int .i64 0,.slice none 0 0,.map (some h.next)];have bx:=Qw8 e2;have n1:=Q8i e1;have m1:Yox false [.int .i64 0,.int .i64 1048576]=some (.int .i64 0):=kR
 have m2:Yox true [.int .i64 0,.int .i64 0]=some (.int .i64 0):=kR
 simp[Yfe,Z3i,Qaa,m1,m2,mk,bd,bx];exact hk h2 h1.next h.next g2 (SpM.new (a2.get g1)) (a1.trans a2) (by omega) (ab _) (by omega)
def Jjp(b:Nat){h:Heap}{pb z:Nat}{lv mv:Value}(gp:h.get pb=some (.cells true z [.int .i64 0,lv,mv]))(w:Int)(K:KP)(hk:K (.ret (.int .i64 0)) h):FK b 26 [pO pb 0,.int .i64 w] h K:=by
 refine F3 b (V8 b) X6e rfl ?_;have c0:Yw h pb 0=some (.int .i64 0):=by rw[Yi gp];rfl
 have w0:IntKind.i64.wrap 0=0:=by decide
 have w1:IntKind.i64.wrap 1000=1000:=by decide
 have w2:IntKind.i64.wrap 999=999:=by decide
 simp[Q9i,Yfz,V8,X47,Jlw,Vz,Z4a,Qec,c0,w0,w1,w2];exact hk
end
def Zvx:∀ {l:List (Value × List Int)},(∀ p ∈ l,p.2.length<=64)->(l.flatMap fun x=>Yiq x.2).length<=73*l.length
 | [],_=>by simp
 | x::l,h=>by
  have ih:=Zvx (l:=l) fun p hp=>h p (aN _ hp);have hx:=h x (bo ..);have hi:=Qyo x.2.length;have : (Yiq x.2).length<=73:=by
   simp only[Yiq,ae];omega
  rw[d9,ae,aS];omega
def Jvb(h:Heap)(iv:Value)(l:List InV)(k:Nat)(s:St):Prop:=∃ (t:Tr Value) (g:Heap) (o:Value) (ys:List Int) (i:Nat),s=⟨⟨29,t⟩,[],g⟩/\t.get 4=some o/\t.get 17=some iv/\t.get 18=some (.int .i64 (l.length:Int))/\t.get 19=some (.int .i64 (i:Int))/\i<=l.length/\k=l.length-i/\Old h g/\SB g o ys/\ys.length<=4096+1200*i
section
attribute [local simp] Q42 V4 Qfr
set_option maxHeartbeats 1000000 in
def Jqj(b:Nat){h:Heap}(laid:Ab.LaidIn h laidAll){iv ov:Value}{ins:List InV}{outs:List OutV}{lock:Int}(si:Ins h iv ins)(so:Outs h ov outs)(hc:Qzx (ptx ins outs lock)=0)(K:KP)
  (hk:∀ v ys h',SB h' v ys->ys.length<=100000->Old h h'->K (.ret (.tuple #[v,.int .i64 0])) h'):FK b 52 [.agg ⟨txC iv ov lock⟩] h K:=by
 refine F3 b (Q42 b) Z3c rfl ?_;have tk:=Xzb hc;obtain⟨hA,eA,aA,gA⟩:=Q2n h ((txC iv ov lock));have bx:=Qw8 eA;have ldt:Wy hA h.next 0 3=some (.agg ⟨txC iv ov lock⟩):=by rw[V2 gA (by simp[txC])];rfl
 have len:∀ hx,Qkc (E b).toEnv 28 iv hx=some (.int .i64 (ins.length:Int)):=fun hx=>Qa0 (T28 b) si.s;have hn:ins.length<=8:=by have:=tk.insN.2;simpa[ptx]using this
 simp[Q61,X00,Xdm,Vw,Ym,Vm,Qcq,Qdn,U7,Qbm,Qdz,bx,ldt];refine Z12 b (Laid.old laid aA) (lock:=lock) (si.old aA) (so.old aA) _ (fun h' hb=>absurd hc hb) fun v h1 _ o1 a1 => ?_;have c0:Yw h1 h.next 0=some iv:=by rw[Yi (a1.get gA)];rfl
 simp[Q61,X00,Xdm,Vw,Ym,Vm,Qcq,Qdn,U7,Qbm,Qdz,c0,len];refine Qdf (Jvb h iv ins) ins.length ⟨_,h1,v,_,0,rfl,by simp,by simp,by simp,by simp,by omega,rfl,aA.trans a1,o1.sl,by have:=Y2u tk;omega⟩ ?_;rintro k s' ⟨t,g,o,ys,i,rfl,t4,t17,t18,t19,hi,rfl,ag,so1,hy⟩ _;by_cases hlt:i < ins.length
 ·have hlt':(i:Int) < (ins.length:Int):=by omega
  have hw:=wS (i:=i) (by omega);obtain⟨x,hx⟩:∃ x,ins[i]? = some x:=⟨_,List.getElem?_eq_getElem hlt⟩;have hm:=List.mem_of_getElem? hx;obtain⟨bk,off, -,x1,x2, -⟩:=Xhr (b:=b) (T28 b) Qeo (si.old ag).s hx;obtain⟨hC,g2,alC,stC,stC',gX,a2,m2⟩:=Quc b (Yta b) (l:=x.cells) (by rw[x.len,Qeo]) (by kernel_rfl) g;have xa:=((si.old ag).old a2).a x hm;have c33:Yw g2 g.next 33=some x.wv:=by rw[Yi gX,Jk0]
  have tw:=tk.wit x.p (am.2 ⟨x,hm,rfl⟩);have tl:x.its.length<=16:=by have:=tw.1;simpa[InV.p]using this
  have tb:∀ p ∈ x.its,p.2.length<=64:=fun p hp=>tw.2 p.2 (am.2 ⟨p,hp,rfl⟩);have il:=Zvx tb;have ib:=Qyo x.its.length;simp[Q61,X00,Xdm,Vw,Ym,Vm,Qcq,Qdn,U7,Qbm,Qdz,t4,t17,t18,t19,hlt',x1,x2,alC,stC,stC',x.len,c33];refine Joa b (Laid.old laid (ag.trans a2)) (so1.old a2) xa.w xa.i xa.n xa.l (by omega) _ fun w h2 o2 a3 => ?_;simp[Q61,X00,Xdm,Vw,Ym,Vm,Qcq,Qdn,U7,Qbm,Qdz,t4,t17,t18,t19,hw];exact⟨ins.length-(i+1),by omega,_,h2,w,_,i+1,rfl,by simp,by simp[t17],by simp[t18],by simp,by omega,rfl,(ag.trans a2).trans a3,o2.sl,by simp only[ae];omega⟩
 ·have hlt':¬ (i:Int) < (ins.length:Int):=by omega
  simp[Q61,X00,Xdm,Vw,Ym,Vm,Qcq,Qdn,U7,Qbm,Qdz,t4,t17,t18,t19,hlt'];exact hk o ys g so1 (by omega) ag
def Jax(b:Nat){h:Heap}(laid:Ab.LaidIn h laidAll){iv ov:Value}{ins:List InV}{outs:List OutV}{lock:Int}(si:Ins h iv ins)(so:Outs h ov outs)(hc:Qzx (ptx ins outs lock)=0)(K:KP)
  (hk:∀ (n:Int) h',Old h h'->K (.ret (.int .i64 n)) h'):FK b 23 [.agg ⟨txC iv ov lock⟩] h K:=by
 refine F3 b (Wk b) Zgj rfl ?_;have tk:=Xzb hc;obtain⟨hA,eA,aA,gA⟩:=Q2n h ((txC iv ov lock));have bx:=Qw8 eA;have ldt:∀ {hx:Heap},Old hA hx->Wy hx h.next 0 3=some (.agg ⟨txC iv ov lock⟩):=fun a=>by rw[V2 (a.get gA) (by simp[txC])];rfl
 simp[Q6m,Xyi,Wk,Xja,bx,ldt (Old.refl _)];refine Z12 b (Laid.old laid aA) (lock:=lock) (si.old aA) (so.old aA) _ (fun h' hb=>absurd hc hb) fun v h1 _ o1 a1 => ?_;simp[Q6m,Xyi,Wk,Xja,ldt a1];refine Jqj b (Laid.old laid (aA.trans a1)) (si.old (aA.trans a1)) (so.old (aA.trans a1)) hc _ fun w ys h2 s2 l2 a2 => ?_;have e1:=fun hx=>Qmi (b:=b) (h1:=hx) o1.sl;have e2:=fun hx=>Qmi (b:=b) (h1:=hx) s2;simp[Q6m,Xyi,Wk,Xja,e1,e2];exact hk _ h2 ((aA.trans a1).trans a2)
end
def STX(h:Heap)(v1 v2:Value)(n:Nat)(k:Nat)(s:St):Prop:=∃ (t:Tr Value) (g:Heap) (i:Nat),s=⟨⟨27,t⟩,[],g⟩/\t.get 0=some v1/\t.get 1=some v2/\t.get 5=some (.int .i64 (i:Int))/\i<=n/\k=n-i/\Old h g
section
attribute [local simp] Qm6 Qv3 Vd Qp2 Uw Qp8 Qpb V4 Qfn Qnc Qnd Qne
set_option maxHeartbeats 1000000 in
def Z9j(b:Nat){h:Heap}{v1 v2:Value}{l m:List TxV}(A:TxsAt h v1 l)(B:TxsAt h v2 m)(e:l.map TxV.p=m.map TxV.p)(K:KP)(hk:∀ h',Old h h'->K (.ret (.bool true)) h') :
  FK b 10 [v1,v2] h K:=by
 refine F3 b (Vd b) Ytu rfl ?_;have hl:l.length=m.length:=by have:=congrArg List.length e;simpa using this
 have hn:=A.n;have len1:∀ hx,Qkc (E b).toEnv 37 v1 hx=some (.int .i64 (l.length:Int)):=fun hx=>Qa0 (T37 b) A.s;have len2:∀ hx,Qkc (E b).toEnv 37 v2 hx=some (.int .i64 (l.length:Int)):=fun hx=>by rw[hl];exact Qa0 (T37 b) B.s
 simp[len1,len2];refine Qdf (STX h v1 v2 l.length) l.length ⟨_,h,0,rfl,by simp,by simp,by simp,by omega,rfl,Old.refl _⟩ ?_;rintro k s' ⟨t,g,i,rfl,t0,t1,t5,hi,rfl,ag⟩ -;by_cases hlt:i < l.length
 ·have hlt':(i:Int) < (l.length:Int):=by omega
  obtain⟨x,hx⟩:∃ x,l[i]? = some x:=⟨_,List.getElem?_eq_getElem hlt⟩;obtain⟨y,hy⟩:∃ y,m[i]? = some y:=⟨_,List.getElem?_eq_getElem (by omega)⟩;have xy:x.p=y.p:=by
   have:=congrArg (fun l=>l[i]?) e;simpa[hx,hy]using this
  have A1:=A.old ag;have B1:=B.old ag;obtain⟨b1,o1,x1,x2⟩:=Zvl (b:=b) (T37 b) Qvs A1.s hx;obtain⟨b2,o2,y1,y2⟩:=Zvl (b:=b) (T37 b) Qvs B1.s hy;have x2:Wy g b1 o1 3=some (.agg ⟨txC x.iv x.ov x.lock⟩):=x2;have y2:Wy g b2 o2 3=some (.agg ⟨txC y.iv y.ov y.lock⟩):=y2;have xa:=A1.a x (List.mem_of_getElem? hx);have ya:=B1.a y (List.mem_of_getElem? hy);have hw:=wS (i:=i) (by omega);obtain⟨_,g2,c1,n1,rfl,a2⟩:=Jfj b (lock:=x.lock) (lock2:=y.lock) xa.i xa.o ya.i ya.o (fun r h'=>r=.ret (.bool true)/\Old g h') (fun h' a=>⟨by
   have : ptx x.ins x.outs x.lock=ptx y.ins y.outs y.lock:=xy;rw[decide_eq_true this],a⟩)
  obtain⟨_,_,z1,z2⟩:=Zvl (b:=b) (T37 b) Qvs (A1.old a2).s hx;rw[x1]at z1;cases z1;obtain⟨_,_,w1,w2⟩:=Zvl (b:=b) (T37 b) Qvs (B1.old a2).s hy;rw[y1]at w1;cases w1;have z2:Wy g2 b1 o1 3=some (.agg ⟨txC x.iv x.ov x.lock⟩):=z2;have w2:Wy g2 b2 o2 3=some (.agg ⟨txC y.iv y.ov y.lock⟩):=w2;simp[t0,t1,t5,len1,hlt,hlt'];refine Qem [⟨30,[.agg ⟨txC x.iv x.ov x.lock⟩,.agg ⟨txC y.iv y.ov y.lock⟩],g,.bool true,g2,true⟩] ?_ X6r Ydj X3y (by simp[Yev,Ymo,t0,t1,t5,x1,x2,y1,y2];first | exact⟨rfl,rfl⟩ | rfl) ?_ ?_
  ·exact zk1 ⟨c1,n1,fun _ c hc=>a2.2 c hc⟩
  ·simp[Qm7,t0,t1,t5,x1,x2,y1,y2,z2,w2,Yg3 xa.i.s xa.o.s,Yg3 ya.i.s ya.o.s]
  simp[t0,t1,t5,hw];exact⟨l.length-(i+1),by omega,_,g2,i+1,rfl,by simp[t0],by simp[t1],by simp,by omega,rfl,ag.trans a2⟩
 ·have hlt':¬ (i:Int) < (l.length:Int):=by omega
  simp[t0,t1,t5,len1,hlt'];exact hk g ag
end
structure PoolS (h:Heap) (pb mb:Nat) (N:Int) (lv:Value) (W:List WtV):Prop where
 gp:h.get pb=some (.cells true 1 [.int .i64 0,lv,.map (some mb)])
 o:Own h 0 37 lv W.length (Qe2 W)
 sp:SpM h mb N (Qyx W)
 ta:∀ w ∈ W,TxAt h w.tx
 il:∀ w ∈ W,w.tx.ins.length<=8
 hid:∀ w ∈ W,w.id=dgF idS w.tx.p
 hf:∀ w ∈ W,0<=w.fee/\w.fee<=1125899906842624
 hd:W.Pairwise fun x y=>x.id≠y.id
 pm:pb≠mb
 lp:J4 lv≠some pb
 lm:J4 lv≠some mb
 sep:∀ w ∈ W,∀ v ∈ Y1c w.tx,∀ c,J4 v=some c->c≠pb/\c≠mb/\J4 lv≠some c
 hN:0<=N
def PoolS.old{h h':Heap}{pb mb:Nat}{N:Int}{lv:Value}{W:List WtV}(S:PoolS h pb mb N lv W)(a:Old h h'):PoolS h' pb mb N lv W :=
 ⟨a.get S.gp,S.o.keep fun c _ hc=>a.2 c hc,S.sp.old a,fun w hw=>(S.ta w hw).old a,S.il,S.hid,S.hf,S.hd,S.pm,S.lp,S.lm,S.sep,S.hN⟩
def SpM.congr{h:Heap}{mb:Nat}{N:Int}{q q':Pt->Bool}(s:SpM h mb N q)(e:∀ r,q r=q' r):SpM h mb N q':=by
 have : q=q':=funext e;rw[<- this];exact s
def Z34{W:List WtV}{i:Nat}{x:WtV}(hx:W[i]? = some x)(r:Pt):Qyx (W.take (i+1)) r=(Qyx (W.take i) r || x.tx.ins.any fun y=>decide (y.pt=r)):=by
 rw[aQ,hx];simp[Qyx]
def Zwz{ins:List InV}{j:Nat}{y:InV}(hy:ins[j]? = some y)(r:Pt):((ins.take (j+1)).any fun y=>decide (y.pt=r))=(((ins.take j).any fun y=>decide (y.pt=r)) || decide (r=y.pt)):=by
 rw[aQ,hy];simp[eq_comm]
structure KPr (t:Tr Value) (pb:Nat) (n0:Int) (lv:Value) (n i:Nat):Prop where
 t0:t.get 0=some (pO pb 0)
 t5:t.get 5=some (.int .i64 n0)
 t31:t.get 31=some lv
 t32:t.get 32=some (.int .i64 (n:Int))
 t33:t.get 33=some (.int .i64 (i:Int))
def KPO(hx:Heap)(pb mb:Nat)(N n0:Int)(lv:Value)(W:List WtV)(k:Nat)(s:St):Prop:=∃ (t:Tr Value) (g:Heap) (i:Nat) (N1:Int),s=⟨⟨64,t⟩,[],g⟩/\KPr t pb n0 lv W.length i/\i<=W.length/\k=W.length-i/\But mb hx g/\SpM g mb N1 (Qyx (W.take i))/\0<=N1/\N1<=N+8*(i:Int)
def KPI(hx:Heap)(pb mb:Nat)(N1 n0:Int)(lv:Value)(W:List WtV)(i:Nat)(x:WtV)(k:Nat)(s:St):Prop:=∃ (t:Tr Value) (g:Heap) (j:Nat),s=⟨⟨64,t⟩,[],g⟩/\KPr t pb n0 lv W.length i/\t.get 39=some x.tx.iv/\t.get 40=some (.int .i64 (x.tx.ins.length:Int))/\t.get 41=some (.int .i64 (j:Int))/\j<=x.tx.ins.length/\k=x.tx.ins.length-j/\But mb hx g/\SpM g mb (N1+j) (fun r=>Qyx (W.take i) r || (x.tx.ins.take j).any fun y=>decide (y.pt=r))
def Jnm(b:Nat){h:Heap}{mb:Nat}{N:Int}{q:Pt->Bool}(s:SpM h mb N q):∃ h',Yf0 (E b).toEnv 52 (.map (some mb)) h=some (.tuple #[],h')/\SpM h' mb N (fun _=>false)/\(∀ c,c≠mb->h'.get c=h.get c)/\h'.next=h.next:=by
 obtain⟨l,clk,g, -, -, -, -,hc⟩:=s;have lt:=Heap.get_lt g;refine⟨h.set mb (some (.map #[] clk)),?_,⟨[],clk,by rw[gY lt,if_pos rfl];rfl,by simp,by simp,by simp,by simp,hc⟩,fun c hc=>by rw[gY lt,if_neg (Ne.symm hc)],rfl⟩;have e:(E b).toEnv.ty.get 52=some R52:=Jex b;simp only[Yf0,e,g]
section
attribute [local simp] Qci Qfv J8 Qbn Qnv Y2 Qfl Qyh Qj6 Qbt Ym Vm Qcq Qdn Yx Uh 
set_option maxHeartbeats 4000000 in
def Jla(b:Nat){h:Heap}{pb mb B:Nat}{N:Int}{lv:Value}{W:List WtV}{z:TxV}(S:PoolS h pb mb N lv W)(hn:W.length<=1000)(hM:N<=900000000)(tz:TxAt h z)(gB:h.get B=some (.cells true 1 (txC z.iv z.ov z.lock)))(hB:B≠pb/\B≠mb/\J4 lv≠some B)(sz:∀ v ∈ Y1c z,∀ c,J4 v=some c->c≠pb/\c≠mb/\J4 lv≠some c)(K:KP)
  (hk:∀ lv' h' N' (n:Int),PoolS h' pb mb N' lv' (W.filter fun x => !Yeh z.p x)->Jvv pb mb lv h h'->J4 lv'=J4 lv->N'<=N+8*W.length->K (.ret (.int .i64 n)) h'):CallOK Tryz.prog (E b).G 27 [pO pb 0,.func (.func 28) #[] #[pO B 0]] h K:=by
 refine Qh3 (E b) (Vy _ _) (Uf b) (Jd b) mixed (Ui b) (J8 b) Ycb.1 Ycb.2.1 Ycb.2.2 rfl ?_;obtain⟨hA,eA,aA,gA⟩:=Q2n h [.func (.func 28) #[] #[pO B 0]];have bx:Zzo (.func (.func 28) #[] #[pO B 0]) h=some (pO h.next 0,hA):=by rw[eA];rfl
 have len1:∀ hx,Qkc (E b).toEnv 53 lv hx=some (.int .i64 (W.length:Int)):=fun hx=>Qa0 (T53 b) S.o.sl;have SA:=S.old aA;have lpb:=Heap.get_lt S.gp;have lmb:mb < h.next:=by obtain⟨_,_,g,_⟩:=S.sp;exact Heap.get_lt g
 have c1:Yw hA pb 1=some lv:=by rw[Yi SA.gp];rfl
 simp[Qjn,Qec,bx,c1,len1];have kn:(W.filter fun x => !(!Yeh z.p x))=W.filter (Yeh z.p):=by simp
 refine Jjf b (Qui b) (cap:=[pO h.next 0]) (Yeh z.p) SA.o (by omega) (bn _) (fun x hx h1 b1 K hk => ?_) _ fun lv' h1 o1 b1 e1 => ?_
 ·have lvn:J4 lv≠some h.next:=fun e=>by have:=(S.o.from e).2;omega
  refine Jiv b (iv:=z.iv) (ov:=z.ov) (B:=B) (C:=h.next) (lock:=z.lock) (outs:=z.outs) ((SA.ta x hx).keepV fun v hv c hc hl=>b1.2 c hl (S.sep x hx v hv c hc).2.2) ((tz.old aA).keepV fun v hv c hc hl=>b1.2 c hl (sz v hv c hc).2.2).i ?_ ?_ K hk
  ·rw[b1.2 B (Heap.get_lt (aA.get gB)) hB.2.2];exact aA.get gB
  ·rw[b1.2 _ (Heap.get_lt gA) lvn];exact gA
 obtain⟨W',eW⟩:∃ W',W'=W.filter fun x => !Yeh z.p x:=⟨_,rfl⟩;rw[<- eW]at o1 hk;have lW:W'.length<=W.length:=by rw[eW];exact cL _ _
 have sub:∀ w ∈ W',w ∈ W:=fun w hw=>by rw[eW]at hw;exact(bW.1 hw).1
 have gp1:h1.get pb=some (.cells true 1 [.int .i64 0,lv,.map (some mb)]):=by rw[b1.2 pb (Heap.get_lt SA.gp) S.lp];exact SA.gp
 have ltp1:=Heap.get_lt gp1;obtain⟨h2,e2⟩:∃ h2,h2=h1.set pb (some (.cells true 1 [.int .i64 0,lv',.map (some mb)])):=⟨_,rfl⟩;have st2:Ur h1 pb 1 [lv']=some h2:=by rw[e2];exact Qeu gp1 (by simp)
 have k2:∀ c,c≠pb->h2.get c=h1.get c:=fun c hc=>by rw[e2,gY ltp1,if_neg (Ne.symm hc)]
 have n2:h2.next=h1.next:=by rw[e2];rfl
 have gp2:h2.get pb=some (.cells true 1 [.int .i64 0,lv',.map (some mb)]):=by rw[e2,gY ltp1,if_pos rfl]
 have sp2:SpM h2 mb N (Qyx W):=SA.sp.keep (by rw[k2 mb (Ne.symm S.pm),b1.2 mb (by have:=aA.1;omega) S.lm]);obtain⟨h3,cl3,sp3,k3,n3⟩:=Jnm b sp2;have c2:Yw h2 pb 2=some (.map (some mb)):=by rw[Yi gp2];rfl
 have gp3:h3.get pb=some (.cells true 1 [.int .i64 0,lv',.map (some mb)]):=by rw[k3 pb S.pm];exact gp2
 have c3:Yw h3 pb 1=some lv':=by rw[Yi gp3];rfl
 have len2:∀ hx,Qkc (E b).toEnv 53 lv' hx=some (.int .i64 (W'.length:Int)):=fun hx=>Qa0 (T53 b) o1.sl;have on1:Xxl lv'=true:=by rcases o1 with⟨rfl,_,_⟩ | ⟨_,_,_,_,rfl,_⟩ <;> rfl
 simp[Qjn,Qec,Jr9,on1,st2,c2,cl3,c3,len2];have kk:∀ c,c < h.next->c≠pb->c≠mb->J4 lv≠some c->h3.get c=h.get c:=fun c h1' h2' h3' h4'=>by
  rw[k3 c h3',k2 c h2',b1.2 c (au h1' aA.1) h4',aA.2 c h1']
 have hn3:h.next<=h3.next:=by rw[n3,n2];exact ai aA.1 b1.1
 have o3:Own h3 0 37 lv' W'.length (Qe2 W'):=(o1.keep fun c hc _=>k2 c (fun e=>S.lp (by rw[<- e1,hc,e]))).keep fun c hc _=>k3 c fun e=>S.lm (by rw[<- e1,hc,e]);have ta3:∀ w ∈ W',TxAt h3 w.tx:=fun w hw=>(S.ta w (sub w hw)).keepV fun v hv c hc hl=>by
  obtain⟨q1,q2,q3⟩:=S.sep w (sub w hw) v hv c hc;exact kk c hl q1 q2 q3
 have fin:∀ g N',But mb h3 g->SpM g mb N' (Qyx W')->N'<=N+8*W.length->0<=N'->∀ n:Int,K (.ret (.int .i64 n)) g:=fun g N' bg sg hN' hN0 n=>by
  refine hk lv' g N' n ⟨?_,o3.keep fun c hc hl=>bg.2 c hl (fun e=>S.lm (by rw[<- e1,hc,e])),sg,fun w hw=>(ta3 w hw).keepV fun v hv c hc hl=>bg.2 c hl (S.sep w (sub w hw) v hv c hc).2.1,fun w hw=>S.il w (sub w hw),fun w hw=>S.hid w (sub w hw),fun w hw=>S.hf w (sub w hw),by rw[eW];exact S.hd.filter _,S.pm,by rw[e1];exact S.lp,by rw[e1];exact S.lm,fun w hw v hv c hc=>by rw[e1];exact S.sep w (sub w hw) v hv c hc,hN0⟩ ⟨ai hn3 bg.1,fun c h1' h2' h3' h4'=>by rw[bg.2 c (au h1' hn3) h3',kk c h1' h2' h3' h4']⟩ e1 hN';rw[bg.2 pb (by omega) S.pm];exact gp3
 refine Qdf (KPO h3 pb mb N W.length lv' W') W'.length ⟨_,h3,0,N,rfl,⟨by simp,by simp,by simp,by simp,by simp⟩,by omega,rfl,But.of (Old.refl _),sp3.congr fun r=>by simp[Qyx],S.hN,by omega⟩ ?_;rintro k s' ⟨t,g,i,N1,rfl,⟨t0,t5,t31,t32,t33⟩,hi,rfl,bg,sg,hN0,hN1⟩ _;by_cases hlt:i < W'.length
 ·have hlt':(i:Int) < (W'.length:Int):=by omega
  have hw:=wS (i:=i) (by omega);obtain⟨x,hx⟩:∃ x,W'[i]? = some x:=⟨_,List.getElem?_eq_getElem hlt⟩;have hm:=List.mem_of_getElem? hx;have sg':=o3.sl.keep (h':=g) fun c hc hl=>bg.2 c hl (fun e=>S.lm (by rw[<- e1,hc,e]));obtain⟨bk,off, -,x1,x2⟩:=Jfk (b:=b) (T53 b) Qjw sg' hx;obtain⟨hC,g2,alC,stC,stC',gX,a2,m2⟩:=Quc b (Zl3 b) (l:=x.cells) (by rw[x.len,Qjw]) (by kernel_rfl) g;have xa:TxAt g2 x.tx:=((ta3 x hm).keepV fun v hv c hc hl=>bg.2 c hl (S.sep x (sub x hm) v hv c hc).2.1).old a2;have x0:Yw g2 g.next 0=some x.tx.iv:=by rw[Yi gX];rfl
  have lenI:∀ hx,Qkc (E b).toEnv 28 x.tx.iv hx=some (.int .i64 (x.tx.ins.length:Int)):=fun hx=>Qa0 (T28 b) xa.i.s;have il:=S.il x (sub x hm);simp[Qjn,t0,t5,t31,t32,t33,hlt',x1,x2,-Qjn,alC,stC,stC',x.len,x0,lenI];refine Qdf (KPI h3 pb mb N1 W.length lv' W' i x) x.tx.ins.length ⟨_,g2,0,rfl,⟨by simp[t0],by simp[t5],by simp[t31],by simp[t32],by simp[t33]⟩,by simp,by simp,by simp,by omega,rfl,bg.old a2,(by simpa using sg.old a2)⟩ ?_;clear t0 t5 t31 t32 t33;rintro k s' ⟨t,g3,j,rfl,⟨t0,t5,t31,t32,t33⟩,t39,t40,t41,hj,rfl,b3,s3⟩ _;have xa3:TxAt g3 x.tx:=(ta3 x hm).keepV fun v hv c hc hl=>b3.2 c hl (S.sep x (sub x hm) v hv c hc).2.1;by_cases hltj:j < x.tx.ins.length
  ·have hltj':(j:Int) < (x.tx.ins.length:Int):=by omega
   have hwj:=wS (i:=j) (by omega);obtain⟨y,hy⟩:∃ y,x.tx.ins[j]? = some y:=⟨_,List.getElem?_eq_getElem hltj⟩;obtain⟨bk2,off2, -,y1,y2, -⟩:=Xhr (b:=b) (T28 b) Qeo xa3.i.s hy;obtain⟨hD,g4,alD,stD,stD',gYy,a4,m4⟩:=Quc b (Yta b) (l:=y.cells) (by rw[y.len,Qeo]) (by kernel_rfl) g3;have b4:=b3.old a4;have p4:∀ {hx:Heap},hx.get g3.next=g4.get g3.next->Wy hx g3.next 0 33=some (.agg ⟨y.pt.cells⟩):=fun e=>by rw[V2 (e.trans gYy) (by simp[InV.cells,Pt.len])];simp[InV.cells,aF,Pt.len]
   have pc4:g4.get pb=some (.cells true 1 [.int .i64 0,lv',.map (some mb)]):=by rw[b4.2 pb (by omega) S.pm];exact gp3
   have c4:∀ {hx:Heap},hx.get pb=g4.get pb->Yw hx pb 2=some (.map (some mb)):=fun e=>by rw[Yi (e.trans pc4)];rfl
   obtain⟨zz,v0,sv,h5,h6,lk,lk5,hz1,me,es,s6,k6,n6,k5⟩:=(s3.old a4).bump b y.pt (by omega) (by omega);have gne:g3.next≠mb:=by have:=b3.1;omega
   simp[Qjn,t0,t5,t31,t32,t33,t39,t40,t41,hltj',y1,y2,alD,stD,stD',y.len];refine Qem [] (by simp) Xlf Xst Xm6 (by simp[Xvv,Qjn,t0,Qec,c4 rfl,p4 rfl,lk,me,hz1,es];first | exact⟨rfl,rfl⟩ | rfl) ?_ ?_
   ·simp[Qmq,Qjn,t0,c4 rfl,p4 rfl,c4 (k5 pb S.pm),p4 (k5 g3.next gne),lk,lk5,me,Qwt]
   simp[Qjn,t0,t5,t31,t32,t33,t39,t40,t41,hwj];refine⟨x.tx.ins.length-(j+1),by omega,_,h6,j+1,rfl,⟨by simp[t0],by simp[t5],by simp[t31],by simp[t32],by simp[t33]⟩,by simp[t39],by simp[t40],by simp,by omega,rfl,⟨by rw[n6];exact b4.1,fun c hc hne=>by rw[k6 c hne,b4.2 c hc hne]⟩,?_⟩;have e:N1+(j:Int)+1=N1+((j+1:Nat):Int):=by omega
   rw[<- e];exact s6.congr fun r=>by rw[Zwz hy r,Bool.or_assoc]
  ·have hltj':¬ (j:Int) < (x.tx.ins.length:Int):=by omega
   have : j=x.tx.ins.length:=by omega
   subst this;rw[bc]at s3;simp[Qjn,t0,t5,t31,t32,t33,t39,t40,t41,hw];exact⟨W'.length-(i+1),by omega,_,g3,i+1,N1+(x.tx.ins.length:Int),rfl,⟨by simp[t0],by simp[t5],by simp[t31],by simp[t32],by simp⟩,by omega,rfl,b3,s3.congr fun r=>(Z34 hx r).symm,by omega,by omega⟩
 ·have hlt':¬ (i:Int) < (W'.length:Int):=by omega
  have : i=W'.length:=by omega
  subst this;rw[bc]at sg;have cg:Yw g pb 1=some lv':=by rw[Yi (show g.get pb=_ by rw[bg.2 pb (by omega) S.pm];exact gp3)];rfl
  simp[Qjn,Qec,t0,t5,t31,t32,t33,cg,len2];exact fin g N1 bg sg (by omega) hN0 _
end
def WtV.paid(w:WtV)(f:Int):WtV:=⟨w.tx,w.id,f,w.weight,w.hid⟩
def WtV.set_fee(w:WtV)(f:Int):w.cells.set 35 (.int .i64 f)=(w.paid f).cells:=by
 have e:w.cells=(txC w.tx.iv w.tx.ov w.tx.lock++w.id.map u8v) ++ [.int .i64 w.fee,.int .i64 w.weight]:=by simp[WtV.cells]
 have e2:(w.paid f).cells=(txC w.tx.iv w.tx.ov w.tx.lock++w.id.map u8v) ++ [.int .i64 f,.int .i64 w.weight]:=by simp[WtV.cells,WtV.paid]
 have l:(txC w.tx.iv w.tx.ov w.tx.lock++w.id.map u8v).length=35:=by simp[txC,w.hid]
 rw[e,e2,bN _ _ (by omega),l];rfl
def Jrm(b:Nat)(w:WtV)(h:Heap):W7 (E b).toEnv 53 1 [(0,.agg ⟨w.cells⟩)] h=some (.slice (some ⟨h.next,0,none⟩) 1 1,h.push (.cells true 1 w.cells)):=Xlx (T53 b) (z:=37) (y:=.agg ⟨w.cells⟩) (ys:=w.cells) Qjw (by omega) (by omega) rfl rfl w.len
structure OFr (t:Tr Value) (pb B X:Nat) (f:Int):Prop where
 t0:t.get 0=some (pO pb 0)
 t5:t.get 5=some (pO B 0)
 t7:t.get 7=some (pO X 0)
 t10:t.get 10=some (.int .i64 f)
def OFI(hx:Heap)(pb mb:Nat)(N1:Int)(W:List WtV)(x:WtV)(k:Nat)(s:St):Prop:=∃ (t:Tr Value) (g:Heap) (j:Nat),s=⟨⟨103,t⟩,[],g⟩/\t.get 0=some (pO pb 0)/\t.get 86=some x.tx.iv/\t.get 87=some (.int .i64 (x.tx.ins.length:Int))/\t.get 88=some (.int .i64 (j:Int))/\j<=x.tx.ins.length/\k=x.tx.ins.length-j/\But mb hx g/\SpM g mb (N1+j) (fun r=>Qyx W r || (x.tx.ins.take j).any fun y=>decide (y.pt=r))
structure ApartP (pb mb:Nat) (lv:Value) (z:TxV):Prop where
 a:∀ v ∈ Y1c z,∀ c,J4 v=some c->c≠pb/\c≠mb/\J4 lv≠some c
def Z98{W:List WtV}{x:WtV}(r:Pt):Qyx (W ++ [x]) r=(Qyx W r || x.tx.ins.any fun y=>decide (y.pt=r)):=by simp[Qyx]
section
attribute [local simp] Jw Vn Yf V4 Ja Qe5 Wk Qjn Qot Qg3 Jk Xy Vw Yz Qra Vz V8 Ju Ji Qbn Qnv Qfm Q0d J8 Qj6 Qbt Ym Vm Qcq Qdn Qfl Qyh Yx Uh Yu
set_option maxHeartbeats 4000000 in
def Z9u(b:Nat){h:Heap}{pb mb B X:Nat}{N f:Int}{lv:Value}{W:List WtV}{z:TxV}{w:WtV}(S:PoolS h pb mb N lv W)(hn:W.length<=900)(hM:N<=800000000)(tz:TxAt h z)(gB:h.get B=some (.cells true 1 (txC z.iv z.ov z.lock)))(gX:h.get X=some (.cells true 1 w.cells))(hBX:B≠X)(hB:B≠pb/\B≠mb/\J4 lv≠some B)(hX:X≠pb/\X≠mb/\J4 lv≠some X)(sz:ApartP pb mb lv z)(szX:∀ v ∈ Y1c z,∀ c,J4 v=some c->c≠X)
  (tw:TxAt h w.tx) (sw:ApartP pb mb lv w.tx) (swX:∀ v ∈ Y1c w.tx,∀ c,J4 v=some c->c≠X) (swW:∀ y ∈ W,∀ v ∈ Y1c y.tx,∀ c,J4 v=some c->c≠X) (wl:w.tx.ins.length<=8) (wid:w.id=dgF idS w.tx.p) (wn:(Jk3 w.id W).2=false) (wf:0<=f/\f<=1125899906842624)
  {t:Tr Value} (R:OFr t pb B X f) (K:KP)
  (hk:∀ lv' h' N',PoolS h' pb mb N' lv' ((W.filter fun x => !Yeh z.p x) ++ [w.paid f])->h.next<=h'.next->(∀ c,c < h.next->c≠pb->c≠mb->J4 lv≠some c->c≠X->h'.get c=h.get c)->N'<=N+8*W.length+8->(∀ c,J4 lv'=some c->J4 lv=some c∨h.next<=c)->K (.ret (.int .i64 0)) h') :
  Qac (E b) (Xrd Tryz.prog (E b).G) (D0 b) none Qtu ⟨⟨103,t⟩,[],h⟩ (Zh4 (E b) (DD b) Qn8 K):=by
 obtain⟨t0,t5,t7,t10⟩:=R;have ltX:=Heap.get_lt gX;obtain⟨x,ex⟩:∃ x,x=w.paid f:=⟨_,rfl⟩;have xt:x.tx=w.tx:=by rw[ex];rfl
 have xi:x.id=w.id:=by rw[ex];rfl
 have xf:x.fee=f:=by rw[ex];rfl
 obtain⟨h1,e1⟩:∃ h1,h1=h.set X (some (.cells true 1 x.cells)):=⟨_,rfl⟩;have st1:Ur h X 35 [.int .i64 f]=some h1:=by rw[Qeu gX (by rw[w.len];omega),w.set_fee,<- ex,e1]
 have k1:∀ c,c≠X->h1.get c=h.get c:=fun c hc=>by rw[e1,gY ltX,if_neg (Ne.symm hc)]
 have n1:h1.next=h.next:=by rw[e1];rfl
 have gX1:h1.get X=some (.cells true 1 x.cells):=by rw[e1,gY ltX,if_pos rfl]
 have gB1:h1.get B=some (.cells true 1 (txC z.iv z.ov z.lock)):=by rw[k1 B hBX];exact gB
 have S1:PoolS h1 pb mb N lv W:=⟨by rw[k1 pb (Ne.symm hX.1)];exact S.gp,S.o.keep fun c hc _=>k1 c fun e=>hX.2.2 (by rw[hc,e]),S.sp.keep (k1 mb (Ne.symm hX.2.1)),fun y hy=>(S.ta y hy).keepV fun v hv c hc _=>k1 c (swW y hy v hv c hc),S.il,S.hid,S.hf,S.hd,S.pm,S.lp,S.lm,S.sep,S.hN⟩;have tz1:TxAt h1 z:=tz.keepV fun v hv c hc _=>k1 c (szX v hv c hc);have tw1:TxAt h1 w.tx:=tw.keepV fun v hv c hc _=>k1 c (swX v hv c hc);simp[t0,t5,t7,t10,st1];refine Jla b S1 (by omega) (by omega) tz1 gB1 hB sz.a _ fun lv2 h2 N2 n S2 sty e2 hN2 => ?_;have lpb:=Heap.get_lt S1.gp;have lmb:mb < h1.next:=by obtain⟨_,_,g,_⟩:=S1.sp;exact Heap.get_lt g
 have gX2:h2.get X=some (.cells true 1 x.cells):=by rw[sty.2 X (by omega) hX.1 hX.2.1 hX.2.2];exact gX1
 have tw2:TxAt h2 w.tx:=tw1.keepV fun v hv c hc hl=>by
  obtain⟨q1,q2,q3⟩:=sw.a v hv c hc;exact sty.2 c hl q1 q2 q3
 obtain⟨W2,eW⟩:∃ W2,W2=W.filter fun x => !Yeh z.p x:=⟨_,rfl⟩;rw[<- eW]at S2 hk;have lW:W2.length<=W.length:=by rw[eW];exact cL _ _
 have sub:∀ y ∈ W2,y ∈ W:=fun y hy=>by rw[eW]at hy;exact(bW.1 hy).1
 obtain⟨h3,e3⟩:∃ h3,h3=h2.push (.cells true 1 x.cells):=⟨_,rfl⟩;have a3:=Qon e3;have n3:=Q8i e3;have g3:h3.get h2.next=some (.cells true 1 x.cells):=by rw[e3,Heap.get_push,if_pos rfl]
 have bl:=Jrm b x h2;rw[<- e3]at bl;have s3:Sl h3 37 (.slice (some ⟨h2.next,0,none⟩) 1 1) 1 x.cells:=(Own.new (n0:=0) (z:=37) (bn _) g3 (by rw[x.len]) (by decide) (.inr rfl)).sl;obtain⟨lv4,h4,ap4,o4,b4,w4⟩:=Yc8 (T53 b) (z:=37) (tx:=53) (m:=1) (ys:=x.cells) Qjw (by omega) (S2.old a3).o (bn _) (Ymy (T53 b) Qjw s3) (by rw[x.len]) (by rw[Jfv];omega) (by omega);have gp2:=S2.gp;have c21:Yw h2 pb 1=some lv2:=by rw[Yi gp2];rfl
 have pX:∀ {hx:Heap},hx.get X=some (.cells true 1 x.cells)->Wy hx X 0 37=some (.agg ⟨x.cells⟩):=fun g=>agW g (by rw[x.len];omega) (by rw[x.len];omega);have lpb2:=Heap.get_lt gp2;have gp4:h4.get pb=some (.cells true 1 [.int .i64 0,lv2,.map (some mb)]):=by rw[b4.2 pb (by omega) S2.lp];exact a3.get gp2
 have ltp4:=Heap.get_lt gp4;obtain⟨h5,e5⟩:∃ h5,h5=h4.set pb (some (.cells true 1 [.int .i64 0,lv4,.map (some mb)])):=⟨_,rfl⟩;have st5:Ur h4 pb 1 [lv4]=some h5:=by rw[e5];exact Qeu gp4 (by simp)
 have k5:∀ c,c≠pb->h5.get c=h4.get c:=fun c hc=>by rw[e5,gY ltp4,if_neg (Ne.symm hc)]
 have n5:h5.next=h4.next:=by rw[e5];rfl
 have gp5:h5.get pb=some (.cells true 1 [.int .i64 0,lv4,.map (some mb)]):=by rw[e5,gY ltp4,if_pos rfl]
 have on4:Xxl lv4=true:=by rcases o4 with⟨rfl,_,_⟩ | ⟨_,_,_,_,rfl,_⟩ <;> rfl
 have lX2:X < h2.next:=Heap.get_lt gX2;have lv2X:J4 lv2≠some X:=by rw[e2];exact hX.2.2
 have kk:∀ c,c < h2.next->c≠pb->J4 lv2≠some c->h5.get c=h2.get c:=fun c q1 q2 q3=>by rw[k5 c q2,b4.2 c (by omega) q3,a3.2 c q1]
 have gX5:h5.get X=some (.cells true 1 x.cells):=by rw[kk X lX2 hX.1 lv2X];exact gX2
 simp[t0,t7];refine Qem [] (by simp) Xjh Xma Xkd (by simp[Xp1,Xwo,Xox,Qec,t0,t7,c21,pX gX2,bl,ap4,Jr9,on4,st5];first | exact⟨rfl,rfl⟩ | rfl) ?_ ?_
 ·simp[Qc6,t0,t7,c21,pX gX2]
 have cX5:Yw h5 X 0=some x.tx.iv:=by rw[Yi gX5];rfl
 have h12:=sty.1;have n45:h2.next<=h5.next:=by have:=b4.1;omega
 have tw5:TxAt h5 x.tx:=by
  rw[xt];exact tw2.keepV fun v hv c hc hl=>by
   obtain⟨q1,q2,q3⟩:=sw.a v hv c hc;exact kk c hl q1 (by rw[e2];exact q3)
 have lenI:∀ hx,Qkc (E b).toEnv 28 x.tx.iv hx=some (.int .i64 (x.tx.ins.length:Int)):=fun hx=>Qa0 (T28 b) tw5.i.s;have xl:x.tx.ins.length<=8:=by rw[xt];exact wl
 have lmb2:mb < h2.next:=by omega
 have sp5:SpM h5 mb N2 (Qyx W2):=S2.sp.keep (kk mb lmb2 (Ne.symm S.pm) S2.lm);have hN2':=S2.hN;simp[t0,t7,cX5,lenI];refine Qdf (OFI h5 pb mb N2 W2 x) x.tx.ins.length ⟨_,h5,0,rfl,by simp[t0],by simp,by simp,by simp,by omega,rfl,But.of (Old.refl _),(by simpa using sp5)⟩ ?_;clear t0 t5 t7 t10;rintro k s' ⟨t,g,j,rfl,t0,t86,t87,t88,hj,rfl,bg,sg⟩ _;have lm5:mb < h5.next:=by omega
 have w4':∀ c,J4 lv4=some c->J4 lv=some c∨c=h3.next:=fun c hc=>by rw[<- e2];exact w4 c hc
 have lvlt:∀ c,J4 lv=some c->c < h.next:=fun c hc=>(S.o.from hc).2;have l4p:J4 lv4≠some pb:=fun e=>by
  rcases w4' _ e with q | q
  ·exact S.lp q
  ·omega
 have l4m:J4 lv4≠some mb:=fun e=>by
  rcases w4' _ e with q | q
  ·exact S.lm q
  ·omega
 by_cases hltj:j < x.tx.ins.length
 ·have hltj':(j:Int) < (x.tx.ins.length:Int):=by omega
  have hwj:=wS (i:=j) (by omega);obtain⟨y,hy⟩:∃ y,x.tx.ins[j]? = some y:=⟨_,List.getElem?_eq_getElem hltj⟩;have twg:TxAt g x.tx:=tw5.keepV fun v hv c hc hl=>bg.2 c hl (by rw[xt]at hv;exact(sw.a v hv c hc).2.1);obtain⟨bk2,off2, -,y1,y2, -⟩:=Xhr (b:=b) (T28 b) Qeo twg.i.s hy;obtain⟨hD,g4,alD,stD,stD',gYy,a4,m4⟩:=Quc b (Yta b) (l:=y.cells) (by rw[y.len,Qeo]) (by kernel_rfl) g;have b4':=bg.old a4;have p4:∀ {hx:Heap},hx.get g.next=g4.get g.next->Wy hx g.next 0 33=some (.agg ⟨y.pt.cells⟩):=fun e=>by rw[V2 (e.trans gYy) (by simp[InV.cells,Pt.len])];simp[InV.cells,aF,Pt.len]
  have pc4:g4.get pb=some (.cells true 1 [.int .i64 0,lv4,.map (some mb)]):=by rw[b4'.2 pb (by omega) S.pm];exact gp5
  have c4:∀ {hx:Heap},hx.get pb=g4.get pb->Yw hx pb 2=some (.map (some mb)):=fun e=>by rw[Yi (e.trans pc4)];rfl
  obtain⟨zz,v0,sv,h6,h7,lk,lk6,hz1,me,es,s7,k7,n7,k6⟩:=(sg.old a4).bump b y.pt (by omega) (by omega);have gne:g.next≠mb:=by have:=bg.1;omega
  simp[t0,t86,t87,t88,hltj',y1,y2,alD,stD,stD',y.len];refine Qem [] (by simp) Xl5 Xnt Xl8 (by simp[Xtx,t0,Qec,c4 rfl,p4 rfl,lk,me,hz1,es];first | exact⟨rfl,rfl⟩ | rfl) ?_ ?_
  ·simp[Ql7,t0,c4 rfl,p4 rfl,c4 (k6 pb S.pm),p4 (k6 g.next gne),lk,lk6,me,Qwt]
  simp[t0,t86,t87,t88,hwj];refine⟨x.tx.ins.length-(j+1),by omega,_,h7,j+1,rfl,by simp[t0],by simp[t86],by simp[t87],by simp,by omega,rfl,⟨by rw[n7];exact b4'.1,fun c hc hne=>by rw[k7 c hne,b4'.2 c hc hne]⟩,?_⟩;have e:N2+(j:Int)+1=N2+((j+1:Nat):Int):=by omega
  rw[<- e];exact s7.congr fun r=>by rw[Zwz hy r,Bool.or_assoc]
 ·have hltj':¬ (j:Int) < (x.tx.ins.length:Int):=by omega
  have : j=x.tx.ins.length:=by omega
  subst this;rw[bc]at sg;simp[t0,t86,t87,t88];rw[<- ex]at hk;have kg:∀ c,c < h5.next->c≠mb->g.get c=h5.get c:=fun c q1 q2=>bg.2 c q1 q2;have xsep:∀ v ∈ Y1c x.tx,∀ c,J4 v=some c->c≠pb/\c≠mb/\J4 lv4≠some c:=fun v hv c hc=>by
   rw[xt]at hv;obtain⟨q1,q2,q3⟩:=sw.a v hv c hc;refine⟨q1,q2,fun e => ?_⟩;rcases w4' _ e with q | q
   ·exact q3 q
   ·have:=tw.lt hv hc;omega
  have wsep:∀ y ∈ W2,∀ v ∈ Y1c y.tx,∀ c,J4 v=some c->c≠pb/\c≠mb/\J4 lv4≠some c:=fun y hy v hv c hc=>by
   obtain⟨q1,q2,q3⟩:=S.sep y (sub y hy) v hv c hc;refine⟨q1,q2,fun e => ?_⟩;rcases w4' _ e with q | q
   ·exact q3 q
   ·have:=(S.ta y (sub y hy)).lt hv hc;omega
  have mem2:∀ y ∈ W2 ++ [x],y ∈ W2∨y=x:=fun y hy=>by simpa using hy
  refine hk lv4 g (N2+(x.tx.ins.length:Int)) ⟨?_,?_,?_,fun y hy => ?_,fun y hy => ?_,fun y hy => ?_,fun y hy => ?_,?_,S.pm,l4p,l4m,fun y hy => ?_,by omega⟩ (by have:=bg.1;omega) (fun c q1 q2 q3 q4 q5 => ?_) (by omega) (fun c hc => ?_)
  ·rw[kg pb (by omega) S.pm];exact gp5
  ·have o5:Own h5 0 37 lv4 (W2.length+1) (Qe2 W2++x.cells):=o4.keep fun c hc _=>k5 c fun e=>l4p (by rw[hc,e]);have o6:=o5.keep (h':=g) fun c hc hl=>kg c hl fun e=>l4m (by rw[hc,e]);have e1:(W2 ++ [x]).length=W2.length+1:=by simp
   have e2:Qe2 (W2 ++ [x])=Qe2 W2++x.cells:=by rw[Y0i];simp[Qe2]
   rw[e1,e2];exact o6
  ·exact sg.congr fun r=>(Z98 r).symm
  ·rcases mem2 y hy with m | rfl
   ·refine(S2.ta y m).keepV fun v hv c hc hl => ?_;obtain⟨q1,q2,q3⟩:=S2.sep y m v hv c hc;rw[kg c (by omega) q2,kk c hl q1 q3]
   ·exact tw5.keepV fun v hv c hc hl=>kg c hl (xsep v hv c hc).2.1
  ·rcases mem2 y hy with m | rfl
   ·exact S2.il y m
   ·exact xl
  ·rcases mem2 y hy with m | rfl
   ·exact S2.hid y m
   ·rw[xi,xt];exact wid
  ·rcases mem2 y hy with m | rfl
   ·exact S2.hf y m
   ·rw[xf];exact wf
  ·rw[eW];exact Z9m S.hd (by rw[xi];exact wn)
  ·rcases mem2 y hy with m | rfl
   ·exact wsep y m
   ·exact xsep
  ·rw[kg c (by omega) q3,kk c (by omega) q2 (by rw[e2];exact q4),sty.2 c (by omega) q2 q3 q4,k1 c q5]
  ·rcases w4' c hc with q | q
   ·exact .inl q
   ·exact .inr (by omega)
end
def Jgf(b:Nat)(iv ov:Value)(lk:Int){l:List Value}(hl:l.length=32)(n:Int)(o1:Xxl iv=true)(o2:Xxl ov=true):Qn1 (E b).toEnv 73 [(0,.agg ⟨txC iv ov lk⟩),(1,.agg ⟨l⟩),(3,.int .i64 n)]=some (.agg ⟨txC iv ov lk++(l ++ [.int .i64 0,.int .i64 n])⟩):=by
 have e:Qn1 (E b).toEnv 73 [(0,.agg ⟨txC iv ov lk⟩),(1,.agg ⟨l⟩),(3,.int .i64 n)]=(Xsb (nth [(0,3),(3,32),(35,1),(36,1)]) (txC (.slice none 0 0) (.slice none 0 0) 0++(List.replicate 32 zU ++ [.int .i64 0,.int .i64 0])) [(0,.agg ⟨txC iv ov lk⟩),(1,.agg ⟨l⟩),(3,.int .i64 n)]).map fun c => .agg c.toArray:=by
  kernel_rfl
 rw[e];have hc:(Value.agg ⟨l⟩).cells.toList=l:=rfl;have hs:(Value.agg ⟨l⟩).cells.size=32:=hl;have hz:(txC iv ov lk++(List.replicate 32 zU ++ [.int .i64 0,.int .i64 0]):List Value).length=37:=by simp[txC]
 have hz2:(txC iv ov lk++(l ++ [.int .i64 0,.int .i64 0]):List Value).length=37:=by simp[txC,hl]
 have s0:Qlj (txC (.slice none 0 0) (.slice none 0 0) 0++(List.replicate 32 zU ++ [.int .i64 0,.int .i64 0])) 0 (txC iv ov lk)=some (txC iv ov lk++(List.replicate 32 zU ++ [.int .i64 0,.int .i64 0])):=rfl;have s1:Qlj (txC iv ov lk++(List.replicate 32 zU ++ [.int .i64 0,.int .i64 0]):List Value) 3 l=some (txC iv ov lk++(l ++ [.int .i64 0,.int .i64 0])):=by
  rw[Qq8 (by rw[hz,hl];omega),hl];have t1:(txC iv ov lk++(List.replicate 32 zU ++ [.int .i64 0,.int .i64 0]):List Value).take 3=txC iv ov lk:=rfl;have t2:(txC iv ov lk++(List.replicate 32 zU ++ [.int .i64 0,.int .i64 0]):List Value).drop (3+32)=[.int .i64 0,.int .i64 0]:=rfl;rw[t1,t2,aM]
 have s2:Qlj (txC iv ov lk++(l ++ [.int .i64 0,.int .i64 0]):List Value) 36 [.int .i64 n]=some (txC iv ov lk++(l ++ [.int .i64 0,.int .i64 n])):=by
  have e1:(txC iv ov lk++(l ++ [.int .i64 0,.int .i64 0]):List Value)=(txC iv ov lk++(l ++ [.int .i64 0])) ++ [.int .i64 0]:=by simp
  have l1:(txC iv ov lk++(l ++ [.int .i64 0]):List Value).length=36:=by simp[txC,hl]
  rw[Qq8 (by rw[hz2];simp),e1,List.take_left' l1,bK,bQ (by rw[ae,l1];simp)];simp
 have ht:(Value.agg ⟨txC iv ov lk⟩).cells.toList=txC iv ov lk:=rfl;have b0:(Qid (.agg ⟨txC iv ov lk⟩) && (Value.agg ⟨txC iv ov lk⟩).cells.size == 3 && Nat.ble (0+3) (txC (.slice none 0 0) (.slice none 0 0) 0++(List.replicate 32 zU ++ [.int .i64 0,.int .i64 0]):List Value).length)=true:=rfl;have b1:(Qid (.agg ⟨l⟩) && (Value.agg ⟨l⟩).cells.size == 32 && Nat.ble (3+32) (txC iv ov lk++(List.replicate 32 zU ++ [.int .i64 0,.int .i64 0]):List Value).length)=true:=by
  rw[hs,hz];rfl
 have b2:(Qid (.int .i64 n) && (Value.int .i64 n).cells.size == 1 && Nat.ble (36+1) (txC iv ov lk++(l ++ [.int .i64 0,.int .i64 0]):List Value).length)=true:=by
  rw[hz2];rfl
 have c2:(Value.int .i64 n).cells.toList=[.int .i64 n]:=rfl;simp only[Xsb,nth,b0,b1,b2,if_true,hc,ht,c2,s0,s1,s2];rfl
def Jkj{h:Heap}{z n:Nat}{v:Value}{xs:List Value}(s:Sl h z v n xs):Xxl v=true:=by
 rcases s with⟨_,rfl,_⟩ | ⟨_,_,_,_,_,_,_,rfl,_⟩ <;> rfl
section
attribute [local simp] Jw Vn Yf V4 Ja Qe5 Wk Qjn Qot Qg3 Jk Xy Vw Yz Qra Vz V8 Ju Ji Qbn Qnv Qfm Q0d J8 Qj6 Qbt Ym Vm Qcq Qdn Qfl Qyh Yx Uh
set_option maxHeartbeats 8000000 in
def Jjn(b:Nat){h:Heap}{pb mb:Nat}{N fee:Int}{lv:Value}{W:List WtV}{z:TxV}{lb mbl zz ν clk:Nat}{ks:List Nat}{un:Value}{ls:List LC}{ud:List (List BK)}(S:PoolS h pb mb N lv W)(L:LedS h lb mbl zz ν clk ks un ls ud)(hud:ud.length < 1000)(hn:W.length<=60)(hM:N<=800000000)(tz:TxAt h z)(sz:ApartP pb mb lv z)(hc:Qzx z.p=0)(hil:z.ins.length<=8)
  (hv:Ykp ks L.ks (Qum ls) (ud.length:Int) z.p=(fee,0)) (wf:0<=fee/\fee<=1125899906842624) (K:KP)
  (hno:∀ h' (e:Int),Old h h'->e=13∨e=19->K (.ret (.int .i64 e)) h')
  (hk:∀ lv' h' N' w,PoolS h' pb mb N' lv' ((W.filter fun x => !Yeh z.p x) ++ [w])->w.fee=fee->(0 < (W.filter (Yeh z.p)).length->Qh5 (W.filter (Yeh z.p)) < fee)->h.next<=h'.next->(∀ c,c < h.next->c≠pb->c≠mb->J4 lv≠some c->h'.get c=h.get c)->N'<=N+8*W.length+8->(∀ c,J4 lv'=some c->J4 lv=some c∨h.next<=c)->K (.ret (.int .i64 0)) h') :
  CallOK Tryz.prog (E b).G 9 [pO pb 0,pO lb 0,.agg ⟨txC z.iv z.ov z.lock⟩] h K:=by
 refine Qh3 (E b) (Vy _ _) (Uf b) (Jd b) mixed (Ui b) (Yf b) X4g.1 X4g.2.1 X4g.2.2 rfl ?_;obtain⟨hA,eA⟩:∃ hA,hA=h.push (.cells true 1 (txC z.iv z.ov z.lock)):=⟨_,rfl⟩;have aA:=Qon eA;have nA:=Q8i eA;have gA:hA.get h.next=some (.cells true 1 (txC z.iv z.ov z.lock)):=by rw[eA,Heap.get_push,if_pos rfl]
 have bx:=Qw8 eA;have tA:=tz.old aA;obtain⟨_,h1,q1,n1,iv2,ov2,ins2,outs2,rfl,R1,e1,e2⟩:=Yre b (lock:=z.lock) tA.i tA.o (fun r h' => ∃ iv2 ov2 ins2 outs2,r=.ret (.agg ⟨txC iv2 ov2 z.lock⟩)/\TxR hA h' iv2 ov2 ins2 outs2/\ins2.map InV.p=z.ins.map InV.p/\outs2.map OutV.p=z.outs.map OutV.p) (fun iv2 ov2 ins2 outs2 h' R e1 e2=>⟨iv2,ov2,ins2,outs2,rfl,R,e1,e2⟩);have a1:=R1.i.a;obtain⟨y,ey⟩:∃ y:TxV,y=⟨iv2,ov2,ins2,outs2,z.lock⟩:=⟨_,rfl⟩;have hp2:∀ w ∈ ins2,PtB w.pt:=fun w hw'=>by
  have : w.p ∈ ins2.map InV.p:=am.2 ⟨w,hw',rfl⟩;rw[e1]at this;obtain⟨u,hu,e⟩:=am.1 this;have : w.pt=u.pt:=by have:=congrArg PIn.pt e;exact this.symm
  rw[this];exact tz.p u hu
 obtain⟨ty,fy⟩:=R1.txv (lock:=z.lock) hp2;rw[<- ey]at ty fy;have yp:y.p=z.p:=by rw[ey];exact Jkg e1 e2
 have yc:txC iv2 ov2 z.lock=txC y.iv y.ov y.lock:=by rw[ey]
 rw[yc]at q1;have yl:y.ins.length<=8:=by
  have:=congrArg List.length e1;rw[ey];simp at this;show ins2.length<=8;omega
 have t1:=tA.old a1;have la1:=Laid.old L.la (aA.trans a1);obtain⟨_,h2,q2,n2,rfl,a2⟩:=Jqr b (lock:=z.lock) la1 t1.i t1.o t1.p (fun r h'=>r=.ret (.agg ⟨(dgF idS z.p).map u8v⟩)/\Old h1 h') (fun h' a=>⟨rfl,a⟩);have t2:=t1.old a2;obtain⟨_,h3,q3,n3,n,rfl,a3⟩:=Jax b (lock:=z.lock) (Laid.old la1 a2) t2.i t2.o hc (fun r h' => ∃ n:Int,r=.ret (.int .i64 n)/\Old h2 h') (fun n h' a=>⟨n,rfl,a⟩);obtain⟨w,ew⟩:∃ w:WtV,w=⟨y,dgF idS z.p,0,n,X1a _ _⟩:=⟨_,rfl⟩;have wt:w.tx=y:=by rw[ew]
 have wi:w.id=dgF idS z.p:=by rw[ew]
 have ww:w.weight=n:=by rw[ew]
 have bw:Qn1 (E b).toEnv 73 [(0,.agg ⟨txC y.iv y.ov y.lock⟩),(1,.agg ⟨(dgF idS z.p).map u8v⟩),(3,.int .i64 n)]=some (.agg ⟨w.cells⟩):=by
  rw[Jgf b y.iv y.ov y.lock (by simp[X1a]) n (Jkj ty.i.s) (Jkj ty.o.s),ew];rfl
 obtain⟨hX,h4,alX,stX,stX',gX,a4,m4⟩:=Quc b (Zl3 b) (l:=w.cells) (by rw[w.len,Qjw]) (by kernel_rfl) h3;have ld:∀ {hx:Heap},Old hA hx->Wy hx h.next 0 3=some (.agg ⟨txC z.iv z.ov z.lock⟩):=fun a=>by rw[V2 (a.get gA) (by simp[txC])];rfl
 have a12:=a1.trans a2;have a13:=a12.trans a3;have a14:=a13.trans a4;simp[Yu,-Yu,bx];refine Qem [⟨22,[.agg ⟨txC z.iv z.ov z.lock⟩],hA,.agg ⟨txC y.iv y.ov y.lock⟩,h1,true⟩,⟨21,[.agg ⟨txC z.iv z.ov z.lock⟩],h1,.agg ⟨(dgF idS z.p).map u8v⟩,h2,true⟩,⟨23,[.agg ⟨txC z.iv z.ov z.lock⟩],h2,.int .i64 n,h3,true⟩] ?_ Xlc Xrp Xog (by simp[Xvq,Xzg,Yu,ld (Old.refl _),ld a1,ld a12,Qud,bw,-Qjn,alX,stX,stX',w.len];first | exact⟨rfl,rfl⟩ | rfl) ?_ ?_
 ·exact zk3 ⟨q1,n1,fun _ c hc=>a1.2 c hc⟩ ⟨q2,n2,fun _ c hc=>a2.2 c hc⟩ ⟨q3,n3,fun _ c hc=>a3.2 c hc⟩
 ·simp[Qg5,Yu,ld (Old.refl _),ld a1,ld a12,ld a13,Yg3 tz.i.s tz.o.s]
 have ah4:=aA.trans a14;have pid:∀ {hx:Heap},Old h4 hx->Wy hx h3.next 3 32=some (.agg ⟨(dgF idS z.p).map u8v⟩):=fun a=>by rw[V2 (a.get gX) (by rw[w.len];omega),Js3,wi]
 simp[Yu,-Yu,pid (Old.refl _)];refine Jkv b (ah4.get S.gp) (S.o.sl.old ah4) (by omega) (X1a _ _) _ fun h5 a5 => ?_;have ah5:=ah4.trans a5;cases hb:(Jk3 (dgF idS z.p) W).2 with
 | true =>
  simp[Yu,-Yu];exact hno h5 13 ah5 (.inl rfl)
 | false =>
  simp[Yu,-Yu,ld (a14.trans a5)];have L5:=L.old ah5;obtain⟨ow,zν,gν⟩:=L5.gν;have t5':=tz.old ah5;refine Jj8 b L5.ks L5.la L5.gl gν L5.ur.len (by omega) L5.co t5'.i t5'.o t5'.p _ fun h6 a6 => ?_;have ev:Ykp ks L5.ks (Qum ls) (ud.length:Int) (ptx z.ins z.outs z.lock)=(fee,0):=hv;rw[ev];have a56:=a5.trans a6;have ah6:=ah5.trans a6;simp[Yu,-Yu,ld (a14.trans a56)];have S6:=S.old ah6;have t6':=tz.old ah6;refine Jbr b (outs:=z.outs) S6.gp S6.o.sl (by omega) S6.ta S6.sp S6.hf t6'.i _ fun h7 a7 => ?_;have a57:=a56.trans a7;have ah7:=ah6.trans a7;have mq:ptx z.ins z.outs z.lock=z.p:=rfl;rw[mq];obtain⟨nr,enr⟩:∃ nr,nr=(W.filter (Yeh z.p)).length:=⟨_,rfl⟩;obtain⟨fr,efr⟩:∃ fr,fr=Qh5 (W.filter (Yeh z.p)):=⟨_,rfl⟩;rw[<- enr,<- efr]at hk ⊢;have nrl:nr<=W.length:=by rw[enr];exact cL _ _
  have S7:=S.old ah7;have cw:Yw h7 h3.next 36=some (.int .i64 n):=by rw[Yi (a57.get gX),Jvi,ww]
  have f0:¬ fee < 0:=by omega
  have len7:∀ hx,Qkc (E b).toEnv 53 lv hx=some (.int .i64 (W.length:Int)):=fun hx=>Qa0 (T53 b) S.o.sl;have c7:Yw h7 pb 1=some lv:=by rw[Yi S7.gp];rfl
  have hsub:IntKind.i64.wrap ((W.length:Int)-(nr:Int))=(W.length:Int)-(nr:Int):=Uq (by omega) (by omega);have h64:¬ (64:Int)<=(W.length:Int)-(nr:Int):=by omega
  simp[Yu,-Yu,cw];refine(Jjp b S7.gp n _ ?_).ok;have lpb:=Heap.get_lt S.gp;have lmb:mb < h.next:=by obtain⟨_,_,g,_⟩:=S.sp;exact Heap.get_lt g
  have lvlt:∀ c,J4 lv=some c->c < h.next:=fun c hc=>(S.o.from hc).2;have x13:=a13.1;have x1:=a1.1;have x23:=(a2.trans a3).1;have ah7':=ah7.1;have fin:∀ tt:Tr Value,OFr tt pb h.next h3.next fee->(0 < nr->fr < fee)->Qac (E b) (Xrd Tryz.prog (E b).G) (D0 b) none Qtu ⟨⟨103,tt⟩,[],h7⟩ (Zh4 (E b) (DD b) Qn8 K):=fun tt R hlt=>by
   refine Z9u b S7 (by omega) hM (tz.old ah7) ((a14.trans a57).get gA) (a57.get gX) (by omega) ⟨by omega,by omega,fun e=>by have:=lvlt _ e;omega⟩ ⟨by omega,by omega,fun e=>by have:=lvlt _ e;omega⟩ sz (fun v hv c hc=>by have:=tz.lt hv hc;omega) (by rw[wt];exact ty.old (((a2.trans a3).trans a4).trans a57)) ⟨fun v hv c hc => ?_⟩ (fun v hv c hc => ?_) (fun y' hy' v hv c hc=>by have:=(S.ta y' hy').lt hv hc;omega) (by rw[wt];exact yl) (by rw[wi,wt,yp]) (by rw[wi];exact hb) wf R K fun lv' h' N' q1 q2 q3 q4 q5 => ?_
   ·rw[wt]at hv;have:=fy v hv c hc;exact⟨by omega,by omega,fun e=>by have:=lvlt _ e;omega⟩
   ·rw[wt]at hv;have:=ty.lt hv hc;omega
   ·refine hk lv' h' N' (w.paid fee) q1 rfl hlt (by omega) (fun c p1 p2 p3 p4 => ?_) q4 fun c hc => ?_
    ·rw[q3 c (by omega) p2 p3 p4 (by omega),ah7.2 c p1]
    ·rcases q5 c hc with q | q
     ·exact .inl q
     ·exact .inr (by omega)
  by_cases hr:0 < nr
  ·have hr':(0:Int) < (nr:Int):=by omega
   by_cases hf:fee<=fr
   ·simp[Yu,-Yu,f0,hr,hr',hf];exact hno h7 19 ah7 (.inr rfl)
   ·simp[Yu,-Yu,f0,hr,hr',hf,Qec,c7,len7,hsub,h64];exact fin _ ⟨by simp,by simp,by simp,by simp⟩ fun _=>by omega
  ·have hr':¬ (0:Int) < (nr:Int):=by omega
   simp[Yu,-Yu,f0,hr,hr',Qec,c7,len7,hsub,h64];exact fin _ ⟨by simp,by simp,by simp,by simp⟩ fun q=>absurd q hr
end
set_option maxRecDepth 1000000
def Zae(b:Nat):Jig ((Qrw Tryz.prog (mkE Tryz.prog nv b) Ygi 10000 30).fn 11 [] (Qlz nv laidAll false []))=some (.bool true):=kR
def Je8(b:Nat){h:Heap}(hl:Ab.LaidIn h laidAll)(K:KP)(hk:K (.ret (.bool true)) h):FK b 11 [] h K :=
 ⟨_,_,Yqo (k:=10000) (m:=30) mixed Z1c Zvg Zae rfl hl Zgo (bs:=[]) rfl (by simp) (fun k d r hd _=>by simp at hd) Q6d,ab _,hk⟩
set_option maxRecDepth 100000
structure DRg (t:Tr Value) (lv:Value) (lb pb i:Nat):Prop where
 t1:t.get 1=some lv
 t5:t.get 5=some (pO lb 0)
 t6:t.get 6=some (pO pb 0)
 t7:t.get 7=some (.int .i64 (i:Int))
structure DIv (hs:Heap) (lb mbl ν clk:Nat) (ls:List LC) (pb mb:Nat) (g:Heap) (N:Int) (pv:Value) (W:List WtV):Prop where
 P:PoolS g pb mb N pv W
 L:LedS hs lb mbl 1 ν clk Xrc (.slice none 0 0) ls []
 a:Old hs g
 p:hs.next<=pb
 m:hs.next<=mb
 v:∀ c,J4 pv=some c->hs.next<=c
def DIv.old{hs:Heap}{lb mbl ν clk:Nat}{ls:List LC}{pb mb:Nat}{g g':Heap}{N:Int}{pv:Value}{W:List WtV}(I:DIv hs lb mbl ν clk ls pb mb g N pv W)(a:Old g g'):DIv hs lb mbl ν clk ls pb mb g' N pv W :=
 ⟨I.P.old a,I.L,I.a.trans a,I.p,I.m,I.v⟩
def Jo8{m:Xk0}{T:PTx}{o fee:Int}{pts:List Pt}{outs:List POut}(M:MadeOf m T o pts outs fee){B:Int}(G:Zg6 m B)(hB:0<=B)(h4:4*B<=1125899906842624):T.ins.length<=4:=by
 rw[Jci M G hB h4];simpa using M.p4
def Z54{m:Xk0}{T:PTx}{o fee:Int}{pts:List Pt}{outs:List POut}(M:MadeOf m T o pts outs fee){B:Int}(G:Zg6 m B)(hB:0<=B)(h4:4*B<=1125899906842624):0<=fee/\fee<=1125899906842624:=by
 have h1:=Z5h M G hB h4;have h2:=M.e;obtain⟨x,hx⟩:∃ x,x ∈ outs:=by
  have:=M.q1;cases outs with
  | nil=>simp at this
  | cons x l=>exact⟨x,by simp⟩
 have h3:=Zgv (fun y hy=>(M.q y hy).1) hx;have h4:=(M.q x hx).1;exact⟨M.f,by omega⟩
section
attribute [local simp] Zu Jq Jl J6 Jx Qaa J5 Zs J7 Zo Zb Xbl Yr Qb6 Qc7 Vs Zw V4 Yf Vw Vd Zn Z9 Z6 Z0 Zq Qbo Zp Za Z7 Z1 Z2 Zr Yy Up Z4
set_option maxHeartbeats 8000000 in
def Jcg(b:Nat){hs g:Heap}{lb mbl ν clk pb mb i T:Nat}{N:Int}{pv lv:Value}{ls:List LC}{W:List WtV}{z:TxV}(I:DIv hs lb mbl ν clk ls pb mb g N pv W)(hn:W.length<=31)(hN:N<=700000000)(G:Zg6 (Qum ls) 1000)(tz:TxAt g z)(sz:ApartP pb mb pv z)(szl:∀ v ∈ Y1c z,∀ c,J4 v=some c->hs.next<=c)
  {o fee:Int} {pts:List Pt} {qs:List POut} (M:MadeOf (Qum ls) z.p o pts qs fee) (gT:g.get T=some (.cells true 1 (txC z.iv z.ov z.lock)))
  {t:Tr Value} (R:DRg t lv lb pb i) (t8:t.get 8=some (pO T 0)) (K:Exit->St->Prop)
  (hk:∀ (t':Tr Value) (g':Heap) (N':Int) (pv':Value) (W':List WtV),DRg t' lv lb pb i->DIv hs lb mbl ν clk ls pb mb g' N' pv' W'->W'.length<=W.length+1->N'<=N+8*W.length+8->K .normal ⟨⟨101,t'⟩,[],g'⟩) :
  Qac (E b) (Xrd Tryz.prog (E b).G) (D0 b) none Qz9 ⟨⟨101,t⟩,[],g⟩ K:=by
 obtain⟨t1,t5,t6,t7⟩:=R;have B0:(0:Int)<=1000:=by omega
 have B4:4*(1000:Int)<=1125899906842624:=by omega
 have L0:=I.L.old I.a;have P0:=I.P;simp[Z5,Z3,Yt,-Yt,t1,t5,t6,t7,t8];refine Z02 b L0.la P0.gp P0.o.sl (by omega) P0.ta P0.hid P0.hd P0.hf _ fun g1 a1 => ?_;obtain⟨f0,ef0⟩:∃ f0,f0=Qh5 W:=⟨_,rfl⟩;rw[<- ef0];have P1:=P0.old a1;simp[Z5,Z3,Yt,-Yt,t1,t5,t6,t7,t8];refine Zx0 b P1.gp P1.o.sl (by omega) P1.ta _ fun tv m g2 R2 a2 e2 => ?_;have P2:=P1.old a2;have a02:=a1.trans a2;have L2:=L0.old a02;have lm:m.length=W.length:=by have:=congrArg List.length e2;simpa using this
 have lenT:∀ hx,Qkc (E b).toEnv 37 tv hx=some (.int .i64 (W.length:Int)):=fun hx=>by rw[<- lm];exact Qa0 (T37 b) R2.o.sl
 have ldT:Wy g2 T 0 3=some (.agg ⟨txC z.iv z.ov z.lock⟩):=by rw[V2 (a02.get gT) (by simp[txC])];rfl
 have hil:z.ins.length<=4:=by
  have:=Jo8 M G B0 B4;have e:z.p.ins=z.ins.map InV.p:=rfl;rw[e,aL]at this;exact this
 simp[Z5,Z3,Yt,-Yt,t1,t5,t6,t7,t8,ldT];refine Jjn b P2 L2 (by simp) (by omega) (by omega) (tz.old a02) sz (Ymx M G B0 B4) (by omega) (Z7o M G B0 B4 (by simp)) (Z54 M G B0 B4) _ (fun g3 e a3 he => ?_) fun pv3 g3 N3 w P3 wf3 hlt n3 k3 hN3 v3 => ?_
 ·have P3:=P2.old a3;have a03:=a02.trans a3;have L3:=L0.old a03;simp[Z5,Z3,Yt,-Yt,t1,t5,t6,t7,t8];refine Z02 b L3.la P3.gp P3.o.sl (by omega) P3.ta P3.hid P3.hd P3.hf _ fun g4 a4 => ?_;have P4:=P3.old a4;simp[Z5,Z3,Yt,-Z3,t1,t5,t6,t7,t8];refine Zx0 b P4.gp P4.o.sl (by omega) P4.ta _ fun tv5 m5 g5 R5 a5 e5 => ?_;have P5:=P4.old a5;have lm5:m5.length=W.length:=by have:=congrArg List.length e5;simpa using this
  have lenT5:∀ hx,Qkc (E b).toEnv 37 tv5 hx=some (.int .i64 (W.length:Int)):=fun hx=>by rw[<- lm5];exact Qa0 (T37 b) R5.o.sl
  have he0:¬ e=0:=by omega
  simp[Z5,Z3,Yt,-Z5,t1,t5,t6,t7,t8,lenT5,he0];refine Zx0 b P5.gp P5.o.sl (by omega) P5.ta _ fun tv6 m6 g6 R6 a6 e6 => ?_;have a36:=a4.trans (a5.trans a6);have lm6:m6.length=W.length:=by have:=congrArg List.length e6;simpa using this
  simp[Z5,Z3,Yt,-Z5,t1,t5,t6,t7,t8,he0];refine(Z9j b (((R2.old a3).old a36).txs (by omega)) (R6.txs (by omega)) (by rw[e2,e6]) _ fun g7 a7 => ?_).ok;have I7:=I.old (((a02.trans a3).trans a36).trans a7);rcases he with rfl | rfl
  ·simp[Z5,Z3,Yt,t1,t5,t6,t7,t8];exact hk _ g7 N pv W ⟨by simp[t1],by simp[t5],by simp[t6],by simp[t7]⟩ I7 (by omega) (by omega)
  ·simp[Z5,Z3,Yt,t1,t5,t6,t7,t8];exact hk _ g7 N pv W ⟨by simp[t1],by simp[t5],by simp[t6],by simp[t7]⟩ I7 (by omega) (by omega)
 ·have tl:=Jbk (l:=W) (q:=Yeh z.p) (w:=w) (by rw[wf3];exact(Z54 M G B0 B4).1) (by rw[wf3];exact hlt);obtain⟨W3,eW3⟩:∃ W3,W3=(W.filter fun x => !Yeh z.p x) ++ [w]:=⟨_,rfl⟩;rw[<- eW3]at P3 tl;obtain⟨tl1,tl2,tl3⟩:=tl;have hv3:∀ c,J4 pv3=some c->hs.next<=c:=fun c hc=>by
   rcases v3 c hc with q | q
   ·exact I.v c q
   ·have:=(I.a.trans a02).1;omega
  have ag3:Old hs g3:=⟨by have:=(I.a.trans a02).1;omega,fun c hc=>by
   have hc2:c < g2.next:=au hc (I.a.trans a02).1;rw[k3 c hc2 (by have:=I.p;omega) (by have:=I.m;omega) (fun e=>by have:=I.v c e;omega),(I.a.trans a02).2 c hc]⟩
  have L3:=I.L.old ag3;simp[Z5,Z3,Yt,-Yt,t1,t5,t6,t7,t8];refine Z02 b L3.la P3.gp P3.o.sl (by omega) P3.ta P3.hid P3.hd P3.hf _ fun g4 a4 => ?_;obtain⟨f1,ef1⟩:∃ f1,f1=Qh5 W3:=⟨_,rfl⟩;rw[<- ef1];have P4:=P3.old a4;simp[Z5,Z3,Yt,-Z3,t1,t5,t6,t7,t8];refine Zx0 b P4.gp P4.o.sl (by omega) P4.ta _ fun tv5 m5 g5 R5 a5 e5 => ?_;have lm5:m5.length=W3.length:=by have:=congrArg List.length e5;simpa using this
  have lenT5:∀ hx,Qkc (E b).toEnv 37 tv5 hx=some (.int .i64 (W3.length:Int)):=fun hx=>by rw[<- lm5];exact Qa0 (T37 b) R5.o.sl
  have I5:DIv hs lb mbl ν clk ls pb mb g5 N3 pv3 W3:=⟨P4.old a5,I.L,ag3.trans (a4.trans a5),I.p,I.m,hv3⟩;have c1:¬ f1 < f0:=by omega
  have hw1:IntKind.i64.wrap ((W.length:Int)+1)=(W.length:Int)+1:=Uq (by omega) (by omega);have c3:¬ (W.length:Int)+1 < (W3.length:Int):=by omega
  by_cases hle:W3.length<=W.length
  ·have hle':(W3.length:Int)<=(W.length:Int):=by omega
   have c2:¬ f1<=f0:=by have:=tl2 hle;omega
   simp[Z5,Z3,Yt,t1,t5,t6,t7,t8,lenT,lenT5,c1,c2,c3,hle,hle',hw1];exact hk _ g5 N3 pv3 W3 ⟨by simp[t1],by simp[t5],by simp[t6],by simp[t7]⟩ I5 tl3 hN3
  ·have hle':¬ (W3.length:Int)<=(W.length:Int):=by omega
   simp[Z5,Z3,Yt,t1,t5,t6,t7,t8,lenT,lenT5,c1,c3,hle,hle',hw1];exact hk _ g5 N3 pv3 W3 ⟨by simp[t1],by simp[t5],by simp[t6],by simp[t7]⟩ I5 tl3 hN3
end
def DMI(hs:Heap)(lb mbl ν clk:Nat)(ls:List LC)(pb mb:Nat)(lv:Value)(n:Nat)(k:Nat)(s:St):Prop:=∃ (t:Tr Value) (g:Heap) (i:Nat) (N:Int) (pv:Value) (W:List WtV),s=⟨⟨101,t⟩,[],g⟩/\DRg t lv lb pb i/\i<=n/\i<=30/\k=30-i/\W.length<=i/\N<=1000*(i:Int)/\DIv hs lb mbl ν clk ls pb mb g N pv W
section
attribute [local simp] Zu Jq Jl J6 Jx Qaa J5 Zs J7 Zo Zb Xbl Yr Qc7 Vs Zw V4 Yf Vw Vd Zn Z9 Z6 Z0 Zq Qbo Zp Za Z7 Z1 Z2 Zr Z5 Z3 Yt Up
set_option maxHeartbeats 8000000 in
def Jlr(b:Nat){h:Heap}{sv lv:Value}{st:List Int}{l:List MvV}(la:Ab.LaidIn h laidAll)(s1:Sl h 1 sv st.length (st.map (Value.int .i64)))(n1:st.length < 4611686018427387904)(s2:MvsAt h lv l)(K:KP)(hk:∀ h',K (.ret (.bool true)) h') :
  CallOK Tryz.prog (E b).G 3 [sv,lv] h K:=by
 refine Qh3 (E b) (Vy _ _) (Uf b) (Jd b) mixed (Ui b) (Jl b) X0q.1 X0q.2.1 X0q.2.2 rfl ?_;simp[Qb6,Yy,Z4,-Z4];refine Jgg b la s1 n1 _ fun lb mbl clk ν hs ls L G hl a1 x1 x2 => ?_;simp[Qb6,Yy,Z4,-Z4];refine Z9n b _ fun h2 pb mb gp sp a2 p1 p2 pm => ?_;have ne:Zhe (E b).toEnv .eql 24 (pO lb 0) (.pointer none)=some (.bool false):=kR
 have ne2:Zhe (E b).toEnv .eql 26 (pO pb 0) (.pointer none)=some (.bool false):=kR
 have lenM:∀ hx,Qkc (E b).toEnv 23 lv hx=some (.int .i64 (l.length:Int)):=fun hx=>Qa0 (T23 b) s2.s;have P2:PoolS h2 pb mb 0 (.slice none 0 0) []:=⟨gp,Own.nil,sp,by simp,by simp,by simp,by simp,by simp,pm,by simp[J4],by simp[J4],by simp,by omega⟩;simp[Qb6,Yy,Z4,ne,ne2];refine Qdf (DMI hs lb mbl ν clk ls pb mb lv l.length) 30 ⟨_,h2,0,0,.slice none 0 0,[],rfl,⟨by simp,by simp,by simp,by simp⟩,by omega,by omega,rfl,by simp,by simp,⟨P2,L,a2,p1,p2,fun c hc=>by cases hc⟩⟩ ?_;rintro k s' ⟨t,g,i,N,pv,W,rfl,⟨t1,t5,t6,t7⟩,hi,hi2,rfl,hWi,hNi,I⟩ -;have ahg:Old h g:=a1.trans I.a;by_cases hlt:i < l.length/\i < 30
 ·have hlt':(i:Int) < (l.length:Int):=by omega
  have hlt2:(i:Int) < 30:=by omega
  have hw:=wS (i:=i) (by omega);obtain⟨x,hx⟩:∃ x,l[i]? = some x:=⟨_,List.getElem?_eq_getElem hlt.1⟩;obtain⟨bk,off,y1,y2⟩:=Jti (b:=b) (T23 b) Zkm (s2.s.old ahg) hx;have mv:=(s2.a x (List.mem_of_getElem? hx)).old ahg;simp[Qb6,Yy,Z4,-Yy,t1,t5,t6,t7,lenM,hlt',hlt2,y1,y2];refine Jnb b (I.L.old I.a) (by omega) G (by omega) (by omega) mv _ (fun g1 b1 => ?_) fun iv2 ov2 ins2 outs2 g1 M => ?_
  ·obtain⟨hA,g2,alA,stA,stA',gg2,b2,m2⟩:=Quc b (Zj9 b) (l:=X2g) (by rw[Qvs];rfl) (by kernel_rfl) g1;obtain⟨nt,ent⟩:∃ nt,nt=X2g:=⟨_,rfl⟩;have nl:nt.length=3:=by rw[ent];rfl
   rw[<- ent]at stA stA' ⊢;simp[Qb6,Yy,Z4,-Yy,t1,t5,t6,t7,-Qb6,alA,stA,stA',nl,hw];exact⟨30-(i+1),by omega,_,g2,i+1,N,pv,W,rfl,⟨by simp[t1],by simp[t5],by simp[t6],by simp⟩,by omega,by omega,rfl,by omega,by omega,I.old (b1.trans b2)⟩
  ·obtain⟨z,ez⟩:∃ z:TxV,z=⟨iv2,ov2,ins2,outs2,0⟩:=⟨_,rfl⟩;have zc:txC iv2 ov2 0=txC z.iv z.ov z.lock:=by rw[ez]
   have b1:=M.r.i.a;obtain⟨tz,fz⟩:=M.r.txv (lock:=0) M.p;rw[<- ez]at tz fz;obtain⟨o,pts,qs,fee,MO⟩:=M.m;have MO:MadeOf (Qum ls) z.p o pts qs fee:=by rw[ez];exact MO
   rw[zc];obtain⟨hA,g2,alA,stA,stA',gg2,b2,m2⟩:=Quc b (Zj9 b) (l:=txC z.iv z.ov z.lock) (by rw[Qvs];rfl) (by kernel_rfl) g1;have tlc:(txC z.iv z.ov z.lock).length=3:=rfl;have b12:=b1.trans b2;have lpb:=Heap.get_lt I.P.gp;have lmb:mb < g.next:=by obtain⟨_,_,q,_⟩:=I.P.sp;exact Heap.get_lt q
   have sz:ApartP pb mb pv z:=⟨fun v hv c hc=>by
    have:=fz v hv c hc;exact⟨by omega,by omega,fun e=>by have:=(I.P.o.from e).2;omega⟩⟩
   simp[Qb6,Yy,Z4,-Yy,t1,t5,t6,t7,-Qb6,alA,stA,stA',tlc];refine Jcg b (I.old b12) (i:=i) (lv:=lv) (by omega) (by omega) G (tz.old b2) sz (fun v hv c hc=>by have:=fz v hv c hc;have:=I.a.1;omega) MO gg2 ⟨by simp[t1],by simp[t5],by simp[t6],by simp[t7]⟩ (by simp) _ fun t' g' N' pv' W' ⟨u1,u5,u6,u7⟩ I' hW' hN' => ?_;simp[Qb6,Yy,Z4,u7,hw];exact⟨30-(i+1),by omega,_,g',i+1,N',pv',W',rfl,⟨by simp[u1],by simp[u5],by simp[u6],by simp⟩,by omega,by omega,rfl,by omega,by omega,I'⟩
 ·have lag:=(I.L.old I.a).la;by_cases h1':i < l.length
  ·have hlt':(i:Int) < (l.length:Int):=by omega
   have h2:¬ (i:Int) < 30:=by omega
   simp[Qb6,Yy,Z4,t1,t5,t6,t7,lenM,hlt',h2];refine(Je8 b lag _ ?_).ok;simp[Qb6,Yy,Z4];exact hk g
  ·have hlt':¬ (i:Int) < (l.length:Int):=by omega
   simp[Qb6,Yy,Z4,t1,t5,t6,t7,lenM,hlt'];refine(Je8 b lag _ ?_).ok;simp[Qb6,Yy,Z4];exact hk g
end
end Go.Proofs.YtapodfgjkmddlaaGreatDoor
end
noncomputable section
namespace Go.Proofs.YtapodfgjkmddlaaGreatDoor
open Go Go.Ab
open Go.ChangeShapes Go.WideShapes Go.RowKit
set_option maxRecDepth 1000000
abbrev InQ:Heap->List Value->Prop:=SlQ 1 (fun _ cs=>IntsOf [.i64] cs)
abbrev Jun:Heap->List Value->Prop:=fun _ cs=>IntsOf [.i64] cs
def Z64:∀ {rows:List (List Value)},(∀ r ∈ rows,IntsOf [.i64] r)->∃ xs:List Int,rows.flatten=xs.map (Value.int .i64)/\xs.length=rows.length
 | [],_=>⟨[],rfl,rfl⟩
 | r::rows,h=>by
  obtain⟨n,r',rfl,hw,hr'⟩:=h r (by simp);have : r'=[]:=hr';subst this;obtain⟨xs,h1,h2⟩:=Z64 (rows:=rows) fun q hq=>h q (by simp[hq]);exact⟨n::xs,by simp[h1],by simp[h2]⟩
def Jf8{h:Heap}{v:Value}(q:InQ h [v]):∃ xs:List Int,Sl h 1 v xs.length (xs.map (Value.int .i64))/\xs.length < 4611686018427387904:=by
 obtain⟨v',rows,e,s,hb,hr⟩:=q;obtain rfl:v=v':=by simpa using e
 obtain⟨xs,h1,h2⟩:=Z64 fun r hm=>(hr r hm).1;refine⟨xs,?_,?_⟩
 ·rw[h2,<- h1];exact s
 ·rw[h2];exact dD hb (by decide)
abbrev MvQ:Heap->List Value->Prop:=CatQ [InQ,Jun,Jun,Jun]
abbrev Jv7:Heap->List Value->Prop:=SlQ 4 MvQ
def Z9e:X1c MvQ:=CatQ.stable fun Q hQ=>by
 simp only[ap,cm,or_false]at hQ;rcases hQ with rfl | rfl | rfl | rfl
 ·exact SlQ.stable (Qu0 _)
 ·exact Qu0 _
 ·exact Qu0 _
 ·exact Qu0 _
def Jt9{h:Heap}{cs:List Value}(q:MvQ h cs):∃ x:MvV,cs=x.cells/\MvAt h x:=by
 obtain⟨c1,r1,rfl,q1,c2,r2,rfl,q2,c3,r3,rfl,q3,c4,r4,rfl,q4,qn⟩:=q;obtain rfl:r4=[]:=qn;obtain⟨cv,e1⟩:∃ v,c1=[v]:=by obtain⟨v,_,e,_⟩:=q1;exact⟨v,e⟩
 subst e1;obtain⟨xs,s1,n1⟩:=Jf8 q1;obtain⟨z2,y2,rfl, -,e2⟩:=q2;obtain⟨z3,y3,rfl, -,e3⟩:=q3;obtain⟨z4,y4,rfl, -,e4⟩:=q4;obtain rfl:y2=[]:=e2;obtain rfl:y3=[]:=e3;obtain rfl:y4=[]:=e4;exact⟨⟨cv,xs,z2,z3,z4⟩,rfl,s1,n1⟩
def Jg1{h:Heap}:∀ {rows:List (List Value)},(∀ r ∈ rows,MvQ h r)->∃ l:List MvV,rows.flatten=Y6h l/\l.length=rows.length/\∀ x ∈ l,MvAt h x
 | [],_=>⟨[],rfl,rfl,by simp⟩
 | r::rows,hr=>by
  obtain⟨x,rfl,hx⟩:=Jt9 (hr r (by simp));obtain⟨l,h1,h2,h3⟩:=Jg1 (rows:=rows) fun q hq=>hr q (by simp[hq]);refine⟨x::l,by simp[h1,Y6h],by simp[h2],fun q hq => ?_⟩;rcases ap.1 hq with rfl | hq
  ·exact hx
  ·exact h3 q hq
def Jrz{h:Heap}{v:Value}(q:Jv7 h [v]):∃ l,MvsAt h v l:=by
 obtain⟨v',rows,e,s,hb,hr⟩:=q;obtain rfl:v=v':=by simpa using e
 obtain⟨l,h1,h2,h3⟩:=Jg1 fun r hm=>(hr r hm).1;refine⟨l,⟨?_,?_,h3⟩⟩
 ·rw[h2,<- h1];exact s
 ·rw[h2];exact dD hb (by decide)
def Jg6:Array Field:=match Tryz.prog.underlying 35 with
 | some (.struct fs)=>fs
 | _ => #[]
def Yqz(i:Nat):Field:=(Jg6[i]?).getD default
section
variable{H:Type}{enc:TypeId × Value->H}{W:World}
def Zsh:Jdc enc Tryz.prog ⟨nv,W.heap.size⟩ W 22 InQ:=Zgy (e:=3) rfl (by kernel_rfl) (by kernel_rfl) (by omega) (by rw[show Tryz.prog.bytesOf 3=8 by kernel_rfl];omega) (Qu0 _) (Yib (by kernel_rfl))
def Jar:Jdc enc Tryz.prog ⟨nv,W.heap.size⟩ W 35 MvQ:=by
 refine Z3g (fs:=Jg6) (by kernel_rfl) ?_ (by kernel_rfl);rw[show Jg6.toList=[Yqz 0,Yqz 1,Yqz 2,Yqz 3] by kernel_rfl];refine⟨by kernel_rfl,?_,SlQ.stable (Qu0 _),by kernel_rfl,?_,Qu0 _,by kernel_rfl,?_,Qu0 _,by kernel_rfl,?_,Qu0 _,trivial⟩
 ·rw[show(Yqz 0).type=22 by kernel_rfl];exact Zsh
 ·rw[show(Yqz 1).type=3 by kernel_rfl];exact Yib (by kernel_rfl)
 ·rw[show(Yqz 2).type=3 by kernel_rfl];exact Yib (by kernel_rfl)
 ·rw[show(Yqz 3).type=3 by kernel_rfl];exact Yib (by kernel_rfl)
def Z83:Jdc enc Tryz.prog ⟨nv,W.heap.size⟩ W 23 Jv7:=Zgy (e:=35) rfl (by kernel_rfl) (by kernel_rfl) (by omega) (by rw[show Tryz.prog.bytesOf 35=48 by kernel_rfl];omega) Z9e Jar
end
end Go.Proofs.YtapodfgjkmddlaaGreatDoor
end
