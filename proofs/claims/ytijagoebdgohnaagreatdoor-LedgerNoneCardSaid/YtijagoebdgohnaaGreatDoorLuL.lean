import Derived.Test.YtijagoebdgohnaaGreatDoorLuA
import Derived.Test.YtijagoebdgohnaaGreatDoorLgI
import Derived.Test.YtijagoebdgohnaaGreatDoorHtA
import Derived.Test.YtijagoebdgohnaaGreatDoorScB
import Derived.Test.YtijagoebdgohnaaGreatDoorTxA
import Derived.Test.YtijagoebdgohnaaGreatDoorScA
import Derived.Test.YtijagoebdgohnaaGreatDoorWaA
import Derived.Test.YtijagoebdgohnaaGreatDoorBlA
import Derived.Test.YtijagoebdgohnaaGreatDoorAbH
set_option linter.all false
set_option maxHeartbeats 8000000
noncomputable section
namespace Go.Proofs.YtijagoebdgohnaaGreatDoor
open Go Go.Ab
set_option maxRecDepth 100000
attribute [local simp] Xn kON kOC Xp kNN kNP kRR kRP kEN kER Q4 Xb Z5 Yk aop Qe nth Ab.g0 gv gs Qb Qa aev evs evO Qf Tr.get_put St.put Tm.put flat flatA Yj Qk Qn Ql Qm Qi Qj Qh Qr Qg Q5 Q6 kTN kTR kTX kTP kBN kBR kBX kBP kCS kCR kCE kAM Xo.putAll Qy Q9 Q3 Q0 Q8 Qc Qd Q1 Q2 Q7 Ya Wl Yx ldv Nat.testBit Z7 loadAt Ab.runT J1 Zc Yr Vh Qa3
section
def Y9d(b:Nat){h:Heap}(laid:Ab.LaidIn h laidAll)(K:KP)(hk:∀ ν h',h'.get ν=some (.cells true 1 (Qrf.map u8v))->h.next<=ν->Old h h'->K (.ret (.pointer (some ⟨ν,0,none⟩))) h'):FK b 21 [] h K:=by
 refine F3 b (W9 b) Yuo rfl ?_;obtain⟨hA,eA,aA,gA⟩:=Q5u h ((Z5y.map u8v));have bl:Vj (E b).toEnv 57 4 [(0,.int .u8 107),(1,.int .u8 101),(2,.int .u8 121),(3,.int .u8 115)] h=some (.slice (some ⟨h.next,0,none⟩) 4 4,hA):=by rw[eA];exact Jg9 b _ _ _ _ h
 have s:SN hA (.slice (some ⟨h.next,0,none⟩) 4 4) Z5y:=(Own.new (n0:=0) (z:=1) (n:=4) (c:=4) (bz _) gA rfl (by decide) (.inr rfl)).sl;simp[Xcl,Yg3,W9,Zv6,Quu,bl,Z4a b gA];refine Jgl b (Laid.old laid aA) s (by simp[Z5y]) _ fun ν h1 g1 hn a1 => ?_;simp[Xcl,Yg3,W9,Zv6,Quu];exact hk ν h1 g1 (al aA.1 hn) (aA.trans a1)
def Jkv(x:Int)(m:Nat):Qgb (binOp .rem 3 (.int .i64 x) (.int .i64 (Int.ofNat (m+1))))=some (.int .i64 (Int.tmod x (Int.ofNat (m+1)))):=kR
def Jkr(x:Int){n:Int}(hn:0 < n):Qgb (binOp .rem 3 (.int .i64 x) (.int .i64 n))=some (.int .i64 (Int.tmod x n)):=by
 obtain⟨m,rfl⟩:∃ m:Nat,n=Int.ofNat (m+1):=⟨n.toNat-1,by simp;omega⟩;exact Jkv x m
def Xrj(b:Nat)(v:Int){n:Int}(hn:0 < n)(hm:n < 4611686018427387904)(h:Heap)(K:KP)(hk:K (.ret (.int .i64 (Xz6 v n))) h):FK b 17 [.int .i64 v,.int .i64 n] h K:=by
 refine F3 b (Yy b) Zcq rfl ?_;have hrem:=Jkr v hn;have hin:=Xfh v hn;have h0:¬ n < 1:=by omega
 unfold Xz6 at hk hin;by_cases hz:Int.tmod v n < 0
 ·rw[if_pos hz]at hk hin;have w2:IntKind.i64.wrap (Int.tmod v n+n)=Int.tmod v n+n:=W3 (by omega) (by omega);simp[Xnm,Yv3,Yy,Xt,Ydo,Xv,h0,hrem,hz,w2];exact hk
 ·rw[if_neg hz]at hk;simp[Xnm,Yv3,Yy,Xt,Ydo,Xv,h0,hrem,hz];exact hk
end
def Z2p{o:Int}(ho:0<=o/\o < 256):IntKind.u8.wrap o=o:=by
 have:=Z7j (n:=o.toNat) (by omega);rw[di ho.1]at this;exact this
def Xad{o:Int}(ho:0<=o/\o < 256):Bytes (Q88 o):=by
 intro x hx;simp only[Q88,ax,d4,or_false]at hx;rw[Z2p ho]at hx;rcases hx with rfl | rfl | rfl <;> omega
structure OutsR (h0 g:Heap) (ov:Value) (os:List OutV):Prop where
 o:Own g h0.next 2 ov os.length (Qna os)
 s:∀ x ∈ os,NewO g h0.next x
 d:∀ x ∈ os,∀ c,J6 x.sv=some c->J6 ov≠some c
 a:Old h0 g
def OutsR.nil(h:Heap):OutsR h h (.slice none 0 0) []:=⟨Own.nil,by simp,by simp,Old.refl _⟩
def OutsR.outs{h0 g:Heap}{ov:Value}{os:List OutV}(R:OutsR h0 g ov os)(hn:os.length < 1000000):Outs g ov os:=⟨R.o.sl,hn,fun x hx=>⟨(R.s x hx).1.sl,(R.s x hx).2.1,(R.s x hx).2.2⟩⟩
def OutsR.more(b:Nat){h0 g h3:Heap}{ov sv:Value}{os:List OutV}(R:OutsR h0 g ov os)(hi:os.length < 1000000)(a3:Old g h3){v:Int}{sc:List Int}(s3:OB h3 g.next sv sc)(hb:Bytes sc)(hl:sc.length < 1000000) :
  ∃ ov' h4,Qem (E b).toEnv 27 27 ov (.slice (some ⟨h3.next,0,none⟩) 1 1) (h3.push (.cells true 1 [.int .i64 v,sv]))=some (ov',h4)/\OutsR h0 h4 ov' (os ++ [⟨v,sv,sc⟩])/\X9r ov'=true/\(∀ c,J6 ov'=some c->J6 ov=some c∨h3.next<=c)/\(∀ c,c < h3.next->J6 ov≠some c->h4.get c=h3.get c)/\h3.next<=h4.next:=by
 have n1:=R.a.1;have n3:=a3.1;have o3:Own h3 h0.next 2 ov os.length (Qna os):=R.o.keep fun c _ hc=>a3.2 c hc;obtain⟨ov',h4,j1,j2,j3,j4⟩:=Qq9 (T27 b) (z:=2) Qi0 (by omega) o3 (al n1 n3) (ys:=[.int .i64 v,sv]) rfl (by rw[Znw];omega) (by omega);have lo:∀ c,J6 ov=some c->c < g.next:=fun c hc=>(R.o.from hc).2;have sF:∀ c,J6 sv=some c->g.next<=c/\c < h3.next:=fun c hc=>s3.from hc;refine⟨ov',h4,j1,⟨?_,fun x hx => ?_,fun x hx c hc e => ?_,?_⟩,j2.one,j4,j3.2,j3.1⟩
 ·rw[Yl4,aj,bh];exact j2
 ·rcases ac.1 hx with q | q
  ·exact((R.s x q).keep (h':=h3) fun c _ hc=>a3.2 c hc).keep (h':=h4) fun c hc hl=>j3.2 c hl (R.d x q c hc)
  ·rw[aw.1 q];exact⟨(s3.low n1).keep fun c hc hl=>j3.2 c hl (fun e=>by have:=sF c hc;have:=lo c e;omega),hb,hl⟩
 ·rcases ac.1 hx with q | q
  ·have:=((R.s x q).1.from hc).2;exact(j4 c e).elim (R.d x q c hc) fun r=>by omega
  ·rw[aw.1 q]at hc;have:=sF c hc;exact(j4 c e).elim (fun r=>by have:=lo c r;omega) fun r=>by omega
 ·exact j3.old (R.a.trans a3) o3
def Yw9(b:Nat)(v:Int)(sv:Value)(h:Heap):Vj (E b).toEnv 27 1 [(0,.agg ⟨[.int .i64 v,sv]⟩)] h=some (.slice (some ⟨h.next,0,none⟩) 1 1,h.push (.cells true 1 [.int .i64 v,sv])):=Q2h (T27 b) (z:=2) (y:=.agg ⟨[.int .i64 v,sv]⟩) (ys:=[.int .i64 v,sv]) Qi0 (by omega) (by omega) rfl rfl rfl
def Ygq(m:Qo1)(B:Int):Prop:=∀ p c,m p=some c->(∃ o:Int,1<=o/\o<=32/\c.script=Q88 o)/\1<=c.value/\c.value<=B/\0<=p.n/\p.n<=7
def Z1k{l:List POut}{p:Pt}{c:PC}(h:Ja2 l p=some c):∃ i o,l[i]? = some o/\p=pn i/\c=⟨o.value,o.script,0⟩:=by
 have key:∀ (n:Nat) (l:List POut),l.length=n->Ja2 l p=some c->∃ i o,l[i]? = some o/\p=pn i/\c=⟨o.value,o.script,0⟩:=by
  intro n;induction n with
  | zero=>intro l hl h;rw[aU hl]at h;cases h
  | succ n ih =>
   intro l hl h;rcases cR l with e | ⟨l',x,e⟩
   ·rw[e]at hl;cases hl
   ·rw[cS]at e;subst e;rw[aj,bh]at hl;rw[Zw5]at h;by_cases hp:p=pn l'.length
    ·rw[hp,Yww]at h;cases h;exact⟨l'.length,x,by simp,hp,rfl⟩
    ·rw[Zu7 hp]at h;obtain⟨i,o,h1,h2,h3⟩:=ih l' (by omega) h;have hi:=(au.1 h1).1;exact⟨i,o,by rw[aM hi];exact h1,h2,h3⟩
 exact key _ l rfl h
def SSI(h0:Heap)(lv:Value)(n:Nat)(k:Nat)(s:St):Prop:=∃ (t:Tr Value) (g:Heap) (ov:Value) (os:List OutV) (i:Nat),s=⟨⟨32,t⟩,[],g⟩/\t.get 0=some lv/\t.get 3=some ov/\t.get 4=some (.int .i64 (i:Int))/\i<=n/\i<=8/\k=8-i/\os.length=i/\OutsR h0 g ov os/\∀ x ∈ os,1<=x.value/\x.value<=1000/\∃ o:Int,1<=o/\o<=32/\x.script=Q88 o
def Jki(x:Int):Qgb (binOp .rem 3 (.int .i64 x) (.int .i64 3))=some (.int .i64 (Int.tmod x 3)):=kR
section
attribute [local simp] Qfr Qla Zw Qgz Qgw Qh0 Qll Xt Qh3 Qfw U2 Yy Xv Q9b J5 W9 Qce
def Z5x(b:Nat){h:Heap}{lv:Value}{l:List Int}(la:Ab.LaidIn h laidAll)(s:Sl h 1 lv l.length (l.map (Value.int .i64)))(hn:l.length < 4611686018427387904)
  (K:KP) (hk:∀ lb mb clk ν h' ls,LedS h' lb mb 1 ν clk Qrf (.slice none 0 0) ls []->Ygq (Qcv ls) 1000->ls.length<=8->Old h h'->h.next<=lb->h.next<=mb->K (.ret (.pointer (some ⟨lb,0,none⟩))) h') :
  CallOK Tryz.prog (E b).G 5 [lv] h K:=by
 refine Qkb (E b) (U7 _ _) (Ue b) (Ji b) mixed (Uk b) (Zw b) Yn8.1 Yn8.2.1 Yn8.2.2 rfl ?_;have len:∀ hx,Qne (E b).toEnv 22 lv hx=some (.int .i64 (l.length:Int)):=fun hx=>Qbq (T22 b) s;simp[Qcw];refine Qfs (SSI h lv l.length) 8 ⟨_,h,.slice none 0 0,[],0,rfl,by simp,by simp,by simp,by omega,by omega,rfl,rfl,OutsR.nil h,by simp⟩ ?_;rintro k s' ⟨t,g,ov,os,i,rfl,t0,t3,t4,hi,h8,rfl,hos,R,hv⟩ -;by_cases hlt:i < l.length/\i < 8
 ·have hlt':(i:Int) < (l.length:Int):=by omega
  have hlt8:(i:Int) < 8:=by omega
  have hw:=wS (i:=i) (by omega);obtain⟨x,hx⟩:∃ x,l[i]? = some x:=⟨_,ab hlt.1⟩;obtain⟨bk,off,x0,x1,x2, -⟩:=Xc9 (T22 b) Q3o (s.old R.a) (k:=.i64) (i:=(i:Int)) (by omega) hlt';have x2:=x2 0 (by omega);rw[bo,da,cg,cg,bf,hx]at x2;simp only[aK]at x2;have pin:=Xfh x (n:=1000) (by omega);obtain⟨v,ev⟩:∃ v,v=1+Xz6 x 1000:=⟨_,rfl⟩;have hwv:IntKind.i64.wrap (1+Xz6 x 1000)=v:=by rw[ev,W3 (by omega) (by omega)]
  have t3in:0<=Int.tmod (i:Int) 3/\Int.tmod (i:Int) 3 < 3:=⟨Int.tmod_nonneg _ (by omega),Int.tmod_lt_of_pos _ (by omega)⟩;obtain⟨o,eo⟩:∃ o,o=1+Int.tmod (i:Int) 3:=⟨_,rfl⟩;have hwo:IntKind.i64.wrap (1+Int.tmod (i:Int) 3)=o:=by rw[eo,W3 (by omega) (by omega)]
  simp[Qcw,t0,t3,t4,len,hlt',hlt8,x1,x2];refine(Xrj b x (n:=1000) (by omega) (by omega) g _ ?_).ok;simp[Qcw,t0,t3,t4,hwv,Jki,hwo];refine(Zou b o g _ fun sv h2 o2 a2 => ?_).ok;obtain⟨ov',h4,j1,R4, -⟩:=R.more b (by omega) a2 (v:=v) o2 (Xad (by omega)) (by simp[Q88]);simp[Qcw,t0,t3,t4,Q3z b v o2.sl,Yw9,j1,hw];exact⟨8-(i+1),by omega,_,h4,ov',_,i+1,rfl,by simp[t0],by simp,by simp,by omega,by omega,rfl,by simp[hos],R4,fun y hy=>by
   rcases ac.1 hy with q | q
   ·exact hv y q
   ·rw[aw.1 q];exact⟨by show 1<=v;omega,by show v<=1000;omega,o,by omega,by omega,rfl⟩⟩
 ·have fin:∀ (tt:Tr Value),tt.get 3=some ov->Wr (E b) (Xhf Tryz.prog (E b).G) (D0 b) none Xbd ⟨⟨32,tt⟩,[],g⟩ (Y0x (E b) (DD b) Q1n K):=by
   intro tt e3;simp[Qcw,e3];refine(Y9d b (Laid.old la R.a) _ fun ν h1 g1 hn1 a1 => ?_).ok;simp[Qcw,e3];have hm:=R.outs (by omega);refine Z0p b (Laid.old la (R.a.trans a1)) ⟨true,1,g1⟩ Qlr (hm.old a1) (fun x hx=>by have:=hv x hx;omega) _ fun lb mb clk h2 ls S em hl a2 n1 n2 => ?_;simp[Qcw];have a12:=R.a.trans a1;refine hk lb mb clk ν h2 ls S (fun p c hc => ?_) (by omega) (a12.trans a2) (al a12.1 n1) (al a12.1 n2);rw[em]at hc;obtain⟨j,y,hy,rfl,rfl⟩:=Z1k hc;obtain⟨z,hz,rfl⟩:=ao.1 (ak hy);have hj:=(au.1 hy).1;rw[aT]at hj;obtain⟨q1,q2,q3⟩:=hv z hz;exact⟨q3,q1,q2,by show(0:Int)<=(j:Int);omega,by show(j:Int)<=7;omega⟩
  by_cases h1:i < l.length
  ·have hlt':(i:Int) < (l.length:Int):=by omega
   have h2:¬ (i:Int) < 8:=by omega
   simp[Qcw,-Qcw,t0,t3,t4,len,hlt',h2];exact fin _ (by simp[t3])
  ·have hlt':¬ (i:Int) < (l.length:Int):=by omega
   simp[Qcw,-Qcw,t0,t3,t4,len,hlt'];exact fin _ (by simp[t3])
end
def Z8v(x:InV):List Value:=x.wv::x.its.map (·.1)
def InAt.keepV{h h':Heap}{x:InV}(a:InAt h x)(k:∀ v ∈ Z8v x,∀ c,J6 v=some c->c < h.next->h'.get c=h.get c):InAt h' x :=
 ⟨a.w.keep fun c hc hl=>k x.wv (by simp[Z8v]) c hc hl,fun p hp=>⟨(a.i p hp).1.keep fun c hc hl=>k p.1 (bb _ (ao.2 ⟨p,hp,rfl⟩)) c hc hl,(a.i p hp).2⟩,a.n,a.l⟩
def InAt.lt{h:Heap}{x:InV}(a:InAt h x){v:Value}(hv:v ∈ Z8v x){c:Nat}(hc:J6 v=some c):c < h.next:=by
 rcases ax.1 hv with rfl | hv
 ·exact a.w.blk hc
 ·obtain⟨p,hp,rfl⟩:=ao.1 hv;exact(a.i p hp).1.blk hc
def InN(h:Heap)(n0:Nat)(x:InV):Prop:=InAt h x/\∀ v ∈ Z8v x,∀ c,J6 v=some c->n0<=c
structure InsR (h0 g:Heap) (iv:Value) (ins:List InV):Prop where
 o:Own g h0.next 34 iv ins.length (Qd3 ins)
 s:∀ x ∈ ins,InN g h0.next x
 d:∀ x ∈ ins,∀ v ∈ Z8v x,∀ c,J6 v=some c->J6 iv≠some c
 a:Old h0 g
def InsR.nil(h:Heap):InsR h h (.slice none 0 0) []:=⟨Own.nil,by simp,by simp,Old.refl _⟩
def InsR.ins{h0 g:Heap}{iv:Value}{ins:List InV}(R:InsR h0 g iv ins)(hn:ins.length < 1000000):Ins g iv ins:=⟨R.o.sl,hn,fun x hx=>(R.s x hx).1⟩
def InsR.old{h0 g g':Heap}{iv:Value}{ins:List InV}(R:InsR h0 g iv ins)(a:Old g g'):InsR h0 g' iv ins:=⟨R.o.keep fun c _ hc=>a.2 c hc,fun x hx=>⟨(R.s x hx).1.old a,(R.s x hx).2⟩,R.d,R.a.trans a⟩
def OutsR.old{h0 g g':Heap}{ov:Value}{os:List OutV}(R:OutsR h0 g ov os)(a:Old g g'):OutsR h0 g' ov os:=⟨R.o.keep fun c _ hc=>a.2 c hc,fun x hx=>(R.s x hx).keep fun c _ hc=>a.2 c hc,R.d,R.a.trans a⟩
def Zto(l m:List InV):Qd3 (l++m)=Qd3 l++Qd3 m:=by simp[Qd3]
def InsR.more(b:Nat){h0 g h3:Heap}{iv:Value}{ins:List InV}(R:InsR h0 g iv ins)(hi:ins.length < 1000000)(a3:Old g h3){x:InV}(hx:InN h3 g.next x) :
  ∃ iv' h4,Qem (E b).toEnv 30 30 iv (.slice (some ⟨h3.next,0,none⟩) 1 1) (h3.push (.cells true 1 x.cells))=some (iv',h4)/\InsR h0 h4 iv' (ins ++ [x])/\X9r iv'=true/\∀ c,c < h3.next->J6 iv≠some c->h4.get c=h3.get c:=by
 have n1:=R.a.1;have n3:=a3.1;have o3:Own h3 h0.next 34 iv ins.length (Qd3 ins):=R.o.keep fun c _ hc=>a3.2 c hc;obtain⟨iv',h4,j1,j2,j3,j4⟩:=Qq9 (T30 b) (z:=34) Qma (by omega) o3 (al n1 n3) (ys:=x.cells) x.len (by rw[Zok];omega) (by omega);have lo:∀ c,J6 iv=some c->c < g.next:=fun c hc=>(R.o.from hc).2;refine⟨iv',h4,j1,⟨?_,fun y hy => ?_,fun y hy v hv c hc e => ?_,?_⟩,j2.one,j3.2⟩
 ·rw[Zto,aj,bh];have : Qd3 [x]=x.cells:=by simp[Qd3]
  rw[this];exact j2
 ·rcases ac.1 hy with q | q
  ·obtain⟨q1,q2⟩:=R.s y q;exact⟨(q1.old a3).keepV fun v hv c hc hl=>j3.2 c hl (R.d y q v hv c hc),q2⟩
  ·rw[aw.1 q];exact⟨hx.1.keepV fun v hv c hc hl=>j3.2 c hl fun e=>by have:=hx.2 v hv c hc;have:=lo c e;omega,fun v hv c hc=>al n1 (hx.2 v hv c hc)⟩
 ·rcases ac.1 hy with q | q
  ·have:=(R.s y q).1.lt hv hc;exact(j4 c e).elim (R.d y q v hv c hc) fun r=>by omega
  ·rw[aw.1 q]at hv;have:=hx.2 v hv c hc;have:=hx.1.lt hv hc;exact(j4 c e).elim (fun r=>by have:=lo c r;omega) fun r=>by omega
 ·exact j3.old (R.a.trans a3) o3
def Z03(b:Nat)(p:Pt){v:Value}(hv:X9r v=true):Qm8 (E b).toEnv 71 [(0,.agg ⟨p.cells⟩),(1,v)]=some (.agg ⟨p.cells ++ [v]⟩):=by
 obtain⟨fs,pl,hfs,hpl,hp0,hp1⟩:∃ fs pl,R71.desc=.struct fs/\Q17 (E b).toEnv fs.toList=some pl/\nth pl 0=some (0,33)/\nth pl 1=some (33,1) :=
  ⟨(match R71.desc with | .struct fs=>fs | _ => #[]),(Q17 (E b).toEnv (match R71.desc with | .struct fs=>fs | _ => #[]).toList).getD [],by kernel_rfl,by kernel_rfl,by kernel_rfl,by kernel_rfl⟩
 obtain⟨zz,ez,hz,hzd⟩:∃ zz:List Value,zz=R71.zero.cells.toList/\zz.length=34/\zz.drop 33=[.slice none 0 0]:=⟨_,rfl,by kernel_rfl,by kernel_rfl⟩;have e2:(Qh6 (.agg ⟨p.cells⟩) && (Value.agg ⟨p.cells⟩).cells.size == 33 && Nat.ble (0+33) zz.length)=true:=by
  have h1:(Value.agg ⟨p.cells⟩).cells.size=33:=p.len;rw[h1,hz];rfl
 have e3:Ql3 zz 0 (Value.agg ⟨p.cells⟩).cells.toList=some (p.cells++zz.drop 33):=by
  show Ql3 zz 0 p.cells=_;rw[Qpt (by rw[p.len,hz];omega)];simp[p.len]
 obtain⟨n1,n2⟩:=Q09 hv;have l4:(p.cells ++ [.slice none 0 0]:List Value).length=34:=by simp[p.len]
 have e4:(Qh6 v && v.cells.size == 1 && Nat.ble (33+1) (p.cells ++ [.slice none 0 0]:List Value).length)=true:=by
  rw[n1,n2,l4];rfl
 have e5:Ql3 (p.cells ++ [.slice none 0 0]:List Value) 33 v.cells.toList=some (p.cells ++ [v]):=by
  rw[n2];show Ql3 _ 33 [v]=_;rw[Qpt (by rw[l4];exact ae _)];have lp:=p.len;simp[<- lp]
 simp only[Qm8,Zb2,hfs,hpl,<- ez,Xqi,hp0,hp1,e2,if_true,e3,hzd,e4,e5,aK]
def CII(h:Heap)(sv:Value)(l:List InV)(k:Nat)(s:St):Prop:=∃ (t:Tr Value) (g:Heap) (iv:Value) (ins:List InV) (i:Nat),s=⟨⟨27,t⟩,[],g⟩/\t.get 0=some sv/\t.get 3=some iv/\t.get 4=some (.int .i64 (i:Int))/\i<=l.length/\k=l.length-i/\ins.length=i/\InsR h g iv ins/\ins.map InV.p=(l.take i).map InV.p
section
attribute [local simp] Qmr Qth Qgs Qp6 Qpg Qph W6 Xt V9 W5 Qd4 Qh8 Qcm Xv
def Zzf(b:Nat){h:Heap}{sv:Value}{l:List InV}(si:Ins h sv l)(K:KP)(hk:∀ iv ins h',InsR h h' iv ins->ins.map InV.p=l.map InV.p->K (.ret iv) h'):FK b 55 [sv] h K:=by
 refine F3 b (Qgs b) Yn7 rfl ?_;have hn:=si.n;have len:∀ hx,Qne (E b).toEnv 30 sv hx=some (.int .i64 (l.length:Int)):=fun hx=>Qbq (T30 b) si.s;simp;refine Qfs (CII h sv l) l.length ⟨_,h,.slice none 0 0,[],0,rfl,by simp,by simp,by simp,by omega,rfl,rfl,InsR.nil h,by simp⟩ ?_;rintro k s' ⟨t,g,iv,ins,i,rfl,t0,t3,t4,hi,rfl,hil,R,hp⟩ _;by_cases hlt:i < l.length
 ·have hlt':(i:Int) < (l.length:Int):=by omega
  have hw:=wS (i:=i) (by omega);obtain⟨x,hx⟩:∃ x,l[i]? = some x:=⟨_,ab hlt⟩;have sg:=si.old R.a;obtain⟨bk,off, -,x1, -,x3⟩:=Yd2 (b:=b) (T30 b) Qma sg.s hx;have x2:=Jdw (b:=b) sg.s hx x1;have x4:=x3 33 (by omega);rw[Jib]at x4;have xa:=sg.a x (ak hx);obtain⟨_,h2,c1,n1,o,out,rfl,q1,q2,q3,q4,a2⟩:=Zz4 b xa.w (by have:=xa.n;omega) xa.i (fun p hp=>by have:=xa.l p hp;omega) (fun r h' => ∃ o out,r=.ret o/\Own h' g.next 1 o x.its.length (out.map (·.1))/\out.map (·.2)=x.its.map (·.2)/\ItsAt h' out/\(∀ p ∈ out,∀ c,J6 p.1=some c->g.next<=c/\J6 o≠some c)/\Old g h') (fun o out h' a1 a2 a3 a4 a5=>⟨o,out,rfl,a1,a2,a3,a4,a5⟩);have lo:out.length=x.its.length:=by have:=congrArg List.length q2;simpa using this
  obtain⟨y,ey⟩:∃ y:InV,y=⟨x.pt,o,out⟩:=⟨_,rfl⟩;have yn:InN h2 g.next y:=by
   rw[ey];refine⟨⟨by show Sl h2 1 o out.length _;rw[lo];exact q1.sl,q3,by show out.length < _;rw[lo];exact xa.n,fun p hp => ?_⟩,fun v hv c hc => ?_⟩
   ·have : p.2 ∈ x.its.map (·.2):=by rw[<- q2];exact ao.2 ⟨p,hp,rfl⟩
    obtain⟨r,hr,e⟩:=ao.1 this;rw[<- e];exact xa.l r hr
   ·rcases ax.1 hv with rfl | hv
    ·exact(q1.from hc).1
    ·obtain⟨p,hp,rfl⟩:=ao.1 hv;exact(q4 p hp c hc).1
  have yc:y.cells=x.pt.cells ++ [o]:=by rw[ey];rfl
  obtain⟨iv',h4,j1,R4, -, -⟩:=R.more b (by omega) a2 yn;rw[yc]at j1;have bl:Vj (E b).toEnv 30 1 [(0,.agg ⟨x.pt.cells ++ [o]⟩)] h2=some (.slice (some ⟨h2.next,0,none⟩) 1 1,h2.push (.cells true 1 (x.pt.cells ++ [o]))):=Q2h (T30 b) (z:=34) (y:=.agg ⟨x.pt.cells ++ [o]⟩) (ys:=x.pt.cells ++ [o]) Qma (by omega) (by omega) rfl rfl (by simp[Pt.len]);simp[t0,t3,t4,len,hlt'];have x2':Qb9 h2 bk off 33=some (.agg ⟨x.pt.cells⟩):=by
   have:=Jdw (b:=b) (sg.old a2).s hx x1;exact this
  have x4':J3 h2 bk (off+33)=some x.wv:=by
   have sg2:=sg.old a2;obtain⟨bk',off', -,y1, -,y3⟩:=Yd2 (b:=b) (T30 b) Qma sg2.s hx;rw[x1]at y1;cases y1;have:=y3 33 (by omega);rw[Jib]at this;exact this
  refine Qg6 [⟨86,[x.wv],g,o,h2,true⟩] ?_ X26 Ybk X5n (by simp[Yed,Ydu,Ye6,t0,t3,t4,x1,x2,x4,Z03 b x.pt q1.one,bl,j1];first | exact⟨rfl,rfl⟩ | rfl) ?_ ?_
  ·exact zk1 ⟨c1,n1,fun _ c hc=>a2.2 c hc⟩
  ·simp[Qgy,t0,t3,t4,x1,x2,x4,x2',x4',X1i xa.w]
  simp[t0,t3,t4,hw];refine⟨l.length-(i+1),by omega,_,h4,iv',_,i+1,rfl,by simp[t0],by simp,by simp,by omega,rfl,by simp[hil],R4,?_⟩;rw[bn,hx,bc,hp,ey];simp[InV.p,q2]
 ·have hlt':¬ (i:Int) < (l.length:Int):=by omega
  have : i=l.length:=by omega
  subst this;simp[t0,t3,t4,len];rw[bJ]at hp;exact hk iv ins g R hp
end
def COI(h:Heap)(sv:Value)(l:List OutV)(k:Nat)(s:St):Prop:=∃ (t:Tr Value) (g:Heap) (ov:Value) (os:List OutV) (i:Nat),s=⟨⟨27,t⟩,[],g⟩/\t.get 0=some sv/\t.get 3=some ov/\t.get 4=some (.int .i64 (i:Int))/\i<=l.length/\k=l.length-i/\os.length=i/\OutsR h g ov os/\os.map OutV.p=(l.take i).map OutV.p
section
attribute [local simp] Qkp Qr5 Qfa Qnx Qnz Qnv Qbm Xt V7 U2 Ve J7 Qab Xv Qm9 Qmc
def Zqr(b:Nat){h:Heap}{sv:Value}{l:List OutV}(si:Outs h sv l)(K:KP)(hk:∀ ov os h',OutsR h h' ov os->os.map OutV.p=l.map OutV.p->K (.ret ov) h'):FK b 56 [sv] h K:=by
 refine F3 b (Qfa b) Yhj rfl ?_;have hn:=si.n;have len:∀ hx,Qne (E b).toEnv 27 sv hx=some (.int .i64 (l.length:Int)):=fun hx=>Qbq (T27 b) si.s;simp;refine Qfs (COI h sv l) l.length ⟨_,h,.slice none 0 0,[],0,rfl,by simp,by simp,by simp,by omega,rfl,rfl,OutsR.nil h,by simp⟩ ?_;rintro k s' ⟨t,g,ov,os,i,rfl,t0,t3,t4,hi,rfl,hil,R,hp⟩ _;by_cases hlt:i < l.length
 ·have hlt':(i:Int) < (l.length:Int):=by omega
  have hw:=wS (i:=i) (by omega);obtain⟨x,hx⟩:∃ x,l[i]? = some x:=⟨_,ab hlt⟩;have sg:=si.old R.a;obtain⟨bk,off, -,x1, -,x2,x3⟩:=Xhg (b:=b) (T27 b) Qi0 sg.s hx;have xa:=sg.a x (ak hx);obtain⟨_,h2,c1,n1,sv2,rfl,o2,a2⟩:=Zk6 b xa.s (by have:=xa.l;omega) (fun r h' => ∃ v,r=.ret v/\OB h' g.next v x.script/\Old g h') (fun v h' o a=>⟨v,rfl,o,a⟩);obtain⟨ov',h4,j1,R4, -⟩:=R.more b (by omega) a2 (v:=x.value) o2 xa.b xa.l;have sg2:=sg.old a2;obtain⟨bk',off', -,y1, -,y2,y3⟩:=Xhg (b:=b) (T27 b) Qi0 sg2.s hx;rw[x1]at y1;cases y1;simp[t0,t3,t4,len,hlt'];refine Qg6 [⟨87,[x.sv],g,sv2,h2,true⟩] ?_ Xxx X29 X0a (by simp[Ybi,X9k,Ybf,t0,t3,t4,x1,x2,x3,Q3z b x.value o2.sl,Yw9,j1];first | exact⟨rfl,rfl⟩ | rfl) ?_ ?_
  ·exact zk1 ⟨c1,n1,fun _ c hc=>a2.2 c hc⟩
  ·simp[Qg2,t0,t3,t4,x1,x2,x3,y2,y3,X1i xa.s,Q5a]
  simp[t0,t3,t4,hw];refine⟨l.length-(i+1),by omega,_,h4,ov',_,i+1,rfl,by simp[t0],by simp,by simp,by omega,rfl,by simp[hil],R4,?_⟩;rw[bn,hx,bc,hp];simp[OutV.p]
 ·have hlt':¬ (i:Int) < (l.length:Int):=by omega
  have : i=l.length:=by omega
  subst this;simp[t0,t3,t4,len];rw[bJ]at hp;exact hk ov os g R hp
end
structure TxR (h0 g:Heap) (iv ov:Value) (ins:List InV) (outs:List OutV):Prop where
 i:InsR h0 g iv ins
 o:OutsR h0 g ov outs
 d1:∀ c,J6 iv=some c->J6 ov≠some c
 d2:∀ x ∈ outs,∀ c,J6 x.sv=some c->J6 iv≠some c
 ni:ins.length < 1000000
 no:outs.length < 1000000
structure TxFar (N:Nat) (iv ov:Value) (ins:List InV) (outs:List OutV):Prop where
 a:∀ c,J6 iv=some c->N<=c
 b:∀ c,J6 ov=some c->N<=c
 c:∀ x ∈ ins,∀ v ∈ Z8v x,∀ c,J6 v=some c->N<=c
 d:∀ x ∈ outs,∀ c,J6 x.sv=some c->N<=c
def TxR.far{h0 g:Heap}{iv ov:Value}{ins:List InV}{outs:List OutV}(R:TxR h0 g iv ov ins outs):TxFar h0.next iv ov ins outs :=
 ⟨fun c hc=>(R.i.o.from hc).1,fun c hc=>(R.o.o.from hc).1,fun x hx=>(R.i.s x hx).2,fun x hx c hc=>((R.o.s x hx).1.from hc).1⟩
def TxR.keepF{h0 g h1 g':Heap}{N:Nat}{iv ov:Value}{ins:List InV}{outs:List OutV}(R:TxR h0 g iv ov ins outs)(F:TxFar N iv ov ins outs)(hn:h1.next<=N)(k:∀ c,N<=c->c < g.next->g'.get c=g.get c)(a:Old h1 g')(h0n:h1.next<=h0.next):TxR h1 g' iv ov ins outs :=
  ⟨⟨(R.i.o.low h0n).keep fun c hc hl=>k c (F.a c hc) hl,fun x hx=>⟨(R.i.s x hx).1.keepV fun v hv c hc hl=>k c (F.c x hx v hv c hc) hl,fun v hv c hc=>al hn (F.c x hx v hv c hc)⟩,R.i.d,a⟩,
   ⟨(R.o.o.low h0n).keep fun c hc hl=>k c (F.b c hc) hl,fun x hx=>⟨((R.o.s x hx).1.low h0n).keep fun c hc hl=>k c (F.d x hx c hc) hl,(R.o.s x hx).2⟩,R.o.d,a⟩,R.d1,R.d2,R.ni,R.no⟩
def Jg3{ins ins2:List InV}{outs outs2:List OutV}{lock:Int}(h1:ins2.map InV.p=ins.map InV.p)(h2:outs2.map OutV.p=outs.map OutV.p):ptx ins2 outs2 lock=ptx ins outs lock:=by
 unfold ptx;rw[h1,h2]
def Zic(b:Nat){iv ov:Value}(h1:X9r iv=true)(h2:X9r ov=true)(lock:Int):Qm8 (E b).toEnv 32 [(0,iv),(1,ov),(2,.int .i64 lock)]=some (.agg ⟨txC iv ov lock⟩):=by
 obtain⟨n1,n2⟩:=Q09 h1;obtain⟨m1,m2⟩:=Q09 h2;obtain⟨fs,pl,hfs,hpl,hp0,hp1,hp2⟩:∃ fs pl,R32.desc=.struct fs/\Q17 (E b).toEnv fs.toList=some pl/\nth pl 0=some (0,1)/\nth pl 1=some (1,1)/\nth pl 2=some (2,1) :=
  ⟨(match R32.desc with | .struct fs=>fs | _ => #[]),(Q17 (E b).toEnv (match R32.desc with | .struct fs=>fs | _ => #[]).toList).getD [],by kernel_rfl,by kernel_rfl,by kernel_rfl,by kernel_rfl,by kernel_rfl⟩
 obtain⟨zz,ez,hz⟩:∃ zz:List Value,zz=R32.zero.cells.toList/\zz=[.slice none 0 0,.slice none 0 0,.int .i64 0]:=⟨_,rfl,by kernel_rfl⟩;have s0:Ql3 [.slice none 0 0,.slice none 0 0,.int .i64 0] 0 [iv]=some [iv,.slice none 0 0,.int .i64 0]:=rfl;have s1:Ql3 [iv,.slice none 0 0,.int .i64 0] 1 [ov]=some [iv,ov,.int .i64 0]:=rfl;have s2:Ql3 [iv,ov,.int .i64 0] 2 [.int .i64 lock]=some [iv,ov,.int .i64 lock]:=rfl;have c3:(Value.int .i64 lock).cells = #[.int .i64 lock]:=rfl;have t3:Qh6 (Value.int .i64 lock)=true:=rfl;simp[Qm8,Y4d,hfs,hpl,<- ez,hz,Xqi,hp0,hp1,hp2,n1,n2,m1,m2,s0,s1,s2,c3,t3,txC]
section
attribute [local simp] Qv1 Q9l Qan Jb Qa2 Qgs Zf Qb7 Qfa Qb5 U2 Qbh
def Zm8(b:Nat){h:Heap}{iv ov:Value}{ins:List InV}{outs:List OutV}{lock:Int}(si:Ins h iv ins)(so:Outs h ov outs)(K:KP)
  (hk:∀ iv2 ov2 ins2 outs2 h',TxR h h' iv2 ov2 ins2 outs2->ins2.map InV.p=ins.map InV.p->outs2.map OutV.p=outs.map OutV.p->K (.ret (.agg ⟨txC iv2 ov2 lock⟩)) h'):FK b 33 [.agg ⟨txC iv ov lock⟩] h K:=by
 refine F3 b (Qan b) Yxr rfl ?_;obtain⟨hA,eA⟩:∃ hA,hA=h.push (.cells true 1 (txC iv ov lock)):=⟨_,rfl⟩;have bx:=Q0e eA;have aA:=Qpm eA;have gA:hA.get h.next=some (.cells true 1 (txC iv ov lock)):=by rw[eA,Heap.get_push,if_pos rfl]
 have nA:=Q8z eA;obtain⟨hB,eB⟩:∃ hB,hB=hA.push (.cells true 1 X3q):=⟨_,rfl⟩;have alB:Qbd (E b).toEnv 32 hA=some (.pointer (some ⟨hA.next,0,none⟩),hB):=by rw[eB];exact Qa3 b hA
 have aB:=Qpm eB;have gB:hB.get hA.next=some (.cells true 1 X3q):=by rw[eB,Heap.get_push,if_pos rfl]
 have nB:hB.next=h.next+2:=by rw[eB];simp only[Qgr,nA]
 have aAB:=aA.trans aB;have c0:∀ {hx:Heap},hx.get h.next=some (.cells true 1 (txC iv ov lock))->J3 hx h.next 0=some iv/\J3 hx h.next 1=some ov/\J3 hx h.next 2=some (.int .i64 lock):=fun g=>⟨by rw[Za g];rfl,by rw[Za g];rfl,by rw[Za g];rfl⟩;have q0:=c0 (aB.get gA);obtain⟨_,h2,c1,n1,iv2,ins2,rfl,R1,e1⟩:=Zzf b (si.old aAB) (fun r h' => ∃ iv2 ins2,r=.ret iv2/\InsR hB h' iv2 ins2/\ins2.map InV.p=ins.map InV.p) (fun iv2 ins2 h' R e=>⟨iv2,ins2,rfl,R,e⟩);have a2:=R1.a;have q2:=c0 (a2.get (aB.get gA));obtain⟨_,h3,c2,n2,ov2,outs2,rfl,R2,e2⟩:=Zqr b (so.old (aAB.trans a2)) (fun r h' => ∃ ov2 outs2,r=.ret ov2/\OutsR h2 h' ov2 outs2/\outs2.map OutV.p=outs.map OutV.p) (fun ov2 outs2 h' R e=>⟨ov2,outs2,rfl,R,e⟩);have a3:=R2.a;have q3:=c0 (a3.get (a2.get (aB.get gA)));have l1:ins2.length=ins.length:=by have:=congrArg List.length e1;simpa using this
 have l2:outs2.length=outs.length:=by have:=congrArg List.length e2;simpa using this
 have g3:=a3.get (a2.get gB);have lt3:=Heap.get_lt g3;obtain⟨h4,e4⟩:∃ h4,h4=h3.set hA.next (some (.cells true 1 (txC iv2 ov2 lock))):=⟨_,rfl⟩;have st:Qbx (E b).toEnv 32 (.pointer (some ⟨hA.next,0,none⟩)) (.agg ⟨txC iv2 ov2 lock⟩) h3=some h4:=by
  rw[Qxx (l:=txC iv2 ov2 lock) (Y4d b) (by rw[Qqy];rfl),e4];exact Ur g3 (by simp[X3q,txC])
 have g4:h4.get hA.next=some (.cells true 1 (txC iv2 ov2 lock)):=by rw[e4,gY lt3,if_pos rfl]
 have k4:∀ c,c≠hA.next->h4.get c=h3.get c:=fun c hc=>by rw[e4,gY lt3,if_neg (Ne.symm hc)]
 have ag4:Qb9 h4 hA.next 0 3=some (.agg ⟨txC iv2 ov2 lock⟩):=by rw[Vf g4 (by simp[txC])];rfl
 simp[Qa3,bx,-Qa3,alB];refine Qg6 [⟨55,[iv],hB,iv2,h2,true⟩,⟨56,[ov],h2,ov2,h3,true⟩] ?_ X9f Ycm X8v (by simp[Yi2,Ynl,Ynw,Ypk,q0.1,q2.2.1,q3.2.2,Qok,Zic b R1.o.one R2.o.one lock,st];first | exact⟨rfl,rfl⟩ | rfl) ?_ ?_
 ·exact zk2 ⟨c1,n1,fun _ c hc=>a2.2 c hc⟩ ⟨c2,n2,fun _ c hc=>a3.2 c hc⟩
 ·have q4:=c0 ((k4 _ (by omega)).trans (a3.get (a2.get (aB.get gA))));simp[Qfk,q0,q2,q3,q4,Q5a,X1i si.s,X1i so.s]
 simp[Qa3,Vy,ag4];have n12:=a2.1;have n13:=a3.1;have far:∀ c,hB.next<=c->h4.get c=h3.get c:=fun c hc=>k4 c (by omega);have oldA:Old h h4:=⟨by rw[e4];show h.next<=h3.next;omega,fun c hc=>by rw[k4 c (by omega),a3.2 c (by omega),a2.2 c (by omega),aAB.2 c hc]⟩;have R1':=R1.old a3;refine hk iv2 ov2 ins2 outs2 h4 ⟨⟨(R1'.o.low aAB.1).keep fun c hc _=>far c (R1'.o.from hc).1,fun x hx=>⟨(R1'.s x hx).1.keepV fun v hv c hc _=>far c ((R1'.s x hx).2 v hv c hc),fun v hv c hc=>al aAB.1 ((R1'.s x hx).2 v hv c hc)⟩,R1.d,oldA⟩,⟨(R2.o.low (al aAB.1 n12)).keep fun c hc _=>far c (al n12 (R2.o.from hc).1),fun x hx=>⟨((R2.s x hx).1.low (al aAB.1 n12)).keep fun c hc _=>far c (al n12 ((R2.s x hx).1.from hc).1),(R2.s x hx).2⟩,R2.d,oldA⟩,fun c hc e => ?_,fun x hx c hc e => ?_,by have:=si.n;omega,by have:=so.n;omega⟩ e1 e2
 ·have:=(R1.o.from hc).2;have:=(R2.o.from e).1;omega
 ·have:=((R2.s x hx).1.from hc).1;have:=(R1.o.from e).2;omega
end
def Z56{o:Int}(ho:0<=o/\o < 256):(Q88 o)[1]? = some o:=by
 simp[Q88,Z2p ho]
section
attribute [local simp] Qvc Q89 Jj Jw We Qvx Qhr Qhq Qss J5 Xu Q0u Qz9 Qw8 Q20
def Z8t(b:Nat){h:Heap}{sv:Value}{o:Int}(ho:1<=o/\o<=32)(s:SB h sv (Q88 o))(K:KP)(hk:∀ h',Old h h'->K (.ret (.tuple #[.int .i64 o,.bool true])) h') :
  CallOK Tryz.prog (E b).G 24 [sv] h K:=by
 refine Qkb (E b) (U7 _ _) (Ue b) (Ji b) mixed (Uk b) (Jj b) Yst.1 Yst.2.1 Yst.2.2 rfl ?_;have len:∀ hx,Qne (E b).toEnv 57 sv hx=some (.int .i64 3):=fun hx=>Qbq (T57 b) s;obtain⟨bk,off, -,x1,x2⟩:=Y7q (b:=b) s (k:=.i64) (i:=1) (Z56 (o:=o) (by omega));have hw:IntKind.i64.wrap o=o:=W3 (by omega) (by omega);have hin:inF o 1 32=true:=by unfold inF;exact decide_eq_true ho
 have x1:Jx (E b).toEnv 57 sv (.int .i64 1)=some (.pointer (some ⟨bk,off,none⟩)):=x1;simp only[i8]at x2;simp[len,x1,x2,hw];refine(Z9g b o h _ ?_).ok;simp[hin,len,x1,x2,hw];refine(Zou b o h _ fun pv h2 o2 a2 => ?_).ok;simp;refine(Zvb b (s.old a2) o2.sl (Xad (by omega)) (Xad (by omega)) _ ?_).ok;obtain⟨bk',off', -,y1,y2⟩:=Y7q (b:=b) (s.old a2) (k:=.i64) (i:=1) (Z56 (o:=o) (by omega));have y1:Jx (E b).toEnv 57 sv (.int .i64 1)=some (.pointer (some ⟨bk',off',none⟩)):=y1;simp only[i8]at y2;simp[y1,y2,hw];exact hk h2 a2
end
def Q7z(tg:List Nat):List (List Int):=[X53 tg]
def Z7z(b:Nat){tg:List Nat}(ht:tg.length=16)(bt:∀ n ∈ tg,n < 256)(h:Heap)(K:KP)(hk:∀ wv its h',WitNew h' h.next wv its (Q7z tg)->Old h h'->K (.ret wv) h') :
  FK b 48 [.agg ⟨tg.map u8v⟩] h K:=by
 refine F3 b (Qh1 b) Y0s rfl ?_;obtain⟨hA,eA,aA,gA⟩:=Q5u h ((tg.map u8v));have bxA:=Q0e eA;obtain⟨v1,ev1⟩:∃ v:Value,v=.slice (some ⟨h.next,0,none⟩) 16 16:=⟨_,rfl⟩;obtain⟨hD,eD⟩:∃ hD,hD=hA.push (.cells true 1 [v1]):=⟨_,rfl⟩;have aD:=Qpm eD;have bl2:Vj (E b).toEnv 69 1 [(0,v1)] hA=some (.slice (some ⟨hA.next,0,none⟩) 1 1,hD):=by rw[eD,ev1];kernel_rfl
 have sl1:∀ hx,Qhk (E b).toEnv 101 (.pointer (some ⟨h.next,0,none⟩)) none none none hx=some (v1,hx):=fun hx=>by rw[ev1];exact Z91 b _ _ hx
 simp[Xz2,Zb8,Qh1,bxA,sl1,bl2];refine hk _ [(v1,X53 tg)] hD ⟨?_,fun p hp => ?_,rfl⟩ (aA.trans aD)
 ·exact Own.new (z':=1) (n:=1) (by rw[eA];simp only[Qgr];omega) (by rw[eD,Heap.get_push,if_pos rfl];rfl) rfl (by decide) (.inr rfl)
 ·rw[aw.1 hp];refine⟨?_,Y8v tg bt⟩;have l:(X53 tg).length=16:=by simp[X53,ht]
  have:=Own.new (n0:=h.next) (z:=1) (n:=16) (c:=16) (ae _) (aD.get gA) (by simp[ht]) (by decide) (.inr rfl);show Own hD h.next 1 v1 (X53 tg).length ((X53 tg).map i8);rw[l,ev1,<- Z3b];exact this
def WitNew.inN{h:Heap}{n0:Nat}{p:Pt}{wv:Value}{its:List (Value × List Int)}{w:List (List Int)}(a:WitNew h n0 wv its w)(hw:w.length < 1000000)(hl:∀ x ∈ w,x.length < 1000000):InN h n0 ⟨p,wv,its⟩ :=
 ⟨a.inAt hw hl,fun v hv c hc=>by
  rcases ax.1 hv with rfl | hv
  ·exact(a.s.from hc).1
  ·obtain⟨q,hq,rfl⟩:=ao.1 hv;exact((a.i q hq).1.from hc).1⟩
def InsR.set{h0 g g2:Heap}{iv:Value}{new rest:List InV}{x:InV}(R:InsR h0 g iv (new++x::rest))(a:Old g g2){wv:Value}{its:List (Value × List Int)}(hx:InN g2 g.next ⟨x.pt,wv,its⟩){bk:Nat}(hb:J6 iv=some bk) :
  ∃ h3,Ul g2 bk (new.length*34+33) [wv]=some h3/\InsR h0 h3 iv (new++⟨x.pt,wv,its⟩::rest)/\h3.next=g2.next/\∀ c,c≠bk->h3.get c=g2.get c:=by
 have o2:Own g2 h0.next 34 iv (new++x::rest).length (Qd3 (new++x::rest)):=R.o.keep fun c _ hc=>a.2 c hc;have lc:(Qd3 (new++x::rest)).length=(new++x::rest).length*34:=Ya7 _;obtain⟨h3,s1,s2,s3,s4⟩:=Q0y o2 hb (i:=new.length*34+33) (by rw[lc,aj,bH];omega) wv;rw[Jgf new rest x wv its]at s2;have lb:=R.o.from hb;refine⟨h3,s1,⟨?_,fun y hy => ?_,fun y hy v hv c hc e => ?_,⟨by rw[s3];exact al R.a.1 a.1,fun c hc=>by rw[s4 c (by omega),a.2 c (az hc R.a.1),R.a.2 c hc]⟩⟩,s3,s4⟩
 ·have : (new++⟨x.pt,wv,its⟩::rest).length=(new++x::rest).length:=by simp
  rw[this];exact s2
 ·have key:∀ y ∈ new++x::rest,InN h3 h0.next y:=fun y hy=>by
   obtain⟨q1,q2⟩:=R.s y hy;exact⟨(q1.old a).keepV fun v hv c hc _=>s4 c fun e=>R.d y hy v hv c hc (by rw[hb,e]),q2⟩
  rcases ac.1 hy with q | q
  ·exact key y (ac.2 (.inl q))
  ·rcases ax.1 q with rfl | q
   ·exact⟨hx.1.keepV fun v hv c hc _=>s4 c fun e=>by have:=hx.2 v hv c hc;omega,fun v hv c hc=>al R.a.1 (hx.2 v hv c hc)⟩
   ·exact key y (ac.2 (.inr (bb _ q)))
 ·rcases ac.1 hy with q | q
  ·exact R.d y (ac.2 (.inl q)) v hv c hc e
  ·rcases ax.1 q with rfl | q
   ·have:=hx.2 v hv c hc;have:=(R.o.from e).2;omega
   ·exact R.d y (ac.2 (.inr (bb _ q))) v hv c hc e
def eqRow_u8':∀ l:List Nat,Y2r (l.map u8v) (l.map u8v)=true
 | []=>rfl
 | x::l=>by simp[Y2r,u8v,Xcu,Yic,eqRow_u8' l]
def Z69(l:List Nat):Xz5 (some (.agg ⟨l.map u8v⟩)) (some (.agg ⟨l.map u8v⟩))=true:=by simp[Xz5,Y7a,eqRow_u8']
def Zi4{h:Heap}{z n:Nat}{v:Value}{xs:List Value}(o:Sl h z v n xs):Xcu v v=true:=by
 rcases o with⟨c,rfl,_⟩ | ⟨bk,o,c,ow,z',pre,post,rfl,_⟩
 ·simp[Xcu,X6o]
 ·simp[Xcu,X6o]
def Zjh{h:Heap}{z n z2 n2:Nat}{v w:Value}{xs ys:List Value}(o:Sl h z v n xs)(o2:Sl h z2 w n2 ys)(lock:Int):Xz5 (some (.agg ⟨txC v w lock⟩)) (some (.agg ⟨txC v w lock⟩))=true:=by
 have e3:Xcu (.int .i64 lock) (.int .i64 lock)=true:=by simp[Xcu,Yic]
 show Y2r [v,w,.int .i64 lock] [v,w,.int .i64 lock]=true;simp only[Y2r,Zi4 o,Zi4 o2,e3,Bool.and_true]
def Zil{tg:List Nat}(ht:tg.length=16):(Q7z tg).length < 1000000/\∀ x ∈ Q7z tg,x.length < 1000000:=by
 refine⟨by simp[Q7z],fun x hx => ?_⟩;simp only[Q7z,aw]at hx;subst hx;simp[X53,ht]
def Jgt{ins new:List InV}{outs outs2:List OutV}{lock:Int}{w:List (List Int)}(h1:new.map (·.pt)=ins.map (·.pt))(h2:∀ y ∈ new,y.its.map (·.2)=w)(h3:outs2.map OutV.p=outs.map OutV.p):ptx new outs2 lock=Xs8 (ptx ins outs lock) w:=by
 unfold ptx Xs8;rw[h3];congr 1;have e1:∀ l:List InV,(∀ y ∈ l,y.its.map (·.2)=w)->l.map InV.p=(l.map (·.pt)).map fun p=>(⟨p,w⟩:PIn):=by
  intro l;induction l with
  | nil=>intro _;rfl
  | cons y l ih =>
   intro hl;simp only[aR];rw[ih fun z hz=>hl z (by simp[hz])];simp only[InV.p,hl y (by simp)]
 rw[e1 new h2,h1];simp[ca];intro a _;rfl
def Z9l(t:PTx)(o:Int):PTx:=Xs8 t (Q7z (Qxt (Xuh Qrf o) (dgF X06 t)))
def SGI(h:Heap)(N T D:Nat)(iv ov:Value)(lock:Int)(l:List InV)(outs:List OutV)(tg:List Nat)(k:Nat)(s:St):Prop:=∃ (t:Tr Value) (g:Heap) (new:List InV) (i:Nat),s=⟨⟨29,t⟩,[],g⟩/\t.get 2=some (.pointer (some ⟨T,0,none⟩))/\t.get 4=some (.pointer (some ⟨T+1,0,none⟩))/\t.get 5=some (.pointer (some ⟨D,0,none⟩))/\t.get 6=some (.int .i64 (i:Int))/\i<=l.length/\k=l.length-i/\g.get T=some (.cells true 1 (txC iv ov lock))/\g.get (T+1)=some (.cells true 1 X3q)/\g.get D=some (.cells true 1 (tg.map u8v))/\new.length=i/\new.map (·.pt)=(l.take i).map (·.pt)/\(∀ y ∈ new,y.its.map (·.2)=Q7z tg)/\TxR h g iv ov (new++l.drop i) outs/\TxFar N iv ov (new++l.drop i) outs/\N<=g.next
section
attribute [local simp] Qch Qgp Z3 W9 Vy Vi J4 Qwq Q2t Qan Qbh Jb Qa2 W6 Xt Qhi Qh1 Qd4 Qnb Xv
def Zj6(b:Nat){h:Heap}(laid:Ab.LaidIn h laidAll){iv ov:Value}{ins:List InV}{outs:List OutV}{lock:Int}(si:Ins h iv ins)(so:Outs h ov outs)(hp:∀ x ∈ ins,PtB x.pt){o:Int}(h1:1<=o)(h2:o<=32)(K:KP)
  (hk:∀ iv2 ov2 ins2 outs2 h',TxR h h' iv2 ov2 ins2 outs2->ptx ins2 outs2 lock=Z9l (ptx ins outs lock) o->ins2.map (·.pt)=ins.map (·.pt)->K (.ret (.agg ⟨txC iv2 ov2 lock⟩)) h') :
  FK b 25 [.agg ⟨txC iv ov lock⟩,.int .i64 o] h K:=by
 refine F3 b (Z3 b) Yit rfl ?_;have hn:=si.n;obtain⟨hA,eA⟩:∃ hA,hA=h.push (.cells true 1 (txC iv ov lock)):=⟨_,rfl⟩;have bx:=Q0e eA;have aA:=Qpm eA;have gA:hA.get h.next=some (.cells true 1 (txC iv ov lock)):=by rw[eA,Heap.get_push,if_pos rfl]
 have nA:=Q8z eA;obtain⟨hB,eB⟩:∃ hB,hB=hA.push (.cells true 1 X3q):=⟨_,rfl⟩;have alB:Qbd (E b).toEnv 32 hA=some (.pointer (some ⟨h.next+1,0,none⟩),hB):=by rw[eB,<- nA];exact Qa3 b hA
 have aB:=Qpm eB;have gB:hB.get (h.next+1)=some (.cells true 1 X3q):=by rw[eB,Heap.get_push,if_pos nA]
 have nB:hB.next=h.next+2:=by rw[eB];simp only[Qgr,nA]
 have aAB:=aA.trans aB;have ldT:∀ {hx B iv ov lock},hx.get B=some (.cells true 1 (txC iv ov lock))->Qb9 hx B 0 3=some (.agg ⟨txC iv ov lock⟩):=fun g=>by rw[Vf g (by simp[txC])];rfl
 have gT:=aB.get gA;obtain⟨_,k1,c1,n1,ν,rfl,g1,hn1,a1⟩:=Y9d b (Laid.old laid aAB) (fun r h' => ∃ ν,r=.ret (.pointer (some ⟨ν,0,none⟩))/\h'.get ν=some (.cells true 1 (Qrf.map u8v))/\hB.next<=ν/\Old hB h') (fun ν h' g n a=>⟨ν,rfl,g,n,a⟩);obtain⟨dg,edg⟩:∃ dg,dg=dgF X06 (ptx ins outs lock):=⟨_,rfl⟩;have dl:dg.length=32:=by rw[edg];exact Yb3 _ _
 obtain⟨_,k2,c2,n2,rfl,a2⟩:=Zit b (lock:=lock) (Laid.old laid (aAB.trans a1)) (si.old (aAB.trans a1)) (so.old (aAB.trans a1)) hp (fun r h'=>r=.ret (.agg ⟨dg.map u8v⟩)/\Old k1 h') (fun h' a=>⟨by rw[edg],a⟩);have aB2:=a1.trans a2;obtain⟨tg,htg⟩:∃ tg,tg=Qxt (Xuh Qrf o) dg:=⟨_,rfl⟩;have tl:tg.length=16:=by rw[htg];exact Yd6 _ _
 have tb:∀ n ∈ tg,n < 256:=by rw[htg];exact Z8g _ _
 obtain⟨_,k3,c3,n3,rfl,a3⟩:=Z5g b (Xku (Laid.old laid (aAB.trans aB2))) h1 h2 (a2.get g1) Qlr dl (fun r h'=>r=.ret (.agg ⟨tg.map u8v⟩)/\Old k2 h') (fun h' a=>⟨by rw[htg],a⟩);have aB3:=aB2.trans a3;obtain⟨hE,eE⟩:∃ hE,hE=k3.push (.cells true 1 z16):=⟨_,rfl⟩;have alE:Qbd (E b).toEnv 101 k3=some (.pointer (some ⟨k3.next,0,none⟩),hE):=by rw[eE];exact Qwq b k3
 have gE:hE.get k3.next=some (.cells true 1 z16):=by rw[eE,Heap.get_push,if_pos rfl]
 have lE:=Heap.get_lt gE;obtain⟨hG,eG⟩:∃ hG,hG=hE.set k3.next (some (.cells true 1 (tg.map u8v))):=⟨_,rfl⟩;have stG:Ul hE k3.next 0 (tg.map u8v)=some hG:=by
  rw[Ur gE (by simp[z16,tl]),eG];congr 4;simp[z16,tl]
 have stG':Qbx (E b).toEnv 101 (.pointer (some ⟨k3.next,0,none⟩)) (.agg ⟨tg.map u8v⟩) hE=some hG:=by
  rw[Qxx (l:=tg.map u8v) (Zvk b) (by rw[Ywq];simp[tl])];exact stG
 have gG:hG.get k3.next=some (.cells true 1 (tg.map u8v)):=by rw[eG,gY lE,if_pos rfl]
 have aG:Old k3 hG:=by rw[eG,eE];exact(Old.push _ _).set _ (ae _) (by rw[<- eE];exact lE)
 have aBG:=aB3.trans aG;simp[Qa3,bx,-Qa3,alB];refine Qg6 [⟨21,[],hB,.pointer (some ⟨ν,0,none⟩),k1,true⟩,⟨47,[.agg ⟨txC iv ov lock⟩],k1,.agg ⟨dg.map u8v⟩,k2,true⟩,⟨46,[.pointer (some ⟨ν,0,none⟩),.int .i64 o,.agg ⟨dg.map u8v⟩],k2,.agg ⟨tg.map u8v⟩,k3,true⟩] ?_ X0z X3f Xxl (by simp[X96,Ye0,ldT gT,ldT (a1.get gT),Qok,-Qwq,alE,stG'];first | exact⟨rfl,rfl⟩ | rfl) ?_ ?_
 ·exact zk3 ⟨c1,n1,fun _ c hc=>a1.2 c hc⟩ ⟨c2,n2,fun _ c hc=>a2.2 c hc⟩ ⟨c3,n3,fun _ c hc=>a3.2 c hc⟩
 ·simp[Qko,ldT gT,ldT (a1.get gT),ldT (aB2.get gT),ldT (aB3.get gT),ldT (aBG.get gT),Zjh si.s so.s]
 have gTG:=aBG.get gT;simp[Qa3,ldT gTG];have aHG:=aAB.trans aBG;refine Zm8 b (lock:=lock) (si.old aHG) (so.old aHG) _ fun iv2 ov2 ins2 outs2 h5 R e1 e2 => ?_;have a5:=R.i.a;have gT5:=a5.get gTG;have lT5:=Heap.get_lt gT5;obtain⟨h6,e6⟩:∃ h6,h6=h5.set h.next (some (.cells true 1 (txC iv2 ov2 lock))):=⟨_,rfl⟩;have st6:Ul h5 h.next 0 (txC iv2 ov2 lock)=some h6:=by
  rw[e6,Ur gT5 (by simp[txC])];simp[txC]
 have k6:∀ c,c≠h.next->h6.get c=h5.get c:=fun c hc=>by rw[e6,gY lT5,if_neg (Ne.symm hc)]
 have gT6:h6.get h.next=some (.cells true 1 (txC iv2 ov2 lock)):=by rw[e6,gY lT5,if_pos rfl]
 have tlc:(txC iv2 ov2 lock).length=3:=rfl;have ltD:=Heap.get_lt gG;have ltT:=Heap.get_lt gTG;have ltB:=Heap.get_lt (aBG.get gB);have far:∀ c,hG.next<=c->h6.get c=h5.get c:=fun c hc=>k6 c (by omega);have old6:Old h h6:=⟨by rw[e6];exact al aHG.1 a5.1,fun c hc=>by rw[k6 c (by omega),a5.2 c (az hc aHG.1),aHG.2 c hc]⟩;have hGn:=aHG.1;have R6:TxR h h6 iv2 ov2 ins2 outs2:=R.keepF R.far aHG.1 (fun c hc _=>far c hc) old6 aHG.1;have ivN:∀ c,J6 iv2=some c->hG.next<=c:=fun c hc=>(R.i.o.from hc).1;have gB6:h6.get (h.next+1)=some (.cells true 1 X3q):=by rw[k6 _ (by omega)];exact a5.get (aBG.get gB)
 have gD6:h6.get k3.next=some (.cells true 1 (tg.map u8v)):=by rw[k6 _ (by have:=aAB.1;have:=aB3.1;omega)];exact a5.get gG
 have l2:ins2.length=ins.length:=by have:=congrArg List.length e1;simpa using this
 have lenI:∀ hx,Qne (E b).toEnv 30 iv2 hx=some (.int .i64 (ins2.length:Int)):=fun hx=>Qbq (T30 b) R6.i.o.sl;have cI:∀ {hx},hx.get h.next=some (.cells true 1 (txC iv2 ov2 lock))->J3 hx h.next 0=some iv2:=fun g=>by rw[Za g];rfl
 simp[Qa3,tlc,st6];refine Qfs (SGI h hG.next h.next k3.next iv2 ov2 lock ins2 outs2 tg) ins2.length ⟨_,h6,[],0,rfl,by simp,by simp,by simp,by simp,by omega,rfl,gT6,gB6,gD6,rfl,by simp,by simp,by simpa using R6,by simpa using R.far,by rw[e6];exact a5.1⟩ ?_;rintro k s' ⟨t,hx,new,i,rfl,t2,t4,t5,t6,hi,rfl,gX,gX2,gX3,hnl,hnp,hnw,RX,FX,hNx⟩ -;by_cases hlt:i < ins2.length
 ·have hlt':(i:Int) < (ins2.length:Int):=by omega
  have hw':=wS (i:=i) (by omega);obtain⟨x,hxi⟩:∃ x,ins2[i]? = some x:=⟨_,ab hlt⟩;have hd:ins2.drop i=x::ins2.drop (i+1):=by
   rw[bF hlt];rw[ab hlt]at hxi;rw[bE hxi]
  rw[hd]at RX FX;obtain⟨_,hy,q1,n1',wv,its,rfl,wn,ay⟩:=Z7z b tl tb hx (fun r h' => ∃ wv its,r=.ret wv/\WitNew h' hx.next wv its (Q7z tg)/\Old hx h') (fun wv its h2 w a=>⟨wv,its,rfl,w,a⟩);obtain⟨w1,w2⟩:=Zil tl;have RY:=RX.i.old ay;have lenX:(new++x::ins2.drop (i+1)).length=ins2.length:=by rw[<- hd,aj,bK,hnl];omega
  have oY:=RY.o;rw[lenX]at oY;obtain⟨bk,y1,y2, -⟩:=Jg0 (b:=b) (T30 b) Qma oY (k:=.i64) (i:=(i:Int)) (by omega) (by omega);rw[bo]at y2;have bkN:=ivN bk y1;obtain⟨h3,s1,s2,s3,s4⟩:=RX.i.set ay (x:=x) (wn.inN w1 w2) y1;rw[hnl]at s1;have tagx:∀ {hz:Heap},hz.get k3.next=some (.cells true 1 (tg.map u8v))->Qb9 hz k3.next 0 16=some (.agg ⟨tg.map u8v⟩):=fun g=>agW g (by simp[tl]) (by simp[tl]);have gXy:=ay.get gX;have sWv:=wn.s;have g3:h3.get h.next=some (.cells true 1 (txC iv2 ov2 lock)):=by rw[s4 _ (by omega)];exact gXy
  have g32:h3.get (h.next+1)=some (.cells true 1 X3q):=by rw[s4 _ (by omega)];exact ay.get gX2
  have g33:h3.get k3.next=some (.cells true 1 (tg.map u8v)):=by rw[s4 _ (by omega)];exact ay.get gX3
  simp[Qa3,t2,t4,t5,t6,cI gX,lenI,hlt,hlt'];refine Qg6 [⟨48,[.agg ⟨tg.map u8v⟩],hx,wv,hy,true⟩] ?_ Xxs X3y Xze (by simp[Ybp,Ygg,Ye8,t2,t4,t5,t6,cI gX,tagx gX3,y2,Jb1,sWv.one,s1];exact⟨rfl,rfl⟩) ?_ ?_
  ·exact zk1 ⟨q1,n1',fun _ c hc=>ay.2 c hc⟩
  ·simp[Qfu,t2,t4,t5,t6,cI gX,cI gXy,cI g3,tagx gX3,tagx (ay.get gX3),tagx g33,Xww RX.i.o,Z69]
  simp[Qa3,t2,t4,t5,t6,hw'];have tk:(ins2.take (i+1)).map (·.pt)=(ins2.take i).map (·.pt) ++ [x.pt]:=by rw[bn,hxi];simp
  have e3:new ++ [(⟨x.pt,wv,its⟩:InV)]++ins2.drop (i+1)=new++⟨x.pt,wv,its⟩::ins2.drop (i+1):=by simp
  have lt3:∀ x ∈ outs2,∀ c,J6 x.sv=some c->c≠bk:=fun z hz c hc e=>RX.d2 z hz c hc (by rw[y1,e]);refine⟨ins2.length-(i+1),by omega,_,h3,new ++ [⟨x.pt,wv,its⟩],i+1,rfl,by simp[t2],by simp[t4],by simp[t5],by simp,by omega,rfl,g3,g32,g33,by simp[hnl],by rw[bc,hnp,tk];rfl,fun y hy' => ?_,?_⟩
  ·rcases ac.1 hy' with q | q
   ·exact hnw y q
   ·rw[aw.1 q];exact wn.e
  ·rw[e3];have RO:=RX.o.old ay;refine⟨⟨s2,⟨RO.o.keep fun c hc _=>s4 c fun e=>RX.d1 bk y1 (by rw[hc,e]),fun z hz=>(RO.s z hz).keep fun c hc _=>s4 c (lt3 z hz c hc),RO.d,s2.a⟩,RX.d1,RX.d2,by have:=RX.ni;rw[lenX]at this;rw[aj,bH,bK,hnl];omega,RX.no⟩,⟨FX.a,FX.b,fun y hy' v hv c hc => ?_,FX.d⟩,by rw[s3];exact al hNx ay.1⟩;rcases ac.1 hy' with q | q
   ·exact FX.c y (ac.2 (.inl q)) v hv c hc
   ·rcases ax.1 q with rfl | q
    ·have:=(wn.inN (p:=x.pt) w1 w2).2 v hv c hc;omega
    ·exact FX.c y (ac.2 (.inr (bb _ q))) v hv c hc
 ·have hlt':¬ (i:Int) < (ins2.length:Int):=by omega
  have hil:i=ins2.length:=by omega
  subst hil;rw[bJ]at hnp;rw[dz,dj]at RX FX;have lX2:=Heap.get_lt gX2;obtain⟨h9,e9⟩:∃ h9,h9=hx.set (h.next+1) (some (.cells true 1 (txC iv2 ov2 lock))):=⟨_,rfl⟩;have st9:Ul hx (h.next+1) 0 (txC iv2 ov2 lock)=some h9:=by rw[e9,Ur gX2 (by simp[X3q,txC])];rfl
  have ld9:Qb9 h9 (h.next+1) 0 3=some (.agg ⟨txC iv2 ov2 lock⟩):=ldT (by rw[e9,gY lX2,if_pos rfl]);simp[Qa3,t2,t4,t5,t6,cI gX,lenI,ldT gX,tlc,st9,ld9];have k9:∀ c,c≠h.next+1->h9.get c=hx.get c:=fun c hc=>by rw[e9,gY lX2,if_neg (Ne.symm hc)]
  have R9:TxR h h9 iv2 ov2 new outs2:=RX.keepF FX aHG.1 (fun c hc _=>k9 c (by omega)) ⟨by rw[e9];exact RX.i.a.1,fun c hc=>by rw[k9 c (by omega),RX.i.a.2 c hc]⟩ (ae _);have hpt:ins2.map (·.pt)=ins.map (·.pt):=by
   have:=congrArg (List.map PIn.pt) e1;simpa[ca,d9,InV.p]using this
  refine hk iv2 ov2 new outs2 h9 R9 ?_ (by rw[hnp,hpt]);unfold Z9l;rw[<- edg,<- htg];exact Jgt (by rw[hnp,hpt]) hnw e2
end
def Jdh{c:Int}(hc:129<=c/\c<=139)(f:Nat)(r:List Int):pz (f+1) (c::r)=(pz f r).map ((c,[]) :: ·):=by
 rw[pz,if_neg (by omega),if_neg (by omega)]
def Jdz(c:Int)(d:List Int)(hd:(d.length:Int)=c)(hc:c<=64)(f:Nat)(r:List Int):pz (f+1) (c::(d++r))=(pz f r).map ((c,d) :: ·):=by
 have h1:c.toNat=d.length:=by omega
 rw[pz,if_pos ⟨hc,by rw[aj];omega⟩,h1,cy,List.take_left]
def Jin(o:Int):List (Int × List Int):=[(1,[IntKind.u8.wrap o]),(134,[])]
def Jft(o:Int):pz 3 (Q88 o)=some (Jin o):=by
 have e:Q88 o=1::([IntKind.u8.wrap o]++(134 :: [])):=rfl;rw[e,Jdz 1 [_] rfl (by omega),Jdh (by omega),pz];rfl
def Jcl(a:Asks)(o:Int)(stk:List (List Int)):Y9f a (Q88 o) stk=Jba a (Jin o) stk:=by
 unfold Y9f;have : (Q88 o).length=3:=rfl;rw[this,if_neg (by omega),Jft];rfl
def Zwm{a:Asks}{c:Int}{d:List Int}{l:List (Int × List Int)}{st st':List (List Int)}{op op':List Br}(h:Q5r a c d st op=.ok (st',op')):X04 a ((c,d)::l) st op=X04 a l st' op':=by
 show(Q5r a c d st op).bind _=_;rw[h];rfl
def Zuk{x:List Int}{st:List (List Int)}(h:st.length < 16):Xck x st=.ok (x::st):=if_pos h
section
variable{a:Asks}{d x y:List Int}{r:List (List Int)}{op:List Br}(off:Z6h op=false)
include off
theorem Jkd{c:Int}(h1:c≠136)(h2:c≠137)(h3:c≠138){st:List (List Int)}:Q5r a c d st op=(doF a c d st).map fun st'=>(st',op):=by simp[Q5r,brF,h1,h2,h3,off]
theorem Jfj{c:Int}(hc:c<=64)(hr:r.length < 16):Q5r a c d r op=.ok (d::r,op):=by
 rw[Jkd off (by omega) (by omega) (by omega)];unfold doF;rw[if_neg (by omega),if_neg (by omega),if_neg (by omega),if_neg (by omega),if_neg (by omega),if_neg (by omega),if_neg (by omega),if_neg (by omega),Zuk hr];rfl
theorem Jgw{o:Int}(hy:y.length=16)(hr:r.length < 16):Q5r a 134 d ([o]::y::r) op=.ok (Z84 (Z5q a o y)::r,op):=by
 rw[Jkd off (by omega) (by omega) (by omega)];unfold doF;rw[if_neg (by omega),if_neg (by omega),if_neg (by omega),if_neg (by omega),if_neg (by omega),if_pos rfl];simp only[hy];rw[if_pos ⟨rfl,trivial⟩,Zuk hr];rfl
end
def Jjj{o:Int}(ho:0<=o/\o < 256):IntKind.u8.wrap o=o:=by
 have:=Z7j (n:=o.toNat) (by omega);rw[di ho.1]at this;exact this
def Z8r(q:Bool):Zzh (.ok ([Z84 q],[]))=if q=true then 0 else 16:=by cases q <;> rfl
def Jg1{x:List Int}(h:x.length<=64):X9o [x] []=.ok [x]:=by
 rw[X9o,if_pos h,Zuk (by simp)];rfl
def Jf0{a:Asks}{l:List (Int × List Int)}{stk st:List (List Int)}(h:X9o stk []=.ok st):Jba a l stk=Zzh (X04 a l st []):=by
 unfold Jba;rw[h]
def Yrk(l:List Nat):(X53 l).length=l.length:=by simp[X53]
def Z61{a:Asks}{o:Int}(ho:0<=o/\o < 256){tg:List Nat}(ht:tg.length=16):Y9f a (Q88 o) [X53 tg]=if Z5q a o (X53 tg)=true then 0 else 16:=by
 have hl:=Yrk tg;generalize X53 tg=T at *;rw[Jcl,Jf0 (Jg1 (by omega)),Jin,Zwm (Jfj rfl (by omega) (by simp)),Zwm (Jgw rfl (by omega) (by simp)),Jjj ho];exact Z8r _
def Ye9{t:PTx}(k:TxOk t):Qu2 t=0:=by
 unfold Qu2;have h1:(!inF t.ins.length 1 8 || !inF t.outs.length 1 8)=false:=by
  have:=k.insN;have:=k.outsN;rw[Yj5.2 (by omega),Yj5.2 (by omega)];rfl
 have h2:(t.ins.any Z75 || !inF t.lock 0 1073741824)=false:=by
  rw[Yj5.2 k.lock];have : t.ins.any Z75=false:=by
   rw[cY];intro x hx;unfold Z75;rw[Yj5.2 (k.far x hx)];simp
  rw[this];rfl
 have h3:(!decide (t.ins.map (·.pt)).Nodup)=false:=by rw[decide_eq_true k.pts];rfl
 have h4:(!X2c t.outs 1125899906842624)=false:=by rw[k.vals];rfl
 have h5:(t.outs.any Y44 || t.ins.any Y3m)=false:=by
  have a1:t.outs.any Y44=false:=by
   rw[cY];intro o ho;have:=k.script o ho;unfold Y44;simp;omega
  have a2:t.ins.any Y3m=false:=by
   rw[cY];intro x hx;obtain⟨q1,q2⟩:=k.wit x hx;unfold Y3m;simp;exact⟨q1,q2⟩
  rw[a1,a2];rfl
 simp only[h1,h2,h3,h4,h5];rfl
def Zzi(t:PTx)(w:List (List Int)):Yk5 (Xs8 t w)=Yk5 t:=by
 unfold Yk5 Xs8;have e:(t.ins.map fun x=>(⟨x.pt,w⟩:PIn)).flatMap inB=t.ins.flatMap inB:=by
  rw[flat_map'];rfl
 simp only[e,aT]
def Z73{s:List Nat}{t:PTx}{w:List (List Int)}(h0:Qu2 t=0)(h1:Qu2 (Xs8 t w)=0):dgF s (Xs8 t w)=dgF s t:=by
 unfold dgF;rw[if_pos h0,if_pos h1,Zzi]
def Z8n{ks:List Nat}{hks:ks.length=1024}{t:PTx}{d:List Nat}{o:Int}(ho:1<=o/\o<=32)(hd:dgF X06 t=d):Z5q (Zfy ks hks t) o (X53 (Qxt (Xuh ks o) d))=true:=by
 unfold Z5q;rw[Z0n];simp only[Zfy,hd,decide_true,Bool.and_true];exact decide_eq_true ho
def X7s(m:Qo1)(l:List Pt):Int:=(l.map fun p=>(X3a m p).value).sum
def Z5s(pts:List Pt)(outs:List POut):PTx:=⟨pts.map fun p=>⟨p,[]⟩,outs,0⟩
structure MadeOf (m:Qo1) (T:PTx) (o:Int) (pts:List Pt) (outs:List POut) (fee:Int):Prop where
 o1:1<=o
 o2:o<=32
 p1:1<=pts.length
 p4:pts.length<=4
 nd:pts.Nodup
 at':∀ p ∈ pts,∃ c,m p=some c/\c.script=Q88 o
 f:0<=fee
 e:X7s m pts=Q1h outs+fee
 q1:1<=outs.length
 q2:outs.length<=2
 q:∀ x ∈ outs,1<=x.value/\∃ u:Int,1<=u/\u<=32/\x.script=Q88 u
 t:T=Z9l (Z5s pts outs) o
def Zwv:∀ {l:List POut} {left:Int},(∀ o ∈ l,1<=o.value)->Q1h l<=left->X2c l left=true
 | [],_,_,_=>rfl
 | o::l,left,h,hs=>by
  have h1:=h o (by simp);have e:Q1h (o::l)=o.value+Q1h l:=by simp[Q1h]
  have h0:0<=Q1h l:=by
   have : ∀ l:List POut,(∀ o ∈ l,1<=o.value)->0<=Q1h l:=by
    intro l;induction l with
    | nil=>intro _;simp[Q1h]
    | cons y l ih =>
     intro hl;have:=ih fun z hz=>hl z (by simp[hz]);have:=hl y (by simp);have e:Q1h (y::l)=y.value+Q1h l:=by simp[Q1h]
     omega
   exact this l fun z hz=>h z (by simp[hz])
  unfold X2c;rw[if_neg (by omega)];exact Zwv (fun z hz=>h z (by simp[hz])) (by omega)
def Zfs{m:Qo1}{B:Int}(G:Ygq m B)(hB:0<=B):∀ {l:List Pt},X7s m l<=l.length*B
 | []=>by simp[X7s]
 | p::l=>by
  have ih:=Zfs G hB (l:=l);have e:X7s m (p::l)=(X3a m p).value+X7s m l:=by simp[X7s]
  have h1:(X3a m p).value<=B:=by
   unfold X3a;cases hm:m p with
   | none=>exact hB
   | some c=>exact(G p c hm).2.2.1
  have e2:((p::l).length:Int)*B=B+(l.length:Int)*B:=by rw[bH];push_cast;rw[Int.add_mul];omega
  omega
def Z3l{m:Qo1}{p:Pt}{c:PC}:∀ {l:List Pt},Z4d m l p=some c->m p=some c:=by
 have key:∀ (n:Nat) (l:List Pt),l.length=n->Z4d m l p=some c->m p=some c:=by
  intro n;induction n with
  | zero=>intro l hl h;rw[aU hl]at h;exact h
  | succ n ih =>
   intro l hl h;rcases cR l with e | ⟨l',x,e⟩
   ·rw[e]at hl;cases hl
   ·rw[cS]at e;subst e;rw[aj,bh]at hl;rw[Yre]at h;by_cases hp:p=x
    ·rw[hp,Yww]at h;cases h
    ·rw[Zu7 hp]at h;exact ih l' (by omega) h
 exact fun {l} h=>key _ l rfl h
def Zxp{id:List Nat}{hid:id.length=32}{made:Int}{m:Qo1}{p:Pt}{c:PC}:∀ {l:List POut},Yzc id hid made m l p=some c->m p=some c ∨ ∃ (k:Nat) (o:POut),l[k]? = some o/\p=⟨id,(k:Int),hid⟩/\c=⟨o.value,o.script,made⟩:=by
 have key:∀ (n:Nat) (l:List POut),l.length=n->Yzc id hid made m l p=some c->m p=some c ∨ ∃ (k:Nat) (o:POut),l[k]? = some o/\p=⟨id,(k:Int),hid⟩/\c=⟨o.value,o.script,made⟩:=by
  intro n;induction n with
  | zero=>intro l hl h;rw[aU hl]at h;exact .inl h
  | succ n ih =>
   intro l hl h;rcases cR l with e | ⟨l',x,e⟩
   ·rw[e]at hl;cases hl
   ·rw[cS]at e;subst e;rw[aj,bh]at hl;rw[Yep]at h;by_cases hp:p=⟨id,(l'.length:Int),hid⟩
    ·rw[hp,Yww]at h;cases h;exact .inr ⟨l'.length,x,by simp,hp,rfl⟩
    ·rw[Zu7 hp]at h;rcases ih l' (by omega) h with q | ⟨k,o,h1,h2,h3⟩
     ·exact .inl q
     ·have hi:=(au.1 h1).1;exact .inr ⟨k,o,by rw[aM hi];exact h1,h2,h3⟩
 exact fun {l} h=>key _ l rfl h
def Y8e:∀ {l:List POut} {x:POut},(∀ y ∈ l,1<=y.value)->x ∈ l->x.value<=Q1h l
 | y::l,x,h,hx=>by
  have e:Q1h (y::l)=y.value+Q1h l:=by simp[Q1h]
  have h0:0<=Q1h l:=by
   have : ∀ l:List POut,(∀ o ∈ l,1<=o.value)->0<=Q1h l:=by
    intro l;induction l with
    | nil=>intro _;simp[Q1h]
    | cons y l ih =>
     intro hl;have:=ih fun z hz=>hl z (by simp[hz]);have:=hl y (by simp);have e:Q1h (y::l)=y.value+Q1h l:=by simp[Q1h]
     omega
   exact this l fun z hz=>h z (by simp[hz])
  rcases ax.1 hx with rfl | hx
  ·omega
  ·have:=Y8e (fun z hz=>h z (by simp[hz])) hx;have:=h y (by simp);omega
section
variable{m:Qo1}{B:Int}{T:PTx}{o fee:Int}{pts:List Pt}{outs:List POut}(M:MadeOf m T o pts outs fee)(G:Ygq m B)(hB:0<=B)(h4:4*B<=1125899906842624)
include M G hB h4
theorem Zvo:X7s m pts<=4*B:=by
 have:=Zfs G hB (l:=pts);have h:=M.p4;have : (pts.length:Int)*B<=4*B:=dA (by omega) hB;omega
theorem Zjg{w:List (List Int)}(hw:w.length<=16)(hw2:∀ y ∈ w,y.length<=64):TxOk ⟨pts.map fun p=>⟨p,w⟩,outs,0⟩:=by
 have hs:=Zvo M G hB h4;have he:=M.e;have hf:=M.f;have hp1:=M.p1;have hp4:=M.p4;have hq1:=M.q1;have hq2:=M.q2;refine⟨by simp;omega,by simp;omega,fun x hx => ?_,by simp,?_,Zwv (fun x hx=>(M.q x hx).1) (by show Q1h outs<=_;omega),fun x hx => ?_,fun x hx => ?_⟩
 ·obtain⟨p,hp,rfl⟩:=ao.1 hx;obtain⟨c,hc, -⟩:=M.at' p hp;obtain⟨-, -, -,h1,h2⟩:=G p c hc;exact⟨h1,by show p.n<=8;omega⟩
 ·rw[ca];have : ((fun x:PIn=>x.pt) ∘ fun p:Pt=>(⟨p,w⟩:PIn))=id:=rfl;rw[this,List.map_id];exact M.nd
 ·obtain⟨-,u, -, -,e⟩:=M.q x hx;rw[e];simp[Q88]
 ·obtain⟨p,hp,rfl⟩:=ao.1 hx;exact⟨hw,hw2⟩
theorem Z6z:Qu2 (Z5s pts outs)=0:=Ye9 (Zjg M G hB h4 (by simp) (by simp))
theorem Z21:T=⟨pts.map fun p=>⟨p,Q7z (Qxt (Xuh Qrf o) (dgF X06 (Z5s pts outs)))⟩,outs,0⟩:=by
 rw[M.t];unfold Z9l Xs8 Z5s;simp[ca,d9]
theorem Y8s:Qu2 T=0:=by
 rw[Z21 M G hB h4];refine Ye9 (Zjg M G hB h4 (by simp[Q7z]) fun y hy => ?_);simp only[Q7z,aw]at hy;rw[hy,Yrk,Yd6];omega
theorem Zv1(hks:Qrf.length=1024)(w:List (List Int))(hw:w=Q7z (Qxt (Xuh Qrf o) (dgF X06 (Z5s pts outs)))):∀ (l:List Pt) (s:Int),(∀ p ∈ l,p ∈ pts)->Zwp (Zfy Qrf hks T) m (l.map fun p=>⟨p,w⟩) s=.ok (s+X7s m l)
 | [],s,_=>by simp[Zwp,X7s]
 | p::l,s,hl=>by
  obtain⟨c,hc,hs⟩:=M.at' p (hl p (by simp));have hd:dgF X06 T=dgF X06 (Z5s pts outs):=by
   have hc:=Y8s M G hB h4;rw[M.t]at hc ⊢;exact Z73 (Z6z M G hB h4) hc
  have hr:=Z61 (a:=Zfy Qrf hks T) (o:=o) (by have:=M.o1;have:=M.o2;omega) (tg:=Qxt (Xuh Qrf o) (dgF X06 (Z5s pts outs))) (Yd6 _ _);rw[Z8n ⟨M.o1,M.o2⟩ hd,if_pos rfl]at hr;have hr':Y9f (Zfy Qrf hks T) c.script w=0:=by rw[hs,hw];exact hr
  have ih:=Zv1 hks w hw l (s+c.value) fun q hq=>hl q (by simp[hq]);simp only[aR,Zwp,hc,hr',if_true];rw[ih];have : X7s m (p::l)=c.value+X7s m l:=by simp[X7s,X3a,hc]
  rw[this];congr 1;omega
theorem Y8m{hks:Qrf.length=1024}{ht:Int}(h0:0<=ht):Qvp Qrf hks m ht T=(fee,0):=by
 have hc:=Y8s M G hB h4;have hT:=Z21 M G hB h4;have hl:¬ ht+1 < T.lock:=by rw[hT];show ¬ ht+1 < 0;omega
 have hi:Zwp (Zfy Qrf hks T) m T.ins 0=.ok (X7s m pts):=by
  have:=Zv1 M G hB h4 hks _ rfl pts 0 (fun p hp=>hp);rw[Int.zero_add]at this;have e:T.ins=pts.map fun p=>⟨p,Q7z (Qxt (Xuh Qrf o) (dgF X06 (Z5s pts outs)))⟩:=by
   rw[hT]
  rw[e];exact this
 have ho:T.outs=outs:=by rw[hT]
 have he:=M.e;have hf:=M.f;unfold Qvp;rw[if_pos hc,if_neg hl,hi,ho];have e:X7s m pts-Q1h outs=fee:=by omega
 simp only[e];rw[if_neg (by omega)]
theorem Zy2{hks:Qrf.length=1024}{ht:Int}(h0:0<=ht):Xfk Qrf hks ht m [T]=.ok (doM m T (ht+1)):=by
 have hv:=Y8m M G hB h4 (hks:=hks) h0;unfold Xfk;rw[if_neg (by simp),Q7v,hv];rfl
theorem Zn6{made:Int}:Ygq (doM m T made) (4*B):=by
 intro p c hc;have hT:=Z21 M G hB h4;have ho:T.outs=outs:=by rw[hT]
 have hs:=Zvo M G hB h4;have he:=M.e;have hf:=M.f;unfold doM at hc;rcases Zxp hc with q | ⟨k,x,hx,hp,rfl⟩
 ·obtain⟨g1,g2,g3,g4⟩:=G p c (Z3l q);exact⟨g1,g2,by omega,g4⟩
 ·rw[ho]at hx;have hxm:=ak hx;have hk:=(au.1 hx).1;obtain⟨v1,u,u1,u2,hu⟩:=M.q x hxm;have hq2:=M.q2;refine⟨⟨u,u1,u2,hu⟩,v1,?_,by rw[hp];show(0:Int)<=(k:Int);omega,by rw[hp];show(k:Int)<=7;omega⟩;have:=Y8e (fun y hy=>(M.q y hy).1) hxm;show x.value<=4*B;omega
end
def Ync(p:Pt):InV:=⟨p,.slice none 0 0,[]⟩
def Z9o{h:Heap}{n0:Nat}(p:Pt):InN h n0 (Ync p):=⟨⟨Sl.nil,(fun q hq=>(by cases hq)),by simp[Ync],(fun q hq=>(by cases hq))⟩,fun v hv c hc=>by
 simp only[Z8v,Ync,df,aw]at hv;subst hv;cases hc⟩
def Jaw(pts:List Pt)(outs:List OutV):ptx (pts.map Ync) outs 0=Z5s pts (outs.map OutV.p):=by
 simp only[ptx,Z5s,ca,PTx.mk.injEq,and_true,true_and];exact bM fun p _=>rfl
def Jh0(b:Nat):Qm8 (E b).toEnv 32 []=some (.agg ⟨X3q⟩):=kR
structure MvV where
 cv:Value
 coins:List Int
 to:Int
 part:Int
 fee:Int
def MvV.cells(x:MvV):List Value:=[x.cv,.int .i64 x.to,.int .i64 x.part,.int .i64 x.fee]
structure MvAt (h:Heap) (x:MvV):Prop where
 s:Sl h 1 x.cv x.coins.length (x.coins.map (Value.int .i64))
 n:x.coins.length < 4611686018427387904
def MvAt.old{h h':Heap}{x:MvV}(a:MvAt h x)(o:Old h h'):MvAt h' x:=⟨a.s.old o,a.n⟩
structure Coins (m:Qo1) (owner sum:Int) (pts:List Pt):Prop where
 z:pts=[]->owner=0
 o:pts ≠ []->1<=owner/\owner<=32
 n:pts.length<=4
 nd:pts.Nodup
 at':∀ p ∈ pts,∃ c,m p=some c/\c.script=Q88 owner
 s:sum=X7s m pts
 b:∀ p ∈ pts,PtB p
structure MadeAt2 (h h':Heap) (m:Qo1) (iv ov:Value) (ins:List InV) (outs:List OutV):Prop where
 r:TxR h h' iv ov ins outs
 p:∀ x ∈ ins,PtB x.pt
 m:∃ o pts qs fee,MadeOf m (ptx ins outs 0) o pts qs fee
section
attribute [local simp] J9 V4 Yo Xx Qny Y2 Qg1 Qgm Qll Jd J0 Qbh Zy Xt Zz Zj U2 Yy W5 Qiy Y0 W8 Qah Ve J7 Jj Jb Qa2 W6 V9 Qca Xv Zo We Zx Zi Zm Zl V7 Qg4 Qfx J2 Zk Qg3 Jl Qft J5 Zf Ui Qb7 Vy Z3 Yw
def Z1t(b:Nat){h g:Heap}(la:Ab.LaidIn h laidAll){m:Qo1}{B:Int}(G:Ygq m B)(hB:0<=B)(h4:4*B<=1125899906842624){x:MvV}{X N:Nat}{iv:Value}{pts:List Pt}{owner sum:Int}(C:Coins m owner sum pts)
  (gM:g.get h.next=some (.cells true 1 x.cells)) (gR:g.get (h.next+1)=some (.cells true 1 X3q)) (gX:g.get X=some (.cells true 1 (txC iv (.slice none 0 0) 0))) (hX:h.next+1 < X) (hXN:X < N) (hN:N<=g.next) (oi:Own g N 34 iv pts.length (Qd3 (pts.map Ync))) (aH:Old h g)
  {t:Tr Value} (t3:t.get 3=some (.pointer (some ⟨h.next,0,none⟩))) (t4:t.get 4=some (.pointer (some ⟨h.next+1,0,none⟩))) (t7:t.get 7=some (.int .i64 owner)) (t8:t.get 8=some (.int .i64 sum)) (t9:t.get 9=some (.pointer (some ⟨X,0,none⟩)))
  (K:KP) (hno:∀ h',Old h h'->K (.ret (.tuple #[.agg ⟨X3q⟩,.bool false])) h')
  (hk:∀ iv2 ov2 ins2 outs2 h',MadeAt2 h h' m iv2 ov2 ins2 outs2->K (.ret (.tuple #[.agg ⟨txC iv2 ov2 0⟩,.bool true])) h') :
  Wr (E b) (Xhf Tryz.prog (E b).G) (D0 b) none Q4q ⟨⟨161,t⟩,[],g⟩ (Y0x (E b) (DD b) Qvv K):=by
 have c1:∀ {hx:Heap},hx.get h.next=some (.cells true 1 x.cells)->J3 hx h.next 1=some (.int .i64 x.to)/\J3 hx h.next 2=some (.int .i64 x.part)/\J3 hx h.next 3=some (.int .i64 x.fee):=fun g=>⟨by rw[Za g];rfl,by rw[Za g];rfl,by rw[Za g];rfl⟩;have q1:=c1 gM;obtain⟨fee,efee⟩:∃ fee,fee=Xz6 x.fee 20:=⟨_,rfl⟩;have fin:=Xfh x.fee (n:=20) (by omega);rw[<- efee]at fin;have lR:=Heap.get_lt gR;have hs:sum<=4*B:=by
  have:=Zfs G hB (l:=pts);have h:=C.n;have : (pts.length:Int)*B<=4*B:=dA (by omega) hB;have:=C.s;omega
 have hw1:IntKind.i64.wrap (fee+1)=fee+1:=W3 (by omega) (by omega);obtain⟨nt,ent⟩:∃ nt,nt=X3q:=⟨_,rfl⟩;have nl:nt.length=3:=by rw[ent];rfl
 have bd:Qm8 (E b).toEnv 32 []=some (.agg ⟨nt⟩):=by rw[ent];exact Jh0 b
 obtain⟨gz,egz⟩:∃ gz,gz=g.set (h.next+1) (some (.cells true 1 nt)):=⟨_,rfl⟩;have stz:Ul g (h.next+1) 0 nt=some gz:=by rw[egz,Ur gR (by rw[nl];simp[X3q,txC])];simp[nl,X3q,txC]
 have ldz:Qb9 gz (h.next+1) 0 3=some (.agg ⟨nt⟩):=agW (by rw[egz,gY lR,if_pos rfl]) (by omega) (by omega);have oz:Old h gz:=by rw[egz];exact aH.set _ (by omega) lR
 have hno':=hno gz oz;rw[<- ent]at hno';have t8':sum=X7s m pts:=C.s;simp[Zh,t3,t4,t7,t8,t9,q1];refine(Xrj b x.fee (n:=20) (by omega) (by omega) g _ ?_).ok;rw[<- efee];by_cases o0:owner=0
 ·simp[Zh,t3,t4,t7,t8,t9,q1,o0,bd,nl,stz,ldz];exact hno'
 by_cases hlt:sum < fee+1
 ·simp[Zh,t3,t4,t7,t8,t9,q1,o0,hw1,hlt,bd,nl,stz,ldz];exact hno'
 have hws:IntKind.i64.wrap (sum-fee)=sum-fee:=W3 (by omega) (by omega);simp[Zh,t3,t4,t7,t8,t9,q1,o0,hw1,hlt,hws];refine(Xrj b x.part (n:=sum-fee) (by omega) (by omega) g _ ?_).ok;have pin:=Xfh x.part (n:=sum-fee) (by omega);obtain⟨part,epart⟩:∃ part,part=1+Xz6 x.part (sum-fee):=⟨_,rfl⟩;have hwp:IntKind.i64.wrap (1+Xz6 x.part (sum-fee))=part:=by rw[epart,W3 (by omega) (by omega)]
 have tin:=Xfh x.to (n:=32) (by omega);obtain⟨to,eto⟩:∃ to,to=1+Xz6 x.to 32:=⟨_,rfl⟩;have hwt:IntKind.i64.wrap (1+Xz6 x.to 32)=to:=by rw[eto,W3 (by omega) (by omega)]
 simp[Zh,t3,t4,t7,t8,t9,q1,hwp];refine(Xrj b x.to (n:=32) (by omega) (by omega) g _ ?_).ok;simp[Zh,t3,t4,t7,t8,t9,q1,hwt];refine(Zou b to g _ fun v1 g1 o1 a1 => ?_).ok;have gX1:=a1.get gX;obtain⟨g2,eg2⟩:∃ g2,g2=g1.push (.cells true 1 [.int .i64 part,v1]):=⟨_,rfl⟩;have a2:=Qpm eg2;have bl1:=Yw9 b part v1 g1;rw[<- eg2]at bl1;have gg2:g2.get g1.next=some (.cells true 1 [.int .i64 part,v1]):=by rw[eg2,Heap.get_push,if_pos rfl]
 have gX2:=a2.get gX1;have lX2:=Heap.get_lt gX2;have n01:=a1.1;have n2:=Q8z eg2;obtain⟨ov1,eov1⟩:∃ ov1:Value,ov1=.slice (some ⟨g1.next,0,none⟩) 1 1:=⟨_,rfl⟩;rw[<- eov1]at bl1;obtain⟨g3,eg3⟩:∃ g3,g3=g2.set X (some (.cells true 1 (txC iv ov1 0))):=⟨_,rfl⟩;have st3:Ul g2 X 1 [ov1]=some g3:=by rw[eg3,Qhv gX2 (by simp[txC])];rfl
 have k3:∀ c,c≠X->g3.get c=g2.get c:=fun c hc=>by rw[eg3,gY lX2,if_neg (Ne.symm hc)]
 have gX3:g3.get X=some (.cells true 1 (txC iv ov1 0)):=by rw[eg3,gY lX2,if_pos rfl]
 have n3:g3.next=g2.next:=by rw[eg3];rfl
 have one1:X9r ov1=true:=by rw[eov1];exact Q0 _ _ _
 have b1:J6 ov1=some g1.next:=by rw[eov1];rfl
 have hto:0<=to/\to < 256:=by omega
 have v1b:∀ c,J6 v1=some c->g.next<=c/\c < g1.next:=fun c hc=>o1.from hc;have oldh3:Old h g3:=⟨by have:=aH.1;omega,fun c hc=>by rw[k3 c (by omega),a2.2 c (by have:=aH.1;omega),a1.2 c (by have:=aH.1;omega),aH.2 c hc]⟩;have R3:OutsR h g3 ov1 [⟨part,v1,Q88 to⟩]:=by
  refine⟨?_,fun y hy => ?_,fun y hy c hc e => ?_,oldh3⟩
  ·have e:Qna [(⟨part,v1,Q88 to⟩:OutV)]=[.int .i64 part,v1]:=rfl;rw[e,eov1];exact Own.new (z':=1) (n:=1) (by have:=aH.1;omega) (by rw[k3 _ (by omega)];exact gg2) rfl (by decide) (.inr rfl)
  ·rw[aw.1 hy];exact⟨(o1.low (by have:=aH.1;omega)).keep fun c hc hl=>by have:=v1b c hc;rw[k3 c (by omega),a2.2 c hl],Xad hto,by simp[Q88]⟩
  ·rw[aw.1 hy]at hc;rw[b1]at e;cases e;have:=v1b _ hc;omega
 have oi3:Own g3 N 34 iv pts.length (Qd3 (pts.map Ync)):=oi.keep fun c hc hl=>by have:=(oi.from hc).1;rw[k3 c (by omega),a2.2 c (by omega),a1.2 c hl]
 have gR3:g3.get (h.next+1)=some (.cells true 1 X3q):=by rw[k3 _ (by omega),a2.2 _ (by omega),a1.2 _ lR];exact gR
 have key:∀ (g5:Heap) (ov:Value) (outs:List OutV) (tt:Tr Value),g5.get X=some (.cells true 1 (txC iv ov 0))->OutsR h g5 ov outs->(∀ c,J6 ov=some c->N<=c)->(∀ y ∈ outs,∀ c,J6 y.sv=some c->N<=c)->Own g5 N 34 iv pts.length (Qd3 (pts.map Ync))->g5.get (h.next+1)=some (.cells true 1 X3q)->N<=g5.next ->
   tt.get 4=some (.pointer (some ⟨h.next+1,0,none⟩))->tt.get 7=some (.int .i64 owner)->tt.get 9=some (.pointer (some ⟨X,0,none⟩)) ->
   Q1h (outs.map OutV.p)+fee=sum->1<=outs.length->outs.length<=2->(∀ q ∈ outs.map OutV.p,1<=q.value/\∃ u:Int,1<=u/\u<=32/\q.script=Q88 u) ->
   Wr (E b) (Xhf Tryz.prog (E b).G) (D0 b) none Xhz ⟨⟨161,tt⟩,[],g5⟩ (Y0x (E b) (DD b) Qvv K):=by
  intro g5 ov outs tt gX5 R5 ovN osN oi5 gR5 hN5 e4 e7 e9 hsum l1 l2 hq;have ld5:Qb9 g5 X 0 3=some (.agg ⟨txC iv ov 0⟩):=by rw[Vf gX5 (by simp[txC])];rfl
  simp[Zh,e4,e7,e9,ld5];have hp0:pts ≠ []:=fun q=>o0 (C.z q);have ho:=C.o hp0;have hn4:=C.n;have il:(pts.map Ync).length=pts.length:=by simp
  have si:Ins g5 iv (pts.map Ync):=⟨by rw[il];exact oi5.sl,by rw[il];omega,fun y hy=>by
   obtain⟨p,hp,rfl⟩:=ao.1 hy;exact(Z9o (h:=g5) (n0:=0) p).1⟩
  refine(Zj6 b (Laid.old la R5.a) (lock:=0) si (R5.outs (by omega)) (fun y hy=>by
   obtain⟨p,hp,rfl⟩:=ao.1 hy;exact C.b p hp) ho.1 ho.2 _ fun iv2 ov2 ins2 outs2 h7 R7 e1 e2 => ?_).ok
  have a7:=R7.i.a;have g7:=a7.get gR5;have l7:=Heap.get_lt g7;have tlc:(txC iv2 ov2 0).length=3:=rfl;obtain⟨h8,e8⟩:∃ h8,h8=h7.set (h.next+1) (some (.cells true 1 (txC iv2 ov2 0))):=⟨_,rfl⟩;have st8:Ul h7 (h.next+1) 0 (txC iv2 ov2 0)=some h8:=by rw[e8,Ur g7 (by simp[X3q,txC])];simp[X3q,txC]
  have g8:h8.get (h.next+1)=some (.cells true 1 (txC iv2 ov2 0)):=by rw[e8,gY l7,if_pos rfl]
  have ld8:Qb9 h8 (h.next+1) 0 3=some (.agg ⟨txC iv2 ov2 0⟩):=by rw[Vf g8 (by simp[txC])];rfl
  have k8:∀ c,c≠h.next+1->h8.get c=h7.get c:=fun c hc=>by rw[e8,gY l7,if_neg (Ne.symm hc)]
  simp[Zh,e4,e7,e9,tlc,st8,ld8];have hg5:=R5.a.1;refine hk iv2 ov2 ins2 outs2 h8 ⟨R7.keepF R7.far hg5 (fun c hc _=>k8 c (by omega)) ⟨by rw[e8];exact al hg5 a7.1,fun c hc=>by rw[k8 c (by omega),a7.2 c (by omega),R5.a.2 c hc]⟩ hg5,fun y hy => ?_,owner,pts,outs.map OutV.p,fee,?_⟩
  ·have : y.pt ∈ ins2.map (·.pt):=ao.2 ⟨y,hy,rfl⟩;rw[e2]at this;obtain⟨z,hz,e⟩:=ao.1 this;obtain⟨p,hp,rfl⟩:=ao.1 hz;rw[<- e];exact C.b p hp
  ·refine⟨ho.1,ho.2,?_,hn4,C.nd,C.at',by omega,by rw[<- t8'];omega,by simpa using l1,by simpa using l2,hq,?_⟩
   ·cases hpp:pts with
    | nil=>exact absurd hpp hp0
    | cons a l=>simp
   ·rw[e1,Jaw]
 have hwd:IntKind.i64.wrap (sum-fee-part)=sum-fee-part:=W3 (by omega) (by omega);by_cases hpt:part < sum-fee
 ·simp[Zh,-Zh,t3,t4,t7,t8,t9,Q3z b part o1.sl,bl1,Jbh,one1,st3,hws,hpt];have hp0:pts ≠ []:=fun q=>o0 (C.z q);have ho:=C.o hp0;have cX3:J3 g3 X 1=some ov1:=by rw[Za gX3];rfl
  obtain⟨_,g4,c4,n4,v2,rfl,o2,a4⟩:=Zou b owner g3 (fun r h' => ∃ v,r=.ret v/\OB h' g3.next v (Q88 owner)/\Old g3 h') (fun v h' o a=>⟨v,rfl,o,a⟩);obtain⟨ov2,g5,j1,R5,one5,j4,j5,j6⟩:=R3.more b (by simp) a4 (v:=sum-fee-part) o2 (Xad (by omega)) (by simp[Q88]);have gX4:=a4.get gX3;have lX4:=Heap.get_lt gX4;have gX5:g5.get X=some (.cells true 1 (txC iv ov1 0)):=by rw[j5 X lX4 (by rw[b1];intro e;cases e;omega)];exact gX4
  have lX5:=Heap.get_lt gX5;obtain⟨g6,eg6⟩:∃ g6,g6=g5.set X (some (.cells true 1 (txC iv ov2 0))):=⟨_,rfl⟩;have st6:Ul g5 X 1 [ov2]=some g6:=by rw[eg6,Qhv gX5 (by simp[txC])];rfl
  have st6':Qbx (E b).toEnv 27 (.pointer (some ⟨X,1,none⟩)) ov2 g5=some g6:=by rw[Jbh b _ _ _ _ one5];exact st6
  have k6:∀ c,c≠X->g6.get c=g5.get c:=fun c hc=>by rw[eg6,gY lX5,if_neg (Ne.symm hc)]
  have gX6:g6.get X=some (.cells true 1 (txC iv ov2 0)):=by rw[eg6,gY lX5,if_pos rfl]
  refine Qg6 [⟨19,[.int .i64 owner],g3,v2,g4,true⟩] ?_ X2u Yby X2m (by simp[Ygb,Yjg,Yg9,Ycw,Zh,t3,t4,t7,t8,t9,cX3,hws,hwd,Q3z b (sum-fee-part) o2.sl,Yw9,j1,st6'];first | exact⟨rfl,rfl⟩ | rfl) ?_ ?_
  ·exact zk1 ⟨c4,n4,fun _ c hc=>a4.2 c hc⟩
  ·have cX4:J3 g4 X 1=some ov1:=by rw[Za gX4];rfl
   simp[Qea,Zh,t3,t4,t7,t8,t9,cX3,cX4,hws,hwd,Xww R3.o,Q5a]
  simp[Zh,-Zh];have n34:=a4.1;have v2b:∀ c,J6 v2=some c->g3.next<=c:=fun c hc=>(o2.from hc).1;have ov2N:∀ c,J6 ov2=some c->N<=c:=fun c hc=>by
   rcases j4 c hc with q | q
   ·rw[b1]at q;cases q;omega
   ·omega
  have osN:∀ y ∈ [(⟨part,v1,Q88 to⟩:OutV)] ++ [⟨sum-fee-part,v2,Q88 owner⟩],∀ c,J6 y.sv=some c->N<=c:=fun y hy c hc=>by
   rcases ac.1 hy with q | q
   ·rw[aw.1 q]at hc;have:=v1b c hc;omega
   ·rw[aw.1 q]at hc;have:=v2b c hc;omega
  have R6:OutsR h g6 ov2 ([⟨part,v1,Q88 to⟩] ++ [⟨sum-fee-part,v2,Q88 owner⟩]) :=
   ⟨R5.o.keep fun c hc _=>k6 c (by have:=ov2N c hc;omega),fun y hy=>(R5.s y hy).keep fun c hc _=>k6 c (by have:=osN y hy c hc;omega),R5.d,⟨by rw[eg6];exact R5.a.1,fun c hc=>by rw[k6 c (by have:=aH.1;omega),R5.a.2 c hc]⟩⟩
  have kk:∀ c,c < g3.next->c≠X->J6 ov1≠some c->g6.get c=g3.get c:=fun c h1 h2 h3=>by rw[k6 c h2,j5 c (az h1 n34) h3,a4.2 c h1]
  refine key g6 ov2 ([⟨part,v1,Q88 to⟩] ++ [⟨sum-fee-part,v2,Q88 owner⟩]) _ gX6 R6 ov2N osN (oi3.keep fun c hc hl=>kk c hl (by have:=(oi.from hc).1;omega) fun e => ?_) ?_ (by rw[eg6];show N<=g5.next;omega) (by simp[t4]) (by simp[t7]) (by simp[t9]) ?_ (by simp) (by simp) (fun q hq => ?_)
  ·rw[b1]at e;have:=bE e;have:=(oi.from hc).2;omega
  ·rw[kk _ (by omega) (by omega) (fun e=>by rw[b1]at e;have:=bE e;omega)];exact gR3
  ·have : Q1h (([(⟨part,v1,Q88 to⟩:OutV)] ++ [(⟨sum-fee-part,v2,Q88 owner⟩:OutV)]).map OutV.p)=part+(sum-fee-part):=by simp[Q1h,OutV.p]
   rw[this];omega
  ·simp only[bc,aR,df,ac,aw]at hq;rcases hq with rfl | rfl
   ·exact⟨by show 1<=part;omega,to,by omega,by omega,rfl⟩
   ·exact⟨by show 1<=sum-fee-part;omega,owner,by omega,by omega,rfl⟩
 ·simp[Zh,-Zh,t3,t4,t7,t8,t9,Q3z b part o1.sl,bl1,Jbh,one1,st3,hws,hpt];refine key g3 ov1 [⟨part,v1,Q88 to⟩] _ gX3 R3 (fun c hc=>by rw[b1]at hc;cases hc;omega) (fun y hy c hc=>by rw[aw.1 hy]at hc;have:=v1b c hc;omega) oi3 gR3 (by omega) (by simp[t4]) (by simp[t7]) (by simp[t9]) ?_ (by simp) (by simp) (fun q hq => ?_)
  ·have : Q1h ([(⟨part,v1,Q88 to⟩:OutV)].map OutV.p)=part:=by simp[Q1h,OutV.p]
   rw[this];omega
  ·simp only[aR,df,aw]at hq;subst hq;exact⟨by show 1<=part;omega,to,by omega,by omega,rfl⟩
end
structure MRg (t:Tr Value) (lb h X:Nat) (v:Value) (owner sum:Int) (i:Nat):Prop where
 t0:t.get 0=some (.pointer (some ⟨lb,0,none⟩))
 t3:t.get 3=some (.pointer (some ⟨h,0,none⟩))
 t4:t.get 4=some (.pointer (some ⟨h+1,0,none⟩))
 t6:t.get 6=some v
 t7:t.get 7=some (.int .i64 owner)
 t8:t.get 8=some (.int .i64 sum)
 t9:t.get 9=some (.pointer (some ⟨X,0,none⟩))
 t10:t.get 10=some (.int .i64 (i:Int))
structure MIv (h hX:Heap) (m:Qo1) (X:Nat) (iv:Value) (pts:List Pt) (owner sum:Int) (g:Heap):Prop where
 c:Coins m owner sum pts
 gX:g.get X=some (.cells true 1 (txC iv (.slice none 0 0) 0))
 o:Own g hX.next 34 iv pts.length (Qd3 (pts.map Ync))
 n:hX.next<=g.next
 f:∀ c,c < hX.next->c≠X->g.get c=hX.get c
def MI(h hX:Heap)(m:Qo1)(lb X:Nat)(v:Value)(k:Nat)(s:St):Prop:=∃ (t:Tr Value) (g:Heap) (iv:Value) (pts:List Pt) (owner sum:Int) (i:Nat),s=⟨⟨161,t⟩,[],g⟩/\MRg t lb h.next X v owner sum i/\i<=4/\k=4-i/\pts.length<=i/\MIv h hX m X iv pts owner sum g
def Z4c{m:Qo1}{B:Int}(G:Ygq m B):∀ {l:List Pt},0<=X7s m l
 | []=>by simp[X7s]
 | p::l=>by
  have ih:=Z4c G (l:=l);have e:X7s m (p::l)=(X3a m p).value+X7s m l:=by simp[X7s]
  have h1:0<=(X3a m p).value:=by
   unfold X3a;cases hm:m p with
   | none=>exact Int.le_refl _
   | some c=>have:=(G p c hm).2.1;show 0<=c.value;omega
  omega
def Z7s(m:Qo1)(l k:List Pt):X7s m (l++k)=X7s m l+X7s m k:=by simp[X7s]
def MIv.old{h hX:Heap}{m:Qo1}{X:Nat}{iv:Value}{pts:List Pt}{owner sum:Int}{g g':Heap}(I:MIv h hX m X iv pts owner sum g)(a:Old g g'):MIv h hX m X iv pts owner sum g' :=
 ⟨I.c,a.get I.gX,I.o.keep fun c _ hl=>a.2 c hl,al I.n a.1,fun c h1 h2=>by rw[a.2 c (az h1 I.n),I.f c h1 h2]⟩
def MJ(g:Heap)(lb h X:Nat)(v:Value)(owner sum:Int)(i P O:Nat)(who:Int)(p:Pt)(pts:List Pt)(k:Nat)(s:St):Prop:=∃ (t:Tr Value) (j:Nat),s=⟨⟨161,t⟩,[],g⟩/\MRg t lb h X v owner sum i/\t.get 11=some (.pointer (some ⟨P,0,none⟩))/\t.get 12=some (.pointer (some ⟨O,0,none⟩))/\t.get 15=some (.int .i64 who)/\t.get 16=some (.bool true)/\t.get 17=some (.bool (decide (p ∈ pts.take j)))/\t.get 18=some (.int .i64 (j:Int))/\j<=pts.length/\k=pts.length-j
def Zp0(pts:List Pt)(p:Pt):Qd3 ((pts ++ [p]).map Ync)=Qd3 (pts.map Ync)++(p.cells ++ [.slice none 0 0]):=by
 simp[Qd3,Ync,InV.cells]
section
attribute [local simp] J9 V4 Yo Xx Qny Y2 Qg1 Qgm Qll Jd J0 Qbh Zy Xt Zz Zj U2 Yy W5 Y0 Qah Ve J7 Jj Jb Qa2 W6 V9 Qca Xv Zo We Zx Zi Zm Zl V7 Qg4 Qfx J2 Zk Qg3 Jl Qft J5 Zf Ui Qb7 Vy Z3 Zh
def Jct(b:Nat){h:Heap}{lb mb z ν clk:Nat}{ks:List Nat}{un:Value}{ls:List LC}{ud:List (List BK)}(S:LedS h lb mb z ν clk ks un ls ud)(hn:ls.length < 900000){B:Int}(G:Ygq (Qcv ls) B)(hB:0<=B)(h4:4*B<=1125899906842624){x:MvV}(mv:MvAt h x)
  (K:KP) (hno:∀ h',Old h h'->K (.ret (.tuple #[.agg ⟨X3q⟩,.bool false])) h')
  (hk:∀ iv2 ov2 ins2 outs2 h',MadeAt2 h h' (Qcv ls) iv2 ov2 ins2 outs2->K (.ret (.tuple #[.agg ⟨txC iv2 ov2 0⟩,.bool true])) h') :
  CallOK Tryz.prog (E b).G 7 [.pointer (some ⟨lb,0,none⟩),.agg ⟨x.cells⟩] h K:=by
 refine Qkb (E b) (U7 _ _) (Ue b) (Ji b) mixed (Uk b) (Yo b) Yz0.1 Yz0.2.1 Yz0.2.2 rfl ?_;obtain⟨hA,eA⟩:∃ hA,hA=h.push (.cells true 1 x.cells):=⟨_,rfl⟩;have bx:=Q0e eA;have aA:=Qpm eA;have gA:hA.get h.next=some (.cells true 1 x.cells):=by rw[eA,Heap.get_push,if_pos rfl]
 have nA:=Q8z eA;obtain⟨hB',eB⟩:∃ hB',hB'=hA.push (.cells true 1 X3q):=⟨_,rfl⟩;have alB:Qbd (E b).toEnv 32 hA=some (.pointer (some ⟨h.next+1,0,none⟩),hB'):=by rw[eB,<- nA];exact Qa3 b hA
 have aB:=Qpm eB;have gB:hB'.get (h.next+1)=some (.cells true 1 X3q):=by rw[eB,Heap.get_push,if_pos nA]
 have nB:hB'.next=h.next+2:=by rw[eB];simp only[Qgr,nA]
 have aAB:=aA.trans aB;have SLB:=S.old aAB;simp[Qa3,Qiy,W8,Yw,bx,-Qa3,alB];refine Zof b SLB.la SLB.gl SLB.co (by omega) _ fun v h1 l pm pb hl op a1 => ?_;have aA1:=aB.trans a1;have aH1:=aA.trans aA1;have gM1:=aA1.get gA;have gR1:=a1.get gB;have lenA:∀ hx,Qne (E b).toEnv 26 v hx=some (.int .i64 (l.length:Int)):=fun hx=>Qbq (T26 b) op.sl;have lenC:∀ hx,Qne (E b).toEnv 22 x.cv hx=some (.int .i64 (x.coins.length:Int)):=fun hx=>Qbq (T22 b) mv.s;have c0:∀ {hx:Heap},hx.get h.next=some (.cells true 1 x.cells)->J3 hx h.next 0=some x.cv:=fun g=>by rw[Za g];rfl
 obtain⟨nt,ent⟩:∃ nt,nt=X3q:=⟨_,rfl⟩;have nl:nt.length=3:=by rw[ent];rfl
 have bd:Qm8 (E b).toEnv 32 []=some (.agg ⟨nt⟩):=by rw[ent];exact Jh0 b
 have lR1:=Heap.get_lt gR1;obtain⟨gz,egz⟩:∃ gz,gz=h1.set (h.next+1) (some (.cells true 1 nt)):=⟨_,rfl⟩;have stz:Ul h1 (h.next+1) 0 nt=some gz:=by rw[egz,Ur gR1 (by rw[nl];simp[X3q,txC])];simp[nl,X3q,txC]
 have ldz:Qb9 gz (h.next+1) 0 3=some (.agg ⟨nt⟩):=agW (by rw[egz,gY lR1,if_pos rfl]) (by omega) (by omega);have oz:Old h gz:=by rw[egz];exact aH1.set _ (by omega) lR1
 have hno':=hno gz oz;rw[<- ent]at hno';by_cases hl0:l.length=0
 ·simp[Qa3,Qiy,W8,Yw,lenA,hl0,bd,nl,stz,ldz];exact hno'
 have hl0':¬ (l.length:Int)=0:=by omega
 by_cases hc0:x.coins.length=0
 ·simp[Qa3,Qiy,W8,Yw,lenA,hl0,hl0',c0 gM1,lenC,hc0,bd,nl,stz,ldz];exact hno'
 have hc0':¬ (x.coins.length:Int)=0:=by omega
 obtain⟨hX,eX⟩:∃ hX,hX=h1.push (.cells true 1 X3q):=⟨_,rfl⟩;have alX:Qbd (E b).toEnv 32 h1=some (.pointer (some ⟨h1.next,0,none⟩),hX):=by rw[eX];exact Qa3 b h1
 have aX:=Qpm eX;have gX:hX.get h1.next=some (.cells true 1 X3q):=by rw[eX,Heap.get_push,if_pos rfl]
 have nX:=Q8z eX;simp[Qa3,Qiy,W8,Yw,-Yw,lenA,hl0,hl0',c0 gM1,lenC,hc0,hc0',-Qa3,alX];refine Qfs (MI h hX (Qcv ls) lb h1.next v) 4 ⟨_,hX,.slice none 0 0,[],0,0,0,rfl,⟨by simp,by simp,by simp,by simp,by simp,by simp,by simp,by simp⟩,by omega,rfl,by simp,⟨⟨fun _=>rfl,fun q=>absurd rfl q,by simp,by simp,by simp,by simp[X7s],by simp⟩,gX,Own.nil,ae _,fun _ _ _=>rfl⟩⟩ ?_;rintro k s' ⟨t,g,iv,pts,owner,sum,i,rfl,⟨t0,t3,t4,t6,t7,t8,t9,t10⟩,hi,rfl,hpi,I⟩ -;have aHX:=aH1.trans aX;have aHg:Old h g:=⟨by have:=I.n;have:=aHX.1;omega,fun c hc=>by rw[I.f c (by have:=aHX.1;omega) (by have:=aH1.1;omega),aHX.2 c hc]⟩;have Sg:=S.old aHg;have gMg:g.get h.next=some (.cells true 1 x.cells):=by rw[I.f _ (by have:=Heap.get_lt gM1;omega) (by have:=Heap.get_lt gM1;omega)];exact aX.get gM1
 have gRg:g.get (h.next+1)=some (.cells true 1 X3q):=by rw[I.f _ (by omega) (by omega)];exact aX.get gR1
 have slA:Sl g 33 v l.length (Qnf l):=op.sl.keep fun c hc hl=>by rw[I.f c (by omega) (by omega)];exact aX.2 c hl
 by_cases hlt:i < x.coins.length/\i < 4
 ·have hlt':(i:Int) < (x.coins.length:Int):=by omega
  have hlt4:(i:Int) < 4:=by omega
  have hw:=wS (i:=i) (by omega);obtain⟨cn,hcn⟩:∃ cn,x.coins[i]? = some cn:=⟨_,ab hlt.1⟩;have mvg:=mv.old aHg;obtain⟨bk,off,x0,x1,x2, -⟩:=Xc9 (T22 b) Q3o mvg.s (k:=.i64) (i:=(i:Int)) (by omega) hlt';have x2:=x2 0 (by omega);rw[bo,da,cg,cg,bf,hcn]at x2;simp only[aK]at x2;have pin:=Xfh cn (n:=(l.length:Int)) (by omega);obtain⟨j,hj,hjl⟩:∃ j:Nat,Xz6 cn (l.length:Int)=(j:Int)/\j < l.length:=⟨(Xz6 cn (l.length:Int)).toNat,by omega,by omega⟩;obtain⟨p,hp⟩:∃ p,l[j]? = some p:=⟨_,ab hjl⟩;have hpl:=ak hp;obtain⟨bp,op',y1,y2⟩:=Z85 (b:=b) (T26 b) Qz1 slA hp;obtain⟨c,hc⟩:∃ c,Qcv ls p=some c:=by
   cases hm:Qcv ls p with
   | none=>exact absurd hm ((pm.at' p).1 hpl)
   | some c=>exact⟨c,rfl⟩
  have hgc:X3a (Qcv ls) p=c:=by unfold X3a;rw[hc];rfl
  obtain⟨⟨o',o1,o2,hsc⟩,cv1,cv2, -, -⟩:=G p c hc;simp[Qa3,Qiy,W8,Yw,-Yw,t0,t3,t4,t6,t7,t8,t9,t10,c0 gMg,lenC,hlt',hlt4,x1,x2,lenA];refine(Xrj b cn (n:=(l.length:Int)) (by omega) (by omega) g _ ?_).ok;rw[hj];obtain⟨hA2,hP,alP,stP,stP',gP,aP,nP⟩:=Qxa b (Ymv b) (l:=p.cells) (by rw[Pt.len,Qz1]) (by kernel_rfl) g;have lP:∀ {hx:Heap},hx.get g.next=some (.cells true 1 p.cells)->Qb9 hx g.next 0 33=some (.agg ⟨p.cells⟩):=fun q=>agW q (by rw[Pt.len];omega) (by rw[Pt.len];omega);have plen:=p.len;have SgP:=Sg.old aP;simp[Qa3,Qiy,W8,Yw,-Yw,t0,t3,t4,t6,t7,t8,t9,t10,y1,y2,-Qiy,alP,stP,stP',plen,lP gP];refine(Jaa b SgP.gl SgP.co p _ fun sv h3 o3 a3 => ?_).ok;rw[hgc]at o3 ⊢;obtain⟨hA3,h4',alO,stO,stO',gO,aO,nO⟩:=Qxa b (Yte b) (l:=[.int .i64 c.value,sv]) (by rw[Qi0];rfl) (by kernel_rfl) h3;have cO:∀ {hx:Heap},hx.get h3.next=some (.cells true 1 [.int .i64 c.value,sv])->J3 hx h3.next 0=some (.int .i64 c.value)/\J3 hx h3.next 1=some sv:=fun g=>⟨by rw[Za g];rfl,by rw[Za g];rfl⟩;have cO4:=cO gO;simp[Qa3,Qiy,W8,Yw,-Yw,t0,t3,t4,t6,t7,t8,t9,t10,-W8,alO,stO,stO',cO4];have so:SB h4' sv (Q88 o'):=by
   have:=(o3.sl.old aO);rw[hsc]at this;exact this
  refine Z8t b ⟨o1,o2⟩ so _ fun h5 a5 => ?_;have aP5:Old hP h5:=a3.trans (aO.trans a5);have ag5:=aP.trans aP5;have I5:=I.old ag5;have gP5:=aP5.get gP;have cO5:=cO (a5.get gO);simp[Qa3,Qiy,W8,Yw,-Yw,t0,t3,t4,t6,t7,t8,t9,t10];refine Qfs (MJ h5 lb h.next h1.next v owner sum i g.next h3.next o' p pts) pts.length ⟨_,0,rfl,⟨by simp[t0],by simp[t3],by simp[t4],by simp[t6],by simp[t7],by simp[t8],by simp[t9],by simp[t10]⟩,by simp,by simp,by simp,by simp,by simp,by simp,by omega,rfl⟩ ?_;rintro k2 s2 ⟨t,jj,rfl,⟨t0,t3,t4,t6,t7,t8,t9,t10⟩,t11,t12,t15,t16,t17,t18,hjj,rfl⟩ -;have cX5:J3 h5 h1.next 0=some iv:=by rw[Za I5.gX];rfl
  have il:(pts.map Ync).length=pts.length:=by simp
  have oI:Own h5 hX.next 34 iv (pts.map Ync).length (Qd3 (pts.map Ync)):=by rw[il];exact I5.o
  have lenI:∀ hx,Qne (E b).toEnv 30 iv hx=some (.int .i64 (pts.length:Int)):=fun hx=>Qbq (T30 b) I5.o.sl;by_cases hjlt:jj < pts.length
  ·have hjlt':(jj:Int) < (pts.length:Int):=by omega
   have hwj:=wS (i:=jj) (by omega);obtain⟨q,hq⟩:∃ q,pts[jj]? = some q:=⟨_,ab hjlt⟩;have hq':(pts.map Ync)[jj]? = some (Ync q):=by rw[bf,hq];rfl
   obtain⟨B1,O1, -,z1, -, -⟩:=Yd2 (b:=b) (T30 b) Qma oI.sl hq';have z2:=Jdw (b:=b) oI.sl hq' z1;have z2:Qb9 h5 B1 O1 33=some (.agg ⟨q.cells⟩):=z2;have pq:=peq b q p;have tk:p ∈ pts.take (jj+1)↔p ∈ pts.take jj∨q=p:=by
    rw[bn,hq,ac];simp[eq_comm]
   simp[Qa3,Qiy,W8,Yw,-Yw,t0,t3,t4,t6,t7,t8,t9,t10,t11,t12,t15,t16,t17,t18,cX5,lenI,hjlt,hjlt'];by_cases th:p ∈ pts.take jj
   ·rw[decide_eq_true th]at t17;have e17:decide (p ∈ pts.take (jj+1))=true:=decide_eq_true (tk.2 (.inl th));refine Qg6 [] (by simp) Q75 Xcq Q7o (by simp[Xgb,Xfq,Qiy,W8,Yw,t0,t9,t11,t17,t18,cX5,z1,z2,lP gP5];first | exact⟨rfl,rfl⟩ | rfl) ?_ ?_
    ·simp[Qpe,Qiy,W8,Yw,t0,t9,t11,t17,t18]
    simp[Qa3,Qiy,W8,Yw,-Yw,t0,t3,t4,t6,t7,t8,t9,t10,t11,t12,t15,t16,t17,t18,hwj];exact⟨pts.length-(jj+1),by omega,_,jj+1,rfl,⟨by simp[t0],by simp[t3],by simp[t4],by simp[t6],by simp[t7],by simp[t8],by simp[t9],by simp[t10]⟩,by simp[t11],by simp[t12],by simp[t15],by simp[t16],by rw[e17];simp,by simp,by omega,rfl⟩
   ·rw[decide_eq_false th]at t17;have e17:decide (p ∈ pts.take (jj+1))=decide (q=p):=by
     by_cases e:q=p
     ·rw[decide_eq_true e,decide_eq_true (tk.2 (.inr e))]
     ·rw[decide_eq_false e,decide_eq_false fun w=>(tk.1 w).elim th e]
    refine Qg6 [] (by simp) Q75 Xcq Q7o (by simp[Xgb,Xfq,Qiy,W8,Yw,t0,t9,t11,t17,t18,cX5,z1,z2,lP gP5,pq];first | exact⟨rfl,rfl⟩ | rfl) ?_ ?_
    ·simp[Qpe,Qiy,W8,Yw,t0,t9,t11,t17,t18]
    simp[Qa3,Qiy,W8,Yw,-Yw,t0,t3,t4,t6,t7,t8,t9,t10,t11,t12,t15,t16,t17,t18,hwj];exact⟨pts.length-(jj+1),by omega,_,jj+1,rfl,⟨by simp[t0],by simp[t3],by simp[t4],by simp[t6],by simp[t7],by simp[t8],by simp[t9],by simp[t10]⟩,by simp[t11],by simp[t12],by simp[t15],by simp[t16],by rw[e17];simp,by simp,by omega,rfl⟩
  ·have hjlt':¬ (jj:Int) < (pts.length:Int):=by omega
   have : jj=pts.length:=by omega
   subst this;rw[bJ]at t17;have again:∀ tt:Tr Value,MRg tt lb h.next h1.next v owner sum (i+1)->∃ k',k' < 4-i/\MI h hX (Qcv ls) lb h1.next v k' ⟨⟨161,tt⟩,[],h5⟩:=fun tt R=>⟨4-(i+1),by omega,_,h5,iv,pts,owner,sum,i+1,rfl,R,by omega,rfl,by omega,I5⟩;by_cases hin:p ∈ pts
   ·rw[decide_eq_true hin]at t17;simp[Qa3,Qiy,W8,Yw,-Yw,t0,t3,t4,t6,t7,t8,t9,t10,t11,t12,t15,t16,t17,t18,cX5,lenI,hw];exact again _ ⟨by simp[t0],by simp[t3],by simp[t4],by simp[t6],by simp[t7],by simp[t8],by simp[t9],by simp⟩
   rw[decide_eq_false hin]at t17;have take:(pts ≠ []->o'=owner)->∀ (tt:Tr Value),MRg tt lb h.next h1.next v owner sum i->tt.get 11=some (.pointer (some ⟨g.next,0,none⟩))->tt.get 12=some (.pointer (some ⟨h3.next,0,none⟩))->tt.get 15=some (.int .i64 o')->∃ (h7:Heap) (iv':Value),Qem (E b).toEnv 30 30 iv (.slice (some ⟨h5.next,0,none⟩) 1 1) (h5.push (.cells true 1 (p.cells ++ [.slice none 0 0])))=some (iv',h7)/\X9r iv'=true/\∃ h8,Ul h7 h1.next 0 [iv']=some h8/\MIv h hX (Qcv ls) h1.next iv' (pts ++ [p]) o' (sum+c.value) h8:=by
    intro hoo tt R _ _ _;obtain⟨iv',h7,j1,j2,j3,j4⟩:=Qq9 (T30 b) (z:=34) Qma (by omega) I5.o I5.n (ys:=p.cells ++ [.slice none 0 0]) (by simp[Pt.len]) (by rw[Zok];omega) (by omega);have ivX:∀ c,J6 iv=some c->hX.next<=c:=fun c hc=>(I5.o.from hc).1;have gX7:h7.get h1.next=some (.cells true 1 (txC iv (.slice none 0 0) 0)):=by rw[j3.2 _ (Heap.get_lt I5.gX) fun e=>by have:=ivX _ e;omega];exact I5.gX
    have l7:=Heap.get_lt gX7;obtain⟨h8,e8⟩:∃ h8,h8=h7.set h1.next (some (.cells true 1 (txC iv' (.slice none 0 0) 0))):=⟨_,rfl⟩;have k8:∀ c,c≠h1.next->h8.get c=h7.get c:=fun c hc=>by rw[e8,gY l7,if_neg (Ne.symm hc)]
    refine⟨h7,iv',j1,j2.one,h8,by rw[e8,Qhv gX7 (by simp[txC])];rfl,⟨⟨fun q=>by simp at q,fun _=>⟨o1,o2⟩,by rw[aj,bh];omega,Yh7.2 ⟨I5.c.nd,hin⟩,fun q hq => ?_,?_,fun q hq => ?_⟩,by rw[e8,gY l7,if_pos rfl],?_,?_,fun c h1' h2' => ?_⟩⟩
    ·rcases ac.1 hq with w | w
     ·obtain⟨cq,q1,q2⟩:=I5.c.at' q w;exact⟨cq,q1,by rw[q2,hoo (List.ne_nil_of_mem w)]⟩
     ·rw[aw.1 w];exact⟨c,hc,hsc⟩
    ·rw[Z7s,<- I5.c.s];simp[X7s,hgc]
    ·rcases ac.1 hq with w | w
     ·exact I5.c.b q w
     ·rw[aw.1 w];exact pb p hpl
    ·rw[Zp0,aj,bh];exact j2.keep fun c hc hl=>k8 c (by have:=(j2.from hc).1;omega)
    ·rw[e8];have:=I5.n;have:=j3.1;show hX.next<=h7.next;omega
    ·rw[k8 c h2',j3.2 c (az h1' I5.n) fun e=>by have:=ivX c e;omega,I5.f c h1' h2']
   have hsum0:0<=sum:=by rw[I5.c.s];exact Z4c G
   have hsum4:sum<=4*B:=by
    have q1:=Zfs G hB (l:=pts);have : (pts.length:Int)*B<=4*B:=dA (by omega) hB;have:=I5.c.s;omega
   have hws:IntKind.i64.wrap (sum+c.value)=sum+c.value:=W3 (by omega) (by omega);have bl:Vj (E b).toEnv 30 1 [(0,.agg ⟨p.cells ++ [.slice none 0 0]⟩)] h5=some (.slice (some ⟨h5.next,0,none⟩) 1 1,h5.push (.cells true 1 (p.cells ++ [.slice none 0 0]))):=Q2h (T30 b) (z:=34) (y:=.agg ⟨p.cells ++ [.slice none 0 0]⟩) (ys:=p.cells ++ [.slice none 0 0]) Qma (by omega) (by omega) rfl rfl (by simp[Pt.len]);have R0:MRg t lb h.next h1.next v owner sum i:=⟨t0,t3,t4,t6,t7,t8,t9,t10⟩;by_cases hpos:0 < owner
   ·by_cases hwo:o'=owner
    ·obtain⟨h7,iv',j1,one',h8,st8,I8⟩:=take (fun _=>hwo) t R0 t11 t12 t15;simp[Qa3,Qiy,W8,Yw,-Yw,t0,t3,t4,t6,t7,t8,t9,t10,t11,t12,t15,t16,t17,t18,cX5,lenI,hw,hpos,hwo,cO5,hws,lP gP5,Zd0,bl,j1,Jf2,one',st8];rw[hwo]at I8;exact⟨4-(i+1),by omega,_,h8,iv',pts ++ [p],owner,sum+c.value,i+1,rfl,⟨by simp[t0],by simp[t3],by simp[t4],by simp[t6],by simp,by simp,by simp[t9],by simp⟩,by omega,rfl,by simp;omega,I8⟩
    ·simp[Qa3,Qiy,W8,Yw,-Yw,t0,t3,t4,t6,t7,t8,t9,t10,t11,t12,t15,t16,t17,t18,cX5,lenI,hw,hpos,hwo];exact again _ ⟨by simp[t0],by simp[t3],by simp[t4],by simp[t6],by simp[t7],by simp[t8],by simp[t9],by simp⟩
   ·obtain⟨h7,iv',j1,one',h8,st8,I8⟩:=take (fun q=>absurd (I5.c.o q).1 (by omega)) t R0 t11 t12 t15;simp[Qa3,Qiy,W8,Yw,-Yw,t0,t3,t4,t6,t7,t8,t9,t10,t11,t12,t15,t16,t17,t18,cX5,lenI,hw,hpos,cO5,hws,lP gP5,Zd0,bl,j1,Jf2,one',st8];exact⟨4-(i+1),by omega,_,h8,iv',pts ++ [p],o',sum+c.value,i+1,rfl,⟨by simp[t0],by simp[t3],by simp[t4],by simp[t6],by simp,by simp,by simp[t9],by simp⟩,by omega,rfl,by simp;omega,I8⟩
 ·have fin:∀ tt:Tr Value,MRg tt lb h.next h1.next v owner sum i->Wr (E b) (Xhf Tryz.prog (E b).G) (D0 b) none Q4q ⟨⟨161,tt⟩,[],g⟩ (Y0x (E b) (DD b) Qvv K):=fun tt R =>
   Z1t b S.la G hB h4 I.c gMg gRg I.gX (by omega) (by omega) I.n I.o aHg R.t3 R.t4 R.t7 R.t8 R.t9 K hno hk
  by_cases h1':i < x.coins.length
  ·have hlt':(i:Int) < (x.coins.length:Int):=by omega
   have h2:¬ (i:Int) < 4:=by omega
   simp[Qa3,Qiy,W8,Yw,-Yw,t0,t3,t4,t6,t7,t8,t9,t10,c0 gMg,lenC,hlt',h2];exact fin _ ⟨by simp[t0],by simp[t3],by simp[t4],by simp[t6],by simp[t7],by simp[t8],by simp[t9],by simp[t10]⟩
  ·have hlt':¬ (i:Int) < (x.coins.length:Int):=by omega
   simp[Qa3,Qiy,W8,Yw,-Yw,t0,t3,t4,t6,t7,t8,t9,t10,c0 gMg,lenC,hlt'];exact fin _ ⟨by simp[t0],by simp[t3],by simp[t4],by simp[t6],by simp[t7],by simp[t8],by simp[t9],by simp[t10]⟩
end
def SPJ(v1 v2:Value)(l m:List Pt)(h:Heap)(k:Nat)(s:St):Prop:=∃ (t:Tr Value) (i:Nat),s=⟨⟨27,t⟩,[],h⟩/\t.get 0=some v1/\t.get 1=some v2/\t.get 5=some (.int .i64 (i:Int))/\i<=m.length/\k=m.length-i/\l.take i=m.take i
section
attribute [local simp] Qdi Qhe Z9 Qfn Qny We Qfo Xt W5 Qca Qef Xv
def Zyk(b:Nat){h:Heap}{v1 v2:Value}{l m:List Pt}(s1:Sl h 33 v1 l.length (Qnf l))(s2:Sl h 33 v2 m.length (Qnf m))(hn:m.length < 1000000)(K:KP)(hk:K (.ret (.bool (decide (l=m)))) h) :
  FK b 11 [v1,v2] h K:=by
 refine F3 b (Z9 b) X9m rfl ?_;have len1:∀ hx,Qne (E b).toEnv 26 v1 hx=some (.int .i64 (l.length:Int)):=fun hx=>Qbq (T26 b) s1;have len2:∀ hx,Qne (E b).toEnv 26 v2 hx=some (.int .i64 (m.length:Int)):=fun hx=>Qbq (T26 b) s2;by_cases hl:l.length=m.length
 ·rw[hl]at len1;simp[len1,len2];refine Qfs (SPJ v1 v2 l m h) m.length ⟨_,0,rfl,by simp,by simp,by simp,by omega,rfl,by simp⟩ ?_;rintro k s' ⟨t,i,rfl,t0,t1,t5,hi,rfl,he⟩ -;by_cases hlt:i < m.length
  ·have hlt':(i:Int) < (m.length:Int):=by omega
   obtain⟨p,hp⟩:∃ p,l[i]? = some p:=⟨_,ab (by omega)⟩;obtain⟨q,hq⟩:∃ q,m[i]? = some q:=⟨_,ab hlt⟩;obtain⟨b1,o1,x1,x2⟩:=Z85 (b:=b) (T26 b) Qz1 s1 hp;obtain⟨b2,o2,y1,y2⟩:=Z85 (b:=b) (T26 b) Qz1 s2 hq;have hw:=wS (i:=i) (by omega);simp[t0,t1,t5,len1,hlt,hlt'];refine Qg6 [] (by simp) Xrd Xuz Xs5 (by simp[X0e,t0,t1,t5,x1,x2,y1,y2,peq];first | exact⟨rfl,rfl⟩ | rfl) ?_ ?_
   ·simp[Qo6]
   by_cases hpq:p=q
   ·simp[t0,t1,t5,hpq,hw];refine⟨m.length-(i+1),by omega,_,i+1,rfl,by simp[t0],by simp[t1],by simp,by omega,rfl,?_⟩;rw[bn,bn,hp,hq,he,hpq]
   ·simp[t0,t1,t5,hpq];have : l≠m:=fun e=>hpq (by rw[e,hq]at hp;exact(bE hp).symm);simpa[this]using hk
  ·have hlt':¬ (i:Int) < (m.length:Int):=by omega
   have : i=m.length:=by omega
   subst this;rw[bJ,<- hl,bJ]at he;simp[t0,t1,t5,len1,hlt'];simpa[he]using hk
 ·have hl':¬ (l.length:Int)=(m.length:Int):=by omega
  simp[len1,len2,hl,hl'];have : l≠m:=fun e=>hl (by rw[e]);simpa[this]using hk
end
def SIJ(v1 v2:Value)(n:Nat)(h:Heap)(k:Nat)(s:St):Prop:=∃ (t:Tr Value) (i:Nat),s=⟨⟨27,t⟩,[],h⟩/\t.get 0=some v1/\t.get 1=some v2/\t.get 5=some (.int .i64 (i:Int))/\i<=n/\k=n-i
section
attribute [local simp] Qkw Qr4 Zs Qnu Qll We Qns Qnt Xt U2 Y2 Qmb Xv Qme Qmh
def Ztc(b:Nat){h:Heap}{v1 v2:Value}{l:List Int}{n:Nat}(hl:l.length=n)(s1:Sl h 1 v1 n (l.map (Value.int .i64)))(s2:Sl h 1 v2 n (l.map (Value.int .i64)))(hn:n < 1000000)(K:KP)(hk:K (.ret (.bool true)) h) :
  FK b 13 [v1,v2] h K:=by
 refine F3 b (Zs b) Yhf rfl ?_;have len1:∀ hx,Qne (E b).toEnv 22 v1 hx=some (.int .i64 (n:Int)):=fun hx=>Qbq (T22 b) s1;have len2:∀ hx,Qne (E b).toEnv 22 v2 hx=some (.int .i64 (n:Int)):=fun hx=>Qbq (T22 b) s2;simp[len1,len2];refine Qfs (SIJ v1 v2 n h) n ⟨_,0,rfl,by simp,by simp,by simp,by omega,rfl⟩ ?_;rintro k s' ⟨t,i,rfl,t0,t1,t5,hi,rfl⟩ -;by_cases hlt:i < n
 ·have hlt':(i:Int) < (n:Int):=by omega
  obtain⟨x,hx⟩:∃ x,l[i]? = some x:=⟨_,ab (by omega)⟩;obtain⟨b1,o1, -,x1,x2, -⟩:=Xc9 (T22 b) Q3o s1 (k:=.i64) (i:=(i:Int)) (by omega) hlt';have x2:=x2 0 (by omega);rw[bo,da,cg,cg,bf,hx]at x2;obtain⟨b2,o2, -,y1,y2, -⟩:=Xc9 (T22 b) Q3o s2 (k:=.i64) (i:=(i:Int)) (by omega) hlt';have y2:=y2 0 (by omega);rw[bo,da,cg,cg,bf,hx]at y2;simp only[aK]at x2 y2;have hw:=wS (i:=i) (by omega);simp[t0,t1,t5,len1,hlt,hlt'];refine Qg6 [] (by simp) Xz4 X4l Xz8 (by simp[Yaz,t0,t1,t5,x1,x2,y1,y2];first | exact⟨rfl,rfl⟩ | rfl) ?_ ?_
  ·simp[Qrb]
  simp[t0,t1,t5,hw];exact⟨n-(i+1),by omega,_,i+1,rfl,by simp[t0],by simp[t1],by simp,by omega,rfl⟩
 ·have hlt':¬ (i:Int) < (n:Int):=by omega
  simp[t0,t1,t5,len1,hlt,hlt'];exact hk
end
def Shown.bl{h:Heap}{lo:Nat}{pv ov bv:Value}{m:Qo1}{ht:Int}{l:List Pt}{os:List OutV}(_:Shown h lo pv ov bv m ht l os):(Yft m l ++ [ht]).length=l.length+1:=by simp[Yft]
structure UEnd (t:Tr Value) (lb lb' n:Nat) (pv ov bv pv2 ov2 bv2:Value):Prop where
 t5:t.get 5=some (.pointer (some ⟨lb,0,none⟩))
 t6:t.get 6=some pv
 t7:t.get 7=some ov
 t8:t.get 8=some bv
 t9:t.get 9=some (.int .i64 (n:Int))
 t13:t.get 13=some (.pointer (some ⟨lb',0,none⟩))
 t14:t.get 14=some pv2
 t15:t.get 15=some ov2
 t16:t.get 16=some bv2
def Ji9(ud:List (List BK))(m:Qo1):Qo1:=ud.foldr Ypo m
structure UMn (t:Tr Value) (lb n i:Nat) (lv pv ov bv:Value):Prop where
 t1:t.get 1=some lv
 t5:t.get 5=some (.pointer (some ⟨lb,0,none⟩))
 t6:t.get 6=some pv
 t7:t.get 7=some ov
 t8:t.get 8=some bv
 t9:t.get 9=some (.int .i64 (n:Int))
 t10:t.get 10=some (.int .i64 (i:Int))
def Yzn(l:List MvV):List Value:=l.flatMap MvV.cells
def MvV.len(x:MvV):x.cells.length=4:=rfl
structure MvsAt (h:Heap) (v:Value) (l:List MvV):Prop where
 s:Sl h 4 v l.length (Yzn l)
 n:l.length < 4611686018427387904
 a:∀ x ∈ l,MvAt h x
def MvsAt.old{h h':Heap}{v:Value}{l:List MvV}(t:MvsAt h v l)(a:Old h h'):MvsAt h' v l:=⟨t.s.old a,t.n,fun x hx=>(t.a x hx).old a⟩
def Jix{b:Nat}{te ts:TypeId}{re rs:TyRec}(T:SlTy (E b).toEnv te ts re rs)(hz:re.size=4){h:Heap}{v:Value}{l:List MvV}(s:Sl h 4 v l.length (Yzn l)){i:Nat}{x:MvV}(hp:l[i]? = some x) :
  ∃ bk off,Jx (E b).toEnv ts v (.int .i64 (i:Int))=some (.pointer (some ⟨bk,off,none⟩))/\Qb9 h bk off 4=some (.agg ⟨x.cells⟩):=by
 have hl:=(au.1 hp).1;obtain⟨bk,off,q1,q2,q3,q4⟩:=Xc9 T hz s (k:=.i64) (i:=(i:Int)) (by omega) (by omega);refine⟨bk,off,q2,?_⟩;rw[q4,bo,Yzn,Yi1 MvV.len hp]
def Zx0(b:Nat)(c1:TxV)(h:Heap):Vj (E b).toEnv 39 1 [(0,.agg ⟨txC c1.iv c1.ov c1.lock⟩)] h=some (.slice (some ⟨h.next,0,none⟩) 1 1,h.push (.cells true 1 c1.cells)):=kR
def Jd1{h:Heap}{x:TxV}(t:TxAt h x):TxsAt (h.push (.cells true 1 x.cells)) (.slice (some ⟨h.next,0,none⟩) 1 1) [x] :=
 ⟨(Own.new (n0:=0) (z:=3) (bz _) (by rw[Heap.get_push];exact if_pos rfl) rfl (by decide) (.inr rfl)).sl,by simp,fun y hy=>by rw[aw.1 hy];exact t.old (Old.push _ _)⟩
def worth(n:Nat):Int:=((1000*4 ^ n:Nat):Int)
def Yde(n:Nat):0<=worth n:=by unfold worth;omega
def Ze9{n:Nat}(h:n<=19):4*worth n<=1125899906842624:=by
 unfold worth;have : 4 ^ n<=4 ^ 19:=Nat.pow_le_pow_right (by omega) h;omega
def Y8l(n:Nat):4*worth n=worth (n+1):=by
 unfold worth;rw[Nat.pow_succ];omega
structure UIv (h hs:Heap) (lb mb ν:Nat) (m0:Qo1) (g:Heap) (clk:Nat) (un:Value) (ls:List LC) (ud:List (List BK)):Prop where
 S:LedS g lb mb 1 ν clk Qrf un ls ud
 G:Ygq (Qcv ls) (worth ud.length)
 n:ls.length<=8+8*ud.length
 b:Ji9 ud (Qcv ls)=m0
 l:∀ b ∈ ud,b.length<=16
 u:∀ c,J6 un=some c->hs.next<=c
 f:∀ c,c < hs.next->c≠lb->c≠mb->g.get c=hs.get c
 x:hs.next<=g.next
section
attribute [local simp] Qvl Q8n Ju W5 J5 Z3 Qbh
def Z0j(b:Nat){h:Heap}(laid:Ab.LaidIn h laidAll){p:Pt}(hp:PtB p){o:Int}(h1:1<=o)(h2:o<=32){to:Int}(hto:0<=to/\to < 256)(val lock:Int)(K:KP)
  (hk:∀ iv ov ins outs h',TxR h h' iv ov ins outs->ptx ins outs lock=Z9l ⟨[⟨p,[]⟩],[⟨val,Q88 to⟩],lock⟩ o->(∀ x ∈ ins,PtB x.pt)->K (.ret (.agg ⟨txC iv ov lock⟩)) h') :
  FK b 16 [.agg ⟨p.cells⟩,.int .i64 o,.int .i64 to,.int .i64 val,.int .i64 lock] h K:=by
 refine F3 b (Ju b) Yt7 rfl ?_;have plen:=p.len;obtain⟨hA,eA⟩:∃ hA,hA=h.push (.cells true 1 p.cells):=⟨_,rfl⟩;have bx:=Q0e eA;have aA:=Qpm eA;have gA:hA.get h.next=some (.cells true 1 p.cells):=by rw[eA,Heap.get_push,if_pos rfl]
 have nA:=Q8z eA;obtain⟨hB,eB⟩:∃ hB,hB=hA.push (.cells true 1 X3q):=⟨_,rfl⟩;have alB:Qbd (E b).toEnv 32 hA=some (.pointer (some ⟨h.next+1,0,none⟩),hB):=by rw[eB,<- nA];exact Qa3 b hA
 have aB:=Qpm eB;have gB:hB.get (h.next+1)=some (.cells true 1 X3q):=by rw[eB,Heap.get_push,if_pos nA]
 have nB:hB.next=h.next+2:=by rw[eB];simp only[Qgr,nA]
 have aAB:=aA.trans aB;have ldp:∀ {hx:Heap},hx.get h.next=some (.cells true 1 p.cells)->Qb9 hx h.next 0 33=some (.agg ⟨p.cells⟩):=fun g=>agW g (by rw[plen];omega) (by rw[plen];omega);have gAB:=aB.get gA;obtain⟨hC,eC,aC,gC⟩:=Q5u hB ((p.cells ++ [.slice none 0 0]));have bl1:Vj (E b).toEnv 30 1 [(0,.agg ⟨p.cells ++ [.slice none 0 0]⟩)] hB=some (.slice (some ⟨hB.next,0,none⟩) 1 1,hC):=by rw[eC];exact Q2h (T30 b) (z:=34) (y:=.agg ⟨p.cells ++ [.slice none 0 0]⟩) (ys:=p.cells ++ [.slice none 0 0]) Qma (by omega) (by omega) rfl rfl (by simp[Pt.len])
 obtain⟨_,k1,c1,n1,v1,rfl,o1,a1⟩:=Zou b to hC (fun r h' => ∃ v,r=.ret v/\OB h' hC.next v (Q88 to)/\Old hC h') (fun v h' o a=>⟨v,rfl,o,a⟩);obtain⟨hD,eD,aD,gD⟩:=Q5u k1 [.int .i64 val,v1];have bl2:=Yw9 b val v1 k1;rw[<- eD]at bl2;have aCD:=a1.trans aD;obtain⟨iv1,eiv⟩:∃ iv1:Value,iv1=.slice (some ⟨hB.next,0,none⟩) 1 1:=⟨_,rfl⟩;obtain⟨ov1,eov⟩:∃ ov1:Value,ov1=.slice (some ⟨k1.next,0,none⟩) 1 1:=⟨_,rfl⟩;have oi:Own hD hB.next 34 iv1 1 (Qd3 [Ync p]):=by
  have e:Qd3 [Ync p]=p.cells ++ [.slice none 0 0]:=by simp[Qd3,Ync,InV.cells]
  rw[e,eiv];exact Own.new (z':=1) (n:=1) (ae _) (aCD.get gC) (by simp[Pt.len]) (by decide) (.inr rfl)
 have oo:Own hD hB.next 2 ov1 1 (Qna [⟨val,v1,Q88 to⟩]):=by
  have e:Qna [(⟨val,v1,Q88 to⟩:OutV)]=[.int .i64 val,v1]:=rfl;rw[e,eov];exact Own.new (z':=1) (n:=1) (by have:=aC.1;have:=a1.1;omega) gD rfl (by decide) (.inr rfl)
 have si:Ins hD iv1 [Ync p]:=⟨oi.sl,by simp,fun y hy=>by rw[aw.1 hy];exact(Z9o (h:=hD) (n0:=0) p).1⟩;have so:Outs hD ov1 [⟨val,v1,Q88 to⟩]:=⟨oo.sl,by simp,fun y hy=>by rw[aw.1 hy];exact⟨(o1.sl.old aD),Xad hto,by simp[Q88]⟩⟩;have aHD:=aAB.trans (aC.trans aCD);rw[<- eiv]at bl1;rw[<- eov]at bl2;obtain⟨_,k2,c2,n2,iv2,ov2,ins2,outs2,rfl,R,e1,e2⟩:=Zj6 b (Laid.old laid aHD) (lock:=lock) si so (fun y hy=>by rw[aw.1 hy];exact hp) h1 h2 (fun r h' => ∃ iv2 ov2 ins2 outs2,r=.ret (.agg ⟨txC iv2 ov2 lock⟩)/\TxR hD h' iv2 ov2 ins2 outs2/\ptx ins2 outs2 lock=Z9l (ptx [Ync p] [⟨val,v1,Q88 to⟩] lock) o/\ins2.map (·.pt)=[Ync p].map (·.pt)) (fun iv2 ov2 ins2 outs2 h' R e1 e2=>⟨iv2,ov2,ins2,outs2,rfl,R,e1,e2⟩);have a2:=R.i.a;have g3:=a2.get ((aC.trans aCD).get gB);have lt3:=Heap.get_lt g3;obtain⟨h4,e4⟩:∃ h4,h4=k2.set (h.next+1) (some (.cells true 1 (txC iv2 ov2 lock))):=⟨_,rfl⟩;have st:Qbx (E b).toEnv 32 (.pointer (some ⟨h.next+1,0,none⟩)) (.agg ⟨txC iv2 ov2 lock⟩) k2=some h4:=by
  rw[Qxx (l:=txC iv2 ov2 lock) (Y4d b) (by rw[Qqy];rfl),e4];exact Ur g3 (by simp[X3q,txC])
 have g4:h4.get (h.next+1)=some (.cells true 1 (txC iv2 ov2 lock)):=by rw[e4,gY lt3,if_pos rfl]
 have k4:∀ c,c≠h.next+1->h4.get c=k2.get c:=fun c hc=>by rw[e4,gY lt3,if_neg (Ne.symm hc)]
 have ag4:Qb9 h4 (h.next+1) 0 3=some (.agg ⟨txC iv2 ov2 lock⟩):=by rw[Vf g4 (by simp[txC])];rfl
 simp[Qa3,bx,-Qa3,alB];refine Qg6 [⟨19,[.int .i64 to],hC,v1,k1,true⟩,⟨25,[.agg ⟨txC iv1 ov1 lock⟩,.int .i64 o],hD,.agg ⟨txC iv2 ov2 lock⟩,k2,true⟩] ?_ X8x Yeo X97 (by simp[Ygz,Yiw,Yjs,ldp gAB,Zd0,bl1,Qok,Q3z b val o1.sl,bl2,Zic b oi.one oo.one lock,st];first | exact⟨rfl,rfl⟩ | rfl) ?_ ?_
 ·exact zk2 ⟨c1,n1,fun _ c hc=>a1.2 c hc⟩ ⟨c2,n2,fun _ c hc=>a2.2 c hc⟩
 ·have l1:=ldp (aC.get gAB);simp[Qis,ldp gAB,l1]
 simp[Qa3,Vy,ag4];have n12:=aHD.1;have hD2:h.next+2<=hD.next:=by have:=(aC.trans aCD).1;omega
 refine hk iv2 ov2 ins2 outs2 h4 (R.keepF R.far n12 (fun c hc _=>k4 c (by omega)) ⟨by rw[e4];exact al n12 a2.1,fun c hc=>by rw[k4 c (by omega),a2.2 c (by omega),aHD.2 c hc]⟩ n12) ?_ (fun y hy => ?_)
 ·rw[e1];rfl
 ·have : y.pt ∈ ins2.map (·.pt):=ao.2 ⟨y,hy,rfl⟩;rw[e2]at this;simp[Ync]at this;rw[this];exact hp
end
def Zcg(z:TxV):List Value:=z.iv::z.ov::(z.ins.flatMap Z8v++z.outs.map (·.sv))
def TxAt.keepV{h h':Heap}{z:TxV}(a:TxAt h z)(k:∀ v ∈ Zcg z,∀ c,J6 v=some c->c < h.next->h'.get c=h.get c):TxAt h' z:=by
 have ki:∀ x ∈ z.ins,∀ v ∈ Z8v x,v ∈ Zcg z:=fun x hx v hv=>by
  simp only[Zcg,ax,ac];exact .inr (.inr (.inl (cJ.2 ⟨x,hx,hv⟩)))
 have ko:∀ x ∈ z.outs,x.sv ∈ Zcg z:=fun x hx=>by
  simp only[Zcg,ax,ac];exact .inr (.inr (.inr (ao.2 ⟨x,hx,rfl⟩)))
 exact⟨⟨a.i.s.keep fun c hc hl=>k z.iv (by simp[Zcg]) c hc hl,a.i.n,fun x hx=>(a.i.a x hx).keepV fun v hv c hc hl=>k v (ki x hx v hv) c hc hl⟩,
  ⟨a.o.s.keep fun c hc hl=>k z.ov (by simp[Zcg]) c hc hl,a.o.n,fun x hx=>⟨(a.o.a x hx).s.keep fun c hc hl=>k x.sv (ko x hx) c hc hl,(a.o.a x hx).b,(a.o.a x hx).l⟩⟩,a.p⟩
def TxAt.lt{h:Heap}{z:TxV}(a:TxAt h z){v:Value}(hv:v ∈ Zcg z){c:Nat}(hc:J6 v=some c):c < h.next:=by
 simp only[Zcg,ax,ac]at hv;rcases hv with rfl | rfl | hv | hv
 ·exact a.i.s.blk hc
 ·exact a.o.s.blk hc
 ·obtain⟨x,hx,hv⟩:=cJ.1 hv;exact(a.i.a x hx).lt hv hc
 ·obtain⟨x,hx,rfl⟩:=ao.1 hv;exact(a.o.a x hx).s.blk hc
def TxR.txv{h0 g:Heap}{iv ov:Value}{ins:List InV}{outs:List OutV}{lock:Int}(R:TxR h0 g iv ov ins outs)(hp:∀ x ∈ ins,PtB x.pt):TxAt g ⟨iv,ov,ins,outs,lock⟩/\∀ v ∈ Zcg ⟨iv,ov,ins,outs,lock⟩,∀ c,J6 v=some c->h0.next<=c:=by
 have F:=R.far;refine⟨⟨R.i.ins R.ni,R.o.outs R.no,hp⟩,fun v hv c hc => ?_⟩;simp only[Zcg,ax,ac]at hv;rcases hv with rfl | rfl | hv | hv
 ·exact F.a c hc
 ·exact F.b c hc
 ·obtain⟨x,hx,hv⟩:=cJ.1 hv;exact F.c x hx v hv c hc
 ·obtain⟨x,hx,rfl⟩:=ao.1 hv;exact F.d x hx c hc
structure TxsN (n0:Nat) (g:Heap) (tv:Value) (l:List TxV):Prop where
 o:Own g n0 3 tv l.length (Qod l)
 s:∀ z ∈ l,TxAt g z
 f:∀ z ∈ l,∀ v ∈ Zcg z,∀ c,J6 v=some c->n0<=c
 d:∀ z ∈ l,∀ v ∈ Zcg z,∀ c,J6 v=some c->J6 tv≠some c
def TxsN.nil(n0:Nat)(g:Heap):TxsN n0 g (.slice none 0 0) []:=⟨Own.nil,by simp,by simp,by simp⟩
def TxsN.old{n0:Nat}{g g':Heap}{tv:Value}{l:List TxV}(R:TxsN n0 g tv l)(a:Old g g'):TxsN n0 g' tv l:=⟨R.o.keep fun c _ hc=>a.2 c hc,fun z hz=>(R.s z hz).old a,R.f,R.d⟩
def TxsN.low{n0 n1:Nat}{g:Heap}{tv:Value}{l:List TxV}(R:TxsN n0 g tv l)(h:n1<=n0):TxsN n1 g tv l:=⟨R.o.low h,R.s,fun z hz v hv c hc=>al h (R.f z hz v hv c hc),R.d⟩
def Xmx(l m:List TxV):Qod (l++m)=Qod l++Qod m:=by simp[Qod]
def Xp9(l:List TxV):(Qod l).length=l.length*3:=by
 induction l with
 | nil=>rfl
 | cons p l ih=>simp[Qod,TxV.len]at ih ⊢;omega
def TxsN.more(b:Nat){n0:Nat}{g:Heap}{tv:Value}{l:List TxV}(R:TxsN n0 g tv l)(hi:l.length < 1000000)(hn:n0<=g.next){z:TxV}(hz:TxAt g z)(hz2:∀ v ∈ Zcg z,∀ c,J6 v=some c->n0<=c/\J6 tv≠some c) :
  ∃ tv' h4,Qem (E b).toEnv 39 39 tv (.slice (some ⟨g.next,0,none⟩) 1 1) (g.push (.cells true 1 z.cells))=some (tv',h4)/\TxsN n0 h4 tv' (l ++ [z])/\X9r tv'=true/\(∀ c,J6 tv'=some c->J6 tv=some c∨g.next<=c)/\(∀ c,c < g.next->J6 tv≠some c->h4.get c=g.get c)/\g.next<=h4.next:=by
 obtain⟨tv',h4,j1,j2,j3,j4⟩:=Qq9 (T39 b) (z:=3) Qqy (by omega) R.o hn (ys:=z.cells) z.len (by rw[Zkl];omega) (by omega);refine⟨tv',h4,j1,⟨?_,fun y hy => ?_,fun y hy v hv c hc => ?_,fun y hy v hv c hc e => ?_⟩,j2.one,j4,j3.2,j3.1⟩
 ·rw[Xmx,aj,bh];have : Qod [z]=z.cells:=by simp[Qod]
  rw[this];exact j2
 ·rcases ac.1 hy with q | q
  ·exact(R.s y q).keepV fun v hv c hc hl=>j3.2 c hl (R.d y q v hv c hc)
  ·rw[aw.1 q];exact hz.keepV fun v hv c hc hl=>j3.2 c hl (hz2 v hv c hc).2
 ·rcases ac.1 hy with q | q
  ·exact R.f y q v hv c hc
  ·rw[aw.1 q]at hv;exact(hz2 v hv c hc).1
 ·rcases ac.1 hy with q | q
  ·have:=(R.s y q).lt hv hc;exact(j4 c e).elim (R.d y q v hv c hc) fun r=>by omega
  ·rw[aw.1 q]at hv;have:=hz.lt hv hc;exact(j4 c e).elim (hz2 v hv c hc).2 fun r=>by omega
def TxsN.cat(b:Nat){n0:Nat}{g:Heap}{tv sv:Value}{l m:List TxV}(R:TxsN n0 g tv l)(hl:l.length < 900000)(hm:m.length < 90000)(hn:n0<=g.next)(s:Sl g 3 sv m.length (Qod m))(hz:∀ z ∈ m,TxAt g z)(hz2:∀ z ∈ m,∀ v ∈ Zcg z,∀ c,J6 v=some c->J6 tv≠some c) :
  ∃ tv' h4,Qem (E b).toEnv 39 39 tv sv g=some (tv',h4)/\Sl h4 3 tv' (l++m).length (Qod (l++m))/\(∀ z ∈ l++m,TxAt h4 z)/\(∀ c,c < g.next->J6 tv≠some c->h4.get c=g.get c)/\g.next<=h4.next:=by
 obtain⟨tv',h4,j1,j2,j3⟩:=Qwh (T39 b) (z:=3) (tx:=39) (m:=m.length) (ys:=Qod m) Qqy (by omega) R.o hn (Xbl (T39 b) Qqy s) (Xp9 m) (by rw[Zkl];omega) (by omega);refine⟨tv',h4,j1,?_,fun y hy => ?_,j3.2,j3.1⟩
 ·rw[Xmx,aj];exact j2.sl
 ·rcases ac.1 hy with q | q
  ·exact(R.s y q).keepV fun v hv c hc hl=>j3.2 c hl (R.d y q v hv c hc)
  ·exact(hz y q).keepV fun v hv c hc hl=>j3.2 c hl (hz2 y q v hv c hc)
def CTI(h:Heap)(sv:Value)(l:List TxV)(k:Nat)(s:St):Prop:=∃ (t:Tr Value) (g:Heap) (tv:Value) (m:List TxV) (i:Nat),s=⟨⟨20,t⟩,[],g⟩/\t.get 0=some sv/\t.get 3=some tv/\t.get 4=some (.int .i64 (i:Int))/\i<=l.length/\k=l.length-i/\m.length=i/\Old h g/\TxsN h.next g tv m/\m.map TxV.p=(l.take i).map TxV.p
section
attribute [local simp] Qsx Q4u Jh Qyp Qyu Qz7 Qqb Xt Vy Qan Xv Qwe
def Zyj(b:Nat){h:Heap}{sv:Value}{l:List TxV}(si:TxsAt h sv l)(K:KP)(hk:∀ tv m h',TxsN h.next h' tv m->Old h h'->m.map TxV.p=l.map TxV.p->K (.ret tv) h'):FK b 18 [sv] h K:=by
 refine F3 b (Jh b) Ymx rfl ?_;have hn:=si.n;have len:∀ hx,Qne (E b).toEnv 39 sv hx=some (.int .i64 (l.length:Int)):=fun hx=>Qbq (T39 b) si.s;simp;refine Qfs (CTI h sv l) l.length ⟨_,h,.slice none 0 0,[],0,rfl,by simp,by simp,by simp,by omega,rfl,rfl,Old.refl _,TxsN.nil _ _,by simp⟩ ?_;rintro k s' ⟨t,g,tv,m,i,rfl,t0,t3,t4,hi,rfl,hil,ag,R,hp⟩ _;by_cases hlt:i < l.length
 ·have hlt':(i:Int) < (l.length:Int):=by omega
  have hw:=wS (i:=i) (by omega);obtain⟨x,hx⟩:∃ x,l[i]? = some x:=⟨_,ab hlt⟩;have sg:=si.old ag;obtain⟨bk,off,x1,x2⟩:=Z9z (b:=b) (T39 b) Qqy sg.s hx;have x2:Qb9 g bk off 3=some (.agg ⟨txC x.iv x.ov x.lock⟩):=x2;have xa:=sg.a x (ak hx);simp[t0,t3,t4,len,hlt,hlt',x1,x2];refine Zm8 b (lock:=x.lock) xa.i xa.o _ fun iv2 ov2 ins2 outs2 h5 R5 e1 e2 => ?_;have a5:=R5.i.a;obtain⟨z,ez⟩:∃ z:TxV,z=⟨iv2,ov2,ins2,outs2,x.lock⟩:=⟨_,rfl⟩;have hp2:∀ y ∈ ins2,PtB y.pt:=fun y hy=>by
   have : y.p ∈ ins2.map InV.p:=ao.2 ⟨y,hy,rfl⟩;rw[e1]at this;obtain⟨w,hw',e⟩:=ao.1 this;have : y.pt=w.pt:=by have:=congrArg PIn.pt e;exact this.symm
   rw[this];exact xa.p w hw'
  obtain⟨tz,fz⟩:=R5.txv (lock:=x.lock) hp2;rw[<- ez]at tz fz;have zc:txC iv2 ov2 x.lock=txC z.iv z.ov z.lock:=by rw[ez]
  rw[zc];obtain⟨tv',h6,j1,R6, -, -,j5,j6⟩:=(R.old a5).more b (by omega) (al ag.1 a5.1) tz (fun v hv c hc=>⟨al ag.1 (fz v hv c hc),fun e=>by have:=fz v hv c hc;have:=(R.o.from e).2;omega⟩);have aH6:Old h h6:=⟨al ag.1 (al a5.1 j6),fun c hc=>by rw[j5 c (az hc (al ag.1 a5.1)) (fun e=>by have:=(R.o.from e).1;omega),a5.2 c (az hc ag.1),ag.2 c hc]⟩;simp[t0,t3,t4,Zx0,j1,hw];refine⟨l.length-(i+1),by omega,_,h6,tv',_,i+1,rfl,by simp[t0],by simp,by simp,by omega,rfl,by simp[hil],aH6,R6,?_⟩;rw[bn,hx,bc,hp,ez];simp[TxV.p,Jg3 e1 e2]
 ·have hlt':¬ (i:Int) < (l.length:Int):=by omega
  have : i=l.length:=by omega
  subst this;simp[t0,t3,t4,len];rw[bJ]at hp;exact hk tv m g R ag hp
end
def Jhu(c:PC):Int × List Int:=(c.value,c.script)
def SameM(m k:Qo1):Prop:=∀ p,(m p).map Jhu=(k p).map Jhu
def SameM.refl(m:Qo1):SameM m m:=fun _=>rfl
def SameM.some{m k:Qo1}(S:SameM m k){p:Pt}{c:PC}(h:m p=some c):∃ d,k p=some d/\d.value=c.value/\d.script=c.script:=by
 have:=S p;rw[h]at this;cases hk:k p with
 | none=>rw[hk]at this;cases this
 | some d =>
  rw[hk]at this;have e:=bE this;exact⟨d,rfl,(congrArg Prod.fst e).symm,(congrArg Prod.snd e).symm⟩
def SameM.symm{m k:Qo1}(S:SameM m k):SameM k m:=fun p=>(S p).symm
def SameM.put{m k:Qo1}(S:SameM m k)(p:Pt){c d:Option PC}(h:c.map Jhu=d.map Jhu):SameM (Yez m p c) (Yez k p d):=fun q=>by
 unfold Yez;by_cases e:q=p
 ·rw[if_pos e,if_pos e];exact h
 ·rw[if_neg e,if_neg e];exact S q
def SameM.ins{m k:Qo1}(S:SameM m k):∀ (n:Nat) (l:List Pt),l.length=n->SameM (Z4d m l) (Z4d k l)
 | 0,l,hl=>by rw[aU hl];exact S
 | n+1,l,hl=>by
  rcases cR l with e | ⟨l',x,e⟩
  ·rw[e]at hl;cases hl
  ·rw[cS]at e;subst e;rw[aj,bh]at hl;rw[Yre,Yre];exact(SameM.ins S n l' (by omega)).put x rfl
def SameM.outs{id:List Nat}{hid:id.length=32}{a b:Int}{m k:Qo1}(S:SameM m k):∀ (n:Nat) (l:List POut),l.length=n->SameM (Yzc id hid a m l) (Yzc id hid b k l)
 | 0,l,hl=>by rw[aU hl];exact S
 | n+1,l,hl=>by
  rcases cR l with e | ⟨l',x,e⟩
  ·rw[e]at hl;cases hl
  ·rw[cS]at e;subst e;rw[aj,bh]at hl;rw[Yep,Yep];exact(SameM.outs S n l' (by omega)).put _ rfl
def SameM.do{m k:Qo1}(S:SameM m k)(T:PTx)(a b:Int):SameM (doM m T a) (doM k T b):=(S.ins _ _ rfl).outs _ _ rfl
def SameM.sum{m k:Qo1}(S:SameM m k):∀ l:List Pt,X7s m l=X7s k l
 | []=>rfl
 | p::l=>by
  have e:∀ m:Qo1,X7s m (p::l)=(X3a m p).value+X7s m l:=fun m=>by simp[X7s]
  rw[e,e,SameM.sum S l];congr 1;unfold X3a;cases hm:m p with
  | none =>
   cases hk:k p with
   | none=>rfl
   | some d =>
    obtain⟨c,hc, -⟩:=S.symm.some hk;rw[hm]at hc;cases hc
  | some c =>
   obtain⟨d,hd,e1, -⟩:=S.some hm;rw[hd];exact e1.symm
def MadeOf.same{m k:Qo1}{T:PTx}{o fee:Int}{pts:List Pt}{outs:List POut}(M:MadeOf m T o pts outs fee)(S:SameM m k):MadeOf k T o pts outs fee :=
 ⟨M.o1,M.o2,M.p1,M.p4,M.nd,fun p hp=>by
  obtain⟨c,h1,h2⟩:=M.at' p hp;obtain⟨d,d1, -,d3⟩:=S.some h1;exact⟨d,d1,by rw[d3,h2]⟩,M.f,by rw[<- S.sum];exact M.e,M.q1,M.q2,M.q,M.t⟩
def Steps(m0:Qo1)(l:List PTx)(mx:Qo1):Prop:=∀ rest,Q7v Qrf Qlr 0 m0 (l++rest)=Q7v Qrf Qlr 0 mx rest
def Steps.nil(m0:Qo1):Steps m0 [] m0:=fun _=>rfl
def Steps.more{m0 mx:Qo1}{l:List PTx}{T:PTx}{fee:Int}(S:Steps m0 l mx)(hv:Qvp Qrf Qlr mx 0 T=(fee,0)):Steps m0 (l ++ [T]) (doM mx T 1):=fun rest=>by
 rw[ba,S];show Q7v Qrf Qlr 0 mx (T::rest)=_;rw[Q7v,hv];rfl
structure Ways (m0:Qo1) (l:List PTx) (m:Qo1):Prop where
 w:∀ k,k<=l.length->∃ mx,Ygq mx (worth k)/\Steps m0 (l.take k) mx/\(k=l.length->SameM m mx)
def Ways.nil{m0:Qo1}(G:Ygq m0 (worth 0)):Ways m0 [] m0:=⟨fun k hk=>by
 have : k=0:=by simpa using hk
 subst this;exact⟨m0,G,Steps.nil m0,fun _=>SameM.refl m0⟩⟩
def Ways.more{m0 m:Qo1}{l:List PTx}(W:Ways m0 l m){T:PTx}{o fee:Int}{pts:List Pt}{outs:List POut}(M:MadeOf m T o pts outs fee)(hl:l.length<=19)(made:Int):Ways m0 (l ++ [T]) (doM m T made):=⟨fun k hk=>by
 rw[aj,bh]at hk;by_cases h:k<=l.length
 ·obtain⟨mx,G,S, -⟩:=W.w k h;refine⟨mx,G,by rw[bD h];exact S,fun e => ?_⟩;rw[aj,bh]at e;omega
 ·have hk1:k=l.length+1:=by omega
  obtain⟨mx,G,S,E⟩:=W.w l.length (ae _);have SM:=E rfl;have M2:=M.same SM;have hv:=Y8m M2 G (Yde _) (Ze9 hl) (hks:=Qlr) (ht:=0) (by omega);have G2:=Zn6 M2 G (Yde _) (Ze9 hl) (made:=1);rw[Y8l]at G2;rw[bJ]at S;refine⟨doM mx T 1,by rw[hk1];exact G2,?_,fun _=>SM.do T _ _⟩;rw[hk1,aJ (by simp)];exact S.more hv⟩
def Z9v(lock:Int):PTx:=Z9l ⟨[⟨pn 8,[]⟩],[⟨1,Q88 2⟩],lock⟩ 1
def Zx9{lock:Int}(hl:0<=lock/\lock<=2){w:List (List Int)}(hw:w.length<=16)(hw2:∀ y ∈ w,y.length<=64):TxOk ⟨[⟨pn 8,w⟩],[⟨1,Q88 2⟩],lock⟩:=by
 refine⟨by simp,by simp,fun x hx => ?_,by show 0<=lock/\lock<=1073741824;omega,by simp,by simp[X2c],fun x hx => ?_,fun x hx => ?_⟩
 ·simp at hx;subst hx;simp[pn]
 ·simp at hx;subst hx;simp[Q88]
 ·simp at hx;subst hx;exact⟨hw,hw2⟩
def Z9s(lock:Int):∃ w,Z9v lock=⟨[⟨pn 8,w⟩],[⟨1,Q88 2⟩],lock⟩/\w.length<=16/\∀ y ∈ w,y.length<=64:=by
 refine⟨Q7z (Qxt (Xuh Qrf 1) (dgF X06 ⟨[⟨pn 8,[]⟩],[⟨1,Q88 2⟩],lock⟩)),by simp[Z9v,Z9l,Xs8],by simp[Q7z],fun y hy => ?_⟩;simp only[Q7z,aw]at hy;rw[hy,Yrk,Yd6];omega
def Z7x{m:Qo1}{B:Int}(G:Ygq m B):Qvp Qrf Qlr m 0 (Z9v 0)=(0,17):=by
 obtain⟨w,e,h1,h2⟩:=Z9s 0;have hc:Qu2 (Z9v 0)=0:=by rw[e];exact Ye9 (Zx9 (by omega) h1 h2)
 have hm:m (pn 8)=none:=by
  cases hm:m (pn 8)with
  | none=>rfl
  | some c =>
   have:=(G _ c hm).2.2.2.2;simp[pn]at this
 unfold Qvp;rw[if_pos hc,e];simp[Zwp,hm]
def Z01{m:Qo1}:Qvp Qrf Qlr m 0 (Z9v 2)=(0,18):=by
 obtain⟨w,e,h1,h2⟩:=Z9s 2;have hc:Qu2 (Z9v 2)=0:=by rw[e];exact Ye9 (Zx9 (by omega) h1 h2)
 unfold Qvp;rw[if_pos hc,e];simp
def Z72{m:Qo1}{t:PTx}(h:t.outs=[]):Qvp Qrf Qlr m 0 t=(0,3):=by
 have hc:Qu2 t=3:=by
  unfold Qu2;rw[h];simp[inF]
 unfold Qvp;rw[hc];rfl
def Zxz{m0 m:Qo1}{l:List PTx}(W:Ways m0 l m)(hl:l.length<=8){k:Nat}(hk:k<=l.length){t:PTx}{e:Int}(he:e≠0)(hb:∀ mx,Ygq mx (worth k)->Qvp Qrf Qlr mx 0 t=(0,e)):Xfk Qrf Qlr 0 m0 (l.take k ++ [t]++l.drop k)=.error e:=by
 obtain⟨mx,G,S, -⟩:=W.w k hk;unfold Xfk;rw[if_neg (by simp;omega),ba,S];show Q7v Qrf Qlr 0 mx (t::l.drop k)=_;rw[Q7v,hb mx G,if_neg he]
section
attribute [local simp] Z4 Zg Ze Qh9 Qgm Qhc Qzj Qh7 U2 Qhb Zw Qdg Z8 Yp Z2 Qzl Xt Yz Ys Qzf Yo Qbh Vy Y7 Wq Z1 Yt Xv Ju Yy Y2 Zf Ui Qqb Jh Ja Z9 Zd Zs V2 Z0 Yv Yu Yn Ym Yc
def Jg6(b:Nat){g:Heap}{lb mb ν clk:Nat}{un tv:Value}{ls:List LC}{L:List TxV}{w:Int}(S:LedS g lb mb 1 ν clk Qrf un ls [])(hn:ls.length < 1000)(T:TxsAt g tv L)(hL:L.length<=16)(ha:Xfk Qrf Qlr 0 (Qcv ls) (L.map TxV.p)=.error w)
  {t:Tr Value} (t7:t.get 7=some (.pointer (some ⟨lb,0,none⟩))) (t14:t.get 14=some (.int .i64 w)) (t15:t.get 15=some tv) (K:KP) (hk:∀ h',K (.ret (.bool true)) h') :
  Wr (E b) (Xhf Tryz.prog (E b).G) (D0 b) none Qx8 ⟨⟨134,t⟩,[],g⟩ (Y0x (E b) (DD b) Qgd K):=by
 simp[Qa3,Yq,Ye,t7,t14,t15];refine Zxa b S (by omega) _ fun pv ov bv l1 os1 g1 A a1 => ?_;have A:Shown g1 g.next pv ov bv (Qcv ls) 0 l1 os1:=A;simp[Qa3,Yq,Ye,t7,t14,t15];have S1:=S.old a1;have hmb:=Heap.get_lt S.co.gm;refine Zvm b S1 (by simp) (T.old a1) _ (fun m' hm => ?_) fun e he g2 ls2 clk2 S2 em bt le => ?_
 ·have hm:Xfk Qrf Qlr 0 (Qcv ls) (L.map TxV.p)=.ok m':=hm;rw[ha]at hm;cases hm
 have he:Xfk Qrf Qlr 0 (Qcv ls) (L.map TxV.p)=.error e:=he;rw[ha]at he;cases he;simp[Qa3,Yq,Ye,t7,t14,t15];have A2:=A.keep (h':=g2) fun c h1 h2=>bt.2 c h2 (by omega);refine Zxa b S2 (by omega) _ fun pv3 ov3 bv3 l3 os3 g3 C a3 => ?_;have C:Shown g3 g2.next pv3 ov3 bv3 (Qcv ls2) 0 l3 os3:=C;rw[em]at C;simp[Qa3,Yq,Ye,t7,t14,t15];have A3:=A2.keep (h':=g3) fun c _ hc=>a3.2 c hc;have e13:l3=l1:=C.pm.one A.pm;have hl1:=A.n;have oe13:os3.map OutV.p=os1.map OutV.p:=by rw[C.oe,A.oe,e13]
 refine(Zyk b C.pr.sl A3.pr.sl (by omega) _ ?_).ok;rw[decide_eq_true e13];simp[Qa3,Yq,Ye,t7,t14,t15];refine(Ztj b C.outs A3.outs _ ?_).ok;rw[decide_eq_true oe13];simp[Qa3,Yq,Ye,t7,t14,t15];have Cb:=C.br;rw[e13]at Cb;refine(Ztc b A3.bl Cb.sl A3.br.sl (by omega) _ ?_).ok;simp[Qa3,Yq,Ye,t7,t14,t15];refine(Jbt b (Laid.old S2.la a3) _ ?_).ok;simp[Qa3,Yq,Ye,t7,t14,t15];exact hk g3
def Zh7(b:Nat){g:Heap}{lb mb ν clk n0 Bb:Nat}{un tv:Value}{ls:List LC}{l:List TxV}{z:TxV}{at' w:Int}{m:Qo1}(S:LedS g lb mb 1 ν clk Qrf un ls [])(hn:ls.length < 1000)(T:TxsN n0 g tv l)(hl:l.length<=8)(gB:g.get Bb=some (.cells true 1 (txC z.iv z.ov z.lock)))(tz:TxAt g z)
  (W:Ways (Qcv ls) (l.map TxV.p) m) (hw0:w≠0) (hw:∀ k mx,Ygq mx (worth k)->Qvp Qrf Qlr mx 0 z.p=(0,w))
  {t:Tr Value} (t5:t.get 5=some (.int .i64 at')) (t7:t.get 7=some (.pointer (some ⟨lb,0,none⟩))) (t9:t.get 9=some tv) (t13:t.get 13=some (.pointer (some ⟨Bb,0,none⟩))) (t14:t.get 14=some (.int .i64 w)) (K:KP) (hk:∀ h',K (.ret (.bool true)) h') :
  Wr (E b) (Xhf Tryz.prog (E b).G) (D0 b) none Qx0 ⟨⟨134,t⟩,[],g⟩ (Y0x (E b) (DD b) Qgd K):=by
 have lenT:∀ hx,Qne (E b).toEnv 39 tv hx=some (.int .i64 (l.length:Int)):=fun hx=>Qbq (T39 b) T.o.sl;have hw1:IntKind.i64.wrap ((l.length:Int)+1)=(l.length:Int)+1:=W3 (by omega) (by omega);have pin:=Xfh at' (n:=(l.length:Int)+1) (by omega);obtain⟨k,hk0,hkl⟩:∃ k:Nat,Xz6 at' ((l.length:Int)+1)=(k:Int)/\k<=l.length:=⟨(Xz6 at' ((l.length:Int)+1)).toNat,by omega,by omega⟩;simp[Qa3,Yq,Ye,-Yq,t5,t7,t9,t13,t14,lenT,hw1];refine(Xrj b at' (n:=(l.length:Int)+1) (by omega) (by omega) g _ ?_).ok;rw[hk0];obtain⟨v1,c1,s1,b1⟩:=Jem (T39 b) (k:=.i64) (i:=(k:Int)) Qqy (by omega) T.o.sl (by omega) (by omega);rw[bo]at s1;have et:(Qod l).take (k*3)=Qod (l.take k):=by
  conv=>lhs;rw[<- bA k l,Xmx]
  rw[bD (by rw[Xp9,bG];omega),aJ (by rw[Xp9,bG];omega)]
 have ed:(Qod l).drop (k*3)=Qod (l.drop k):=by
  conv=>lhs;rw[<- bA k l,Xmx]
  have : (Qod (l.take k)).length=k*3:=by rw[Xp9,bG];omega
  rw[<- this,cy]
 rw[et]at s1;have lk:(l.take k).length=k:=by rw[bG];omega
 have s1':Sl g 3 v1 (l.take k).length (Qod (l.take k)):=by rw[lk];exact s1
 have T1:TxsAt g v1 (l.take k):=⟨s1',by omega,fun y hy=>T.s y (dc hy)⟩;obtain⟨_,g1,q1,n1,cv,m1,rfl,R1,a1,e1⟩:=Zyj b T1 (fun r h' => ∃ tv m,r=.ret tv/\TxsN g.next h' tv m/\Old g h'/\m.map TxV.p=(l.take k).map TxV.p) (fun tv m h' R a e=>⟨tv,m,rfl,R,a,e⟩);have lm:m1.length=k:=by have:=congrArg List.length e1;simp at this;omega
 have ldB:∀ {hx:Heap},hx.get Bb=some (.cells true 1 (txC z.iv z.ov z.lock))->Qb9 hx Bb 0 3=some (.agg ⟨txC z.iv z.ov z.lock⟩):=fun g=>by rw[Vf g (by simp[txC])];rfl
 have cvb:∀ c,J6 cv=some c->g.next<=c:=fun c hc=>(R1.o.from hc).1;obtain⟨bv,g2,j1,R2,one2,j4,j5,j6⟩:=(R1.low (bz _)).more b (by omega) (bz _) (tz.old a1) (fun v hv c hc=>⟨bz _,fun e=>by have:=tz.lt hv hc;have:=cvb c e;omega⟩);have bvb:∀ c,J6 bv=some c->g.next<=c:=fun c hc=>(j4 c hc).elim (cvb c) fun q=>by have:=a1.1;omega
 have a2:Old g g2:=⟨al a1.1 j6,fun c hc=>by rw[j5 c (az hc a1.1) (fun e=>by have:=cvb c e;omega),a1.2 c hc]⟩;simp[Qa3,Yq,Ye,-Yq,t5,t7,t9,t13,t14];refine Qg6 [⟨18,[v1],g,cv,g1,true⟩] ?_ Xem Xhm Xf4 (by simp[Xk5,Xst,Yq,Ye,t5,t7,t9,t13,t14,c1,ldB (a1.get gB),Zx0,j1];first | exact⟨rfl,rfl⟩ | rfl) ?_ ?_
 ·exact zk1 ⟨q1,n1,fun _ c hc=>a1.2 c hc⟩
 ·simp[Qej,Yq,Ye,t5,t7,t9,t13,t14,ldB gB,ldB (a1.get gB),Zjh tz.i.s tz.o.s]
 obtain⟨v3,g3,c3,s3,a3, -⟩:=Z3r (T39 b) (k:=.i64) (i:=(k:Int)) Qqy (by omega) (T.o.sl.old a2) (by omega) (by omega);rw[bo,ed]at s3;have ld':(l.drop k).length=l.length-k:=by rw[bK]
 rw[<- ld']at s3;have a23:=a2.trans a3;have R3:=R2.old a3;have z3:∀ y ∈ l.drop k,TxAt g3 y:=fun y hy=>(T.s y (List.mem_of_mem_drop hy)).old a23;obtain⟨bw,g4,j7,s4,z4,j8,j9⟩:=R3.cat b (by rw[aj,bh];omega) (by omega) (bz _) s3 z3 (fun y hy v hv c hc e=>by have:=(T.s y (List.mem_of_mem_drop hy)).lt hv hc;have:=bvb c e;omega);have a4:Old g g4:=⟨al a23.1 j9,fun c hc=>by rw[j8 c (az hc a23.1) (fun e=>by have:=bvb c e;omega),a23.2 c hc]⟩;simp[Qa3,Yq,Ye,-Yq,t5,t7,t9,t13,t14,c3,j7];have hap:=Zxz W (by simpa using hl) (k:=k) (by simpa using hkl) (t:=z.p) hw0 (fun mx G=>hw k mx G);have el:((m1 ++ [z]++l.drop k).map TxV.p)=(l.map TxV.p).take k ++ [z.p]++(l.map TxV.p).drop k:=by
  rw[bc,bc,e1,List.map_take,List.map_drop];rfl
 rw[<- el]at hap;have lL:(m1 ++ [z]++l.drop k).length<=9:=by rw[aj,aj,bh];omega
 exact Jg6 b (S.old a4) hn ⟨s4,by omega,z4⟩ (by omega) hap (by simp[t7]) (by simp[t14]) (by simp) K hk
def Zmv(b:Nat):Qm8 (E b).toEnv 53 [(1,.int .i64 8)]=some (.agg ⟨(pn 8).cells⟩):=Zwe b 8
def Jev(b:Nat){g:Heap}{lb mb ν clk n0:Nat}{un tv:Value}{ls:List LC}{l:List TxV}{at' how:Int}{m:Qo1}(S:LedS g lb mb 1 ν clk Qrf un ls [])(hn:ls.length < 1000)(T:TxsN n0 g tv l)(hl:l.length<=8)(W:Ways (Qcv ls) (l.map TxV.p) m)
  {t:Tr Value} (t5:t.get 5=some (.int .i64 at')) (t6:t.get 6=some (.int .i64 how)) (t7:t.get 7=some (.pointer (some ⟨lb,0,none⟩))) (t9:t.get 9=some tv) (K:KP) (hk:∀ h',K (.ret (.bool true)) h') :
  Wr (E b) (Xhf Tryz.prog (E b).G) (D0 b) none Qqv ⟨⟨134,t⟩,[],g⟩ (Y0x (E b) (DD b) Qgd K):=by
 simp[Qa3,Yq,Ye,-Ye,t5,t6,t7,t9,Zmv];have pb8:PtB (pn 8):=Jij 8;refine(Z0j b S.la pb8 (o:=1) (by omega) (by omega) (to:=2) (by omega) 1 0 _ fun iv ov ins outs g1 R e hp => ?_).ok;obtain⟨z,ez⟩:∃ z:TxV,z=⟨iv,ov,ins,outs,0⟩:=⟨_,rfl⟩;have a1:=R.i.a;have tz:=(R.txv (lock:=0) hp).1;rw[<- ez]at tz;have zp:z.p=Z9v 0:=by rw[ez];exact e
 have zc:txC iv ov 0=txC z.iv z.ov z.lock:=by rw[ez]
 rw[zc];obtain⟨hA,g2,alA,stA,stA',gg2,b2,m2⟩:=Qxa b (Y4d b) (l:=txC z.iv z.ov z.lock) (by rw[Qqy];rfl) (by kernel_rfl) g1;have tlc:(txC z.iv z.ov z.lock).length=3:=rfl;have a12:=a1.trans b2;have S2:=S.old a12;have T2:=T.old a12;have tz2:=tz.old b2;simp[Qa3,Yq,Ye,-Ye,t5,t6,t7,t9,-Qa3,alA,stA,stA',tlc];have pin:=Xfh how (n:=3) (by omega);refine(Xrj b how (n:=3) (by omega) (by omega) g2 _ ?_).ok;obtain⟨q,hq⟩:∃ q,q=Xz6 how 3:=⟨_,rfl⟩;rw[<- hq]at pin ⊢;have c3:q=0∨q=1∨q=2:=by omega
 rcases c3 with rfl | rfl | rfl
 ·simp[Qa3,Yq,Ye,-Ye,t5,t6,t7,t9];exact Zh7 b (at':=at') S2 hn T2 hl gg2 tz2 W (w:=17) (by omega) (fun k mx G=>by rw[zp];exact Z7x G) (by simp[t5]) (by simp[t7]) (by simp[t9]) (by simp) (by simp) K hk
 ·simp[Qa3,Yq,Ye,-Ye,t5,t6,t7,t9,Zmv];refine(Z0j b S2.la pb8 (o:=1) (by omega) (by omega) (to:=2) (by omega) 1 2 _ fun iv3 ov3 ins3 outs3 g3 R3 e3 hp3 => ?_).ok;obtain⟨y,ey⟩:∃ y:TxV,y=⟨iv3,ov3,ins3,outs3,2⟩:=⟨_,rfl⟩;have a3:=R3.i.a;have ty:=(R3.txv (lock:=2) hp3).1;have fy:=(R3.txv (lock:=2) hp3).2;rw[<- ey]at ty fy;have yp:y.p=Z9v 2:=by rw[ey];exact e3
  have yc:txC iv3 ov3 2=txC y.iv y.ov y.lock:=by rw[ey]
  rw[yc];have ylc:(txC y.iv y.ov y.lock).length=3:=rfl;have g33:=a3.get gg2;have lt3:=Heap.get_lt g33;obtain⟨g4,e4⟩:∃ g4,g4=g3.set g1.next (some (.cells true 1 (txC y.iv y.ov y.lock))):=⟨_,rfl⟩;have st4:Ul g3 g1.next 0 (txC y.iv y.ov y.lock)=some g4:=by rw[e4,Ur g33 (by simp[txC])];simp[txC]
  have k4:∀ c,c≠g1.next->g4.get c=g3.get c:=fun c hc=>by rw[e4,gY lt3,if_neg (Ne.symm hc)]
  have gg4:g4.get g1.next=some (.cells true 1 (txC y.iv y.ov y.lock)):=by rw[e4,gY lt3,if_pos rfl]
  have a14:Old g g4:=⟨by rw[e4];exact al a12.1 a3.1,fun c hc=>by rw[k4 c (by have:=a1.1;omega),a3.2 c (az hc a12.1),a12.2 c hc]⟩;have ty4:TxAt g4 y:=ty.keepV fun v hv c hc _=>k4 c fun e=>by have:=fy v hv c hc;omega
  simp[Qa3,Yq,Ye,-Ye,t5,t6,t7,t9,ylc,st4];exact Zh7 b (at':=at') (S.old a14) hn (T.old a14) hl gg4 ty4 W (w:=18) (by omega) (fun k mx G=>by rw[yp];exact Z01) (by simp[t5]) (by simp[t7]) (by simp[t9]) (by simp) (by simp) K hk
 ·obtain⟨y,ey⟩:∃ y:TxV,y=⟨z.iv,.slice none 0 0,z.ins,[],z.lock⟩:=⟨_,rfl⟩;have lt3:=Heap.get_lt gg2;obtain⟨g4,e4⟩:∃ g4,g4=g2.set g1.next (some (.cells true 1 (txC y.iv y.ov y.lock))):=⟨_,rfl⟩;have st4:Ul g2 g1.next 1 [.slice none 0 0]=some g4:=by rw[e4,Qhv gg2 (by simp[txC]),ey];rfl
  have k4:∀ c,c≠g1.next->g4.get c=g2.get c:=fun c hc=>by rw[e4,gY lt3,if_neg (Ne.symm hc)]
  have gg4:g4.get g1.next=some (.cells true 1 (txC y.iv y.ov y.lock)):=by rw[e4,gY lt3,if_pos rfl]
  have a14:Old g g4:=⟨by rw[e4];exact a12.1,fun c hc=>by rw[k4 c (by have:=a1.1;omega),a12.2 c hc]⟩;have ty2:TxAt g2 y:=by rw[ey];exact⟨tz2.i,⟨Sl.nil,by simp,by simp⟩,tz2.p⟩
  have ty4:TxAt g4 y:=ty2.keepV fun v hv c hc hl=>k4 c fun e=>by
   have : v ∈ Zcg z:=by
    rw[ey]at hv;simp only[Zcg,ax,ac,df,d4,or_false]at hv ⊢;rcases hv with rfl | rfl | hv
    ·exact .inl rfl
    ·cases hc
    ·exact .inr (.inr (.inl hv))
   have:=tz.lt this hc;omega
  simp[Qa3,Yq,Ye,-Ye,t5,t6,t7,t9,st4];exact Zh7 b (at':=at') (S.old a14) hn (T.old a14) hl gg4 ty4 W (w:=3) (by omega) (fun k mx G=>Z72 (by rw[ey];rfl)) (by simp[t5]) (by simp[t7]) (by simp[t9]) (by simp) (by simp) K hk
end
structure BdV where
 sv:Value
 st:List Int
 lv:Value
 l:List MvV
 at':Int
 how:Int
def BdV.cells(x:BdV):List Value:=[x.sv,x.lv,.int .i64 x.at',.int .i64 x.how]
structure BadAt (h:Heap) (x:BdV):Prop where
 s:Sl h 1 x.sv x.st.length (x.st.map (Value.int .i64))
 n:x.st.length*8<=140737488351232
 m:MvsAt h x.lv x.l
def TxsN.sb{n0:Nat}{g:Heap}{tv:Value}{l:List TxV}(R:TxsN n0 g tv l)(e:l=[]->tv=.slice none 0 0):Yd1 g tv:=by
 intro c hc;rcases R.o with⟨rfl,_,_⟩ | ⟨bk,cc,z',rest,rfl,h1,h2, -⟩
 ·cases hc
 ·cases hc
  match l,R,e,h2 with
  | [],R,e,h2=>exact absurd (e rfl) (by simp)
  | y::l,R,_,h2 =>
   obtain⟨a,n,cc,e⟩:∃ a n cc,y.iv=.slice a n cc:=by
    rcases(R.s y (bR ..)).i.s with⟨_,e,_⟩ | ⟨_,_,_,_,_,_,_,e,_⟩ <;> exact⟨_,_,_,e⟩
   have q:Qod (y::l)=.slice a n cc::y.ov :: .int .i64 y.lock::Qod l:=by rw[<- e];rfl
   rw[q]at h2;exact⟨_,_,_,_,_,h2⟩
def LedS.offS{h h':Heap}{v:Value}(fb:Yd1 h v)(kp:∀ c,c < h.next->J6 v≠some c->h'.get c=h.get c){lb mb z ν clk:Nat}{ks:List Nat}{un:Value}{ls:List LC}{ud:List (List BK)}(S:LedS h lb mb z ν clk ks un ls ud)(o:Off v (Xuk ls++Y9m ud))(ou:∀ c,J6 un=some c->J6 v≠some c):LedS h' lb mb z ν clk ks un ls ud:=by
 obtain⟨gl,⟨ow,zν,gν⟩,co,⟨vals,r,hl,hb⟩,off,ofl,la,hks⟩:=S;refine⟨X1f fb kp gl (fun x hx a n cc e=>by simp at hx;subst hx;cases e),⟨ow,zν,X1f fb kp gν fun x hx a n cc e => ?_⟩,CoM.offS fb kp co fun s hs=>o s (ac.2 (.inl hs)),⟨vals,r.keep fun c hc hlt=>kp c hlt (ou c hc),hl,fun i x k hx hk=>BkRow.offS fb kp (hb i x k hx hk) fun s hs=>o s (ac.2 (.inr (cJ.2 ⟨k,ak hk,hs⟩)))⟩,off,ofl,fun y hy => ?_,hks⟩
 ·obtain⟨q, -,e2⟩:=ao.1 (cQ hx);rw[e]at e2;cases e2
 ·have g:=la y hy;rw[kp _ (Heap.get_lt g) fun e => ?_]
  ·exact g
  ·obtain⟨_,_,_,_,_,g2⟩:=fb _ e;rw[g]at g2;cases g2
def SvL.lt{h:Heap}{lb mb z ν clk:Nat}{ks:List Nat}{un:Value}{ls:List LC}{ud:List (List BK)}(S:LedS h lb mb z ν clk ks un ls ud){s:Value}(hs:s ∈ Xuk ls++Y9m ud){c:Nat}(hc:J6 s=some c):c < h.next:=by
 rcases ac.1 hs with q | q
 ·obtain⟨x,hx,rfl⟩:=ao.1 q;exact Zy0 (S.co.hs x hx) hc
 ·exact Zb3 S.ur q hc
structure NIv (hx hc:Heap) (lb mb ν:Nat) (m0:Qo1) (g:Heap) (clk:Nat) (un:Value) (ls:List LC) (ud:List (List BK)) (tv:Value) (l:List TxV):Prop where
 S:LedS g lb mb 1 ν clk Qrf un ls ud
 G:Ygq (Qcv ls) (worth l.length)
 n:ls.length<=8+8*l.length
 e:ud.length=l.length
 W:Ways m0 (l.map TxV.p) (Qcv ls)
 T:TxsN hc.next g tv l
 u:∀ c,J6 un=some c->hx.next<=c/\J6 tv≠some c/\∀ z ∈ l,∀ v ∈ Zcg z,J6 v≠some c
 f:Old hx g
 x:hc.next<=g.next
 y:Off tv (Xuk ls++Y9m ud)
 v:l=[]->tv=.slice none 0 0
def NIv.old{hx hc:Heap}{lb mb ν:Nat}{m0:Qo1}{g g':Heap}{clk:Nat}{un:Value}{ls:List LC}{ud:List (List BK)}{tv:Value}{l:List TxV}(I:NIv hx hc lb mb ν m0 g clk un ls ud tv l)(a:Old g g'):NIv hx hc lb mb ν m0 g' clk un ls ud tv l :=
 ⟨I.S.old a,I.G,I.n,I.e,I.W,I.T.old a,I.u,I.f.trans a,al I.x a.1,I.y,I.v⟩
structure NRg (t:Tr Value) (lx lb i:Nat) (lv tv:Value) (at' how:Int):Prop where
 t4:t.get 4=some lv
 t5:t.get 5=some (.int .i64 at')
 t6:t.get 6=some (.int .i64 how)
 t7:t.get 7=some (.pointer (some ⟨lx,0,none⟩))
 t8:t.get 8=some (.pointer (some ⟨lb,0,none⟩))
 t9:t.get 9=some tv
 t10:t.get 10=some (.int .i64 (i:Int))
def NMI(hx hc:Heap)(lx lb mb ν:Nat)(m0:Qo1)(lv:Value)(at' how:Int)(n:Nat)(k:Nat)(s:St):Prop:=∃ (t:Tr Value) (g:Heap) (i clk:Nat) (un:Value) (ls:List LC) (ud:List (List BK)) (tv:Value) (l:List TxV),s=⟨⟨134,t⟩,[],g⟩/\NRg t lx lb i lv tv at' how/\i<=n/\i<=8/\k=8-i/\l.length<=i/\NIv hx hc lb mb ν m0 g clk un ls ud tv l
section
attribute [local simp] Z4 Zg Ze Qh9 Qgm Qhc Qzj Qh7 U2 Qhb Zw Qdg Z8 Yp Z2 Qzl Xt Yz Ys Qzf Yo Qbh Vy Y7 Wq Z1 Yt Xv Ju Yy Y2 Zf Ui Qqb Jh Ja Z9 Zd Zs V2 Z0 Yv Yu Yn Ym Yq Ye
def Jcn(b:Nat){h:Heap}{x:BdV}(la:Ab.LaidIn h laidAll)(X:BadAt h x)(K:KP)(hk:∀ h',K (.ret (.bool true)) h') :
  CallOK Tryz.prog (E b).G 4 [.agg ⟨x.cells⟩] h K:=by
 refine Qkb (E b) (U7 _ _) (Ue b) (Ji b) mixed (Uk b) (Ze b) Xzr.1 Xzr.2.1 Xzr.2.2 rfl ?_;obtain⟨hA,eA⟩:∃ hA,hA=h.push (.cells true 1 x.cells):=⟨_,rfl⟩;have bx:=Q0e eA;have aA:=Qpm eA;have gA:hA.get h.next=some (.cells true 1 x.cells):=by rw[eA,Heap.get_push,if_pos rfl]
 have c0:J3 hA h.next 0=some x.sv:=by rw[Za gA];rfl
 have c1:J3 hA h.next 1=some x.lv:=by rw[Za gA];rfl
 have c2:J3 hA h.next 2=some (.int .i64 x.at'):=by rw[Za gA];rfl
 have c3:J3 hA h.next 3=some (.int .i64 x.how):=by rw[Za gA];rfl
 simp[Qa3,Yc,bx];refine Qg6 [] (by simp) Xid Xkb Xht (by simp[Xmp,Yc,c0,c1,c2,c3];first | exact⟨rfl,rfl⟩ | rfl) ?_ ?_
 ·simp[Qm2,Yc]
 obtain⟨hB,eB,aB,gB⟩:=Q5u hA [.int .i64 9];have bl9:Vj (E b).toEnv 22 1 [(0,.int .i64 9)] hA=some (.slice (some ⟨hA.next,0,none⟩) 1 1,hB):=by rw[eB];exact Q2h (T22 b) (z:=1) (y:=.int .i64 9) (ys:=[.int .i64 9]) Q3o (by omega) (by omega) rfl rfl rfl
 have o9:Own hB h.next 1 (.slice (some ⟨hA.next,0,none⟩) 1 1) 1 [.int .i64 9]:=Own.new (z':=1) (by have:=aA.1;omega) gB rfl (by decide) (.inr rfl);have sS:=X.s.old (aA.trans aB);have xn:=X.n;obtain⟨v2,h2,j1,j2,j3⟩:=Qwh (T22 b) (z:=1) (tx:=22) (m:=x.st.length) (ys:=x.st.map (Value.int .i64)) Q3o (by omega) o9 (al aA.1 aB.1) (Xbl (T22 b) Q3o sS) (by simp) (by rw[Zfb];omega) (by omega);have a2:Old h h2:=j3.old (aA.trans aB) o9;have s2:Sl h2 1 v2 (9::x.st).length ((9::x.st).map (Value.int .i64)):=by
  have e:(9::x.st).length=1+x.st.length:=by rw[bH];omega
  rw[e];exact j2.sl
 simp[Qa3,Yc,bl9,j1];refine Z5x b (Laid.old la a2) s2 (by rw[bH];omega) _ fun lx mx clkx ν hx ls0 S0 G0 hl0 a3 n1 n2 => ?_;have ne:Y40 (E b).toEnv .eql 24 (.pointer (some ⟨lx,0,none⟩)) (.pointer none)=some (.bool false):=kR
 simp[Qa3,Yc,ne];refine(Jbv b S0 (by simp) _ fun lb mb un0 hc Sy a4 n3 n4 nbm nu => ?_).ok;have X4:=X.m.old (a2.trans (a3.trans a4));have lenM:∀ hz,Qne (E b).toEnv 23 x.lv hz=some (.int .i64 (x.l.length:Int)):=fun hz=>Qbq (T23 b) X.m.s;have hlb:=Heap.get_lt Sy.gl;have hmb:=Heap.get_lt Sy.co.gm;have ah:=a2.trans a3;simp[Qa3,Yc,-Yc];refine Qfs (NMI hx hc lx lb mb ν (Qcv ls0) x.lv x.at' x.how x.l.length) 8 ⟨_,hc,0,clkx,un0,ls0,[],.slice none 0 0,[],rfl,⟨by simp,by simp,by simp,by simp,by simp,by simp,by simp⟩,by omega,by omega,rfl,by simp,⟨Sy,G0,by simpa using hl0,rfl,Ways.nil G0,TxsN.nil _ _,fun c hc=>⟨(nu c hc).1,(by simp[J6]),by simp⟩,a4,ae _,(fun s hs c hc e=>by cases e),fun _=>rfl⟩⟩ ?_;rintro k s' ⟨t,g,i,clk,un,ls,ud,tv,l,rfl,⟨t4,t5,t6,t7,t8,t9,t10⟩,hi,hi2,rfl,hli,I⟩ -;have ahg:Old h g:=ah.trans I.f;by_cases hlt:i < x.l.length/\i < 8
 ·have hlt':(i:Int) < (x.l.length:Int):=by omega
  have hlt2:(i:Int) < 8:=by omega
  have hw:=wS (i:=i) (by omega);obtain⟨y,hy⟩:∃ y,x.l[i]? = some y:=⟨_,ab hlt.1⟩;obtain⟨bk,off,y1,y2⟩:=Jix (b:=b) (T23 b) Zgy (X.m.s.old ahg) hy;have mv:=(X.m.a y (ak hy)).old ahg;have gn:=I.n;have hw4:=Ze9 (n:=l.length) (by omega);simp[Qa3,Yc,-Yc,t4,t5,t6,t7,t8,t9,t10,lenM,hlt',hlt2,y1,y2];refine Jct b I.S (by omega) I.G (Yde _) hw4 mv _ (fun g1 b1 => ?_) fun iv2 ov2 ins2 outs2 g1 M => ?_
  ·obtain⟨hA',g2,alA,stA,stA',gg2,b2,m2⟩:=Qxa b (Y4d b) (l:=X3q) (by rw[Qqy];rfl) (by kernel_rfl) g1;obtain⟨nt,ent⟩:∃ nt,nt=X3q:=⟨_,rfl⟩;have nl:nt.length=3:=by rw[ent];rfl
   rw[<- ent]at stA stA' ⊢;simp[Qa3,Yc,-Yc,t4,t5,t6,t7,t8,t9,t10,-Qa3,alA,stA,stA',nl,hw];exact⟨8-(i+1),by omega,_,g2,i+1,clk,un,ls,ud,tv,l,rfl,⟨by simp[t4],by simp[t5],by simp[t6],by simp[t7],by simp[t8],by simp[t9],by simp⟩,by omega,by omega,rfl,by omega,I.old (b1.trans b2)⟩
  ·obtain⟨z,ez⟩:∃ z:TxV,z=⟨iv2,ov2,ins2,outs2,0⟩:=⟨_,rfl⟩;have zc:txC iv2 ov2 0=txC z.iv z.ov z.lock:=by rw[ez]
   have b1:=M.r.i.a;obtain⟨tz,fz⟩:=M.r.txv (lock:=0) M.p;rw[<- ez]at tz fz;obtain⟨o,pts,qs,fee,MO⟩:=M.m;have MO:MadeOf (Qcv ls) z.p o pts qs fee:=by rw[ez];exact MO
   rw[zc];obtain⟨hA',g2,alA,stA,stA',gg2,b2,m2⟩:=Qxa b (Y4d b) (l:=txC z.iv z.ov z.lock) (by rw[Qqy];rfl) (by kernel_rfl) g1;have tlc:(txC z.iv z.ov z.lock).length=3:=rfl;have ldT:∀ {hz:Heap},hz.get g1.next=some (.cells true 1 (txC z.iv z.ov z.lock))->Qb9 hz g1.next 0 3=some (.agg ⟨txC z.iv z.ov z.lock⟩):=fun q=>by rw[Vf q (by simp[txC])];rfl
   have b3:Old g2 (g2.push (.cells true 1 z.cells)):=Old.push _ _;have b13:=b1.trans (b2.trans b3);have I2:=I.old b13;simp[Qa3,Yc,-Yc,t4,t5,t6,t7,t8,t9,t10,-Qa3,alA,stA,stA',tlc,ldT gg2,Zx0];have ap:=Zy2 MO I.G (Yde _) hw4 (hks:=I2.S.ks) (ht:=(ud.length:Int)) (by omega);refine Zvm b I2.S (by have:=I.e;omega) (Jd1 (tz.old b2)) _ (fun m' hm g4 un4 ls4 clk4 bks S4 em back sty alt le1 le2 nw => ?_) fun e he => ?_
   ·have hm:Xfk Qrf I2.S.ks (ud.length:Int) (Qcv ls) [z.p]=.ok m':=hm;rw[ap]at hm;have hm:=Except.ok.inj hm;have le1:ls4.length<=ls.length+8*1:=le1;have n13:=I2.x;have glt:=b13.1;have tvlt:∀ c,J6 tv=some c->hc.next<=c/\c < g.next:=fun c hc'=>I.T.o.from hc';have unlt:∀ c,J6 un=some c->c < g.next:=fun c hc'=>I.S.ur.lt hc';have un4lt:∀ c,J6 un4=some c->c < g4.next:=fun c hc'=>S4.ur.lt hc';have gg3:=b3.get gg2;have lt3:=Heap.get_lt gg3;have nbx:g.next<=g1.next:=b1.1;have hIx:=I.x;have gg4:g4.get g1.next=some (.cells true 1 (txC z.iv z.ov z.lock)):=by rw[sty.2 _ lt3 (by omega) (by omega) fun e=>by have:=unlt _ e;omega];exact gg3
    have zlt:∀ v ∈ Zcg z,∀ c,J6 v=some c->g.next<=c/\c < g1.next:=fun v hv c hc'=>⟨fz v hv c hc',tz.lt hv hc'⟩;have n12:g1.next<=(g2.push (.cells true 1 z.cells)).next:=al b2.1 b3.1;have T4:TxsN hc.next g4 tv l:=⟨I2.T.o.keep fun c hc' hl'=>by
      have:=tvlt c hc';exact sty.2 c hl' (by omega) (by omega) fun e=>(I.u c e).2.1 hc',fun w hw'=>(I2.T.s w hw').keepV fun v hv c hc' hl'=>by
       have:=I.T.f w hw' v hv c hc';exact sty.2 c hl' (by omega) (by omega) fun e=>(I.u c e).2.2 w hw' v hv hc',I.T.f,I.T.d⟩
    have tz4:TxAt g4 z:=(tz.old (b2.trans b3)).keepV fun v hv c hc' hl'=>by
     have:=zlt v hv c hc';exact sty.2 c hl' (by omega) (by omega) fun e=>by have:=unlt c e;omega
    obtain⟨tv',g5,k1,T5,one5,k4,k5,k6⟩:=T4.more b (by omega) (al n13 sty.1) tz4 (fun v hv c hc'=>by
     have:=zlt v hv c hc';exact⟨by have:=I.x;omega,fun e=>by have:=(tvlt c e).2;omega⟩)
    have a45:∀ c,c < g4.next->J6 tv≠some c->g5.get c=g4.get c:=k5;simp[Qa3,Yc,-Yc,t4,t5,t6,t7,t8,t9,t10,ldT gg4,Zx0,k1,hw];have y4:Off tv (Xuk ls4++Y9m (ud ++ [bks])):=fun s hs c hc' e=>by
     have key:s ∈ Xuk ls4++Yco bks->False:=fun q=>by
      rcases nw s q with r | r
      ·exact I.y s (ac.2 (.inl r)) c hc' e
      ·have:=r c hc';have:=tvlt c e;omega
     rcases ac.1 hs with q | q
     ·exact key (ac.2 (.inl q))
     ·rw[Zdg]at q;rcases ac.1 q with q | q
      ·exact I.y s (ac.2 (.inr q)) c hc' e
      ·exact key (ac.2 (.inr (by simpa[Y9m]using q)))
    have u4:∀ c,J6 un4=some c->J6 tv≠some c:=fun c hc' e=>by
     rcases alt c hc' with q | q
     ·exact(I.u c q).2.1 e
     ·have:=tvlt c e;omega
    have S5:=S4.offS (T4.sb I.v) k5 y4 u4;have el:(l ++ [z]).length=l.length+1:=by simp
    have eu:(ud ++ [bks]).length=ud.length+1:=by simp
    have Ie:=I.e;have hxg:=I.f.1;refine⟨8-(i+1),by omega,_,g5,i+1,clk4,un4,ls4,ud ++ [bks],tv',l ++ [z],rfl,⟨by simp[t4],by simp[t5],by simp[t6],by simp[t7],by simp[t8],by simp,by simp⟩,by omega,by omega,rfl,by omega,⟨S5,?_,by rw[el];omega,by omega,?_,T5,fun c hc'=>⟨?_,fun e => ?_,fun w hw' v hv e => ?_⟩,⟨by have:=sty.1;omega,fun c hc' => ?_⟩,by have:=sty.1;omega,fun s hs c hc' e => ?_,fun q=>by simp at q⟩⟩
    ·rw[em,<- hm,el,<- Y8l];exact Zn6 MO I.G (Yde _) hw4
    ·rw[em,<- hm,bc];exact I.W.more MO (by rw[aT];omega) _
    ·exact(alt c hc').elim (fun q=>(I.u c q).1) fun q=>by omega
    ·rcases k4 c e with q | q
     ·exact u4 c hc' q
     ·have:=un4lt c hc';omega
    ·rcases ac.1 hw' with q | q
     ·rcases alt c hc' with r | r
      ·exact(I.u c r).2.2 w q v hv e
      ·have:=(I.T.s w q).lt hv e;omega
     ·rw[aw.1 q]at hv;have:=zlt v hv c e;rcases alt c hc' with r | r
      ·have:=unlt c r;omega
      ·omega
    ·rw[k5 c (by have:=sty.1;omega) fun e=>by have:=tvlt c e;have:=a4.1;omega,sty.2 c (by omega) (by omega) (by omega) fun e=>by have:=(I.u c e).1;omega,b13.2 c (by omega),I.f.2 c hc']
    ·have:=SvL.lt S4 hs hc';rcases k4 c e with q | q
     ·exact y4 s hs c hc' q
     ·omega
   ·have he:Xfk Qrf I2.S.ks (ud.length:Int) (Qcv ls) [z.p]=.error e:=he;rw[ap]at he;cases he
 ·have fin:∀ tt:Tr Value,NRg tt lx lb i x.lv tv x.at' x.how->Wr (E b) (Xhf Tryz.prog (E b).G) (D0 b) none Qqv ⟨⟨134,tt⟩,[],g⟩ (Y0x (E b) (DD b) Qgd K):=fun tt R =>
   Jev b (S0.old I.f) (by omega) I.T (by omega) I.W R.t5 R.t6 R.t7 R.t9 K hk
  by_cases h1':i < x.l.length
  ·have hlt':(i:Int) < (x.l.length:Int):=by omega
   have h2:¬ (i:Int) < 8:=by omega
   simp[Qa3,Yc,-Yc,t4,t5,t6,t7,t8,t9,t10,lenM,hlt',h2];exact fin _ ⟨by simp[t4],by simp[t5],by simp[t6],by simp[t7],by simp[t8],by simp[t9],by simp[t10]⟩
  ·have hlt':¬ (i:Int) < (x.l.length:Int):=by omega
   simp[Qa3,Yc,-Yc,t4,t5,t6,t7,t8,t9,t10,lenM,hlt'];exact fin _ ⟨by simp[t4],by simp[t5],by simp[t6],by simp[t7],by simp[t8],by simp[t9],by simp[t10]⟩
end
end Go.Proofs.YtijagoebdgohnaaGreatDoor
end
noncomputable section
namespace Go.Proofs.YtijagoebdgohnaaGreatDoor
open Go Go.Ab
open Go.ChangeShapes Go.WideShapes Go.RowKit
set_option maxRecDepth 1000000
abbrev InQ:Heap->List Value->Prop:=SlQ 1 (fun _ cs=>IntsOf [.i64] cs)
abbrev Jha:Heap->List Value->Prop:=fun _ cs=>IntsOf [.i64] cs
def Ze2:∀ {rows:List (List Value)},(∀ r ∈ rows,IntsOf [.i64] r)->∃ xs:List Int,rows.flatten=xs.map (Value.int .i64)/\xs.length=rows.length
 | [],_=>⟨[],rfl,rfl⟩
 | r::rows,h=>by
  obtain⟨n,r',rfl,hw,hr'⟩:=h r (by simp);have : r'=[]:=hr';subst this;obtain⟨xs,h1,h2⟩:=Ze2 (rows:=rows) fun q hq=>h q (by simp[hq]);exact⟨n::xs,by simp[h1],by simp[h2]⟩
def Jd6{h:Heap}{v:Value}(q:InQ h [v]):∃ xs:List Int,Sl h 1 v xs.length (xs.map (Value.int .i64))/\xs.length < 4611686018427387904:=by
 obtain⟨v',rows,e,s,hb,hr⟩:=q;obtain rfl:v=v':=by simpa using e
 obtain⟨xs,h1,h2⟩:=Ze2 fun r hm=>(hr r hm).1;refine⟨xs,?_,?_⟩
 ·rw[h2,<- h1];exact s
 ·rw[h2];exact dK hb (by decide)
abbrev InB:Heap->List Value->Prop:=SlB 8 1 (fun _ cs=>IntsOf [.i64] cs)
def Z6e{h:Heap}{v:Value}(q:InB h [v]):∃ xs:List Int,Sl h 1 v xs.length (xs.map (Value.int .i64))/\xs.length*8<=140737488351232:=by
 obtain⟨v',rows,e,s,hb,hr⟩:=q;obtain rfl:v=v':=by simpa using e
 obtain⟨xs,h1,h2⟩:=Ze2 fun r hm=>(hr r hm).1;refine⟨xs,?_,?_⟩
 ·rw[h2,<- h1];exact s
 ·rw[h2];exact Ab.al hb (by decide)
abbrev MvQ:Heap->List Value->Prop:=CatQ [InQ,Jha,Jha,Jha]
abbrev Jjx:Heap->List Value->Prop:=SlQ 4 MvQ
def Y9q:X0q MvQ:=CatQ.stable fun Q hQ=>by
 simp only[ax,d4,or_false]at hQ;rcases hQ with rfl | rfl | rfl | rfl
 ·exact SlQ.stable (Qkr _)
 ·exact Qkr _
 ·exact Qkr _
 ·exact Qkr _
def Jio{h:Heap}{cs:List Value}(q:MvQ h cs):∃ x:MvV,cs=x.cells/\MvAt h x:=by
 obtain⟨c1,r1,rfl,q1,c2,r2,rfl,q2,c3,r3,rfl,q3,c4,r4,rfl,q4,qn⟩:=q;obtain rfl:r4=[]:=qn;obtain⟨cv,e1⟩:∃ v,c1=[v]:=by obtain⟨v,_,e,_⟩:=q1;exact⟨v,e⟩
 subst e1;obtain⟨xs,s1,n1⟩:=Jd6 q1;obtain⟨z2,y2,rfl, -,e2⟩:=q2;obtain⟨z3,y3,rfl, -,e3⟩:=q3;obtain⟨z4,y4,rfl, -,e4⟩:=q4;obtain rfl:y2=[]:=e2;obtain rfl:y3=[]:=e3;obtain rfl:y4=[]:=e4;exact⟨⟨cv,xs,z2,z3,z4⟩,rfl,s1,n1⟩
def Z5j{h:Heap}:∀ {rows:List (List Value)},(∀ r ∈ rows,MvQ h r)->∃ l:List MvV,rows.flatten=Yzn l/\l.length=rows.length/\∀ x ∈ l,MvAt h x
 | [],_=>⟨[],rfl,rfl,by simp⟩
 | r::rows,hr=>by
  obtain⟨x,rfl,hx⟩:=Jio (hr r (by simp));obtain⟨l,h1,h2,h3⟩:=Z5j (rows:=rows) fun q hq=>hr q (by simp[hq]);refine⟨x::l,by simp[h1,Yzn],by simp[h2],fun q hq => ?_⟩;rcases ax.1 hq with rfl | hq
  ·exact hx
  ·exact h3 q hq
def Jh8{h:Heap}{v:Value}(q:Jjx h [v]):∃ l,MvsAt h v l:=by
 obtain⟨v',rows,e,s,hb,hr⟩:=q;obtain rfl:v=v':=by simpa using e
 obtain⟨l,h1,h2,h3⟩:=Z5j fun r hm=>(hr r hm).1;refine⟨l,⟨?_,?_,h3⟩⟩
 ·rw[h2,<- h1];exact s
 ·rw[h2];exact dK hb (by decide)
abbrev Jkf:Heap->List Value->Prop:=CatQ [InB,Jjx,Jha,Jha]
def Jfu{h:Heap}{cs:List Value}(q:Jkf h cs):∃ x:BdV,cs=x.cells/\BadAt h x:=by
 obtain⟨c1,r1,rfl,q1,c2,r2,rfl,q2,c3,r3,rfl,q3,c4,r4,rfl,q4,qn⟩:=q;obtain rfl:r4=[]:=qn;obtain⟨sv,e1⟩:∃ v,c1=[v]:=by obtain⟨v,_,e,_⟩:=q1;exact⟨v,e⟩
 obtain⟨lv,e2⟩:∃ v,c2=[v]:=by obtain⟨v,_,e,_⟩:=q2;exact⟨v,e⟩
 subst e1 e2;obtain⟨xs,s1,n1⟩:=Z6e q1;obtain⟨l,s2⟩:=Jh8 q2;obtain⟨z3,y3,rfl, -,e3⟩:=q3;obtain⟨z4,y4,rfl, -,e4⟩:=q4;obtain rfl:y3=[]:=e3;obtain rfl:y4=[]:=e4;exact⟨⟨sv,xs,lv,l,z3,z4⟩,rfl,s1,n1,s2⟩
def Z5o:Array Field:=match Tryz.prog.underlying 36 with
 | some (.struct fs)=>fs
 | _ => #[]
def Z7k:Array Field:=match Tryz.prog.underlying 48 with
 | some (.struct fs)=>fs
 | _ => #[]
def Zkk(i:Nat):Field:=(Z7k[i]?).getD default
def Yl0(i:Nat):Field:=(Z5o[i]?).getD default
section
variable{H:Type}{enc:TypeId × Value->H}{W:World}
def Z0t:Zyn enc Tryz.prog ⟨nv,W.heap.size⟩ W 22 InQ:=Y8h (e:=3) rfl (by kernel_rfl) (by kernel_rfl) (by omega) (by rw[show Tryz.prog.bytesOf 3=8 by kernel_rfl];omega) (Qkr _) (Xc7 (by kernel_rfl))
def Z0c:Zyn enc Tryz.prog ⟨nv,W.heap.size⟩ W 36 MvQ:=by
 refine Yyu (fs:=Z5o) (by kernel_rfl) ?_ (by kernel_rfl);rw[show Z5o.toList=[Yl0 0,Yl0 1,Yl0 2,Yl0 3] by kernel_rfl];refine⟨by kernel_rfl,?_,SlQ.stable (Qkr _),by kernel_rfl,?_,Qkr _,by kernel_rfl,?_,Qkr _,by kernel_rfl,?_,Qkr _,trivial⟩
 ·rw[show(Yl0 0).type=22 by kernel_rfl];exact Z0t
 ·rw[show(Yl0 1).type=3 by kernel_rfl];exact Xc7 (by kernel_rfl)
 ·rw[show(Yl0 2).type=3 by kernel_rfl];exact Xc7 (by kernel_rfl)
 ·rw[show(Yl0 3).type=3 by kernel_rfl];exact Xc7 (by kernel_rfl)
def Zy6:Zyn enc Tryz.prog ⟨nv,W.heap.size⟩ W 23 Jjx:=Y8h (e:=36) rfl (by kernel_rfl) (by kernel_rfl) (by omega) (by rw[show Tryz.prog.bytesOf 36=48 by kernel_rfl];omega) Y9q Z0c
def Zys:Zyn enc Tryz.prog ⟨nv,W.heap.size⟩ W 22 InB:=by
 have q:=Yua (z:=1) (Q:=fun _ cs=>IntsOf [.i64] cs) (enc:=enc) (P:=Tryz.prog) (G:=⟨nv,W.heap.size⟩) (W:=W) (t:=22) (e:=3) rfl (by kernel_rfl) (by kernel_rfl) (by omega) (Qkr _) (Xc7 (by kernel_rfl));rw[show Tryz.prog.bytesOf 3=8 by kernel_rfl]at q;exact q
def Z93:Zyn enc Tryz.prog ⟨nv,W.heap.size⟩ W 48 Jkf:=by
 refine Yyu (fs:=Z7k) (by kernel_rfl) ?_ (by kernel_rfl);rw[show Z7k.toList=[Zkk 0,Zkk 1,Zkk 2,Zkk 3] by kernel_rfl];refine⟨by kernel_rfl,?_,SlB.stable (Qkr _),by kernel_rfl,?_,SlQ.stable Y9q,by kernel_rfl,?_,Qkr _,by kernel_rfl,?_,Qkr _,trivial⟩
 ·rw[show(Zkk 0).type=22 by kernel_rfl];exact Zys
 ·rw[show(Zkk 1).type=23 by kernel_rfl];exact Zy6
 ·rw[show(Zkk 2).type=3 by kernel_rfl];exact Xc7 (by kernel_rfl)
 ·rw[show(Zkk 3).type=3 by kernel_rfl];exact Xc7 (by kernel_rfl)
end
end Go.Proofs.YtijagoebdgohnaaGreatDoor
end
