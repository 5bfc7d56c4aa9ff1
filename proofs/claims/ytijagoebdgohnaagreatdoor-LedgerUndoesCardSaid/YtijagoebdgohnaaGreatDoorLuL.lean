import Derived.Test.YtijagoebdgohnaaGreatDoorLuA
import Derived.Test.YtijagoebdgohnaaGreatDoorLgI
import Derived.Test.YtijagoebdgohnaaGreatDoorHtA
import Derived.Test.YtijagoebdgohnaaGreatDoorScB
import Derived.Test.YtijagoebdgohnaaGreatDoorTxA
import Derived.Test.YtijagoebdgohnaaGreatDoorScA
import Derived.Test.YtijagoebdgohnaaGreatDoorWaA
import Derived.Test.YtijagoebdgohnaaGreatDoorBlA
import Derived.Test.YtijagoebdgohnaaGreatDoorAbH
set_option linter.all false
noncomputable section
namespace Go.Proofs.YtijagoebdgohnaaGreatDoor
open Go Go.Ab
set_option maxRecDepth 100000
attribute [local simp] Xn kON kOC Xp kNN kNP kRR kRP kEN kER Q4 Xa Za Yi aop Qe nth Ab.g0 gv gs Qb Qa aev evs evO Qf Tr.get_put St.put Tm.put flat flatA Yh Ql Qo Qm Qn Qj Qk Qi Qr Qg Q5 Q6 kTN kTR kTX kTP kBN kBR kBX kBP kCS kCR kCE kAM Xo.putAll Qz Q9 Q3 Q0 Q8 Qc Qd Q1 Q2 Q7 Yx ldv Nat.testBit Zg Yc loadAt Ab.runT Z8 Je Vr Qaa Zk
section
def Y7q(b:Nat){h:Heap}(laid:Ab.LaidIn h laidAll)(K:KP)(hk:∀ ν h',h'.get ν=some (.cells true 1 (Q0s.map u8v))->h.next<=ν->Old h h'->K (.ret (.pointer (some ⟨ν,0,none⟩))) h'):FK b 21 [] h K:=by
 refine FF b (Wc b) Yto Znd Ze7 rfl ?_;obtain⟨hA,eA,aA,gA⟩:=Xcl h ((Z45.map u8v));have bl:Vx (E b).toEnv 57 4 [(0,.int .u8 107),(1,.int .u8 101),(2,.int .u8 121),(3,.int .u8 115)] h=some (.slice (some ⟨h.next,0,none⟩) 4 4,hA):=by rw[eA];exact Jee b _ _ _ _ h
 have s:SN hA (.slice (some ⟨h.next,0,none⟩) 4 4) Z45:=(Own.new (n0:=0) (z:=1) (n:=4) (c:=4) (bz _) gA rfl (by decide) (.inr rfl)).sl;simp[Xcd,Yfa,Wc,Ztc,Qul,bl,Z2f b gA];refine Jeq b (Laid.old laid aA) s (by simp[Z45]) _ fun ν h1 g1 hn a1 => ?_;simp[Xcd,Yfa,Wc,Ztc,Qul];exact hk ν h1 g1 (al aA.1 hn) (aA.trans a1)
def Jiz(x:Int)(m:Nat):Qgg (binOp .rem 3 (.int .i64 x) (.int .i64 (Int.ofNat (m+1))))=some (.int .i64 (Int.tmod x (Int.ofNat (m+1)))):=by kernel_rfl
def Jiv(x:Int){n:Int}(hn:0 < n):Qgg (binOp .rem 3 (.int .i64 x) (.int .i64 n))=some (.int .i64 (Int.tmod x n)):=by
 obtain⟨m,rfl⟩:∃ m:Nat,n=Int.ofNat (m+1):=⟨n.toNat-1,by simp;omega⟩;exact Jiz x m
def Yf9(b:Nat)(v:Int){n:Int}(hn:0 < n)(hm:n < 4611686018427387904)(h:Heap)(K:KP)(hk:K (.ret (.int .i64 (Ydi v n))) h):FK b 17 [.int .i64 v,.int .i64 n] h K:=by
 refine FF b (Jx b) Zb0 Zxn Zoz rfl ?_;have hrem:=Jiv v hn;have hin:=X2s v hn;have h0:¬ n < 1:=by omega
 unfold Ydi at hk hin;by_cases hz:Int.tmod v n < 0
 ·rw[if_pos hz]at hk hin;have w2:IntKind.i64.wrap (Int.tmod v n+n)=Int.tmod v n+n:=W2 (by omega) (by omega);simp[Xn7,Yu2,Jx,Xt,Ycv,Xx,h0,hrem,hz,w2];exact hk
 ·rw[if_neg hz]at hk;simp[Xn7,Yu2,Jx,Xt,Ycv,Xx,h0,hrem,hz];exact hk
end
def Z0u{o:Int}(ho:0<=o/\o < 256):IntKind.u8.wrap o=o:=by
 have:=Z5o (n:=o.toNat) (by omega);rw[df ho.1]at this;exact this
def Xij{o:Int}(ho:0<=o/\o < 256):Bytes (Xud o):=by
 intro x hx;simp only[Xud,ax,cQ,or_false]at hx;rw[Z0u ho]at hx;rcases hx with rfl | rfl | rfl <;> omega
structure OutsR (h0 g:Heap) (ov:Value) (os:List OutV):Prop where
 o:Own g h0.next 2 ov os.length (Qpe os)
 s:∀ x ∈ os,NewO g h0.next x
 d:∀ x ∈ os,∀ c,Jp x.sv=some c->Jp ov≠some c
 a:Old h0 g
def OutsR.nil(h:Heap):OutsR h h (.slice none 0 0) []:=⟨Own.nil,by simp,by simp,Old.refl _⟩
def OutsR.outs{h0 g:Heap}{ov:Value}{os:List OutV}(R:OutsR h0 g ov os)(hn:os.length < 1000000):Outs g ov os:=⟨R.o.sl,hn,fun x hx=>⟨(R.s x hx).1.sl,(R.s x hx).2.1,(R.s x hx).2.2⟩⟩
def OutsR.more(b:Nat){h0 g h3:Heap}{ov sv:Value}{os:List OutV}(R:OutsR h0 g ov os)(hi:os.length < 1000000)(a3:Old g h3){v:Int}{sc:List Int}(s3:OB h3 g.next sv sc)(hb:Bytes sc)(hl:sc.length < 1000000) :
  ∃ ov' h4,Qfp (E b).toEnv 27 27 ov (.slice (some ⟨h3.next,0,none⟩) 1 1) (h3.push (.cells true 1 [.int .i64 v,sv]))=some (ov',h4)/\OutsR h0 h4 ov' (os ++ [⟨v,sv,sc⟩])/\X94 ov'=true/\(∀ c,Jp ov'=some c->Jp ov=some c∨h3.next<=c)/\(∀ c,c < h3.next->Jp ov≠some c->h4.get c=h3.get c)/\h3.next<=h4.next:=by
 have n1:=R.a.1;have n3:=a3.1;have o3:Own h3 h0.next 2 ov os.length (Qpe os):=R.o.keep fun c _ hc=>a3.2 c hc;obtain⟨ov',h4,j1,j2,j3,j4⟩:=Qrk (T27 b) (z:=2) Qi0 (by omega) o3 (al n1 n3) (ys:=[.int .i64 v,sv]) rfl (by rw[Zly];omega) (by omega);have lo:∀ c,Jp ov=some c->c < g.next:=fun c hc=>(R.o.from hc).2;have sF:∀ c,Jp sv=some c->g.next<=c/\c < h3.next:=fun c hc=>s3.from hc;refine⟨ov',h4,j1,⟨?_,fun x hx => ?_,fun x hx c hc e => ?_,?_⟩,j2.one,j4,j3.2,j3.1⟩
 ·rw[Yka,aj,bQ];exact j2
 ·rcases ac.1 hx with q | q
  ·exact((R.s x q).keep (h':=h3) fun c _ hc=>a3.2 c hc).keep (h':=h4) fun c hc hl=>j3.2 c hl (R.d x q c hc)
  ·rw[aM.1 q];exact⟨(s3.low n1).keep fun c hc hl=>j3.2 c hl (fun e=>by have:=sF c hc;have:=lo c e;omega),hb,hl⟩
 ·rcases ac.1 hx with q | q
  ·have:=((R.s x q).1.from hc).2;exact(j4 c e).elim (R.d x q c hc) fun r=>by omega
  ·rw[aM.1 q]at hc;have:=sF c hc;exact(j4 c e).elim (fun r=>by have:=lo c r;omega) fun r=>by omega
 ·exact j3.old (R.a.trans a3) o3
def Zc3(b:Nat)(v:Int)(sv:Value)(h:Heap):Vx (E b).toEnv 27 1 [(0,.agg ⟨[.int .i64 v,sv]⟩)] h=some (.slice (some ⟨h.next,0,none⟩) 1 1,h.push (.cells true 1 [.int .i64 v,sv])):=Q7b (T27 b) (z:=2) (y:=.agg ⟨[.int .i64 v,sv]⟩) (ys:=[.int .i64 v,sv]) Qi0 (by omega) (by omega) rfl rfl rfl
def Znz(m:Qu8)(B:Int):Prop:=∀ p c,m p=some c->(∃ o:Int,1<=o/\o<=32/\c.script=Xud o)/\1<=c.value/\c.value<=B/\0<=p.n/\p.n<=7
def Zzp{l:List POut}{p:Pt}{c:PC}(h:Z85 l p=some c):∃ i o,l[i]? = some o/\p=pn i/\c=⟨o.value,o.script,0⟩:=by
 have key:∀ (n:Nat) (l:List POut),l.length=n->Z85 l p=some c->∃ i o,l[i]? = some o/\p=pn i/\c=⟨o.value,o.script,0⟩:=by
  intro n;induction n with
  | zero=>intro l hl h;rw[ba hl]at h;cases h
  | succ n ih =>
   intro l hl h;rcases d9 l with e | ⟨l',x,e⟩
   ·rw[e]at hl;cases hl
   ·rw[da]at e;subst e;rw[aj,bQ]at hl;rw[Zub]at h;by_cases hp:p=pn l'.length
    ·rw[hp,Yvq]at h;cases h;exact⟨l'.length,x,by simp,hp,rfl⟩
    ·rw[Zsd hp]at h;obtain⟨i,o,h1,h2,h3⟩:=ih l' (by omega) h;have hi:=(aq.1 h1).1;exact⟨i,o,by rw[aL hi];exact h1,h2,h3⟩
 exact key _ l rfl h
def SSI(h0:Heap)(lv:Value)(n:Nat)(k:Nat)(s:St):Prop:=∃ (t:Tr Value) (g:Heap) (ov:Value) (os:List OutV) (i:Nat),s=⟨⟨32,t⟩,[],g⟩/\t.get 0=some lv/\t.get 3=some ov/\t.get 4=some (.int .i64 (i:Int))/\i<=n/\i<=8/\k=8-i/\os.length=i/\OutsR h0 g ov os/\∀ x ∈ os,1<=x.value/\x.value<=1000/\∃ o:Int,1<=o/\o<=32/\x.script=Xud o
def Jim(x:Int):Qgg (binOp .rem 3 (.int .i64 x) (.int .i64 3))=some (.int .i64 (Int.tmod x 3)):=by kernel_rfl
section
attribute [local simp] Qfv Ql5 Jb Qh0 Qgx Qh1 Qlf Xt Qh4 Qg1 Ut Jx Xx Q97 Ji Wc Qcj
set_option maxHeartbeats 1000000 in
def Z44(b:Nat){h:Heap}{lv:Value}{l:List Int}(la:Ab.LaidIn h laidAll)(s:Sl h 1 lv l.length (l.map (Value.int .i64)))(hn:l.length < 4611686018427387904)
  (K:KP) (hk:∀ lb mb clk ν h' ls,LedS h' lb mb 1 ν clk Q0s (.slice none 0 0) ls []->Znz (Qcd ls) 1000->ls.length<=8->Old h h'->h.next<=lb->h.next<=mb->K (.ret (.pointer (some ⟨lb,0,none⟩))) h') :
  CallOK Tryz.prog (E b).G 5 [lv] h K:=by
 refine Qi1 (E b) (Vt _ _) (Ui b) (Jl b) mixed (Un b) (Jb b) Yme Zcn Yzt rfl ?_;have len:∀ hx,Qnm (E b).toEnv 22 lv hx=some (.int .i64 (l.length:Int)):=fun hx=>Qca (T22 b) s;simp[Qd0];refine Qfw (SSI h lv l.length) 8 ⟨_,h,.slice none 0 0,[],0,rfl,by simp,by simp,by simp,by omega,by omega,rfl,rfl,OutsR.nil h,by simp⟩ ?_;rintro k s' ⟨t,g,ov,os,i,rfl,t0,t3,t4,hi,h8,rfl,hos,R,hv⟩ -;by_cases hlt:i < l.length/\i < 8
 ·have hlt':(i:Int) < (l.length:Int):=by omega
  have hlt8:(i:Int) < 8:=by omega
  have hw:=wS (i:=i) (by omega);obtain⟨x,hx⟩:∃ x,l[i]? = some x:=⟨_,ab hlt.1⟩;obtain⟨bk,off,x0,x1,x2, -⟩:=Q96 (T22 b) Xh3 (s.old R.a) (k:=.i64) (i:=(i:Int)) (by omega) hlt';have x2:=x2 0 (by omega);rw[bn,d6,ca,ca,bc,hx]at x2;simp only[az]at x2;have pin:=X2s x (n:=1000) (by omega);obtain⟨v,ev⟩:∃ v,v=1+Ydi x 1000:=⟨_,rfl⟩;have hwv:IntKind.i64.wrap (1+Ydi x 1000)=v:=by rw[ev,W2 (by omega) (by omega)]
  have t3in:0<=Int.tmod (i:Int) 3/\Int.tmod (i:Int) 3 < 3:=⟨Int.tmod_nonneg _ (by omega),Int.tmod_lt_of_pos _ (by omega)⟩;obtain⟨o,eo⟩:∃ o,o=1+Int.tmod (i:Int) 3:=⟨_,rfl⟩;have hwo:IntKind.i64.wrap (1+Int.tmod (i:Int) 3)=o:=by rw[eo,W2 (by omega) (by omega)]
  simp[Qd0,t0,t3,t4,len,hlt',hlt8,x1,x2];refine(Yf9 b x (n:=1000) (by omega) (by omega) g _ ?_).ok;simp[Qd0,t0,t3,t4,hwv,Jim,hwo];refine(Zv6 b o g _ fun sv h2 o2 a2 => ?_).ok;obtain⟨ov',h4,j1,R4, -⟩:=R.more b (by omega) a2 (v:=v) o2 (Xij (by omega)) (by simp[Xud]);simp[Qd0,t0,t3,t4,Xac b v o2.sl,Zc3,j1,hw];exact⟨8-(i+1),by omega,_,h4,ov',_,i+1,rfl,by simp[t0],by simp,by simp,by omega,by omega,rfl,by simp[hos],R4,fun y hy=>by
   rcases ac.1 hy with q | q
   ·exact hv y q
   ·rw[aM.1 q];exact⟨by show 1<=v;omega,by show v<=1000;omega,o,by omega,by omega,rfl⟩⟩
 ·have fin:∀ (tt:Tr Value),tt.get 3=some ov->Wu (E b) (Xh2 Tryz.prog (E b).G) (D0 b) none Xb8 ⟨⟨32,tt⟩,[],g⟩ (Yzm (E b) (DD b) Q17 K):=by
   intro tt e3;simp[Qd0,e3];refine(Y7q b (Laid.old la R.a) _ fun ν h1 g1 hn1 a1 => ?_).ok;simp[Qd0,e3];have hm:=R.outs (by omega);refine Zyt b (Laid.old la (R.a.trans a1)) ⟨true,1,g1⟩ Zj9 (hm.old a1) (fun x hx=>by have:=hv x hx;omega) _ fun lb mb clk h2 ls S em hl a2 n1 n2 => ?_;simp[Qd0];have a12:=R.a.trans a1;refine hk lb mb clk ν h2 ls S (fun p c hc => ?_) (by omega) (a12.trans a2) (al a12.1 n1) (al a12.1 n2);rw[em]at hc;obtain⟨j,y,hy,rfl,rfl⟩:=Zzp hc;obtain⟨z,hz,rfl⟩:=av.1 (ak hy);have hj:=(aq.1 hy).1;rw[aU]at hj;obtain⟨q1,q2,q3⟩:=hv z hz;exact⟨q3,q1,q2,by show(0:Int)<=(j:Int);omega,by show(j:Int)<=7;omega⟩
  by_cases h1:i < l.length
  ·have hlt':(i:Int) < (l.length:Int):=by omega
   have h2:¬ (i:Int) < 8:=by omega
   simp[Qd0,-Qd0,t0,t3,t4,len,hlt',h2];exact fin _ (by simp[t3])
  ·have hlt':¬ (i:Int) < (l.length:Int):=by omega
   simp[Qd0,-Qd0,t0,t3,t4,len,hlt'];exact fin _ (by simp[t3])
end
def Jbj(x:InV):List Value:=x.wv::x.its.map (·.1)
def InAt.keepV{h h':Heap}{x:InV}(a:InAt h x)(k:∀ v ∈ Jbj x,∀ c,Jp v=some c->c < h.next->h'.get c=h.get c):InAt h' x :=
 ⟨a.w.keep fun c hc hl=>k x.wv (by simp[Jbj]) c hc hl,fun p hp=>⟨(a.i p hp).1.keep fun c hc hl=>k p.1 (bb _ (av.2 ⟨p,hp,rfl⟩)) c hc hl,(a.i p hp).2⟩,a.n,a.l⟩
def InAt.lt{h:Heap}{x:InV}(a:InAt h x){v:Value}(hv:v ∈ Jbj x){c:Nat}(hc:Jp v=some c):c < h.next:=by
 rcases ax.1 hv with rfl | hv
 ·exact a.w.blk hc
 ·obtain⟨p,hp,rfl⟩:=av.1 hv;exact(a.i p hp).1.blk hc
def InN(h:Heap)(n0:Nat)(x:InV):Prop:=InAt h x/\∀ v ∈ Jbj x,∀ c,Jp v=some c->n0<=c
structure InsR (h0 g:Heap) (iv:Value) (ins:List InV):Prop where
 o:Own g h0.next 34 iv ins.length (Qek ins)
 s:∀ x ∈ ins,InN g h0.next x
 d:∀ x ∈ ins,∀ v ∈ Jbj x,∀ c,Jp v=some c->Jp iv≠some c
 a:Old h0 g
def InsR.nil(h:Heap):InsR h h (.slice none 0 0) []:=⟨Own.nil,by simp,by simp,Old.refl _⟩
def InsR.ins{h0 g:Heap}{iv:Value}{ins:List InV}(R:InsR h0 g iv ins)(hn:ins.length < 1000000):Ins g iv ins:=⟨R.o.sl,hn,fun x hx=>(R.s x hx).1⟩
def InsR.old{h0 g g':Heap}{iv:Value}{ins:List InV}(R:InsR h0 g iv ins)(a:Old g g'):InsR h0 g' iv ins:=⟨R.o.keep fun c _ hc=>a.2 c hc,fun x hx=>⟨(R.s x hx).1.old a,(R.s x hx).2⟩,R.d,R.a.trans a⟩
def OutsR.old{h0 g g':Heap}{ov:Value}{os:List OutV}(R:OutsR h0 g ov os)(a:Old g g'):OutsR h0 g' ov os:=⟨R.o.keep fun c _ hc=>a.2 c hc,fun x hx=>(R.s x hx).keep fun c _ hc=>a.2 c hc,R.d,R.a.trans a⟩
def Zrt(l m:List InV):Qek (l++m)=Qek l++Qek m:=by simp[Qek]
def InsR.more(b:Nat){h0 g h3:Heap}{iv:Value}{ins:List InV}(R:InsR h0 g iv ins)(hi:ins.length < 1000000)(a3:Old g h3){x:InV}(hx:InN h3 g.next x) :
  ∃ iv' h4,Qfp (E b).toEnv 30 30 iv (.slice (some ⟨h3.next,0,none⟩) 1 1) (h3.push (.cells true 1 x.cells))=some (iv',h4)/\InsR h0 h4 iv' (ins ++ [x])/\X94 iv'=true/\∀ c,c < h3.next->Jp iv≠some c->h4.get c=h3.get c:=by
 have n1:=R.a.1;have n3:=a3.1;have o3:Own h3 h0.next 34 iv ins.length (Qek ins):=R.o.keep fun c _ hc=>a3.2 c hc;obtain⟨iv',h4,j1,j2,j3,j4⟩:=Qrk (T30 b) (z:=34) Qn3 (by omega) o3 (al n1 n3) (ys:=x.cells) x.len (by rw[Zmm];omega) (by omega);have lo:∀ c,Jp iv=some c->c < g.next:=fun c hc=>(R.o.from hc).2;refine⟨iv',h4,j1,⟨?_,fun y hy => ?_,fun y hy v hv c hc e => ?_,?_⟩,j2.one,j3.2⟩
 ·rw[Zrt,aj,bQ];have : Qek [x]=x.cells:=by simp[Qek]
  rw[this];exact j2
 ·rcases ac.1 hy with q | q
  ·obtain⟨q1,q2⟩:=R.s y q;exact⟨(q1.old a3).keepV fun v hv c hc hl=>j3.2 c hl (R.d y q v hv c hc),q2⟩
  ·rw[aM.1 q];exact⟨hx.1.keepV fun v hv c hc hl=>j3.2 c hl fun e=>by have:=hx.2 v hv c hc;have:=lo c e;omega,fun v hv c hc=>al n1 (hx.2 v hv c hc)⟩
 ·rcases ac.1 hy with q | q
  ·have:=(R.s y q).1.lt hv hc;exact(j4 c e).elim (R.d y q v hv c hc) fun r=>by omega
  ·rw[aM.1 q]at hv;have:=hx.2 v hv c hc;have:=hx.1.lt hv hc;exact(j4 c e).elim (fun r=>by have:=lo c r;omega) fun r=>by omega
 ·exact j3.old (R.a.trans a3) o3
def Zy6(b:Nat)(p:Pt){v:Value}(hv:X94 v=true):Qmn (E b).toEnv 71 [(0,.agg ⟨p.cells⟩),(1,v)]=some (.agg ⟨p.cells ++ [v]⟩):=by
 obtain⟨fs,pl,hfs,hpl,hp0,hp1⟩:∃ fs pl,R71.desc=.struct fs/\Q0n (E b).toEnv fs.toList=some pl/\nth pl 0=some (0,33)/\nth pl 1=some (33,1) :=
  ⟨(match R71.desc with | .struct fs=>fs | _ => #[]),(Q0n (E b).toEnv (match R71.desc with | .struct fs=>fs | _ => #[]).toList).getD [],by kernel_rfl,by kernel_rfl,by kernel_rfl,by kernel_rfl⟩
 obtain⟨zz,ez,hz,hzd⟩:∃ zz:List Value,zz=R71.zero.cells.toList/\zz.length=34/\zz.drop 33=[.slice none 0 0]:=⟨_,rfl,by kernel_rfl,by kernel_rfl⟩;have e2:(Qh8 (.agg ⟨p.cells⟩) && (Value.agg ⟨p.cells⟩).cells.size == 33 && Nat.ble (0+33) zz.length)=true:=by
  have h1:(Value.agg ⟨p.cells⟩).cells.size=33:=p.len;rw[h1,hz];rfl
 have e3:Qky zz 0 (Value.agg ⟨p.cells⟩).cells.toList=some (p.cells++zz.drop 33):=by
  show Qky zz 0 p.cells=_;rw[Qpl (by rw[p.len,hz];omega)];simp[p.len]
 obtain⟨n1,n2⟩:=Qzo hv;have l4:(p.cells ++ [.slice none 0 0]:List Value).length=34:=by simp[p.len]
 have e4:(Qh8 v && v.cells.size == 1 && Nat.ble (33+1) (p.cells ++ [.slice none 0 0]:List Value).length)=true:=by
  rw[n1,n2,l4];rfl
 have e5:Qky (p.cells ++ [.slice none 0 0]:List Value) 33 v.cells.toList=some (p.cells ++ [v]):=by
  rw[n2];show Qky _ 33 [v]=_;rw[Qpl (by rw[l4];exact ae _)];have lp:=p.len;simp[<- lp]
 simp only[Qmn,Y9d,hfs,hpl,<- ez,Xq8,hp0,hp1,e2,if_true,e3,hzd,e4,e5,az]
def CII(h:Heap)(sv:Value)(l:List InV)(k:Nat)(s:St):Prop:=∃ (t:Tr Value) (g:Heap) (iv:Value) (ins:List InV) (i:Nat),s=⟨⟨27,t⟩,[],g⟩/\t.get 0=some sv/\t.get 3=some iv/\t.get 4=some (.int .i64 (i:Int))/\i<=l.length/\k=l.length-i/\ins.length=i/\InsR h g iv ins/\ins.map InV.p=(l.take i).map InV.p
section
attribute [local simp] Qmg Qt6 Qgu Qoy Qp8 Qp9 W9 Xt Vd Wn Qd7 Qh9 Qcr Xx
set_option maxHeartbeats 1000000 in
def Zxi(b:Nat){h:Heap}{sv:Value}{l:List InV}(si:Ins h sv l)(K:KP)(hk:∀ iv ins h',InsR h h' iv ins->ins.map InV.p=l.map InV.p->K (.ret iv) h'):FK b 55 [sv] h K:=by
 refine FF b (Qgu b) Ymd Zcc Y38 rfl ?_;have hn:=si.n;have len:∀ hx,Qnm (E b).toEnv 30 sv hx=some (.int .i64 (l.length:Int)):=fun hx=>Qca (T30 b) si.s;simp;refine Qfw (CII h sv l) l.length ⟨_,h,.slice none 0 0,[],0,rfl,by simp,by simp,by simp,by omega,rfl,rfl,InsR.nil h,by simp⟩ ?_;rintro k s' ⟨t,g,iv,ins,i,rfl,t0,t3,t4,hi,rfl,hil,R,hp⟩ _;by_cases hlt:i < l.length
 ·have hlt':(i:Int) < (l.length:Int):=by omega
  have hw:=wS (i:=i) (by omega);obtain⟨x,hx⟩:∃ x,l[i]? = some x:=⟨_,ab hlt⟩;have sg:=si.old R.a;obtain⟨bk,off, -,x1, -,x3⟩:=Ycb (b:=b) (T30 b) Qn3 sg.s hx;have x2:=Jc3 (b:=b) sg.s hx x1;have x4:=x3 33 (by omega);rw[Jgg]at x4;have xa:=sg.a x (ak hx);obtain⟨_,h2,c1,n1,o,out,rfl,q1,q2,q3,q4,a2⟩:=Zx7 b xa.w (by have:=xa.n;omega) xa.i (fun p hp=>by have:=xa.l p hp;omega) (fun r h' => ∃ o out,r=.ret o/\Own h' g.next 1 o x.its.length (out.map (·.1))/\out.map (·.2)=x.its.map (·.2)/\ItsAt h' out/\(∀ p ∈ out,∀ c,Jp p.1=some c->g.next<=c/\Jp o≠some c)/\Old g h') (fun o out h' a1 a2 a3 a4 a5=>⟨o,out,rfl,a1,a2,a3,a4,a5⟩);have lo:out.length=x.its.length:=by have:=congrArg List.length q2;simpa using this
  obtain⟨y,ey⟩:∃ y:InV,y=⟨x.pt,o,out⟩:=⟨_,rfl⟩;have yn:InN h2 g.next y:=by
   rw[ey];refine⟨⟨by show Sl h2 1 o out.length _;rw[lo];exact q1.sl,q3,by show out.length < _;rw[lo];exact xa.n,fun p hp => ?_⟩,fun v hv c hc => ?_⟩
   ·have : p.2 ∈ x.its.map (·.2):=by rw[<- q2];exact av.2 ⟨p,hp,rfl⟩
    obtain⟨r,hr,e⟩:=av.1 this;rw[<- e];exact xa.l r hr
   ·rcases ax.1 hv with rfl | hv
    ·exact(q1.from hc).1
    ·obtain⟨p,hp,rfl⟩:=av.1 hv;exact(q4 p hp c hc).1
  have yc:y.cells=x.pt.cells ++ [o]:=by rw[ey];rfl
  obtain⟨iv',h4,j1,R4, -, -⟩:=R.more b (by omega) a2 yn;rw[yc]at j1;have bl:Vx (E b).toEnv 30 1 [(0,.agg ⟨x.pt.cells ++ [o]⟩)] h2=some (.slice (some ⟨h2.next,0,none⟩) 1 1,h2.push (.cells true 1 (x.pt.cells ++ [o]))):=Q7b (T30 b) (z:=34) (y:=.agg ⟨x.pt.cells ++ [o]⟩) (ys:=x.pt.cells ++ [o]) Qn3 (by omega) (by omega) rfl rfl (by simp[Pt.len]);simp[t0,t3,t4,len,hlt'];have x2':Qbn h2 bk off 33=some (.agg ⟨x.pt.cells⟩):=by
   have:=Jc3 (b:=b) (sg.old a2).s hx x1;exact this
  have x4':J6 h2 bk (off+33)=some x.wv:=by
   have sg2:=sg.old a2;obtain⟨bk',off', -,y1, -,y3⟩:=Ycb (b:=b) (T30 b) Qn3 sg2.s hx;rw[x1]at y1;cases y1;have:=y3 33 (by omega);rw[Jgg]at this;exact this
  refine Qh6 [⟨86,[x.wv],g,o,h2,true⟩] ?_ X38 Yaw X5t (by simp[Ydl,Yd1,Yde,t0,t3,t4,x1,x2,x4,Zy6 b x.pt q1.one,bl,j1];first | exact⟨rfl,rfl⟩ | rfl) ?_ ?_
  ·exact zk1 ⟨c1,n1,fun _ c hc=>a2.2 c hc⟩
  ·simp[Qgz,t0,t3,t4,x1,x2,x4,x2',x4',X2k xa.w]
  simp[t0,t3,t4,hw];refine⟨l.length-(i+1),by omega,_,h4,iv',_,i+1,rfl,by simp[t0],by simp,by simp,by omega,rfl,by simp[hil],R4,?_⟩;rw[bm,hx,bw,hp,ey];simp[InV.p,q2]
 ·have hlt':¬ (i:Int) < (l.length:Int):=by omega
  have : i=l.length:=by omega
  subst this;simp[t0,t3,t4,len];rw[bO]at hp;exact hk iv ins g R hp
end
def COI(h:Heap)(sv:Value)(l:List OutV)(k:Nat)(s:St):Prop:=∃ (t:Tr Value) (g:Heap) (ov:Value) (os:List OutV) (i:Nat),s=⟨⟨27,t⟩,[],g⟩/\t.get 0=some sv/\t.get 3=some ov/\t.get 4=some (.int .i64 (i:Int))/\i<=l.length/\k=l.length-i/\os.length=i/\OutsR h g ov os/\os.map OutV.p=(l.take i).map OutV.p
section
attribute [local simp] Qkm Qqu Qfd Qno Qnq Qnl Qbp Xt Vb Ut Vi J7 Qaf Xx Qlz Qm1
set_option maxHeartbeats 1000000 in
def Zou(b:Nat){h:Heap}{sv:Value}{l:List OutV}(si:Outs h sv l)(K:KP)(hk:∀ ov os h',OutsR h h' ov os->os.map OutV.p=l.map OutV.p->K (.ret ov) h'):FK b 56 [sv] h K:=by
 refine FF b (Qfd b) Ygq Y1q Yyr rfl ?_;have hn:=si.n;have len:∀ hx,Qnm (E b).toEnv 27 sv hx=some (.int .i64 (l.length:Int)):=fun hx=>Qca (T27 b) si.s;simp;refine Qfw (COI h sv l) l.length ⟨_,h,.slice none 0 0,[],0,rfl,by simp,by simp,by simp,by omega,rfl,rfl,OutsR.nil h,by simp⟩ ?_;rintro k s' ⟨t,g,ov,os,i,rfl,t0,t3,t4,hi,rfl,hil,R,hp⟩ _;by_cases hlt:i < l.length
 ·have hlt':(i:Int) < (l.length:Int):=by omega
  have hw:=wS (i:=i) (by omega);obtain⟨x,hx⟩:∃ x,l[i]? = some x:=⟨_,ab hlt⟩;have sg:=si.old R.a;obtain⟨bk,off, -,x1, -,x2,x3⟩:=Xh4 (b:=b) (T27 b) Qi0 sg.s hx;have xa:=sg.a x (ak hx);obtain⟨_,h2,c1,n1,sv2,rfl,o2,a2⟩:=Zi8 b xa.s (by have:=xa.l;omega) (fun r h' => ∃ v,r=.ret v/\OB h' g.next v x.script/\Old g h') (fun v h' o a=>⟨v,rfl,o,a⟩);obtain⟨ov',h4,j1,R4, -⟩:=R.more b (by omega) a2 (v:=x.value) o2 xa.b xa.l;have sg2:=sg.old a2;obtain⟨bk',off', -,y1, -,y2,y3⟩:=Xh4 (b:=b) (T27 b) Qi0 sg2.s hx;rw[x1]at y1;cases y1;simp[t0,t3,t4,len,hlt'];refine Qh6 [⟨87,[x.sv],g,sv2,h2,true⟩] ?_ Xyy X3b X17 (by simp[Yau,X8x,Yar,t0,t3,t4,x1,x2,x3,Xac b x.value o2.sl,Zc3,j1];first | exact⟨rfl,rfl⟩ | rfl) ?_ ?_
  ·exact zk1 ⟨c1,n1,fun _ c hc=>a2.2 c hc⟩
  ·simp[Qg8,t0,t3,t4,x1,x2,x3,y2,y3,X2k xa.s,Q5c]
  simp[t0,t3,t4,hw];refine⟨l.length-(i+1),by omega,_,h4,ov',_,i+1,rfl,by simp[t0],by simp,by simp,by omega,rfl,by simp[hil],R4,?_⟩;rw[bm,hx,bw,hp];simp[OutV.p]
 ·have hlt':¬ (i:Int) < (l.length:Int):=by omega
  have : i=l.length:=by omega
  subst this;simp[t0,t3,t4,len];rw[bO]at hp;exact hk ov os g R hp
end
structure TxR (h0 g:Heap) (iv ov:Value) (ins:List InV) (outs:List OutV):Prop where
 i:InsR h0 g iv ins
 o:OutsR h0 g ov outs
 d1:∀ c,Jp iv=some c->Jp ov≠some c
 d2:∀ x ∈ outs,∀ c,Jp x.sv=some c->Jp iv≠some c
 ni:ins.length < 1000000
 no:outs.length < 1000000
structure TxFar (N:Nat) (iv ov:Value) (ins:List InV) (outs:List OutV):Prop where
 a:∀ c,Jp iv=some c->N<=c
 b:∀ c,Jp ov=some c->N<=c
 c:∀ x ∈ ins,∀ v ∈ Jbj x,∀ c,Jp v=some c->N<=c
 d:∀ x ∈ outs,∀ c,Jp x.sv=some c->N<=c
def TxR.far{h0 g:Heap}{iv ov:Value}{ins:List InV}{outs:List OutV}(R:TxR h0 g iv ov ins outs):TxFar h0.next iv ov ins outs :=
 ⟨fun c hc=>(R.i.o.from hc).1,fun c hc=>(R.o.o.from hc).1,fun x hx=>(R.i.s x hx).2,fun x hx c hc=>((R.o.s x hx).1.from hc).1⟩
def TxR.keepF{h0 g h1 g':Heap}{N:Nat}{iv ov:Value}{ins:List InV}{outs:List OutV}(R:TxR h0 g iv ov ins outs)(F:TxFar N iv ov ins outs)(hn:h1.next<=N)(k:∀ c,N<=c->c < g.next->g'.get c=g.get c)(a:Old h1 g')(h0n:h1.next<=h0.next):TxR h1 g' iv ov ins outs :=
  ⟨⟨(R.i.o.low h0n).keep fun c hc hl=>k c (F.a c hc) hl,fun x hx=>⟨(R.i.s x hx).1.keepV fun v hv c hc hl=>k c (F.c x hx v hv c hc) hl,fun v hv c hc=>al hn (F.c x hx v hv c hc)⟩,R.i.d,a⟩,
   ⟨(R.o.o.low h0n).keep fun c hc hl=>k c (F.b c hc) hl,fun x hx=>⟨((R.o.s x hx).1.low h0n).keep fun c hc hl=>k c (F.d x hx c hc) hl,(R.o.s x hx).2⟩,R.o.d,a⟩,R.d1,R.d2,R.ni,R.no⟩
def Zyc(b:Nat){iv ov:Value}(h1:X94 iv=true)(h2:X94 ov=true)(lock:Int):Qmn (E b).toEnv 32 [(0,iv),(1,ov),(2,.int .i64 lock)]=some (.agg ⟨txC iv ov lock⟩):=by
 obtain⟨n1,n2⟩:=Qzo h1;obtain⟨m1,m2⟩:=Qzo h2;obtain⟨fs,pl,hfs,hpl,hp0,hp1,hp2⟩:∃ fs pl,R32.desc=.struct fs/\Q0n (E b).toEnv fs.toList=some pl/\nth pl 0=some (0,1)/\nth pl 1=some (1,1)/\nth pl 2=some (2,1) :=
  ⟨(match R32.desc with | .struct fs=>fs | _ => #[]),(Q0n (E b).toEnv (match R32.desc with | .struct fs=>fs | _ => #[]).toList).getD [],by kernel_rfl,by kernel_rfl,by kernel_rfl,by kernel_rfl,by kernel_rfl⟩
 obtain⟨zz,ez,hz⟩:∃ zz:List Value,zz=R32.zero.cells.toList/\zz=[.slice none 0 0,.slice none 0 0,.int .i64 0]:=⟨_,rfl,by kernel_rfl⟩;have s0:Qky [.slice none 0 0,.slice none 0 0,.int .i64 0] 0 [iv]=some [iv,.slice none 0 0,.int .i64 0]:=rfl;have s1:Qky [iv,.slice none 0 0,.int .i64 0] 1 [ov]=some [iv,ov,.int .i64 0]:=rfl;have s2:Qky [iv,ov,.int .i64 0] 2 [.int .i64 lock]=some [iv,ov,.int .i64 lock]:=rfl;have c3:(Value.int .i64 lock).cells = #[.int .i64 lock]:=rfl;have t3:Qh8 (Value.int .i64 lock)=true:=rfl;simp[Qmn,Zju,hfs,hpl,<- ez,hz,Xq8,hp0,hp1,hp2,n1,n2,m1,m2,s0,s1,s2,c3,t3,txC]
section
attribute [local simp] Qur Q9h Qde Jc Qa5 Qgu Jt Qba Qfd Qb8 Ut Qci
set_option maxHeartbeats 1000000 in
def Z11(b:Nat){h:Heap}{iv ov:Value}{ins:List InV}{outs:List OutV}{lock:Int}(si:Ins h iv ins)(so:Outs h ov outs)(K:KP)
  (hk:∀ iv2 ov2 ins2 outs2 h',TxR h h' iv2 ov2 ins2 outs2->ins2.map InV.p=ins.map InV.p->outs2.map OutV.p=outs.map OutV.p->K (.ret (.agg ⟨txC iv2 ov2 lock⟩)) h'):FK b 33 [.agg ⟨txC iv ov lock⟩] h K:=by
 refine FF b (Qde b) Ywl Zlz Zf0 rfl ?_;obtain⟨hA,eA⟩:∃ hA,hA=h.push (.cells true 1 (txC iv ov lock)):=⟨_,rfl⟩;have bx:=Q1v eA;have aA:=Qqr eA;have gA:hA.get h.next=some (.cells true 1 (txC iv ov lock)):=by rw[eA,Heap.get_push,if_pos rfl]
 have nA:=Xbt eA;obtain⟨hB,eB⟩:∃ hB,hB=hA.push (.cells true 1 Ybd):=⟨_,rfl⟩;have alB:Qbi (E b).toEnv 32 hA=some (.pointer (some ⟨hA.next,0,none⟩),hB):=by rw[eB];exact Qbb b hA
 have aB:=Qqr eB;have gB:hB.get hA.next=some (.cells true 1 Ybd):=by rw[eB,Heap.get_push,if_pos rfl]
 have nB:hB.next=h.next+2:=by rw[eB];simp only[Qhq,nA]
 have aAB:=aA.trans aB;have c0:∀ {hx:Heap},hx.get h.next=some (.cells true 1 (txC iv ov lock))->J6 hx h.next 0=some iv/\J6 hx h.next 1=some ov/\J6 hx h.next 2=some (.int .i64 lock):=fun g=>⟨by rw[Zd g];rfl,by rw[Zd g];rfl,by rw[Zd g];rfl⟩;have q0:=c0 (aB.get gA);obtain⟨_,h2,c1,n1,iv2,ins2,rfl,R1,e1⟩:=Zxi b (si.old aAB) (fun r h' => ∃ iv2 ins2,r=.ret iv2/\InsR hB h' iv2 ins2/\ins2.map InV.p=ins.map InV.p) (fun iv2 ins2 h' R e=>⟨iv2,ins2,rfl,R,e⟩);have a2:=R1.a;have q2:=c0 (a2.get (aB.get gA));obtain⟨_,h3,c2,n2,ov2,outs2,rfl,R2,e2⟩:=Zou b (so.old (aAB.trans a2)) (fun r h' => ∃ ov2 outs2,r=.ret ov2/\OutsR h2 h' ov2 outs2/\outs2.map OutV.p=outs.map OutV.p) (fun ov2 outs2 h' R e=>⟨ov2,outs2,rfl,R,e⟩);have a3:=R2.a;have q3:=c0 (a3.get (a2.get (aB.get gA)));have l1:ins2.length=ins.length:=by have:=congrArg List.length e1;simpa using this
 have l2:outs2.length=outs.length:=by have:=congrArg List.length e2;simpa using this
 have g3:=a3.get (a2.get gB);have lt3:=Heap.get_lt g3;obtain⟨h4,e4⟩:∃ h4,h4=h3.set hA.next (some (.cells true 1 (txC iv2 ov2 lock))):=⟨_,rfl⟩;have st:Qc9 (E b).toEnv 32 (.pointer (some ⟨hA.next,0,none⟩)) (.agg ⟨txC iv2 ov2 lock⟩) h3=some h4:=by
  rw[Qzh (l:=txC iv2 ov2 lock) (Zju b) (by rw[Xfv];rfl),e4];exact W8 g3 (by simp[Ybd,txC])
 have g4:h4.get hA.next=some (.cells true 1 (txC iv2 ov2 lock)):=by rw[e4,Heap.get_set _ _ _ _ lt3,if_pos rfl]
 have k4:∀ c,c≠hA.next->h4.get c=h3.get c:=fun c hc=>by rw[e4,Heap.get_set _ _ _ _ lt3,if_neg (Ne.symm hc)]
 have ag4:Qbn h4 hA.next 0 3=some (.agg ⟨txC iv2 ov2 lock⟩):=by rw[Vm g4 (by simp[txC])];rfl
 simp[Qbb,bx,-Qbb,alB];refine Qh6 [⟨55,[iv],hB,iv2,h2,true⟩,⟨56,[ov],h2,ov2,h3,true⟩] ?_ X8u Yby X8g (by simp[Yh9,Ymq,Yn1,Yoo,Qbb,q0.1,q2.2.1,q3.2.2,Qq5,Zyc b R1.o.one R2.o.one lock,st];first | exact⟨rfl,rfl⟩ | rfl) ?_ ?_
 ·exact zk2 ⟨c1,n1,fun _ c hc=>a2.2 c hc⟩ ⟨c2,n2,fun _ c hc=>a3.2 c hc⟩
 ·have q4:=c0 ((k4 _ (by omega)).trans (a3.get (a2.get (aB.get gA))));simp[Qfn,Qbb,q0,q2,q3,q4,Q5c,X2k si.s,X2k so.s]
 simp[Qbb,Uf,ag4];have n12:=a2.1;have n13:=a3.1;have far:∀ c,hB.next<=c->h4.get c=h3.get c:=fun c hc=>k4 c (by omega);have oldA:Old h h4:=⟨by rw[e4];show h.next<=h3.next;omega,fun c hc=>by rw[k4 c (by omega),a3.2 c (by omega),a2.2 c (by omega),aAB.2 c hc]⟩;have R1':=R1.old a3;refine hk iv2 ov2 ins2 outs2 h4 ⟨⟨(R1'.o.low aAB.1).keep fun c hc _=>far c (R1'.o.from hc).1,fun x hx=>⟨(R1'.s x hx).1.keepV fun v hv c hc _=>far c ((R1'.s x hx).2 v hv c hc),fun v hv c hc=>al aAB.1 ((R1'.s x hx).2 v hv c hc)⟩,R1.d,oldA⟩,⟨(R2.o.low (al aAB.1 n12)).keep fun c hc _=>far c (al n12 (R2.o.from hc).1),fun x hx=>⟨((R2.s x hx).1.low (al aAB.1 n12)).keep fun c hc _=>far c (al n12 ((R2.s x hx).1.from hc).1),(R2.s x hx).2⟩,R2.d,oldA⟩,fun c hc e => ?_,fun x hx c hc e => ?_,by have:=si.n;omega,by have:=so.n;omega⟩ e1 e2
 ·have:=(R1.o.from hc).2;have:=(R2.o.from e).1;omega
 ·have:=((R2.s x hx).1.from hc).1;have:=(R1.o.from e).2;omega
end
def Z3b{o:Int}(ho:0<=o/\o < 256):(Xud o)[1]? = some o:=by
 simp[Xud,Z0u ho]
section
attribute [local simp] Qv2 Q86 Jm V3 Wh Qvn Qhp Qho Qsj Ji Xv Q0a Qyn Qvy Q1k
set_option maxHeartbeats 1000000 in
def Z71(b:Nat){h:Heap}{sv:Value}{o:Int}(ho:1<=o/\o<=32)(s:SB h sv (Xud o))(K:KP)(hk:∀ h',Old h h'->K (.ret (.tuple #[.int .i64 o,.bool true])) h') :
  CallOK Tryz.prog (E b).G 24 [sv] h K:=by
 refine Qi1 (E b) (Vt _ _) (Ui b) (Jl b) mixed (Un b) (Jm b) Yru Zga Zac rfl ?_;have len:∀ hx,Qnm (E b).toEnv 57 sv hx=some (.int .i64 3):=fun hx=>Qca (T57 b) s;obtain⟨bk,off, -,x1,x2⟩:=Y64 (b:=b) s (k:=.i64) (i:=1) (Z3b (o:=o) (by omega));have hw:IntKind.i64.wrap o=o:=W2 (by omega) (by omega);have hin:inF o 1 32=true:=by unfold inF;exact decide_eq_true ho
 have x1:Jz (E b).toEnv 57 sv (.int .i64 1)=some (.pointer (some ⟨bk,off,none⟩)):=x1;simp only[i8]at x2;simp[len,x1,x2,hw];refine(Z7o b o h _ ?_).ok;simp[hin,len,x1,x2,hw];refine(Zv6 b o h _ fun pv h2 o2 a2 => ?_).ok;simp;refine(Zth b (s.old a2) o2.sl (Xij (by omega)) (Xij (by omega)) _ ?_).ok;obtain⟨bk',off', -,y1,y2⟩:=Y64 (b:=b) (s.old a2) (k:=.i64) (i:=1) (Z3b (o:=o) (by omega));have y1:Jz (E b).toEnv 57 sv (.int .i64 1)=some (.pointer (some ⟨bk',off',none⟩)):=y1;simp only[i8]at y2;simp[y1,y2,hw];exact hk h2 a2
end
def Xlq(tg:List Nat):List (List Int):=[X5g tg]
def Z63(b:Nat){tg:List Nat}(ht:tg.length=16)(bt:∀ n ∈ tg,n < 256)(h:Heap)(K:KP)(hk:∀ wv its h',WitNew h' h.next wv its (Xlq tg)->Old h h'->K (.ret wv) h') :
  FK b 48 [.agg ⟨tg.map u8v⟩] h K:=by
 refine FF b (Qh2 b) Yzh Zlo Zdq rfl ?_;obtain⟨hA,eA,aA,gA⟩:=Xcl h ((tg.map u8v));have bxA:=Q1v eA;obtain⟨v1,ev1⟩:∃ v:Value,v=.slice (some ⟨h.next,0,none⟩) 16 16:=⟨_,rfl⟩;obtain⟨hD,eD⟩:∃ hD,hD=hA.push (.cells true 1 [v1]):=⟨_,rfl⟩;have aD:=Qqr eD;have bl2:Vx (E b).toEnv 69 1 [(0,v1)] hA=some (.slice (some ⟨hA.next,0,none⟩) 1 1,hD):=by rw[eD,ev1];kernel_rfl
 have sl1:∀ hx,Qgc (E b).toEnv 101 (.pointer (some ⟨h.next,0,none⟩)) none none none hx=some (v1,hx):=fun hx=>by rw[ev1];exact Z79 b _ _ hx
 simp[X02,Y9j,Qh2,bxA,sl1,bl2];refine hk _ [(v1,X5g tg)] hD ⟨?_,fun p hp => ?_,rfl⟩ (aA.trans aD)
 ·exact Own.new (z':=1) (n:=1) (by rw[eA];simp only[Qhq];omega) (by rw[eD,Heap.get_push,if_pos rfl];rfl) rfl (by decide) (.inr rfl)
 ·rw[aM.1 hp];refine⟨?_,Y77 tg bt⟩;have l:(X5g tg).length=16:=by simp[X5g,ht]
  have:=Own.new (n0:=h.next) (z:=1) (n:=16) (c:=16) (ae _) (aD.get gA) (by simp[ht]) (by decide) (.inr rfl);show Own hD h.next 1 v1 (X5g tg).length ((X5g tg).map i8);rw[l,ev1,<- Z1h];exact this
def WitNew.inN{h:Heap}{n0:Nat}{p:Pt}{wv:Value}{its:List (Value × List Int)}{w:List (List Int)}(a:WitNew h n0 wv its w)(hw:w.length < 1000000)(hl:∀ x ∈ w,x.length < 1000000):InN h n0 ⟨p,wv,its⟩ :=
 ⟨a.inAt hw hl,fun v hv c hc=>by
  rcases ax.1 hv with rfl | hv
  ·exact(a.s.from hc).1
  ·obtain⟨q,hq,rfl⟩:=av.1 hv;exact((a.i q hq).1.from hc).1⟩
def InsR.set{h0 g g2:Heap}{iv:Value}{new rest:List InV}{x:InV}(R:InsR h0 g iv (new++x::rest))(a:Old g g2){wv:Value}{its:List (Value × List Int)}(hx:InN g2 g.next ⟨x.pt,wv,its⟩){bk:Nat}(hb:Jp iv=some bk) :
  ∃ h3,Ur g2 bk (new.length*34+33) [wv]=some h3/\InsR h0 h3 iv (new++⟨x.pt,wv,its⟩::rest)/\h3.next=g2.next/\∀ c,c≠bk->h3.get c=g2.get c:=by
 have o2:Own g2 h0.next 34 iv (new++x::rest).length (Qek (new++x::rest)):=R.o.keep fun c _ hc=>a.2 c hc;have lc:(Qek (new++x::rest)).length=(new++x::rest).length*34:=X9j _;obtain⟨h3,s1,s2,s3,s4⟩:=Q0e o2 hb (i:=new.length*34+33) (by rw[lc,aj,bI];omega) wv;rw[Jek new rest x wv its]at s2;have lb:=R.o.from hb;refine⟨h3,s1,⟨?_,fun y hy => ?_,fun y hy v hv c hc e => ?_,⟨by rw[s3];exact al R.a.1 a.1,fun c hc=>by rw[s4 c (by omega),a.2 c (aw hc R.a.1),R.a.2 c hc]⟩⟩,s3,s4⟩
 ·have : (new++⟨x.pt,wv,its⟩::rest).length=(new++x::rest).length:=by simp
  rw[this];exact s2
 ·have key:∀ y ∈ new++x::rest,InN h3 h0.next y:=fun y hy=>by
   obtain⟨q1,q2⟩:=R.s y hy;exact⟨(q1.old a).keepV fun v hv c hc _=>s4 c fun e=>R.d y hy v hv c hc (by rw[hb,e]),q2⟩
  rcases ac.1 hy with q | q
  ·exact key y (ac.2 (.inl q))
  ·rcases ax.1 q with rfl | q
   ·exact⟨hx.1.keepV fun v hv c hc _=>s4 c fun e=>by have:=hx.2 v hv c hc;omega,fun v hv c hc=>al R.a.1 (hx.2 v hv c hc)⟩
   ·exact key y (ac.2 (.inr (bb _ q)))
 ·rcases ac.1 hy with q | q
  ·exact R.d y (ac.2 (.inl q)) v hv c hc e
  ·rcases ax.1 q with rfl | q
   ·have:=hx.2 v hv c hc;have:=(R.o.from e).2;omega
   ·exact R.d y (ac.2 (.inr (bb _ q))) v hv c hc e
def eqRow_u8':∀ l:List Nat,Y1e (l.map u8v) (l.map u8v)=true
 | []=>rfl
 | x::l=>by simp[Y1e,u8v,Xcn,Yhj,eqRow_u8' l]
def Z4g(l:List Nat):X05 (some (.agg ⟨l.map u8v⟩)) (some (.agg ⟨l.map u8v⟩))=true:=by simp[X05,Y5o,eqRow_u8']
def Zg8{h:Heap}{z n:Nat}{v:Value}{xs:List Value}(o:Sl h z v n xs):Xcn v v=true:=by
 rcases o with⟨c,rfl,_⟩ | ⟨bk,o,c,ow,z',pre,post,rfl,_⟩
 ·simp[Xcn,X6g]
 ·simp[Xcn,X6g]
def Zyv{h:Heap}{z n z2 n2:Nat}{v w:Value}{xs ys:List Value}(o:Sl h z v n xs)(o2:Sl h z2 w n2 ys)(lock:Int):X05 (some (.agg ⟨txC v w lock⟩)) (some (.agg ⟨txC v w lock⟩))=true:=by
 have e3:Xcn (.int .i64 lock) (.int .i64 lock)=true:=by simp[Xcn,Yhj]
 show Y1e [v,w,.int .i64 lock] [v,w,.int .i64 lock]=true;simp only[Y1e,Zg8 o,Zg8 o2,e3,Bool.and_true]
def Zgo{tg:List Nat}(ht:tg.length=16):(Xlq tg).length < 1000000/\∀ x ∈ Xlq tg,x.length < 1000000:=by
 refine⟨by simp[Xlq],fun x hx => ?_⟩;simp only[Xlq,aM]at hx;subst hx;simp[X5g,ht]
def Jey{ins new:List InV}{outs outs2:List OutV}{lock:Int}{w:List (List Int)}(h1:new.map (·.pt)=ins.map (·.pt))(h2:∀ y ∈ new,y.its.map (·.2)=w)(h3:outs2.map OutV.p=outs.map OutV.p):ptx new outs2 lock=X1y (ptx ins outs lock) w:=by
 unfold ptx X1y;rw[h3];congr 1;have e1:∀ l:List InV,(∀ y ∈ l,y.its.map (·.2)=w)->l.map InV.p=(l.map (·.pt)).map fun p=>(⟨p,w⟩:PIn):=by
  intro l;induction l with
  | nil=>intro _;rfl
  | cons y l ih =>
   intro hl;simp only[aR];rw[ih fun z hz=>hl z (by simp[hz])];simp only[InV.p,hl y (by simp)]
 rw[e1 new h2,h1];simp[ce];intro a _;rfl
def Jfp(t:PTx)(o:Int):PTx:=X1y t (Xlq (Qyt (Xz0 Q0s o) (dgF X5i t)))
def SGI(h:Heap)(N T D:Nat)(iv ov:Value)(lock:Int)(l:List InV)(outs:List OutV)(tg:List Nat)(k:Nat)(s:St):Prop:=∃ (t:Tr Value) (g:Heap) (new:List InV) (i:Nat),s=⟨⟨29,t⟩,[],g⟩/\t.get 2=some (.pointer (some ⟨T,0,none⟩))/\t.get 4=some (.pointer (some ⟨T+1,0,none⟩))/\t.get 5=some (.pointer (some ⟨D,0,none⟩))/\t.get 6=some (.int .i64 (i:Int))/\i<=l.length/\k=l.length-i/\g.get T=some (.cells true 1 (txC iv ov lock))/\g.get (T+1)=some (.cells true 1 Ybd)/\g.get D=some (.cells true 1 (tg.map u8v))/\new.length=i/\new.map (·.pt)=(l.take i).map (·.pt)/\(∀ y ∈ new,y.its.map (·.2)=Xlq tg)/\TxR h g iv ov (new++l.drop i) outs/\TxFar N iv ov (new++l.drop i) outs/\N<=g.next
section
attribute [local simp] Qcm Qgs Zf Wc Uf Vl J5 Qwe Q2o Qde Qci Jc Qa5 W9 Xt Qhg Qh2 Qd7 Qn0 Xx
set_option maxHeartbeats 2000000 in
def Zyo(b:Nat){h:Heap}(laid:Ab.LaidIn h laidAll){iv ov:Value}{ins:List InV}{outs:List OutV}{lock:Int}(si:Ins h iv ins)(so:Outs h ov outs)(hp:∀ x ∈ ins,PtB x.pt){o:Int}(h1:1<=o)(h2:o<=32)(K:KP)
  (hk:∀ iv2 ov2 ins2 outs2 h',TxR h h' iv2 ov2 ins2 outs2->ptx ins2 outs2 lock=Jfp (ptx ins outs lock) o->ins2.map (·.pt)=ins.map (·.pt)->K (.ret (.agg ⟨txC iv2 ov2 lock⟩)) h') :
  CallOK Tryz.prog (E b).G 25 [.agg ⟨txC iv ov lock⟩,.int .i64 o] h K:=by
 refine Qi1 (E b) (Vt _ _) (Ui b) (Jl b) mixed (Un b) (Zf b) Yi0 Y1o Yvh rfl ?_;have hn:=si.n;obtain⟨hA,eA⟩:∃ hA,hA=h.push (.cells true 1 (txC iv ov lock)):=⟨_,rfl⟩;have bx:=Q1v eA;have aA:=Qqr eA;have gA:hA.get h.next=some (.cells true 1 (txC iv ov lock)):=by rw[eA,Heap.get_push,if_pos rfl]
 have nA:=Xbt eA;obtain⟨hB,eB⟩:∃ hB,hB=hA.push (.cells true 1 Ybd):=⟨_,rfl⟩;have alB:Qbi (E b).toEnv 32 hA=some (.pointer (some ⟨h.next+1,0,none⟩),hB):=by rw[eB,<- nA];exact Qbb b hA
 have aB:=Qqr eB;have gB:hB.get (h.next+1)=some (.cells true 1 Ybd):=by rw[eB,Heap.get_push,if_pos nA]
 have nB:hB.next=h.next+2:=by rw[eB];simp only[Qhq,nA]
 have aAB:=aA.trans aB;have ldT:∀ {hx B iv ov lock},hx.get B=some (.cells true 1 (txC iv ov lock))->Qbn hx B 0 3=some (.agg ⟨txC iv ov lock⟩):=fun g=>by rw[Vm g (by simp[txC])];rfl
 have gT:=aB.get gA;obtain⟨_,k1,c1,n1,ν,rfl,g1,hn1,a1⟩:=Y7q b (Laid.old laid aAB) (fun r h' => ∃ ν,r=.ret (.pointer (some ⟨ν,0,none⟩))/\h'.get ν=some (.cells true 1 (Q0s.map u8v))/\hB.next<=ν/\Old hB h') (fun ν h' g n a=>⟨ν,rfl,g,n,a⟩);obtain⟨dg,edg⟩:∃ dg,dg=dgF X5i (ptx ins outs lock):=⟨_,rfl⟩;have dl:dg.length=32:=by rw[edg];exact Yaf _ _
 obtain⟨_,k2,c2,n2,rfl,a2⟩:=Zgx b (lock:=lock) (Laid.old laid (aAB.trans a1)) (si.old (aAB.trans a1)) (so.old (aAB.trans a1)) hp (fun r h'=>r=.ret (.agg ⟨dg.map u8v⟩)/\Old k1 h') (fun h' a=>⟨by rw[edg],a⟩);have aB2:=a1.trans a2;obtain⟨tg,htg⟩:∃ tg,tg=Qyt (Xz0 Q0s o) dg:=⟨_,rfl⟩;have tl:tg.length=16:=by rw[htg];exact Ysq _ _
 have tb:∀ n ∈ tg,n < 256:=by rw[htg];exact Z6m _ _
 obtain⟨_,k3,c3,n3,rfl,a3⟩:=Z3l b (Xkd (Laid.old laid (aAB.trans aB2))) h1 h2 (a2.get g1) Zj9 dl (fun r h'=>r=.ret (.agg ⟨tg.map u8v⟩)/\Old k2 h') (fun h' a=>⟨by rw[htg],a⟩);have aB3:=aB2.trans a3;obtain⟨hE,eE⟩:∃ hE,hE=k3.push (.cells true 1 z16):=⟨_,rfl⟩;have alE:Qbi (E b).toEnv 101 k3=some (.pointer (some ⟨k3.next,0,none⟩),hE):=by rw[eE];exact Qwe b k3
 have gE:hE.get k3.next=some (.cells true 1 z16):=by rw[eE,Heap.get_push,if_pos rfl]
 have lE:=Heap.get_lt gE;obtain⟨hG,eG⟩:∃ hG,hG=hE.set k3.next (some (.cells true 1 (tg.map u8v))):=⟨_,rfl⟩;have stG:Ur hE k3.next 0 (tg.map u8v)=some hG:=by
  rw[W8 gE (by simp[z16,tl]),eG];congr 4;simp[z16,tl]
 have stG':Qc9 (E b).toEnv 101 (.pointer (some ⟨k3.next,0,none⟩)) (.agg ⟨tg.map u8v⟩) hE=some hG:=by
  rw[Qzh (l:=tg.map u8v) (Ztq b) (by rw[Yvk];simp[tl])];exact stG
 have gG:hG.get k3.next=some (.cells true 1 (tg.map u8v)):=by rw[eG,Heap.get_set _ _ _ _ lE,if_pos rfl]
 have aG:Old k3 hG:=by rw[eG,eE];exact(Old.push _ _).set _ (ae _) (by rw[<- eE];exact lE)
 have aBG:=aB3.trans aG;simp[Qbb,bx,-Qbb,alB];refine Qh6 [⟨21,[],hB,.pointer (some ⟨ν,0,none⟩),k1,true⟩,⟨47,[.agg ⟨txC iv ov lock⟩],k1,.agg ⟨dg.map u8v⟩,k2,true⟩,⟨46,[.pointer (some ⟨ν,0,none⟩),.int .i64 o,.agg ⟨dg.map u8v⟩],k2,.agg ⟨tg.map u8v⟩,k3,true⟩] ?_ X1w X47 Xym (by simp[X8n,Yd8,Qbb,ldT gT,ldT (a1.get gT),Qq5,-Qwe,alE,stG'];first | exact⟨rfl,rfl⟩ | rfl) ?_ ?_
 ·exact zk3 ⟨c1,n1,fun _ c hc=>a1.2 c hc⟩ ⟨c2,n2,fun _ c hc=>a2.2 c hc⟩ ⟨c3,n3,fun _ c hc=>a3.2 c hc⟩
 ·simp[Qkl,Qbb,ldT gT,ldT (a1.get gT),ldT (aB2.get gT),ldT (aB3.get gT),ldT (aBG.get gT),Zyv si.s so.s]
 have gTG:=aBG.get gT;simp[Qbb,ldT gTG];have aHG:=aAB.trans aBG;refine(Z11 b (lock:=lock) (si.old aHG) (so.old aHG) _ fun iv2 ov2 ins2 outs2 h5 R e1 e2 => ?_).ok;have a5:=R.i.a;have gT5:=a5.get gTG;have lT5:=Heap.get_lt gT5;obtain⟨h6,e6⟩:∃ h6,h6=h5.set h.next (some (.cells true 1 (txC iv2 ov2 lock))):=⟨_,rfl⟩;have st6:Ur h5 h.next 0 (txC iv2 ov2 lock)=some h6:=by
  rw[e6,W8 gT5 (by simp[txC])];simp[txC]
 have k6:∀ c,c≠h.next->h6.get c=h5.get c:=fun c hc=>by rw[e6,Heap.get_set _ _ _ _ lT5,if_neg (Ne.symm hc)]
 have gT6:h6.get h.next=some (.cells true 1 (txC iv2 ov2 lock)):=by rw[e6,Heap.get_set _ _ _ _ lT5,if_pos rfl]
 have tlc:(txC iv2 ov2 lock).length=3:=rfl;have ltD:=Heap.get_lt gG;have ltT:=Heap.get_lt gTG;have ltB:=Heap.get_lt (aBG.get gB);have far:∀ c,hG.next<=c->h6.get c=h5.get c:=fun c hc=>k6 c (by omega);have old6:Old h h6:=⟨by rw[e6];exact al aHG.1 a5.1,fun c hc=>by rw[k6 c (by omega),a5.2 c (aw hc aHG.1),aHG.2 c hc]⟩;have hGn:=aHG.1;have R6:TxR h h6 iv2 ov2 ins2 outs2:=R.keepF R.far aHG.1 (fun c hc _=>far c hc) old6 aHG.1;have ivN:∀ c,Jp iv2=some c->hG.next<=c:=fun c hc=>(R.i.o.from hc).1;have gB6:h6.get (h.next+1)=some (.cells true 1 Ybd):=by rw[k6 _ (by omega)];exact a5.get (aBG.get gB)
 have gD6:h6.get k3.next=some (.cells true 1 (tg.map u8v)):=by rw[k6 _ (by have:=aAB.1;have:=aB3.1;omega)];exact a5.get gG
 have l2:ins2.length=ins.length:=by have:=congrArg List.length e1;simpa using this
 have lenI:∀ hx,Qnm (E b).toEnv 30 iv2 hx=some (.int .i64 (ins2.length:Int)):=fun hx=>Qca (T30 b) R6.i.o.sl;have cI:∀ {hx},hx.get h.next=some (.cells true 1 (txC iv2 ov2 lock))->J6 hx h.next 0=some iv2:=fun g=>by rw[Zd g];rfl
 simp[Qbb,tlc,st6];refine Qfw (SGI h hG.next h.next k3.next iv2 ov2 lock ins2 outs2 tg) ins2.length ⟨_,h6,[],0,rfl,by simp,by simp,by simp,by simp,by omega,rfl,gT6,gB6,gD6,rfl,by simp,by simp,by simpa using R6,by simpa using R.far,by rw[e6];exact a5.1⟩ ?_;rintro k s' ⟨t,hx,new,i,rfl,t2,t4,t5,t6,hi,rfl,gX,gX2,gX3,hnl,hnp,hnw,RX,FX,hNx⟩ -;by_cases hlt:i < ins2.length
 ·have hlt':(i:Int) < (ins2.length:Int):=by omega
  have hw':=wS (i:=i) (by omega);obtain⟨x,hxi⟩:∃ x,ins2[i]? = some x:=⟨_,ab hlt⟩;have hd:ins2.drop i=x::ins2.drop (i+1):=by
   rw[bD hlt];rw[ab hlt]at hxi;rw[bB hxi]
  rw[hd]at RX FX;obtain⟨_,hy,q1,n1',wv,its,rfl,wn,ay⟩:=Z63 b tl tb hx (fun r h' => ∃ wv its,r=.ret wv/\WitNew h' hx.next wv its (Xlq tg)/\Old hx h') (fun wv its h2 w a=>⟨wv,its,rfl,w,a⟩);obtain⟨w1,w2⟩:=Zgo tl;have RY:=RX.i.old ay;have lenX:(new++x::ins2.drop (i+1)).length=ins2.length:=by rw[<- hd,aj,bH,hnl];omega
  have oY:=RY.o;rw[lenX]at oY;obtain⟨bk,y1,y2, -⟩:=Je7 (b:=b) (T30 b) Qn3 oY (k:=.i64) (i:=(i:Int)) (by omega) (by omega);rw[bn]at y2;have bkN:=ivN bk y1;obtain⟨h3,s1,s2,s3,s4⟩:=RX.i.set ay (x:=x) (wn.inN w1 w2) y1;rw[hnl]at s1;have tagx:∀ {hz:Heap},hz.get k3.next=some (.cells true 1 (tg.map u8v))->Qbn hz k3.next 0 16=some (.agg ⟨tg.map u8v⟩):=fun g=>agW g (by simp[tl]) (by simp[tl]);have gXy:=ay.get gX;have sWv:=wn.s;have g3:h3.get h.next=some (.cells true 1 (txC iv2 ov2 lock)):=by rw[s4 _ (by omega)];exact gXy
  have g32:h3.get (h.next+1)=some (.cells true 1 Ybd):=by rw[s4 _ (by omega)];exact ay.get gX2
  have g33:h3.get k3.next=some (.cells true 1 (tg.map u8v)):=by rw[s4 _ (by omega)];exact ay.get gX3
  simp[Qbb,t2,t4,t5,t6,cI gX,lenI,hlt,hlt'];refine Qh6 [⟨48,[.agg ⟨tg.map u8v⟩],hx,wv,hy,true⟩] ?_ Xyu X4m X0c (by simp[Yb1,Yfo,Ydg,Qbb,t2,t4,t5,t6,cI gX,tagx gX3,y2,Z99,sWv.one,s1];exact⟨rfl,rfl⟩) ?_ ?_
  ·exact zk1 ⟨q1,n1',fun _ c hc=>ay.2 c hc⟩
  ·simp[Qfz,Qbb,t2,t4,t5,t6,cI gX,cI gXy,cI g3,tagx gX3,tagx (ay.get gX3),tagx g33,Xy1 RX.i.o,Z4g]
  simp[Qbb,t2,t4,t5,t6,hw'];have tk:(ins2.take (i+1)).map (·.pt)=(ins2.take i).map (·.pt) ++ [x.pt]:=by rw[bm,hxi];simp
  have e3:new ++ [(⟨x.pt,wv,its⟩:InV)]++ins2.drop (i+1)=new++⟨x.pt,wv,its⟩::ins2.drop (i+1):=by simp
  have lt3:∀ x ∈ outs2,∀ c,Jp x.sv=some c->c≠bk:=fun z hz c hc e=>RX.d2 z hz c hc (by rw[y1,e]);refine⟨ins2.length-(i+1),by omega,_,h3,new ++ [⟨x.pt,wv,its⟩],i+1,rfl,by simp[t2],by simp[t4],by simp[t5],by simp,by omega,rfl,g3,g32,g33,by simp[hnl],by rw[bw,hnp,tk];rfl,fun y hy' => ?_,?_⟩
  ·rcases ac.1 hy' with q | q
   ·exact hnw y q
   ·rw[aM.1 q];exact wn.e
  ·rw[e3];have RO:=RX.o.old ay;refine⟨⟨s2,⟨RO.o.keep fun c hc _=>s4 c fun e=>RX.d1 bk y1 (by rw[hc,e]),fun z hz=>(RO.s z hz).keep fun c hc _=>s4 c (lt3 z hz c hc),RO.d,s2.a⟩,RX.d1,RX.d2,by have:=RX.ni;rw[lenX]at this;rw[aj,bI,bH,hnl];omega,RX.no⟩,⟨FX.a,FX.b,fun y hy' v hv c hc => ?_,FX.d⟩,by rw[s3];exact al hNx ay.1⟩;rcases ac.1 hy' with q | q
   ·exact FX.c y (ac.2 (.inl q)) v hv c hc
   ·rcases ax.1 q with rfl | q
    ·have:=(wn.inN (p:=x.pt) w1 w2).2 v hv c hc;omega
    ·exact FX.c y (ac.2 (.inr (bb _ q))) v hv c hc
 ·have hlt':¬ (i:Int) < (ins2.length:Int):=by omega
  have hil:i=ins2.length:=by omega
  subst hil;rw[bO]at hnp;rw[dz,dh]at RX FX;have lX2:=Heap.get_lt gX2;obtain⟨h9,e9⟩:∃ h9,h9=hx.set (h.next+1) (some (.cells true 1 (txC iv2 ov2 lock))):=⟨_,rfl⟩;have st9:Ur hx (h.next+1) 0 (txC iv2 ov2 lock)=some h9:=by rw[e9,W8 gX2 (by simp[Ybd,txC])];rfl
  have ld9:Qbn h9 (h.next+1) 0 3=some (.agg ⟨txC iv2 ov2 lock⟩):=ldT (by rw[e9,Heap.get_set _ _ _ _ lX2,if_pos rfl]);simp[Qbb,t2,t4,t5,t6,cI gX,lenI,ldT gX,tlc,st9,ld9];have k9:∀ c,c≠h.next+1->h9.get c=hx.get c:=fun c hc=>by rw[e9,Heap.get_set _ _ _ _ lX2,if_neg (Ne.symm hc)]
  have R9:TxR h h9 iv2 ov2 new outs2:=RX.keepF FX aHG.1 (fun c hc _=>k9 c (by omega)) ⟨by rw[e9];exact RX.i.a.1,fun c hc=>by rw[k9 c (by omega),RX.i.a.2 c hc]⟩ (ae _);have hpt:ins2.map (·.pt)=ins.map (·.pt):=by
   have:=congrArg (List.map PIn.pt) e1;simpa[ce,dc,InV.p]using this
  refine hk iv2 ov2 new outs2 h9 R9 ?_ (by rw[hnp,hpt]);unfold Jfp;rw[<- edg,<- htg];exact Jey (by rw[hnp,hpt]) hnw e2
end
def Jbo{c:Int}(hc:129<=c/\c<=139)(f:Nat)(r:List Int):pz (f+1) (c::r)=(pz f r).map ((c,[]) :: ·):=by
 rw[pz,if_neg (by omega),if_neg (by omega)]
def Jc5(c:Int)(d:List Int)(hd:(d.length:Int)=c)(hc:c<=64)(f:Nat)(r:List Int):pz (f+1) (c::(d++r))=(pz f r).map ((c,d) :: ·):=by
 have h1:c.toNat=d.length:=by omega
 rw[pz,if_pos ⟨hc,by rw[aj];omega⟩,h1,cM,List.take_left]
def Jgr(o:Int):List (Int × List Int):=[(1,[IntKind.u8.wrap o]),(134,[])]
def Je0(o:Int):pz 3 (Xud o)=some (Jgr o):=by
 have e:Xud o=1::([IntKind.u8.wrap o]++(134 :: [])):=rfl;rw[e,Jc5 1 [_] rfl (by omega),Jbo (by omega),pz];rfl
def Jat(a:Asks)(o:Int)(stk:List (List Int)):Y7s a (Xud o) stk=Z9h a (Jgr o) stk:=by
 unfold Y7s;have : (Xud o).length=3:=rfl;rw[this,if_neg (by omega),Je0];rfl
def Zuu{a:Asks}{c:Int}{d:List Int}{l:List (Int × List Int)}{st st':List (List Int)}{op op':List Br}(h:Q5y a c d st op=.ok (st',op')):X12 a ((c,d)::l) st op=X12 a l st' op':=by
 show(Q5y a c d st op).bind _=_;rw[h];rfl
def Zsq{x:List Int}{st:List (List Int)}(h:st.length < 16):Xcc x st=.ok (x::st):=if_pos h
section
variable{a:Asks}{d x y:List Int}{r:List (List Int)}{op:List Br}(off:Z4n op=false)
include off
theorem Jih{c:Int}(h1:c≠136)(h2:c≠137)(h3:c≠138){st:List (List Int)}:Q5y a c d st op=(doF a c d st).map fun st'=>(st',op):=by simp[Q5y,brF,h1,h2,h3,off]
theorem Jdo{c:Int}(hc:c<=64)(hr:r.length < 16):Q5y a c d r op=.ok (d::r,op):=by
 rw[Jih off (by omega) (by omega) (by omega)];unfold doF;rw[if_neg (by omega),if_neg (by omega),if_neg (by omega),if_neg (by omega),if_neg (by omega),if_neg (by omega),if_neg (by omega),if_neg (by omega),Zsq hr];rfl
theorem Jf2{o:Int}(hy:y.length=16)(hr:r.length < 16):Q5y a 134 d ([o]::y::r) op=.ok (Z6a (Z3x a o y)::r,op):=by
 rw[Jih off (by omega) (by omega) (by omega)];unfold doF;rw[if_neg (by omega),if_neg (by omega),if_neg (by omega),if_neg (by omega),if_neg (by omega),if_pos rfl];simp only[hy];rw[if_pos ⟨rfl,trivial⟩,Zsq hr];rfl
end
def Jhm{o:Int}(ho:0<=o/\o < 256):IntKind.u8.wrap o=o:=by
 have:=Z5o (n:=o.toNat) (by omega);rw[df ho.1]at this;exact this
def Z6y(q:Bool):Zxk (.ok ([Z6a q],[]))=if q=true then 0 else 16:=by cases q <;> rfl
def Je8{x:List Int}(h:x.length<=64):X91 [x] []=.ok [x]:=by
 rw[X91,if_pos h,Zsq (by simp)];rfl
def Jd4{a:Asks}{l:List (Int × List Int)}{stk st:List (List Int)}(h:X91 stk []=.ok st):Z9h a l stk=Zxk (X12 a l st []):=by
 unfold Z9h;rw[h]
def Zdx(l:List Nat):(X5g l).length=l.length:=by simp[X5g]
def Z48{a:Asks}{o:Int}(ho:0<=o/\o < 256){tg:List Nat}(ht:tg.length=16):Y7s a (Xud o) [X5g tg]=if Z3x a o (X5g tg)=true then 0 else 16:=by
 have hl:=Zdx tg;generalize X5g tg=T at *;rw[Jat,Jd4 (Je8 (by omega)),Jgr,Zuu (Jdo rfl (by omega) (by simp)),Zuu (Jf2 rfl (by omega) (by simp)),Jhm ho];exact Z6y _
def Zjr{t:PTx}(k:TxOk t):Qzf t=0:=by
 unfold Qzf;have h1:(!inF t.ins.length 1 8 || !inF t.outs.length 1 8)=false:=by
  have:=k.insN;have:=k.outsN;rw[Yib.2 (by omega),Yib.2 (by omega)];rfl
 have h2:(t.ins.any Z5b || !inF t.lock 0 1073741824)=false:=by
  rw[Yib.2 k.lock];have : t.ins.any Z5b=false:=by
   rw[cY];intro x hx;unfold Z5b;rw[Yib.2 (k.far x hx)];simp
  rw[this];rfl
 have h3:(!decide (t.ins.map (·.pt)).Nodup)=false:=by rw[decide_eq_true k.pts];rfl
 have h4:(!X89 t.outs 1125899906842624)=false:=by rw[k.vals];rfl
 have h5:(t.outs.any Y2p || t.ins.any Y27)=false:=by
  have a1:t.outs.any Y2p=false:=by
   rw[cY];intro o ho;have:=k.script o ho;unfold Y2p;simp;omega
  have a2:t.ins.any Y27=false:=by
   rw[cY];intro x hx;obtain⟨q1,q2⟩:=k.wit x hx;unfold Y27;simp;exact⟨q1,q2⟩
  rw[a1,a2];rfl
 simp only[h1,h2,h3,h4,h5];rfl
def Zxl(t:PTx)(w:List (List Int)):Yja (X1y t w)=Yja t:=by
 unfold Yja X1y;have e:(t.ins.map fun x=>(⟨x.pt,w⟩:PIn)).flatMap inB=t.ins.flatMap inB:=by
  rw[flat_map'];rfl
 simp only[e,aU]
def Z58{s:List Nat}{t:PTx}{w:List (List Int)}(h0:Qzf t=0)(h1:Qzf (X1y t w)=0):dgF s (X1y t w)=dgF s t:=by
 unfold dgF;rw[if_pos h0,if_pos h1,Zxl]
def Z6u{ks:List Nat}{hks:ks.length=1024}{t:PTx}{d:List Nat}{o:Int}(ho:1<=o/\o<=32)(hd:dgF X5i t=d):Z3x (Ze3 ks hks t) o (X5g (Qyt (Xz0 ks o) d))=true:=by
 unfold Z3x;rw[Zyr];simp only[Ze3,hd,decide_true,Bool.and_true];exact decide_eq_true ho
def Yip(m:Qu8)(l:List Pt):Int:=(l.map fun p=>(X8o m p).value).sum
def Z3z(pts:List Pt)(outs:List POut):PTx:=⟨pts.map fun p=>⟨p,[]⟩,outs,0⟩
structure MadeOf (m:Qu8) (T:PTx) (o:Int) (pts:List Pt) (outs:List POut) (fee:Int):Prop where
 o1:1<=o
 o2:o<=32
 p1:1<=pts.length
 p4:pts.length<=4
 nd:pts.Nodup
 at':∀ p ∈ pts,∃ c,m p=some c/\c.script=Xud o
 f:0<=fee
 e:Yip m pts=Q10 outs+fee
 q1:1<=outs.length
 q2:outs.length<=2
 q:∀ x ∈ outs,1<=x.value/\∃ u:Int,1<=u/\u<=32/\x.script=Xud u
 t:T=Jfp (Z3z pts outs) o
def Zv3:∀ {l:List POut} {left:Int},(∀ o ∈ l,1<=o.value)->Q10 l<=left->X89 l left=true
 | [],_,_,_=>rfl
 | o::l,left,h,hs=>by
  have h1:=h o (by simp);have e:Q10 (o::l)=o.value+Q10 l:=by simp[Q10]
  have h0:0<=Q10 l:=by
   have : ∀ l:List POut,(∀ o ∈ l,1<=o.value)->0<=Q10 l:=by
    intro l;induction l with
    | nil=>intro _;simp[Q10]
    | cons y l ih =>
     intro hl;have:=ih fun z hz=>hl z (by simp[hz]);have:=hl y (by simp);have e:Q10 (y::l)=y.value+Q10 l:=by simp[Q10]
     omega
   exact this l fun z hz=>h z (by simp[hz])
  unfold X89;rw[if_neg (by omega)];exact Zv3 (fun z hz=>h z (by simp[hz])) (by omega)
def Zdw{m:Qu8}{B:Int}(G:Znz m B)(hB:0<=B):∀ {l:List Pt},Yip m l<=l.length*B
 | []=>by simp[Yip]
 | p::l=>by
  have ih:=Zdw G hB (l:=l);have e:Yip m (p::l)=(X8o m p).value+Yip m l:=by simp[Yip]
  have h1:(X8o m p).value<=B:=by
   unfold X8o;cases hm:m p with
   | none=>exact hB
   | some c=>exact(G p c hm).2.2.1
  have e2:((p::l).length:Int)*B=B+(l.length:Int)*B:=by rw[bI];push_cast;rw[Int.add_mul];omega
  omega
def Z1r{m:Qu8}{p:Pt}{c:PC}:∀ {l:List Pt},Z6s m l p=some c->m p=some c:=by
 have key:∀ (n:Nat) (l:List Pt),l.length=n->Z6s m l p=some c->m p=some c:=by
  intro n;induction n with
  | zero=>intro l hl h;rw[ba hl]at h;exact h
  | succ n ih =>
   intro l hl h;rcases d9 l with e | ⟨l',x,e⟩
   ·rw[e]at hl;cases hl
   ·rw[da]at e;subst e;rw[aj,bQ]at hl;rw[Zuq]at h;by_cases hp:p=x
    ·rw[hp,Yvq]at h;cases h
    ·rw[Zsd hp]at h;exact ih l' (by omega) h
 exact fun {l} h=>key _ l rfl h
def Zvv{id:List Nat}{hid:id.length=32}{made:Int}{m:Qu8}{p:Pt}{c:PC}:∀ {l:List POut},Zeb id hid made m l p=some c->m p=some c ∨ ∃ (k:Nat) (o:POut),l[k]? = some o/\p=⟨id,(k:Int),hid⟩/\c=⟨o.value,o.script,made⟩:=by
 have key:∀ (n:Nat) (l:List POut),l.length=n->Zeb id hid made m l p=some c->m p=some c ∨ ∃ (k:Nat) (o:POut),l[k]? = some o/\p=⟨id,(k:Int),hid⟩/\c=⟨o.value,o.script,made⟩:=by
  intro n;induction n with
  | zero=>intro l hl h;rw[ba hl]at h;exact .inl h
  | succ n ih =>
   intro l hl h;rcases d9 l with e | ⟨l',x,e⟩
   ·rw[e]at hl;cases hl
   ·rw[da]at e;subst e;rw[aj,bQ]at hl;rw[Zk9]at h;by_cases hp:p=⟨id,(l'.length:Int),hid⟩
    ·rw[hp,Yvq]at h;cases h;exact .inr ⟨l'.length,x,by simp,hp,rfl⟩
    ·rw[Zsd hp]at h;rcases ih l' (by omega) h with q | ⟨k,o,h1,h2,h3⟩
     ·exact .inl q
     ·have hi:=(aq.1 h1).1;exact .inr ⟨k,o,by rw[aL hi];exact h1,h2,h3⟩
 exact fun {l} h=>key _ l rfl h
def Y6s:∀ {l:List POut} {x:POut},(∀ y ∈ l,1<=y.value)->x ∈ l->x.value<=Q10 l
 | y::l,x,h,hx=>by
  have e:Q10 (y::l)=y.value+Q10 l:=by simp[Q10]
  have h0:0<=Q10 l:=by
   have : ∀ l:List POut,(∀ o ∈ l,1<=o.value)->0<=Q10 l:=by
    intro l;induction l with
    | nil=>intro _;simp[Q10]
    | cons y l ih =>
     intro hl;have:=ih fun z hz=>hl z (by simp[hz]);have:=hl y (by simp);have e:Q10 (y::l)=y.value+Q10 l:=by simp[Q10]
     omega
   exact this l fun z hz=>h z (by simp[hz])
  rcases ax.1 hx with rfl | hx
  ·omega
  ·have:=Y6s (fun z hz=>h z (by simp[hz])) hx;have:=h y (by simp);omega
section
variable{m:Qu8}{B:Int}{T:PTx}{o fee:Int}{pts:List Pt}{outs:List POut}(M:MadeOf m T o pts outs fee)(G:Znz m B)(hB:0<=B)(h4:4*B<=1125899906842624)
include M G hB h4
theorem Ztt:Yip m pts<=4*B:=by
 have:=Zdw G hB (l:=pts);have h:=M.p4;have : (pts.length:Int)*B<=4*B:=dC (by omega) hB;omega
theorem Zhi{w:List (List Int)}(hw:w.length<=16)(hw2:∀ y ∈ w,y.length<=64):TxOk ⟨pts.map fun p=>⟨p,w⟩,outs,0⟩:=by
 have hs:=Ztt M G hB h4;have he:=M.e;have hf:=M.f;have hp1:=M.p1;have hp4:=M.p4;have hq1:=M.q1;have hq2:=M.q2;refine⟨by simp;omega,by simp;omega,fun x hx => ?_,by simp,?_,Zv3 (fun x hx=>(M.q x hx).1) (by show Q10 outs<=_;omega),fun x hx => ?_,fun x hx => ?_⟩
 ·obtain⟨p,hp,rfl⟩:=av.1 hx;obtain⟨c,hc, -⟩:=M.at' p hp;obtain⟨-, -, -,h1,h2⟩:=G p c hc;exact⟨h1,by show p.n<=8;omega⟩
 ·rw[ce];have : ((fun x:PIn=>x.pt) ∘ fun p:Pt=>(⟨p,w⟩:PIn))=id:=rfl;rw[this,List.map_id];exact M.nd
 ·obtain⟨-,u, -, -,e⟩:=M.q x hx;rw[e];simp[Xud]
 ·obtain⟨p,hp,rfl⟩:=av.1 hx;exact⟨hw,hw2⟩
theorem Z55:Qzf (Z3z pts outs)=0:=Zjr (Zhi M G hB h4 (by simp) (by simp))
theorem Z07:T=⟨pts.map fun p=>⟨p,Xlq (Qyt (Xz0 Q0s o) (dgF X5i (Z3z pts outs)))⟩,outs,0⟩:=by
 rw[M.t];unfold Jfp X1y Z3z;simp[ce,dc]
theorem Y74:Qzf T=0:=by
 rw[Z07 M G hB h4];refine Zjr (Zhi M G hB h4 (by simp[Xlq]) fun y hy => ?_);simp only[Xlq,aM]at hy;rw[hy,Zdx,Ysq];omega
theorem Zt7(hks:Q0s.length=1024)(w:List (List Int))(hw:w=Xlq (Qyt (Xz0 Q0s o) (dgF X5i (Z3z pts outs)))):∀ (l:List Pt) (s:Int),(∀ p ∈ l,p ∈ pts)->Zx4 (Ze3 Q0s hks T) m (l.map fun p=>⟨p,w⟩) s=.ok (s+Yip m l)
 | [],s,_=>by simp[Zx4,Yip]
 | p::l,s,hl=>by
  obtain⟨c,hc,hs⟩:=M.at' p (hl p (by simp));have hd:dgF X5i T=dgF X5i (Z3z pts outs):=by
   have hc:=Y74 M G hB h4;rw[M.t]at hc ⊢;exact Z58 (Z55 M G hB h4) hc
  have hr:=Z48 (a:=Ze3 Q0s hks T) (o:=o) (by have:=M.o1;have:=M.o2;omega) (tg:=Qyt (Xz0 Q0s o) (dgF X5i (Z3z pts outs))) (Ysq _ _);rw[Z6u ⟨M.o1,M.o2⟩ hd,if_pos rfl]at hr;have hr':Y7s (Ze3 Q0s hks T) c.script w=0:=by rw[hs,hw];exact hr
  have ih:=Zt7 hks w hw l (s+c.value) fun q hq=>hl q (by simp[hq]);simp only[aR,Zx4,hc,hr',if_true];rw[ih];have : Yip m (p::l)=c.value+Yip m l:=by simp[Yip,X8o,hc]
  rw[this];congr 1;omega
theorem Zw2{hks:Q0s.length=1024}{ht:Int}(h0:0<=ht):Xg1 Q0s hks m ht T=(fee,0):=by
 have hc:=Y74 M G hB h4;have hT:=Z07 M G hB h4;have hl:¬ ht+1 < T.lock:=by rw[hT];show ¬ ht+1 < 0;omega
 have hi:Zx4 (Ze3 Q0s hks T) m T.ins 0=.ok (Yip m pts):=by
  have:=Zt7 M G hB h4 hks _ rfl pts 0 (fun p hp=>hp);rw[Int.zero_add]at this;have e:T.ins=pts.map fun p=>⟨p,Xlq (Qyt (Xz0 Q0s o) (dgF X5i (Z3z pts outs)))⟩:=by
   rw[hT]
  rw[e];exact this
 have ho:T.outs=outs:=by rw[hT]
 have he:=M.e;have hf:=M.f;unfold Xg1;rw[if_pos hc,if_neg hl,hi,ho];have e:Yip m pts-Q10 outs=fee:=by omega
 simp only[e];rw[if_neg (by omega)]
theorem Zw8{hks:Q0s.length=1024}{ht:Int}(h0:0<=ht):Yd5 Q0s hks ht m [T]=.ok (doM m T (ht+1)):=by
 have hv:=Zw2 M G hB h4 (hks:=hks) h0;unfold Yd5;rw[if_neg (by simp),X7w,hv];rfl
theorem Z1v{made:Int}:Znz (doM m T made) (4*B):=by
 intro p c hc;have hT:=Z07 M G hB h4;have ho:T.outs=outs:=by rw[hT]
 have hs:=Ztt M G hB h4;have he:=M.e;have hf:=M.f;unfold doM at hc;rcases Zvv hc with q | ⟨k,x,hx,hp,rfl⟩
 ·obtain⟨g1,g2,g3,g4⟩:=G p c (Z1r q);exact⟨g1,g2,by omega,g4⟩
 ·rw[ho]at hx;have hxm:=ak hx;have hk:=(aq.1 hx).1;obtain⟨v1,u,u1,u2,hu⟩:=M.q x hxm;have hq2:=M.q2;refine⟨⟨u,u1,u2,hu⟩,v1,?_,by rw[hp];show(0:Int)<=(k:Int);omega,by rw[hp];show(k:Int)<=7;omega⟩;have:=Y6s (fun y hy=>(M.q y hy).1) hxm;show x.value<=4*B;omega
end
def Zfi(p:Pt):InV:=⟨p,.slice none 0 0,[]⟩
def Jdj{h:Heap}{n0:Nat}(p:Pt):InN h n0 (Zfi p):=⟨⟨Sl.nil,(fun q hq=>(by cases hq)),by simp[Zfi],(fun q hq=>(by cases hq))⟩,fun v hv c hc=>by
 simp only[Jbj,Zfi,dq,aM]at hv;subst hv;cases hc⟩
def Z93(pts:List Pt)(outs:List OutV):ptx (pts.map Zfi) outs 0=Z3z pts (outs.map OutV.p):=by
 simp only[ptx,Z3z,ce,PTx.mk.injEq,and_true,true_and];exact bJ fun p _=>rfl
def Jf6(b:Nat):Qmn (E b).toEnv 32 []=some (.agg ⟨Ybd⟩):=by kernel_rfl
structure MvV where
 cv:Value
 coins:List Int
 to:Int
 part:Int
 fee:Int
def MvV.cells(x:MvV):List Value:=[x.cv,.int .i64 x.to,.int .i64 x.part,.int .i64 x.fee]
structure MvAt (h:Heap) (x:MvV):Prop where
 s:Sl h 1 x.cv x.coins.length (x.coins.map (Value.int .i64))
 n:x.coins.length < 4611686018427387904
def MvAt.old{h h':Heap}{x:MvV}(a:MvAt h x)(o:Old h h'):MvAt h' x:=⟨a.s.old o,a.n⟩
structure Coins (m:Qu8) (owner sum:Int) (pts:List Pt):Prop where
 z:pts=[]->owner=0
 o:pts ≠ []->1<=owner/\owner<=32
 n:pts.length<=4
 nd:pts.Nodup
 at':∀ p ∈ pts,∃ c,m p=some c/\c.script=Xud owner
 s:sum=Yip m pts
 b:∀ p ∈ pts,PtB p
structure MadeAt2 (h h':Heap) (m:Qu8) (iv ov:Value) (ins:List InV) (outs:List OutV):Prop where
 r:TxR h h' iv ov ins outs
 p:∀ x ∈ ins,PtB x.pt
 m:∃ o pts qs fee,MadeOf m (ptx ins outs 0) o pts qs fee
section
attribute [local simp] Ja V8 Ys Qbb Xy Qnp Y2 Qg7 Qvq Qlf Jf J3 Qci J1 Xt J2 Zo Ut Jx Wn Qiy Y0 Wb Qal Vi J7 Jm Jc Qa5 W9 Vd Qce Xx Zt Wh J0 Zn Zr Zq Vb Qga Qg2 J4 Zp Qg9 Jk Qfy Ji Jt Qg4 Qba Uf Zf Yw
set_option maxHeartbeats 4000000 in
def Zzz(b:Nat){h g:Heap}(la:Ab.LaidIn h laidAll){m:Qu8}{B:Int}(G:Znz m B)(hB:0<=B)(h4:4*B<=1125899906842624){x:MvV}{X N:Nat}{iv:Value}{pts:List Pt}{owner sum:Int}(C:Coins m owner sum pts)
  (gM:g.get h.next=some (.cells true 1 x.cells)) (gR:g.get (h.next+1)=some (.cells true 1 Ybd)) (gX:g.get X=some (.cells true 1 (txC iv (.slice none 0 0) 0))) (hX:h.next+1 < X) (hXN:X < N) (hN:N<=g.next) (oi:Own g N 34 iv pts.length (Qek (pts.map Zfi))) (aH:Old h g)
  {t:Tr Value} (t3:t.get 3=some (.pointer (some ⟨h.next,0,none⟩))) (t4:t.get 4=some (.pointer (some ⟨h.next+1,0,none⟩))) (t7:t.get 7=some (.int .i64 owner)) (t8:t.get 8=some (.int .i64 sum)) (t9:t.get 9=some (.pointer (some ⟨X,0,none⟩)))
  (K:KP) (hno:∀ h',Old h h'->K (.ret (.tuple #[.agg ⟨Ybd⟩,.bool false])) h')
  (hk:∀ iv2 ov2 ins2 outs2 h',MadeAt2 h h' m iv2 ov2 ins2 outs2->K (.ret (.tuple #[.agg ⟨txC iv2 ov2 0⟩,.bool true])) h') :
  Wu (E b) (Xh2 Tryz.prog (E b).G) (D0 b) none Q4u ⟨⟨161,t⟩,[],g⟩ (Yzm (E b) (DD b) Qvl K):=by
 have c1:∀ {hx:Heap},hx.get h.next=some (.cells true 1 x.cells)->J6 hx h.next 1=some (.int .i64 x.to)/\J6 hx h.next 2=some (.int .i64 x.part)/\J6 hx h.next 3=some (.int .i64 x.fee):=fun g=>⟨by rw[Zd g];rfl,by rw[Zd g];rfl,by rw[Zd g];rfl⟩;have q1:=c1 gM;obtain⟨fee,efee⟩:∃ fee,fee=Ydi x.fee 20:=⟨_,rfl⟩;have fin:=X2s x.fee (n:=20) (by omega);rw[<- efee]at fin;have lR:=Heap.get_lt gR;have hs:sum<=4*B:=by
  have:=Zdw G hB (l:=pts);have h:=C.n;have : (pts.length:Int)*B<=4*B:=dC (by omega) hB;have:=C.s;omega
 have hw1:IntKind.i64.wrap (fee+1)=fee+1:=W2 (by omega) (by omega);obtain⟨nt,ent⟩:∃ nt,nt=Ybd:=⟨_,rfl⟩;have nl:nt.length=3:=by rw[ent];rfl
 have bd:Qmn (E b).toEnv 32 []=some (.agg ⟨nt⟩):=by rw[ent];exact Jf6 b
 obtain⟨gz,egz⟩:∃ gz,gz=g.set (h.next+1) (some (.cells true 1 nt)):=⟨_,rfl⟩;have stz:Ur g (h.next+1) 0 nt=some gz:=by rw[egz,W8 gR (by rw[nl];simp[Ybd,txC])];simp[nl,Ybd,txC]
 have ldz:Qbn gz (h.next+1) 0 3=some (.agg ⟨nt⟩):=agW (by rw[egz,Heap.get_set _ _ _ _ lR,if_pos rfl]) (by omega) (by omega);have oz:Old h gz:=by rw[egz];exact aH.set _ (by omega) lR
 have hno':=hno gz oz;rw[<- ent]at hno';have t8':sum=Yip m pts:=C.s;simp[Zl,t3,t4,t7,t8,t9,q1];refine(Yf9 b x.fee (n:=20) (by omega) (by omega) g _ ?_).ok;rw[<- efee];by_cases o0:owner=0
 ·simp[Zl,t3,t4,t7,t8,t9,q1,o0,bd,nl,stz,ldz];exact hno'
 by_cases hlt:sum < fee+1
 ·simp[Zl,t3,t4,t7,t8,t9,q1,o0,hw1,hlt,bd,nl,stz,ldz];exact hno'
 have hws:IntKind.i64.wrap (sum-fee)=sum-fee:=W2 (by omega) (by omega);simp[Zl,t3,t4,t7,t8,t9,q1,o0,hw1,hlt,hws];refine(Yf9 b x.part (n:=sum-fee) (by omega) (by omega) g _ ?_).ok;have pin:=X2s x.part (n:=sum-fee) (by omega);obtain⟨part,epart⟩:∃ part,part=1+Ydi x.part (sum-fee):=⟨_,rfl⟩;have hwp:IntKind.i64.wrap (1+Ydi x.part (sum-fee))=part:=by rw[epart,W2 (by omega) (by omega)]
 have tin:=X2s x.to (n:=32) (by omega);obtain⟨to,eto⟩:∃ to,to=1+Ydi x.to 32:=⟨_,rfl⟩;have hwt:IntKind.i64.wrap (1+Ydi x.to 32)=to:=by rw[eto,W2 (by omega) (by omega)]
 simp[Zl,t3,t4,t7,t8,t9,q1,hwp];refine(Yf9 b x.to (n:=32) (by omega) (by omega) g _ ?_).ok;simp[Zl,t3,t4,t7,t8,t9,q1,hwt];refine(Zv6 b to g _ fun v1 g1 o1 a1 => ?_).ok;have gX1:=a1.get gX;obtain⟨g2,eg2⟩:∃ g2,g2=g1.push (.cells true 1 [.int .i64 part,v1]):=⟨_,rfl⟩;have a2:=Qqr eg2;have bl1:=Zc3 b part v1 g1;rw[<- eg2]at bl1;have gg2:g2.get g1.next=some (.cells true 1 [.int .i64 part,v1]):=by rw[eg2,Heap.get_push,if_pos rfl]
 have gX2:=a2.get gX1;have lX2:=Heap.get_lt gX2;have n01:=a1.1;have n2:=Xbt eg2;obtain⟨ov1,eov1⟩:∃ ov1:Value,ov1=.slice (some ⟨g1.next,0,none⟩) 1 1:=⟨_,rfl⟩;rw[<- eov1]at bl1;obtain⟨g3,eg3⟩:∃ g3,g3=g2.set X (some (.cells true 1 (txC iv ov1 0))):=⟨_,rfl⟩;have st3:Ur g2 X 1 [ov1]=some g3:=by rw[eg3,Qhv gX2 (by simp[txC])];rfl
 have k3:∀ c,c≠X->g3.get c=g2.get c:=fun c hc=>by rw[eg3,Heap.get_set _ _ _ _ lX2,if_neg (Ne.symm hc)]
 have gX3:g3.get X=some (.cells true 1 (txC iv ov1 0)):=by rw[eg3,Heap.get_set _ _ _ _ lX2,if_pos rfl]
 have n3:g3.next=g2.next:=by rw[eg3];rfl
 have one1:X94 ov1=true:=by rw[eov1];exact Q0 _ _ _
 have b1:Jp ov1=some g1.next:=by rw[eov1];rfl
 have hto:0<=to/\to < 256:=by omega
 have v1b:∀ c,Jp v1=some c->g.next<=c/\c < g1.next:=fun c hc=>o1.from hc;have oldh3:Old h g3:=⟨by have:=aH.1;omega,fun c hc=>by rw[k3 c (by omega),a2.2 c (by have:=aH.1;omega),a1.2 c (by have:=aH.1;omega),aH.2 c hc]⟩;have R3:OutsR h g3 ov1 [⟨part,v1,Xud to⟩]:=by
  refine⟨?_,fun y hy => ?_,fun y hy c hc e => ?_,oldh3⟩
  ·have e:Qpe [(⟨part,v1,Xud to⟩:OutV)]=[.int .i64 part,v1]:=rfl;rw[e,eov1];exact Own.new (z':=1) (n:=1) (by have:=aH.1;omega) (by rw[k3 _ (by omega)];exact gg2) rfl (by decide) (.inr rfl)
  ·rw[aM.1 hy];exact⟨(o1.low (by have:=aH.1;omega)).keep fun c hc hl=>by have:=v1b c hc;rw[k3 c (by omega),a2.2 c hl],Xij hto,by simp[Xud]⟩
  ·rw[aM.1 hy]at hc;rw[b1]at e;cases e;have:=v1b _ hc;omega
 have oi3:Own g3 N 34 iv pts.length (Qek (pts.map Zfi)):=oi.keep fun c hc hl=>by have:=(oi.from hc).1;rw[k3 c (by omega),a2.2 c (by omega),a1.2 c hl]
 have gR3:g3.get (h.next+1)=some (.cells true 1 Ybd):=by rw[k3 _ (by omega),a2.2 _ (by omega),a1.2 _ lR];exact gR
 have key:∀ (g5:Heap) (ov:Value) (outs:List OutV) (tt:Tr Value),g5.get X=some (.cells true 1 (txC iv ov 0))->OutsR h g5 ov outs->(∀ c,Jp ov=some c->N<=c)->(∀ y ∈ outs,∀ c,Jp y.sv=some c->N<=c)->Own g5 N 34 iv pts.length (Qek (pts.map Zfi))->g5.get (h.next+1)=some (.cells true 1 Ybd)->N<=g5.next ->
   tt.get 4=some (.pointer (some ⟨h.next+1,0,none⟩))->tt.get 7=some (.int .i64 owner)->tt.get 9=some (.pointer (some ⟨X,0,none⟩)) ->
   Q10 (outs.map OutV.p)+fee=sum->1<=outs.length->outs.length<=2->(∀ q ∈ outs.map OutV.p,1<=q.value/\∃ u:Int,1<=u/\u<=32/\q.script=Xud u) ->
   Wu (E b) (Xh2 Tryz.prog (E b).G) (D0 b) none Xhm ⟨⟨161,tt⟩,[],g5⟩ (Yzm (E b) (DD b) Qvl K):=by
  intro g5 ov outs tt gX5 R5 ovN osN oi5 gR5 hN5 e4 e7 e9 hsum l1 l2 hq;have ld5:Qbn g5 X 0 3=some (.agg ⟨txC iv ov 0⟩):=by rw[Vm gX5 (by simp[txC])];rfl
  simp[Zl,e4,e7,e9,ld5];have hp0:pts ≠ []:=fun q=>o0 (C.z q);have ho:=C.o hp0;have hn4:=C.n;have il:(pts.map Zfi).length=pts.length:=by simp
  have si:Ins g5 iv (pts.map Zfi):=⟨by rw[il];exact oi5.sl,by rw[il];omega,fun y hy=>by
   obtain⟨p,hp,rfl⟩:=av.1 hy;exact(Jdj (h:=g5) (n0:=0) p).1⟩
  refine Zyo b (Laid.old la R5.a) (lock:=0) si (R5.outs (by omega)) (fun y hy=>by
   obtain⟨p,hp,rfl⟩:=av.1 hy;exact C.b p hp) ho.1 ho.2 _ fun iv2 ov2 ins2 outs2 h7 R7 e1 e2 => ?_
  have a7:=R7.i.a;have g7:=a7.get gR5;have l7:=Heap.get_lt g7;have tlc:(txC iv2 ov2 0).length=3:=rfl;obtain⟨h8,e8⟩:∃ h8,h8=h7.set (h.next+1) (some (.cells true 1 (txC iv2 ov2 0))):=⟨_,rfl⟩;have st8:Ur h7 (h.next+1) 0 (txC iv2 ov2 0)=some h8:=by rw[e8,W8 g7 (by simp[Ybd,txC])];simp[Ybd,txC]
  have g8:h8.get (h.next+1)=some (.cells true 1 (txC iv2 ov2 0)):=by rw[e8,Heap.get_set _ _ _ _ l7,if_pos rfl]
  have ld8:Qbn h8 (h.next+1) 0 3=some (.agg ⟨txC iv2 ov2 0⟩):=by rw[Vm g8 (by simp[txC])];rfl
  have k8:∀ c,c≠h.next+1->h8.get c=h7.get c:=fun c hc=>by rw[e8,Heap.get_set _ _ _ _ l7,if_neg (Ne.symm hc)]
  simp[Zl,e4,e7,e9,tlc,st8,ld8];have hg5:=R5.a.1;refine hk iv2 ov2 ins2 outs2 h8 ⟨R7.keepF R7.far hg5 (fun c hc _=>k8 c (by omega)) ⟨by rw[e8];exact al hg5 a7.1,fun c hc=>by rw[k8 c (by omega),a7.2 c (by omega),R5.a.2 c hc]⟩ hg5,fun y hy => ?_,owner,pts,outs.map OutV.p,fee,?_⟩
  ·have : y.pt ∈ ins2.map (·.pt):=av.2 ⟨y,hy,rfl⟩;rw[e2]at this;obtain⟨z,hz,e⟩:=av.1 this;obtain⟨p,hp,rfl⟩:=av.1 hz;rw[<- e];exact C.b p hp
  ·refine⟨ho.1,ho.2,?_,hn4,C.nd,C.at',by omega,by rw[<- t8'];omega,by simpa using l1,by simpa using l2,hq,?_⟩
   ·cases hpp:pts with
    | nil=>exact absurd hpp hp0
    | cons a l=>simp
   ·rw[e1,Z93]
 have hwd:IntKind.i64.wrap (sum-fee-part)=sum-fee-part:=W2 (by omega) (by omega);by_cases hpt:part < sum-fee
 ·simp[Zl,-Zl,t3,t4,t7,t8,t9,Xac b part o1.sl,bl1,Z9o,one1,st3,hws,hpt];have hp0:pts ≠ []:=fun q=>o0 (C.z q);have ho:=C.o hp0;have cX3:J6 g3 X 1=some ov1:=by rw[Zd gX3];rfl
  obtain⟨_,g4,c4,n4,v2,rfl,o2,a4⟩:=Zv6 b owner g3 (fun r h' => ∃ v,r=.ret v/\OB h' g3.next v (Xud owner)/\Old g3 h') (fun v h' o a=>⟨v,rfl,o,a⟩);obtain⟨ov2,g5,j1,R5,one5,j4,j5,j6⟩:=R3.more b (by simp) a4 (v:=sum-fee-part) o2 (Xij (by omega)) (by simp[Xud]);have gX4:=a4.get gX3;have lX4:=Heap.get_lt gX4;have gX5:g5.get X=some (.cells true 1 (txC iv ov1 0)):=by rw[j5 X lX4 (by rw[b1];intro e;cases e;omega)];exact gX4
  have lX5:=Heap.get_lt gX5;obtain⟨g6,eg6⟩:∃ g6,g6=g5.set X (some (.cells true 1 (txC iv ov2 0))):=⟨_,rfl⟩;have st6:Ur g5 X 1 [ov2]=some g6:=by rw[eg6,Qhv gX5 (by simp[txC])];rfl
  have st6':Qc9 (E b).toEnv 27 (.pointer (some ⟨X,1,none⟩)) ov2 g5=some g6:=by rw[Z9o b _ _ _ _ one5];exact st6
  have k6:∀ c,c≠X->g6.get c=g5.get c:=fun c hc=>by rw[eg6,Heap.get_set _ _ _ _ lX5,if_neg (Ne.symm hc)]
  have gX6:g6.get X=some (.cells true 1 (txC iv ov2 0)):=by rw[eg6,Heap.get_set _ _ _ _ lX5,if_pos rfl]
  refine Qh6 [⟨19,[.int .i64 owner],g3,v2,g4,true⟩] ?_ X3t Yb9 X3l (by simp[Yfi,Yil,Yfg,Yc6,Zl,t3,t4,t7,t8,t9,cX3,hws,hwd,Xac b (sum-fee-part) o2.sl,Zc3,j1,st6'];first | exact⟨rfl,rfl⟩ | rfl) ?_ ?_
  ·exact zk1 ⟨c4,n4,fun _ c hc=>a4.2 c hc⟩
  ·have cX4:J6 g4 X 1=some ov1:=by rw[Zd gX4];rfl
   simp[Qee,Zl,t3,t4,t7,t8,t9,cX3,cX4,hws,hwd,Xy1 R3.o,Q5c]
  simp[Zl,-Zl];have n34:=a4.1;have v2b:∀ c,Jp v2=some c->g3.next<=c:=fun c hc=>(o2.from hc).1;have ov2N:∀ c,Jp ov2=some c->N<=c:=fun c hc=>by
   rcases j4 c hc with q | q
   ·rw[b1]at q;cases q;omega
   ·omega
  have osN:∀ y ∈ [(⟨part,v1,Xud to⟩:OutV)] ++ [⟨sum-fee-part,v2,Xud owner⟩],∀ c,Jp y.sv=some c->N<=c:=fun y hy c hc=>by
   rcases ac.1 hy with q | q
   ·rw[aM.1 q]at hc;have:=v1b c hc;omega
   ·rw[aM.1 q]at hc;have:=v2b c hc;omega
  have R6:OutsR h g6 ov2 ([⟨part,v1,Xud to⟩] ++ [⟨sum-fee-part,v2,Xud owner⟩]) :=
   ⟨R5.o.keep fun c hc _=>k6 c (by have:=ov2N c hc;omega),fun y hy=>(R5.s y hy).keep fun c hc _=>k6 c (by have:=osN y hy c hc;omega),R5.d,⟨by rw[eg6];exact R5.a.1,fun c hc=>by rw[k6 c (by have:=aH.1;omega),R5.a.2 c hc]⟩⟩
  have kk:∀ c,c < g3.next->c≠X->Jp ov1≠some c->g6.get c=g3.get c:=fun c h1 h2 h3=>by rw[k6 c h2,j5 c (aw h1 n34) h3,a4.2 c h1]
  refine key g6 ov2 ([⟨part,v1,Xud to⟩] ++ [⟨sum-fee-part,v2,Xud owner⟩]) _ gX6 R6 ov2N osN (oi3.keep fun c hc hl=>kk c hl (by have:=(oi.from hc).1;omega) fun e => ?_) ?_ (by rw[eg6];show N<=g5.next;omega) (by simp[t4]) (by simp[t7]) (by simp[t9]) ?_ (by simp) (by simp) (fun q hq => ?_)
  ·rw[b1]at e;have:=bB e;have:=(oi.from hc).2;omega
  ·rw[kk _ (by omega) (by omega) (fun e=>by rw[b1]at e;have:=bB e;omega)];exact gR3
  ·have : Q10 (([(⟨part,v1,Xud to⟩:OutV)] ++ [(⟨sum-fee-part,v2,Xud owner⟩:OutV)]).map OutV.p)=part+(sum-fee-part):=by simp[Q10,OutV.p]
   rw[this];omega
  ·simp only[bw,aR,dq,ac,aM]at hq;rcases hq with rfl | rfl
   ·exact⟨by show 1<=part;omega,to,by omega,by omega,rfl⟩
   ·exact⟨by show 1<=sum-fee-part;omega,owner,by omega,by omega,rfl⟩
 ·simp[Zl,-Zl,t3,t4,t7,t8,t9,Xac b part o1.sl,bl1,Z9o,one1,st3,hws,hpt];refine key g3 ov1 [⟨part,v1,Xud to⟩] _ gX3 R3 (fun c hc=>by rw[b1]at hc;cases hc;omega) (fun y hy c hc=>by rw[aM.1 hy]at hc;have:=v1b c hc;omega) oi3 gR3 (by omega) (by simp[t4]) (by simp[t7]) (by simp[t9]) ?_ (by simp) (by simp) (fun q hq => ?_)
  ·have : Q10 ([(⟨part,v1,Xud to⟩:OutV)].map OutV.p)=part:=by simp[Q10,OutV.p]
   rw[this];omega
  ·simp only[aR,dq,aM]at hq;subst hq;exact⟨by show 1<=part;omega,to,by omega,by omega,rfl⟩
end
structure MRg (t:Tr Value) (lb h X:Nat) (v:Value) (owner sum:Int) (i:Nat):Prop where
 t0:t.get 0=some (.pointer (some ⟨lb,0,none⟩))
 t3:t.get 3=some (.pointer (some ⟨h,0,none⟩))
 t4:t.get 4=some (.pointer (some ⟨h+1,0,none⟩))
 t6:t.get 6=some v
 t7:t.get 7=some (.int .i64 owner)
 t8:t.get 8=some (.int .i64 sum)
 t9:t.get 9=some (.pointer (some ⟨X,0,none⟩))
 t10:t.get 10=some (.int .i64 (i:Int))
structure MIv (h hX:Heap) (m:Qu8) (X:Nat) (iv:Value) (pts:List Pt) (owner sum:Int) (g:Heap):Prop where
 c:Coins m owner sum pts
 gX:g.get X=some (.cells true 1 (txC iv (.slice none 0 0) 0))
 o:Own g hX.next 34 iv pts.length (Qek (pts.map Zfi))
 n:hX.next<=g.next
 f:∀ c,c < hX.next->c≠X->g.get c=hX.get c
def MI(h hX:Heap)(m:Qu8)(lb X:Nat)(v:Value)(k:Nat)(s:St):Prop:=∃ (t:Tr Value) (g:Heap) (iv:Value) (pts:List Pt) (owner sum:Int) (i:Nat),s=⟨⟨161,t⟩,[],g⟩/\MRg t lb h.next X v owner sum i/\i<=4/\k=4-i/\pts.length<=i/\MIv h hX m X iv pts owner sum g
def Z2h{m:Qu8}{B:Int}(G:Znz m B):∀ {l:List Pt},0<=Yip m l
 | []=>by simp[Yip]
 | p::l=>by
  have ih:=Z2h G (l:=l);have e:Yip m (p::l)=(X8o m p).value+Yip m l:=by simp[Yip]
  have h1:0<=(X8o m p).value:=by
   unfold X8o;cases hm:m p with
   | none=>exact Int.le_refl _
   | some c=>have:=(G p c hm).2.1;show 0<=c.value;omega
  omega
def Z5w(m:Qu8)(l k:List Pt):Yip m (l++k)=Yip m l+Yip m k:=by simp[Yip]
def MIv.old{h hX:Heap}{m:Qu8}{X:Nat}{iv:Value}{pts:List Pt}{owner sum:Int}{g g':Heap}(I:MIv h hX m X iv pts owner sum g)(a:Old g g'):MIv h hX m X iv pts owner sum g' :=
 ⟨I.c,a.get I.gX,I.o.keep fun c _ hl=>a.2 c hl,al I.n a.1,fun c h1 h2=>by rw[a.2 c (aw h1 I.n),I.f c h1 h2]⟩
def MJ(g:Heap)(lb h X:Nat)(v:Value)(owner sum:Int)(i P O:Nat)(who:Int)(p:Pt)(pts:List Pt)(k:Nat)(s:St):Prop:=∃ (t:Tr Value) (j:Nat),s=⟨⟨161,t⟩,[],g⟩/\MRg t lb h X v owner sum i/\t.get 11=some (.pointer (some ⟨P,0,none⟩))/\t.get 12=some (.pointer (some ⟨O,0,none⟩))/\t.get 15=some (.int .i64 who)/\t.get 16=some (.bool true)/\t.get 17=some (.bool (decide (p ∈ pts.take j)))/\t.get 18=some (.int .i64 (j:Int))/\j<=pts.length/\k=pts.length-j
def Zn1(pts:List Pt)(p:Pt):Qek ((pts ++ [p]).map Zfi)=Qek (pts.map Zfi)++(p.cells ++ [.slice none 0 0]):=by
 simp[Qek,Zfi,InV.cells]
section
attribute [local simp] Ja V8 Ys Xy Qnp Y2 Qg7 Qvq Qlf Jf J3 Qci J1 Xt J2 Zo Ut Jx Wn Y0 Qal Vi J7 Jm Jc Qa5 W9 Vd Qce Xx Zt Wh J0 Zn Zr Zq Vb Qga Qg2 J4 Zp Qg9 Jk Qfy Ji Jt Qg4 Qba Uf Zf Zl
set_option maxHeartbeats 8000000 in
def Jb1(b:Nat){h:Heap}{lb mb z ν clk:Nat}{ks:List Nat}{un:Value}{ls:List LC}{ud:List (List BK)}(S:LedS h lb mb z ν clk ks un ls ud)(hn:ls.length < 900000){B:Int}(G:Znz (Qcd ls) B)(hB:0<=B)(h4:4*B<=1125899906842624){x:MvV}(mv:MvAt h x)
  (K:KP) (hno:∀ h',Old h h'->K (.ret (.tuple #[.agg ⟨Ybd⟩,.bool false])) h')
  (hk:∀ iv2 ov2 ins2 outs2 h',MadeAt2 h h' (Qcd ls) iv2 ov2 ins2 outs2->K (.ret (.tuple #[.agg ⟨txC iv2 ov2 0⟩,.bool true])) h') :
  CallOK Tryz.prog (E b).G 7 [.pointer (some ⟨lb,0,none⟩),.agg ⟨x.cells⟩] h K:=by
 refine Qi1 (E b) (Vt _ _) (Ui b) (Jl b) mixed (Un b) (Ys b) Yxt Zg7 Y8p rfl ?_;obtain⟨hA,eA⟩:∃ hA,hA=h.push (.cells true 1 x.cells):=⟨_,rfl⟩;have bx:=Q1v eA;have aA:=Qqr eA;have gA:hA.get h.next=some (.cells true 1 x.cells):=by rw[eA,Heap.get_push,if_pos rfl]
 have nA:=Xbt eA;obtain⟨hB',eB⟩:∃ hB',hB'=hA.push (.cells true 1 Ybd):=⟨_,rfl⟩;have alB:Qbi (E b).toEnv 32 hA=some (.pointer (some ⟨h.next+1,0,none⟩),hB'):=by rw[eB,<- nA];exact Qbb b hA
 have aB:=Qqr eB;have gB:hB'.get (h.next+1)=some (.cells true 1 Ybd):=by rw[eB,Heap.get_push,if_pos nA]
 have nB:hB'.next=h.next+2:=by rw[eB];simp only[Qhq,nA]
 have aAB:=aA.trans aB;have SLB:=S.old aAB;simp[Qbb,Qiy,Wb,Yw,bx,-Qbb,alB];refine Zmh b SLB.la SLB.gl SLB.co (by omega) _ fun v h1 l pm pb hl op a1 => ?_;have aA1:=aB.trans a1;have aH1:=aA.trans aA1;have gM1:=aA1.get gA;have gR1:=a1.get gB;have lenA:∀ hx,Qnm (E b).toEnv 26 v hx=some (.int .i64 (l.length:Int)):=fun hx=>Qca (T26 b) op.sl;have lenC:∀ hx,Qnm (E b).toEnv 22 x.cv hx=some (.int .i64 (x.coins.length:Int)):=fun hx=>Qca (T22 b) mv.s;have c0:∀ {hx:Heap},hx.get h.next=some (.cells true 1 x.cells)->J6 hx h.next 0=some x.cv:=fun g=>by rw[Zd g];rfl
 obtain⟨nt,ent⟩:∃ nt,nt=Ybd:=⟨_,rfl⟩;have nl:nt.length=3:=by rw[ent];rfl
 have bd:Qmn (E b).toEnv 32 []=some (.agg ⟨nt⟩):=by rw[ent];exact Jf6 b
 have lR1:=Heap.get_lt gR1;obtain⟨gz,egz⟩:∃ gz,gz=h1.set (h.next+1) (some (.cells true 1 nt)):=⟨_,rfl⟩;have stz:Ur h1 (h.next+1) 0 nt=some gz:=by rw[egz,W8 gR1 (by rw[nl];simp[Ybd,txC])];simp[nl,Ybd,txC]
 have ldz:Qbn gz (h.next+1) 0 3=some (.agg ⟨nt⟩):=agW (by rw[egz,Heap.get_set _ _ _ _ lR1,if_pos rfl]) (by omega) (by omega);have oz:Old h gz:=by rw[egz];exact aH1.set _ (by omega) lR1
 have hno':=hno gz oz;rw[<- ent]at hno';by_cases hl0:l.length=0
 ·simp[Qbb,Qiy,Wb,Yw,lenA,hl0,bd,nl,stz,ldz];exact hno'
 have hl0':¬ (l.length:Int)=0:=by omega
 by_cases hc0:x.coins.length=0
 ·simp[Qbb,Qiy,Wb,Yw,lenA,hl0,hl0',c0 gM1,lenC,hc0,bd,nl,stz,ldz];exact hno'
 have hc0':¬ (x.coins.length:Int)=0:=by omega
 obtain⟨hX,eX⟩:∃ hX,hX=h1.push (.cells true 1 Ybd):=⟨_,rfl⟩;have alX:Qbi (E b).toEnv 32 h1=some (.pointer (some ⟨h1.next,0,none⟩),hX):=by rw[eX];exact Qbb b h1
 have aX:=Qqr eX;have gX:hX.get h1.next=some (.cells true 1 Ybd):=by rw[eX,Heap.get_push,if_pos rfl]
 have nX:=Xbt eX;simp[Qbb,Qiy,Wb,Yw,-Yw,lenA,hl0,hl0',c0 gM1,lenC,hc0,hc0',-Qbb,alX];refine Qfw (MI h hX (Qcd ls) lb h1.next v) 4 ⟨_,hX,.slice none 0 0,[],0,0,0,rfl,⟨by simp,by simp,by simp,by simp,by simp,by simp,by simp,by simp⟩,by omega,rfl,by simp,⟨⟨fun _=>rfl,fun q=>absurd rfl q,by simp,by simp,by simp,by simp[Yip],by simp⟩,gX,Own.nil,ae _,fun _ _ _=>rfl⟩⟩ ?_;rintro k s' ⟨t,g,iv,pts,owner,sum,i,rfl,⟨t0,t3,t4,t6,t7,t8,t9,t10⟩,hi,rfl,hpi,I⟩ -;have aHX:=aH1.trans aX;have aHg:Old h g:=⟨by have:=I.n;have:=aHX.1;omega,fun c hc=>by rw[I.f c (by have:=aHX.1;omega) (by have:=aH1.1;omega),aHX.2 c hc]⟩;have Sg:=S.old aHg;have gMg:g.get h.next=some (.cells true 1 x.cells):=by rw[I.f _ (by have:=Heap.get_lt gM1;omega) (by have:=Heap.get_lt gM1;omega)];exact aX.get gM1
 have gRg:g.get (h.next+1)=some (.cells true 1 Ybd):=by rw[I.f _ (by omega) (by omega)];exact aX.get gR1
 have slA:Sl g 33 v l.length (Qn4 l):=op.sl.keep fun c hc hl=>by rw[I.f c (by omega) (by omega)];exact aX.2 c hl
 by_cases hlt:i < x.coins.length/\i < 4
 ·have hlt':(i:Int) < (x.coins.length:Int):=by omega
  have hlt4:(i:Int) < 4:=by omega
  have hw:=wS (i:=i) (by omega);obtain⟨cn,hcn⟩:∃ cn,x.coins[i]? = some cn:=⟨_,ab hlt.1⟩;have mvg:=mv.old aHg;obtain⟨bk,off,x0,x1,x2, -⟩:=Q96 (T22 b) Xh3 mvg.s (k:=.i64) (i:=(i:Int)) (by omega) hlt';have x2:=x2 0 (by omega);rw[bn,d6,ca,ca,bc,hcn]at x2;simp only[az]at x2;have pin:=X2s cn (n:=(l.length:Int)) (by omega);obtain⟨j,hj,hjl⟩:∃ j:Nat,Ydi cn (l.length:Int)=(j:Int)/\j < l.length:=⟨(Ydi cn (l.length:Int)).toNat,by omega,by omega⟩;obtain⟨p,hp⟩:∃ p,l[j]? = some p:=⟨_,ab hjl⟩;have hpl:=ak hp;obtain⟨bp,op',y1,y2⟩:=Z6b (b:=b) (T26 b) Qyg slA hp;obtain⟨c,hc⟩:∃ c,Qcd ls p=some c:=by
   cases hm:Qcd ls p with
   | none=>exact absurd hm ((pm.at' p).1 hpl)
   | some c=>exact⟨c,rfl⟩
  have hgc:X8o (Qcd ls) p=c:=by unfold X8o;rw[hc];rfl
  obtain⟨⟨o',o1,o2,hsc⟩,cv1,cv2, -, -⟩:=G p c hc;simp[Qbb,Qiy,Wb,Yw,-Yw,t0,t3,t4,t6,t7,t8,t9,t10,c0 gMg,lenC,hlt',hlt4,x1,x2,lenA];refine(Yf9 b cn (n:=(l.length:Int)) (by omega) (by omega) g _ ?_).ok;rw[hj];obtain⟨hA2,hP,alP,stP,stP',gP,aP,nP⟩:=Qz3 b (Ym2 b) (l:=p.cells) (by rw[Pt.len,Qyg]) (by kernel_rfl) g;have lP:∀ {hx:Heap},hx.get g.next=some (.cells true 1 p.cells)->Qbn hx g.next 0 33=some (.agg ⟨p.cells⟩):=fun q=>agW q (by rw[Pt.len];omega) (by rw[Pt.len];omega);have plen:=p.len;have SgP:=Sg.old aP;simp[Qbb,Qiy,Wb,Yw,-Yw,t0,t3,t4,t6,t7,t8,t9,t10,y1,y2,-Qiy,alP,stP,stP',plen,lP gP];refine(Z8d b SgP.gl SgP.co p _ fun sv h3 o3 a3 => ?_).ok;rw[hgc]at o3 ⊢;obtain⟨hA3,h4',alO,stO,stO',gO,aO,nO⟩:=Qz3 b (Yse b) (l:=[.int .i64 c.value,sv]) (by rw[Qi0];rfl) (by kernel_rfl) h3;have cO:∀ {hx:Heap},hx.get h3.next=some (.cells true 1 [.int .i64 c.value,sv])->J6 hx h3.next 0=some (.int .i64 c.value)/\J6 hx h3.next 1=some sv:=fun g=>⟨by rw[Zd g];rfl,by rw[Zd g];rfl⟩;have cO4:=cO gO;simp[Qbb,Qiy,Wb,Yw,-Yw,t0,t3,t4,t6,t7,t8,t9,t10,-Wb,alO,stO,stO',cO4];have so:SB h4' sv (Xud o'):=by
   have:=(o3.sl.old aO);rw[hsc]at this;exact this
  refine Z71 b ⟨o1,o2⟩ so _ fun h5 a5 => ?_;have aP5:Old hP h5:=a3.trans (aO.trans a5);have ag5:=aP.trans aP5;have I5:=I.old ag5;have gP5:=aP5.get gP;have cO5:=cO (a5.get gO);simp[Qbb,Qiy,Wb,Yw,-Yw,t0,t3,t4,t6,t7,t8,t9,t10];refine Qfw (MJ h5 lb h.next h1.next v owner sum i g.next h3.next o' p pts) pts.length ⟨_,0,rfl,⟨by simp[t0],by simp[t3],by simp[t4],by simp[t6],by simp[t7],by simp[t8],by simp[t9],by simp[t10]⟩,by simp,by simp,by simp,by simp,by simp,by simp,by omega,rfl⟩ ?_;rintro k2 s2 ⟨t,jj,rfl,⟨t0,t3,t4,t6,t7,t8,t9,t10⟩,t11,t12,t15,t16,t17,t18,hjj,rfl⟩ -;have cX5:J6 h5 h1.next 0=some iv:=by rw[Zd I5.gX];rfl
  have il:(pts.map Zfi).length=pts.length:=by simp
  have oI:Own h5 hX.next 34 iv (pts.map Zfi).length (Qek (pts.map Zfi)):=by rw[il];exact I5.o
  have lenI:∀ hx,Qnm (E b).toEnv 30 iv hx=some (.int .i64 (pts.length:Int)):=fun hx=>Qca (T30 b) I5.o.sl;by_cases hjlt:jj < pts.length
  ·have hjlt':(jj:Int) < (pts.length:Int):=by omega
   have hwj:=wS (i:=jj) (by omega);obtain⟨q,hq⟩:∃ q,pts[jj]? = some q:=⟨_,ab hjlt⟩;have hq':(pts.map Zfi)[jj]? = some (Zfi q):=by rw[bc,hq];rfl
   obtain⟨B1,O1, -,z1, -, -⟩:=Ycb (b:=b) (T30 b) Qn3 oI.sl hq';have z2:=Jc3 (b:=b) oI.sl hq' z1;have z2:Qbn h5 B1 O1 33=some (.agg ⟨q.cells⟩):=z2;have pq:=peq b q p;have tk:p ∈ pts.take (jj+1)↔p ∈ pts.take jj∨q=p:=by
    rw[bm,hq,ac];simp[eq_comm]
   simp[Qbb,Qiy,Wb,Yw,-Yw,t0,t3,t4,t6,t7,t8,t9,t10,t11,t12,t15,t16,t17,t18,cX5,lenI,hjlt,hjlt'];by_cases th:p ∈ pts.take jj
   ·rw[decide_eq_true th]at t17;have e17:decide (p ∈ pts.take (jj+1))=true:=decide_eq_true (tk.2 (.inl th));refine Qh6 [] (by simp) Q7f Xci Q7t (by simp[Xfy,Xfe,Qbb,Qiy,Wb,Yw,t0,t9,t11,t17,t18,cX5,z1,z2,lP gP5];first | exact⟨rfl,rfl⟩ | rfl) ?_ ?_
    ·simp[Qp6,Qbb,Qiy,Wb,Yw,t0,t9,t11,t17,t18]
    simp[Qbb,Qiy,Wb,Yw,-Yw,t0,t3,t4,t6,t7,t8,t9,t10,t11,t12,t15,t16,t17,t18,hwj];exact⟨pts.length-(jj+1),by omega,_,jj+1,rfl,⟨by simp[t0],by simp[t3],by simp[t4],by simp[t6],by simp[t7],by simp[t8],by simp[t9],by simp[t10]⟩,by simp[t11],by simp[t12],by simp[t15],by simp[t16],by rw[e17];simp,by simp,by omega,rfl⟩
   ·rw[decide_eq_false th]at t17;have e17:decide (p ∈ pts.take (jj+1))=decide (q=p):=by
     by_cases e:q=p
     ·rw[decide_eq_true e,decide_eq_true (tk.2 (.inr e))]
     ·rw[decide_eq_false e,decide_eq_false fun w=>(tk.1 w).elim th e]
    refine Qh6 [] (by simp) Q7f Xci Q7t (by simp[Xfy,Xfe,Qbb,Qiy,Wb,Yw,t0,t9,t11,t17,t18,cX5,z1,z2,lP gP5,pq];first | exact⟨rfl,rfl⟩ | rfl) ?_ ?_
    ·simp[Qp6,Qbb,Qiy,Wb,Yw,t0,t9,t11,t17,t18]
    simp[Qbb,Qiy,Wb,Yw,-Yw,t0,t3,t4,t6,t7,t8,t9,t10,t11,t12,t15,t16,t17,t18,hwj];exact⟨pts.length-(jj+1),by omega,_,jj+1,rfl,⟨by simp[t0],by simp[t3],by simp[t4],by simp[t6],by simp[t7],by simp[t8],by simp[t9],by simp[t10]⟩,by simp[t11],by simp[t12],by simp[t15],by simp[t16],by rw[e17];simp,by simp,by omega,rfl⟩
  ·have hjlt':¬ (jj:Int) < (pts.length:Int):=by omega
   have : jj=pts.length:=by omega
   subst this;rw[bO]at t17;have again:∀ tt:Tr Value,MRg tt lb h.next h1.next v owner sum (i+1)->∃ k',k' < 4-i/\MI h hX (Qcd ls) lb h1.next v k' ⟨⟨161,tt⟩,[],h5⟩:=fun tt R=>⟨4-(i+1),by omega,_,h5,iv,pts,owner,sum,i+1,rfl,R,by omega,rfl,by omega,I5⟩;by_cases hin:p ∈ pts
   ·rw[decide_eq_true hin]at t17;simp[Qbb,Qiy,Wb,Yw,-Yw,t0,t3,t4,t6,t7,t8,t9,t10,t11,t12,t15,t16,t17,t18,cX5,lenI,hw];exact again _ ⟨by simp[t0],by simp[t3],by simp[t4],by simp[t6],by simp[t7],by simp[t8],by simp[t9],by simp⟩
   rw[decide_eq_false hin]at t17;have take:(pts ≠ []->o'=owner)->∀ (tt:Tr Value),MRg tt lb h.next h1.next v owner sum i->tt.get 11=some (.pointer (some ⟨g.next,0,none⟩))->tt.get 12=some (.pointer (some ⟨h3.next,0,none⟩))->tt.get 15=some (.int .i64 o')->∃ (h7:Heap) (iv':Value),Qfp (E b).toEnv 30 30 iv (.slice (some ⟨h5.next,0,none⟩) 1 1) (h5.push (.cells true 1 (p.cells ++ [.slice none 0 0])))=some (iv',h7)/\X94 iv'=true/\∃ h8,Ur h7 h1.next 0 [iv']=some h8/\MIv h hX (Qcd ls) h1.next iv' (pts ++ [p]) o' (sum+c.value) h8:=by
    intro hoo tt R _ _ _;obtain⟨iv',h7,j1,j2,j3,j4⟩:=Qrk (T30 b) (z:=34) Qn3 (by omega) I5.o I5.n (ys:=p.cells ++ [.slice none 0 0]) (by simp[Pt.len]) (by rw[Zmm];omega) (by omega);have ivX:∀ c,Jp iv=some c->hX.next<=c:=fun c hc=>(I5.o.from hc).1;have gX7:h7.get h1.next=some (.cells true 1 (txC iv (.slice none 0 0) 0)):=by rw[j3.2 _ (Heap.get_lt I5.gX) fun e=>by have:=ivX _ e;omega];exact I5.gX
    have l7:=Heap.get_lt gX7;obtain⟨h8,e8⟩:∃ h8,h8=h7.set h1.next (some (.cells true 1 (txC iv' (.slice none 0 0) 0))):=⟨_,rfl⟩;have k8:∀ c,c≠h1.next->h8.get c=h7.get c:=fun c hc=>by rw[e8,Heap.get_set _ _ _ _ l7,if_neg (Ne.symm hc)]
    refine⟨h7,iv',j1,j2.one,h8,by rw[e8,Qhv gX7 (by simp[txC])];rfl,⟨⟨fun q=>by simp at q,fun _=>⟨o1,o2⟩,by rw[aj,bQ];omega,Yge.2 ⟨I5.c.nd,hin⟩,fun q hq => ?_,?_,fun q hq => ?_⟩,by rw[e8,Heap.get_set _ _ _ _ l7,if_pos rfl],?_,?_,fun c h1' h2' => ?_⟩⟩
    ·rcases ac.1 hq with w | w
     ·obtain⟨cq,q1,q2⟩:=I5.c.at' q w;exact⟨cq,q1,by rw[q2,hoo (List.ne_nil_of_mem w)]⟩
     ·rw[aM.1 w];exact⟨c,hc,hsc⟩
    ·rw[Z5w,<- I5.c.s];simp[Yip,hgc]
    ·rcases ac.1 hq with w | w
     ·exact I5.c.b q w
     ·rw[aM.1 w];exact pb p hpl
    ·rw[Zn1,aj,bQ];exact j2.keep fun c hc hl=>k8 c (by have:=(j2.from hc).1;omega)
    ·rw[e8];have:=I5.n;have:=j3.1;show hX.next<=h7.next;omega
    ·rw[k8 c h2',j3.2 c (aw h1' I5.n) fun e=>by have:=ivX c e;omega,I5.f c h1' h2']
   have hsum0:0<=sum:=by rw[I5.c.s];exact Z2h G
   have hsum4:sum<=4*B:=by
    have q1:=Zdw G hB (l:=pts);have : (pts.length:Int)*B<=4*B:=dC (by omega) hB;have:=I5.c.s;omega
   have hws:IntKind.i64.wrap (sum+c.value)=sum+c.value:=W2 (by omega) (by omega);have bl:Vx (E b).toEnv 30 1 [(0,.agg ⟨p.cells ++ [.slice none 0 0]⟩)] h5=some (.slice (some ⟨h5.next,0,none⟩) 1 1,h5.push (.cells true 1 (p.cells ++ [.slice none 0 0]))):=Q7b (T30 b) (z:=34) (y:=.agg ⟨p.cells ++ [.slice none 0 0]⟩) (ys:=p.cells ++ [.slice none 0 0]) Qn3 (by omega) (by omega) rfl rfl (by simp[Pt.len]);have R0:MRg t lb h.next h1.next v owner sum i:=⟨t0,t3,t4,t6,t7,t8,t9,t10⟩;by_cases hpos:0 < owner
   ·by_cases hwo:o'=owner
    ·obtain⟨h7,iv',j1,one',h8,st8,I8⟩:=take (fun _=>hwo) t R0 t11 t12 t15;simp[Qbb,Qiy,Wb,Yw,-Yw,t0,t3,t4,t6,t7,t8,t9,t10,t11,t12,t15,t16,t17,t18,cX5,lenI,hw,hpos,hwo,cO5,hws,lP gP5,Zu1,bl,j1,Jd6,one',st8];rw[hwo]at I8;exact⟨4-(i+1),by omega,_,h8,iv',pts ++ [p],owner,sum+c.value,i+1,rfl,⟨by simp[t0],by simp[t3],by simp[t4],by simp[t6],by simp,by simp,by simp[t9],by simp⟩,by omega,rfl,by simp;omega,I8⟩
    ·simp[Qbb,Qiy,Wb,Yw,-Yw,t0,t3,t4,t6,t7,t8,t9,t10,t11,t12,t15,t16,t17,t18,cX5,lenI,hw,hpos,hwo];exact again _ ⟨by simp[t0],by simp[t3],by simp[t4],by simp[t6],by simp[t7],by simp[t8],by simp[t9],by simp⟩
   ·obtain⟨h7,iv',j1,one',h8,st8,I8⟩:=take (fun q=>absurd (I5.c.o q).1 (by omega)) t R0 t11 t12 t15;simp[Qbb,Qiy,Wb,Yw,-Yw,t0,t3,t4,t6,t7,t8,t9,t10,t11,t12,t15,t16,t17,t18,cX5,lenI,hw,hpos,cO5,hws,lP gP5,Zu1,bl,j1,Jd6,one',st8];exact⟨4-(i+1),by omega,_,h8,iv',pts ++ [p],o',sum+c.value,i+1,rfl,⟨by simp[t0],by simp[t3],by simp[t4],by simp[t6],by simp,by simp,by simp[t9],by simp⟩,by omega,rfl,by simp;omega,I8⟩
 ·have fin:∀ tt:Tr Value,MRg tt lb h.next h1.next v owner sum i->Wu (E b) (Xh2 Tryz.prog (E b).G) (D0 b) none Q4u ⟨⟨161,tt⟩,[],g⟩ (Yzm (E b) (DD b) Qvl K):=fun tt R =>
   Zzz b S.la G hB h4 I.c gMg gRg I.gX (by omega) (by omega) I.n I.o aHg R.t3 R.t4 R.t7 R.t8 R.t9 K hno hk
  by_cases h1':i < x.coins.length
  ·have hlt':(i:Int) < (x.coins.length:Int):=by omega
   have h2:¬ (i:Int) < 4:=by omega
   simp[Qbb,Qiy,Wb,Yw,-Yw,t0,t3,t4,t6,t7,t8,t9,t10,c0 gMg,lenC,hlt',h2];exact fin _ ⟨by simp[t0],by simp[t3],by simp[t4],by simp[t6],by simp[t7],by simp[t8],by simp[t9],by simp[t10]⟩
  ·have hlt':¬ (i:Int) < (x.coins.length:Int):=by omega
   simp[Qbb,Qiy,Wb,Yw,-Yw,t0,t3,t4,t6,t7,t8,t9,t10,c0 gMg,lenC,hlt'];exact fin _ ⟨by simp[t0],by simp[t3],by simp[t4],by simp[t6],by simp[t7],by simp[t8],by simp[t9],by simp[t10]⟩
end
def SPJ(v1 v2:Value)(l m:List Pt)(h:Heap)(k:Nat)(s:St):Prop:=∃ (t:Tr Value) (i:Nat),s=⟨⟨27,t⟩,[],h⟩/\t.get 0=some v1/\t.get 1=some v2/\t.get 5=some (.int .i64 (i:Int))/\i<=m.length/\k=m.length-i/\l.take i=m.take i
section
attribute [local simp] Qdm Qhc Zi Qfr Qnp Wh Qfs Xt Wn Qce Qej Xx
def Y7g(b:Nat){h:Heap}{v1 v2:Value}{l m:List Pt}(s1:Sl h 33 v1 l.length (Qn4 l))(s2:Sl h 33 v2 m.length (Qn4 m))(hn:m.length < 1000000)(K:KP)(hk:K (.ret (.bool (decide (l=m)))) h) :
  FK b 11 [v1,v2] h K:=by
 refine FF b (Zi b) X8z Yo8 Yj3 rfl ?_;have len1:∀ hx,Qnm (E b).toEnv 26 v1 hx=some (.int .i64 (l.length:Int)):=fun hx=>Qca (T26 b) s1;have len2:∀ hx,Qnm (E b).toEnv 26 v2 hx=some (.int .i64 (m.length:Int)):=fun hx=>Qca (T26 b) s2;by_cases hl:l.length=m.length
 ·rw[hl]at len1;simp[len1,len2];refine Qfw (SPJ v1 v2 l m h) m.length ⟨_,0,rfl,by simp,by simp,by simp,by omega,rfl,by simp⟩ ?_;rintro k s' ⟨t,i,rfl,t0,t1,t5,hi,rfl,he⟩ -;by_cases hlt:i < m.length
  ·have hlt':(i:Int) < (m.length:Int):=by omega
   obtain⟨p,hp⟩:∃ p,l[i]? = some p:=⟨_,ab (by omega)⟩;obtain⟨q,hq⟩:∃ q,m[i]? = some q:=⟨_,ab hlt⟩;obtain⟨b1,o1,x1,x2⟩:=Z6b (b:=b) (T26 b) Qyg s1 hp;obtain⟨b2,o2,y1,y2⟩:=Z6b (b:=b) (T26 b) Qyg s2 hq;have hw:=wS (i:=i) (by omega);simp[t0,t1,t5,len1,hlt,hlt'];refine Qh6 [] (by simp) Xr6 Xva Xrz (by simp[X1b,t0,t1,t5,x1,x2,y1,y2,peq];first | exact⟨rfl,rfl⟩ | rfl) ?_ ?_
   ·simp[Qnw]
   by_cases hpq:p=q
   ·simp[t0,t1,t5,hpq,hw];refine⟨m.length-(i+1),by omega,_,i+1,rfl,by simp[t0],by simp[t1],by simp,by omega,rfl,?_⟩;rw[bm,bm,hp,hq,he,hpq]
   ·simp[t0,t1,t5,hpq];have : l≠m:=fun e=>hpq (by rw[e,hq]at hp;exact(bB hp).symm);simpa[this]using hk
  ·have hlt':¬ (i:Int) < (m.length:Int):=by omega
   have : i=m.length:=by omega
   subst this;rw[bO,<- hl,bO]at he;simp[t0,t1,t5,len1,hlt'];simpa[he]using hk
 ·have hl':¬ (l.length:Int)=(m.length:Int):=by omega
  simp[len1,len2,hl,hl'];have : l≠m:=fun e=>hl (by rw[e]);simpa[this]using hk
end
def SIJ(v1 v2:Value)(n:Nat)(h:Heap)(k:Nat)(s:St):Prop:=∃ (t:Tr Value) (i:Nat),s=⟨⟨27,t⟩,[],h⟩/\t.get 0=some v1/\t.get 1=some v2/\t.get 5=some (.int .i64 (i:Int))/\i<=n/\k=n-i
section
attribute [local simp] Qks Qqt J9 Qnk Qlf Wh Qni Qnj Xt Ut Y2 Qm0 Xx Qm3 Qm6
def Yw5(b:Nat){h:Heap}{v1 v2:Value}{l:List Int}{n:Nat}(hl:l.length=n)(s1:Sl h 1 v1 n (l.map (Value.int .i64)))(s2:Sl h 1 v2 n (l.map (Value.int .i64)))(hn:n < 1000000)(K:KP)(hk:K (.ret (.bool true)) h) :
  FK b 13 [v1,v2] h K:=by
 refine FF b (J9 b) Ygm Y3j Ywx rfl ?_;have len1:∀ hx,Qnm (E b).toEnv 22 v1 hx=some (.int .i64 (n:Int)):=fun hx=>Qca (T22 b) s1;have len2:∀ hx,Qnm (E b).toEnv 22 v2 hx=some (.int .i64 (n:Int)):=fun hx=>Qca (T22 b) s2;simp[len1,len2];refine Qfw (SIJ v1 v2 n h) n ⟨_,0,rfl,by simp,by simp,by simp,by omega,rfl⟩ ?_;rintro k s' ⟨t,i,rfl,t0,t1,t5,hi,rfl⟩ -;by_cases hlt:i < n
 ·have hlt':(i:Int) < (n:Int):=by omega
  obtain⟨x,hx⟩:∃ x,l[i]? = some x:=⟨_,ab (by omega)⟩;obtain⟨b1,o1, -,x1,x2, -⟩:=Q96 (T22 b) Xh3 s1 (k:=.i64) (i:=(i:Int)) (by omega) hlt';have x2:=x2 0 (by omega);rw[bn,d6,ca,ca,bc,hx]at x2;obtain⟨b2,o2, -,y1,y2, -⟩:=Q96 (T22 b) Xh3 s2 (k:=.i64) (i:=(i:Int)) (by omega) hlt';have y2:=y2 0 (by omega);rw[bn,d6,ca,ca,bc,hx]at y2;simp only[az]at x2 y2;have hw:=wS (i:=i) (by omega);simp[t0,t1,t5,len1,hlt,hlt'];refine Qh6 [] (by simp) X04 X54 X07 (by simp[Yab,t0,t1,t5,x1,x2,y1,y2];first | exact⟨rfl,rfl⟩ | rfl) ?_ ?_
  ·simp[Qr0]
  simp[t0,t1,t5,hw];exact⟨n-(i+1),by omega,_,i+1,rfl,by simp[t0],by simp[t1],by simp,by omega,rfl⟩
 ·have hlt':¬ (i:Int) < (n:Int):=by omega
  simp[t0,t1,t5,len1,hlt,hlt'];exact hk
end
def Shown.bl{h:Heap}{lo:Nat}{pv ov bv:Value}{m:Qu8}{ht:Int}{l:List Pt}{os:List OutV}(_:Shown h lo pv ov bv m ht l os):(Yey m l ++ [ht]).length=l.length+1:=by simp[Yey]
structure UEnd (t:Tr Value) (lb lb' n:Nat) (pv ov bv pv2 ov2 bv2:Value):Prop where
 t5:t.get 5=some (.pointer (some ⟨lb,0,none⟩))
 t6:t.get 6=some pv
 t7:t.get 7=some ov
 t8:t.get 8=some bv
 t9:t.get 9=some (.int .i64 (n:Int))
 t13:t.get 13=some (.pointer (some ⟨lb',0,none⟩))
 t14:t.get 14=some pv2
 t15:t.get 15=some ov2
 t16:t.get 16=some bv2
section
attribute [local simp] Z7 Zj Zh Zc Jb Qfa Zb Jo Z1 Q1x Xt Z6 Yt Q1r Ys Qbb Qci Z4 Uf Ya Us Z3 Xx Z5 Yy Yz Z0 Zi Zm J9 Xk Y2 Vk Z2 Yu Yv Yr Yo Ym Yq Yn Yp Yf Yk Y8
set_option maxHeartbeats 8000000 in
def Z8y(b:Nat){g:Heap}{lb mb ν clk lb' mb' ν' clk' lo1 lo2:Nat}{un un':Value}{ls ls':List LC}{ud':List (List BK)}{pv ov bv pv2 ov2 bv2:Value}{l1 l2:List Pt}{os1 os2:List OutV}
  (Sx:LedS g lb mb 1 ν clk Q0s un ls []) (Sy:LedS g lb' mb' 1 ν' clk' Q0s un' ls' ud') (hn:ls.length < 900000) (hn':ls'.length < 900000) (hud:ud'.length < 1000)
  (A:Shown g lo1 pv ov bv (Qcd ls) 0 l1 os1) (B:Shown g lo2 pv2 ov2 bv2 (Qcd ls') (ud'.length:Int) l2 os2)
  {t:Tr Value} (T:UEnd t lb lb' ud'.length pv ov bv pv2 ov2 bv2) (K:KP) (hk:∀ h',Old g h'->K (.ret (.bool true)) h') :
  Wu (E b) (Xh2 Tryz.prog (E b).G) (D0 b) none Qon ⟨⟨132,t⟩,[],g⟩ (Yzm (E b) (DD b) Qei K):=by
 obtain⟨t5,t6,t7,t8,t9,t13,t14,t15,t16⟩:=T;simp[t5,t6,t7,t8,t9,t13,t14,t15,t16];refine Yqp b Sx hn _ fun pv3 ov3 bv3 l3 os3 g1 C a1 => ?_;have C:Shown g1 g.next pv3 ov3 bv3 (Qcd ls) 0 l3 os3:=C;simp[t5,t6,t7,t8,t9,t13,t14,t15,t16];refine Yqp b (Sy.old a1) hn' _ fun pv4 ov4 bv4 l4 os4 g2 D a2 => ?_;simp[t5,t6,t7,t8,t9,t13,t14,t15,t16];have a12:=a1.trans a2;have A2:=A.keep (h':=g2) fun c _ hc=>a12.2 c hc;have B2:=B.keep (h':=g2) fun c _ hc=>a12.2 c hc;have C2:=C.keep (h':=g2) fun c _ hc=>a2.2 c hc;have e13:l3=l1:=C.pm.one A.pm;have e24:l4=l2:=D.pm.one B.pm;have hl1:=A.n;have hl2:=B.n;have oe13:os3.map OutV.p=os1.map OutV.p:=by rw[C.oe,A.oe,e13]
 have oe24:os4.map OutV.p=os2.map OutV.p:=by rw[D.oe,B.oe,e24]
 refine(Y7g b C2.pr.sl A2.pr.sl (by omega) _ ?_).ok;rw[decide_eq_true e13];simp[t5,t6,t7,t8,t9,t13,t14,t15,t16];refine(Ywu b C2.outs A2.outs _ ?_).ok;rw[decide_eq_true oe13];simp[t5,t6,t7,t8,t9,t13,t14,t15,t16];have C2b:=C2.br;rw[e13]at C2b;refine(Yw5 b A2.bl C2b.sl A2.br.sl (by omega) _ ?_).ok;simp[t5,t6,t7,t8,t9,t13,t14,t15,t16];refine(Y7g b D.pr.sl B2.pr.sl (by omega) _ ?_).ok;rw[decide_eq_true e24];simp[t5,t6,t7,t8,t9,t13,t14,t15,t16];refine(Ywu b D.outs B2.outs _ ?_).ok;rw[decide_eq_true oe24];simp[t5,t6,t7,t8,t9,t13,t14,t15,t16];have Db:=D.br;rw[e24]at Db;refine(Yw5 b B2.bl Db.sl B2.br.sl (by omega) _ ?_).ok;simp[t5,t6,t7,t8,t9,t13,t14,t15,t16];refine Zy4 b (Sx.old a12) _ ?_;simp[t5,t6,t7,t8,t9,t13,t14,t15,t16];have Sy2:=Sy.old a12;refine(Yfk b Sy2.gl Sy2.ur.len _ ?_).ok;simp[t5,t6,t7,t8,t9,t13,t14,t15,t16];refine(Ja0 b Sy2.la _ ?_).ok;simp[t5,t6,t7,t8,t9,t13,t14,t15,t16];exact hk g2 a12
end
def Zp8(ud:List (List BK))(m:Qu8):Qu8:=ud.foldr Yf7 m
def Zo5(ud:List (List BK))(bks:List BK)(m:Qu8):Zp8 (ud ++ [bks]) m=Zp8 ud (Yf7 bks m):=by simp[Zp8]
def UDI(lb lb' mb mb' n lo1 lo2:Nat)(m0:Qu8)(ls':List LC)(ud':List (List BK))(pv ov bv pv2 ov2 bv2:Value)(l1 l2:List Pt)(os1 os2:List OutV)(un':Value)(ν' clk':Nat)(k:Nat)(s:St):Prop :=
 ∃ (t:Tr Value) (g:Heap) (i clk ν:Nat) (un:Value) (ls:List LC) (ud:List (List BK)),s=⟨⟨132,t⟩,[],g⟩/\UEnd t lb lb' n pv ov bv pv2 ov2 bv2/\t.get 17=some (.int .i64 (i:Int))/\i+ud.length=n/\k=ud.length /\
  LedS g lb mb 1 ν clk Q0s un ls ud/\LedS g lb' mb' 1 ν' clk' Q0s un' ls' ud'/\Zp8 ud (Qcd ls)=m0/\(∀ b ∈ ud,b.length<=16)/\ls.length<=1000+16*i /\
  Shown g lo1 pv ov bv m0 0 l1 os1/\Shown g lo2 pv2 ov2 bv2 (Qcd ls') (ud'.length:Int) l2 os2
def Undid.keep{lb mb:Nat}{h h':Heap}(U:Undid lb mb h h'){lo:Nat}(h1:lb < lo)(h2:mb < lo):∀ c,lo<=c->c < h.next->h'.get c=h.get c:=fun c hc hl=>by
 obtain⟨g,bt, -,kp, -⟩:=U.ex;rw[kp c (aw hl bt.1) (by omega),bt.2 c hl (by omega)]
section
attribute [local simp] Z7 Zj Zh Zc Jb Qfa Zb Jo Z1 Q1x Xt Z6 Yt Q1r Ys Qbb Qci Z4 Uf Ya Us Z3 Xx Z5 Yy Yz Z0 Zi Zm J9 Xk Y2 Vk Z2 Yu Yv Yr Yo Ym Yq Yn Yp Yk Y8
set_option maxHeartbeats 4000000 in
def Z76(b:Nat){g:Heap}{lb mb ν clk lb' mb' ν' clk' lo1 lo2:Nat}{un un':Value}{ls ls':List LC}{ud ud':List (List BK)}{pv ov bv pv2 ov2 bv2:Value}{l1 l2:List Pt}{os1 os2:List OutV}{m0:Qu8}
  (Sx:LedS g lb mb 1 ν clk Q0s un ls ud) (Sy:LedS g lb' mb' 1 ν' clk' Q0s un' ls' ud') (hn:ls.length<=1000) (hn':ls'.length < 900000) (hud:ud.length<=20) (hud':ud'.length=ud.length)
  (hbk:Zp8 ud (Qcd ls)=m0) (hbl:∀ b ∈ ud,b.length<=16) (h1:lb'≠lb) (h2:mb'≠mb) (h3:Jp un'≠some lb) (ho:∀ s ∈ X2o ls'++Ywr ud',Jp s≠some lb) (q1:lb < lo1) (q2:mb < lo1) (q3:lb < lo2) (q4:mb < lo2)
  (A:Shown g lo1 pv ov bv m0 0 l1 os1) (B:Shown g lo2 pv2 ov2 bv2 (Qcd ls') (ud'.length:Int) l2 os2)
  {t:Tr Value} (T:UEnd t lb lb' ud.length pv ov bv pv2 ov2 bv2) (K:KP) (hk:∀ h',K (.ret (.bool true)) h') :
  Wu (E b) (Xh2 Tryz.prog (E b).G) (D0 b) none Qtf ⟨⟨132,t⟩,[],g⟩ (Yzm (E b) (DD b) Qei K):=by
 obtain⟨t5,t6,t7,t8,t9,t13,t14,t15,t16⟩:=T;simp[Yf,-Yf,t5,t6,t7,t8,t9,t13,t14,t15,t16];refine Qfw (UDI lb lb' mb mb' ud.length lo1 lo2 m0 ls' ud' pv ov bv pv2 ov2 bv2 l1 l2 os1 os2 un' ν' clk') ud.length ⟨_,g,0,clk,ν,un,ls,ud,rfl,⟨by simp[t5],by simp[t6],by simp[t7],by simp[t8],by simp[t9],by simp[t13],by simp[t14],by simp[t15],by simp[t16]⟩,by simp,by omega,rfl,Sx,Sy,hbk,hbl,by omega,A,B⟩ ?_;clear t5 t6 t7 t8 t9 t13 t14 t15 t16;rintro k s' ⟨t,gx,i,clkx,νx,unx,lsx,udx,rfl,⟨t5,t6,t7,t8,t9,t13,t14,t15,t16⟩,t17,hi,rfl,SX,SY,hbx,hlx,hnx,AX,BX⟩ -;rcases d9 udx with e | ⟨ud0,bks,e⟩
 ·subst e;have hi0:i=ud.length:=by simpa using hi
  have hlt':¬ (i:Int) < (ud.length:Int):=by omega
  have e0:Qcd lsx=m0:=hbx;rw[<- e0]at AX;rw[hi0]at hlt' t17;simp[Yf,-Yf,t5,t6,t7,t8,t9,t13,t14,t15,t16,t17];exact Z8y b SX SY (by omega) hn' (by omega) AX BX ⟨by simp[t5],by simp[t6],by simp[t7],by simp[t8],by rw[hud'];simp[t9],by simp[t13],by simp[t14],by simp[t15],by simp[t16]⟩ K fun h' _=>hk h'
 ·rw[da]at e;subst e;rw[aj,bQ]at hi;have hlt':(i:Int) < (ud.length:Int):=by omega
  have hw:=wS (i:=i) (by omega);have hb16:=hlx bks (by simp);simp[Yf,-Yf,t5,t6,t7,t8,t9,t13,t14,t15,t16,t17,hlt'];refine Z8x b SX (by omega) (by omega) _ fun gy uny lsy clky SX2 em U bu le => ?_;simp[Yf,-Yf,t5,t6,t7,t8,t9,t13,t14,t15,t16,t17,hw];refine⟨ud0.length,by simp,_,gy,i+1,clky,νx,uny,lsy,ud0,rfl,⟨by simp[t5],by simp[t6],by simp[t7],by simp[t8],by simp[t9],by simp[t13],by simp[t14],by simp[t15],by simp[t16]⟩,by simp,by omega,rfl,SX2,SX.undid SY U h1 h2 h3 ho,by rw[em,<- Zo5];exact hbx,fun c hc=>hlx c (by simp[hc]),by omega,AX.keep (U.keep q1 q2),BX.keep (U.keep q3 q4)⟩
end
structure UMn (t:Tr Value) (lb n i:Nat) (lv pv ov bv:Value):Prop where
 t1:t.get 1=some lv
 t5:t.get 5=some (.pointer (some ⟨lb,0,none⟩))
 t6:t.get 6=some pv
 t7:t.get 7=some ov
 t8:t.get 8=some bv
 t9:t.get 9=some (.int .i64 (n:Int))
 t10:t.get 10=some (.int .i64 (i:Int))
section
attribute [local simp] Z7 Zj Zh Zc Jb Qfa Zb Jo Z1 Q1x Xt Z6 Yt Q1r Ys Qbb Qci Z4 Uf Ya Us Z3 Xx Z5 Yy Yz Z0 Zi Zm J9 Xk Y2 Vk Z2 Yu Yv Yr Yo Ym Yq Yn Yp Yf Y8
set_option maxHeartbeats 4000000 in
def Z96(b:Nat){g:Heap}{lb mb ν clk lo1:Nat}{un:Value}{ls:List LC}{ud:List (List BK)}{lv pv ov bv:Value}{l1:List Pt}{os1:List OutV}{m0:Qu8}{i:Nat}
  (Sx:LedS g lb mb 1 ν clk Q0s un ls ud) (hn:ls.length<=1000) (hud:ud.length<=20) (hbk:Zp8 ud (Qcd ls)=m0) (hbl:∀ b ∈ ud,b.length<=16) (q1:lb < lo1) (q2:mb < lo1)
  (A:Shown g lo1 pv ov bv m0 0 l1 os1) {t:Tr Value} (T:UMn t lb ud.length i lv pv ov bv) (K:KP) (hk:∀ h',K (.ret (.bool true)) h') :
  Wu (E b) (Xh2 Tryz.prog (E b).G) (D0 b) none Qol ⟨⟨132,t⟩,[],g⟩ (Yzm (E b) (DD b) Qei K):=by
 obtain⟨t1,t5,t6,t7,t8,t9,t10⟩:=T;have hlb:=Heap.get_lt Sx.gl;have hmb:=Heap.get_lt Sx.co.gm;simp[Yk,-Yk,t1,t5,t6,t7,t8,t9,t10];refine(Ja2 b Sx (by omega) _ fun lb' mb' un' g1 Sy a1 n1 n2 ne nu => ?_).ok;simp[Yk,-Yk,t1,t5,t6,t7,t8,t9,t10];have Sx1:=Sx.old a1;refine Yqp b Sx1 (by omega) _ fun pv2 ov2 bv2 l2 os2 g2 B a2 => ?_;simp[Yk,-Yk,t1,t5,t6,t7,t8,t9,t10];have a12:=a1.trans a2;have n12:=a1.1;exact Z76 b (Sx.old a12) (Sy.old a2) hn (by omega) hud rfl hbk hbl (by omega) (by omega) (fun e=>by have:=nu _ e;omega) (fun s hs=>Sx.ofl s hs) q1 q2 (by omega) (by omega) (A.keep fun c _ hc=>a12.2 c hc) B ⟨by simp[t5],by simp[t6],by simp[t7],by simp[t8],by simp[t9],by simp,by simp,by simp,by simp⟩ K hk
end
def Yye(l:List MvV):List Value:=l.flatMap MvV.cells
def MvV.len(x:MvV):x.cells.length=4:=rfl
structure MvsAt (h:Heap) (v:Value) (l:List MvV):Prop where
 s:Sl h 4 v l.length (Yye l)
 n:l.length < 4611686018427387904
 a:∀ x ∈ l,MvAt h x
def Jh1{b:Nat}{te ts:TypeId}{re rs:TyRec}(T:SlTy (E b).toEnv te ts re rs)(hz:re.size=4){h:Heap}{v:Value}{l:List MvV}(s:Sl h 4 v l.length (Yye l)){i:Nat}{x:MvV}(hp:l[i]? = some x) :
  ∃ bk off,Jz (E b).toEnv ts v (.int .i64 (i:Int))=some (.pointer (some ⟨bk,off,none⟩))/\Qbn h bk off 4=some (.agg ⟨x.cells⟩):=by
 have hl:=(aq.1 hp).1;obtain⟨bk,off,q1,q2,q3,q4⟩:=Q96 T hz s (k:=.i64) (i:=(i:Int)) (by omega) (by omega);refine⟨bk,off,q2,?_⟩;rw[q4,bn,Yye,Yh8 MvV.len hp]
def Jez(b:Nat)(c1:TxV)(h:Heap):Vx (E b).toEnv 39 1 [(0,.agg ⟨txC c1.iv c1.ov c1.lock⟩)] h=some (.slice (some ⟨h.next,0,none⟩) 1 1,h.push (.cells true 1 c1.cells)):=by kernel_rfl
def Jb9{h:Heap}{x:TxV}(t:TxAt h x):TxsAt (h.push (.cells true 1 x.cells)) (.slice (some ⟨h.next,0,none⟩) 1 1) [x] :=
 ⟨(Own.new (n0:=0) (z:=3) (bz _) (by rw[Heap.get_push];exact if_pos rfl) rfl (by decide) (.inr rfl)).sl,by simp,fun y hy=>by rw[aM.1 hy];exact t.old (Old.push _ _)⟩
def worth(n:Nat):Int:=((1000*4 ^ n:Nat):Int)
def Y9p(n:Nat):0<=worth n:=by unfold worth;omega
def Z68{n:Nat}(h:n<=19):4*worth n<=1125899906842624:=by
 unfold worth;have : 4 ^ n<=4 ^ 19:=Nat.pow_le_pow_right (by omega) h;omega
def Zvy(n:Nat):4*worth n=worth (n+1):=by
 unfold worth;rw[Nat.pow_succ];omega
structure UIv (h hs:Heap) (lb mb ν:Nat) (m0:Qu8) (g:Heap) (clk:Nat) (un:Value) (ls:List LC) (ud:List (List BK)):Prop where
 S:LedS g lb mb 1 ν clk Q0s un ls ud
 G:Znz (Qcd ls) (worth ud.length)
 n:ls.length<=8+8*ud.length
 b:Zp8 ud (Qcd ls)=m0
 l:∀ b ∈ ud,b.length<=16
 u:∀ c,Jp un=some c->hs.next<=c
 f:∀ c,c < hs.next->c≠lb->c≠mb->g.get c=hs.get c
 x:hs.next<=g.next
def UIv.old{h hs:Heap}{lb mb ν:Nat}{m0:Qu8}{g g':Heap}{clk:Nat}{un:Value}{ls:List LC}{ud:List (List BK)}(I:UIv h hs lb mb ν m0 g clk un ls ud)(a:Old g g'):UIv h hs lb mb ν m0 g' clk un ls ud :=
 ⟨I.S.old a,I.G,I.n,I.b,I.l,I.u,fun c h1 h2 h3=>by rw[a.2 c (aw h1 I.x),I.f c h1 h2 h3],al I.x a.1⟩
def UMI(h hs:Heap)(lb mb ν:Nat)(m0:Qu8)(lv pv ov bv:Value)(n:Nat)(k:Nat)(s:St):Prop:=∃ (t:Tr Value) (g:Heap) (i clk:Nat) (un:Value) (ls:List LC) (ud:List (List BK)),s=⟨⟨132,t⟩,[],g⟩/\UMn t lb ud.length i lv pv ov bv/\i<=n/\i<=20/\k=20-i/\ud.length<=i/\UIv h hs lb mb ν m0 g clk un ls ud
section
attribute [local simp] Z7 Zj Zh Zc Jb Qfa Zb Jo Z1 Q1x Xt Z6 Yt Q1r Ys Qci Z4 Uf Ya Us Z3 Xx Z5 Yy Yz Z0 Zi Zm J9 Xk Y2 Vk Z2 Yu Yv Yr Yo Ym Yq Yn Yp Yf Yk
set_option maxHeartbeats 8000000 in
def Jds(b:Nat){h:Heap}{sv lv:Value}{st:List Int}{l:List MvV}(la:Ab.LaidIn h laidAll)(s1:Sl h 1 sv st.length (st.map (Value.int .i64)))(n1:st.length < 4611686018427387904)(s2:MvsAt h lv l)(K:KP)(hk:∀ h',K (.ret (.bool true)) h') :
  CallOK Tryz.prog (E b).G 3 [sv,lv] h K:=by
 refine Qi1 (E b) (Vt _ _) (Ui b) (Jl b) mixed (Un b) (Zh b) Xnf X3s Xzs rfl ?_;simp[Qbb,Y8];refine Z44 b la s1 n1 _ fun lb mb clk ν h1 ls S G hl a1 x1 x2 => ?_;have ne:Y2l (E b).toEnv .eql 24 (.pointer (some ⟨lb,0,none⟩)) (.pointer none)=some (.bool false):=by kernel_rfl
 simp[Qbb,Y8,ne];refine Yqp b S (by omega) _ fun pv ov bv l1 os1 hs A a2 => ?_;have A:Shown hs h1.next pv ov bv (Qcd ls) 0 l1 os1:=A;have lenM:∀ hx,Qnm (E b).toEnv 23 lv hx=some (.int .i64 (l.length:Int)):=fun hx=>Qca (T23 b) s2.s;have hlb:=Heap.get_lt S.gl;have hmb:=Heap.get_lt S.co.gm;simp[Qbb,Y8,-Y8];refine Qfw (UMI h hs lb mb ν (Qcd ls) lv pv ov bv l.length) 20 ⟨_,hs,0,clk,.slice none 0 0,ls,[],rfl,⟨by simp,by simp,by simp,by simp,by simp,by simp,by simp⟩,by omega,by omega,rfl,by simp,⟨S.old a2,G,by simpa using hl,rfl,by simp,fun c hc=>(by cases hc),fun _ _ _ _=>rfl,ae _⟩⟩ ?_;rintro k s' ⟨t,g,i,clkx,un,lsx,ud,rfl,⟨t1,t5,t6,t7,t8,t9,t10⟩,hi,hi2,rfl,hui,I⟩ -;have n12:=a2.1;have ah:=a1.trans a2;have ahg:Old h g:=⟨al ah.1 I.x,fun c hc=>by rw[I.f c (aw hc ah.1) (by omega) (by omega),ah.2 c hc]⟩;by_cases hlt:i < l.length/\i < 20
 ·have hlt':(i:Int) < (l.length:Int):=by omega
  have hlt2:(i:Int) < 20:=by omega
  have hw:=wS (i:=i) (by omega);have hwn:IntKind.i64.wrap ((ud.length:Int)+1)=((ud.length+1:Nat):Int):=by rw[W2 (by omega) (by omega)];omega
  obtain⟨x,hx⟩:∃ x,l[i]? = some x:=⟨_,ab hlt.1⟩;obtain⟨bk,off,y1,y2⟩:=Jh1 (b:=b) (T23 b) Zf2 (s2.s.old ahg) hx;have mv:=(s2.a x (ak hx)).old ahg;have gn:=I.n;have hw4:=Z68 (n:=ud.length) (by omega);simp[Qbb,Y8,-Y8,t1,t5,t6,t7,t8,t9,t10,lenM,hlt',hlt2,y1,y2];refine Jb1 b I.S (by omega) I.G (Y9p _) hw4 mv _ (fun g1 b1 => ?_) fun iv2 ov2 ins2 outs2 g1 M => ?_
  ·obtain⟨hA,g2,alA,stA,stA',gg2,b2,m2⟩:=Qz3 b (Zju b) (l:=Ybd) (by rw[Xfv];rfl) (by kernel_rfl) g1;obtain⟨nt,ent⟩:∃ nt,nt=Ybd:=⟨_,rfl⟩;have nl:nt.length=3:=by rw[ent];rfl
   rw[<- ent]at stA stA' ⊢;simp[Qbb,Y8,-Y8,t1,t5,t6,t7,t8,t9,t10,-Qbb,alA,stA,stA',nl,hw];exact⟨20-(i+1),by omega,_,g2,i+1,clkx,un,lsx,ud,rfl,⟨by simp[t1],by simp[t5],by simp[t6],by simp[t7],by simp[t8],by simp[t9],by simp⟩,by omega,by omega,rfl,by omega,I.old (b1.trans b2)⟩
  ·obtain⟨z,ez⟩:∃ z:TxV,z=⟨iv2,ov2,ins2,outs2,0⟩:=⟨_,rfl⟩;have zc:txC iv2 ov2 0=txC z.iv z.ov z.lock:=by rw[ez]
   have b1:=M.r.i.a;have tz:TxAt g1 z:=by rw[ez];exact⟨M.r.i.ins M.r.ni,M.r.o.outs M.r.no,M.p⟩
   obtain⟨o,pts,qs,fee,MO⟩:=M.m;have MO:MadeOf (Qcd lsx) z.p o pts qs fee:=by rw[ez];exact MO
   rw[zc];obtain⟨hA,g2,alA,stA,stA',gg2,b2,m2⟩:=Qz3 b (Zju b) (l:=txC z.iv z.ov z.lock) (by rw[Xfv];rfl) (by kernel_rfl) g1;have tlc:(txC z.iv z.ov z.lock).length=3:=rfl;have ld2:Qbn g2 g1.next 0 3=some (.agg ⟨txC z.iv z.ov z.lock⟩):=by rw[Vm gg2 (by simp[txC])];rfl
   have b3:Old g2 (g2.push (.cells true 1 z.cells)):=Old.push _ _;have I2:=I.old (b1.trans (b2.trans b3));simp[Qbb,Y8,-Y8,t1,t5,t6,t7,t8,t9,t10,-Qbb,alA,stA,stA',tlc,ld2,Jez];have ap:=Zw8 MO I.G (Y9p _) hw4 (hks:=I2.S.ks) (ht:=(ud.length:Int)) (by omega);refine Z59 b I2.S (by omega) (Jb9 (tz.old b2)) _ (fun m' hm g4 un4 ls4 clk4 bks S4 em back sty alt le1 le2 => ?_) fun e he => ?_
   ·have hm:Yd5 Q0s I2.S.ks (ud.length:Int) (Qcd lsx) [z.p]=.ok m':=hm;rw[ap]at hm;have hm:=Except.ok.inj hm;simp[Qbb,Y8,-Y8,t1,t5,t6,t7,t8,t9,t10,hw,hwn];have le1:ls4.length<=lsx.length+8*1:=le1;have le2:bks.length<=16*1:=le2;have el:(ud ++ [bks]).length=ud.length+1:=by simp
    have n13:=I2.x;refine⟨20-(i+1),by omega,_,g4,i+1,clk4,un4,ls4,ud ++ [bks],rfl,⟨by simp[t1],by simp[t5],by simp[t6],by simp[t7],by simp[t8],by rw[el];simp,by simp⟩,by omega,by omega,rfl,by omega,⟨S4,?_,by rw[el];omega,?_,fun c hc => ?_,fun c hc => ?_,fun c h1' h2' h3' => ?_,al n13 sty.1⟩⟩
    ·rw[em,<- hm,el,<- Zvy];exact Z1v MO I.G (Y9p _) hw4
    ·rw[Zo5,em,back];exact I2.b
    ·rcases ac.1 hc with q | q
     ·exact I.l c q
     ·rw[aM.1 q];omega
    ·exact(alt c hc).elim (I2.u c) fun q=>by omega
    ·rw[sty.2 c (aw h1' n13) h2' h3' fun e=>by have:=I2.u c e;omega,I2.f c h1' h2' h3']
   ·have he:Yd5 Q0s I2.S.ks (ud.length:Int) (Qcd lsx) [z.p]=.error e:=he;rw[ap]at he;cases he
 ·have fin:∀ tt:Tr Value,UMn tt lb ud.length i lv pv ov bv->Wu (E b) (Xh2 Tryz.prog (E b).G) (D0 b) none Qol ⟨⟨132,tt⟩,[],g⟩ (Yzm (E b) (DD b) Qei K):=fun tt R =>
   Z96 b I.S (by have:=I.n;omega) (by omega) I.b I.l (by omega) (by omega) (A.keep fun c h1' h2'=>I.f c h2' (by omega) (by omega)) R K hk
  by_cases h1':i < l.length
  ·have hlt':(i:Int) < (l.length:Int):=by omega
   have h2:¬ (i:Int) < 20:=by omega
   simp[Qbb,Y8,-Y8,t1,t5,t6,t7,t8,t9,t10,lenM,hlt',h2];exact fin _ ⟨by simp[t1],by simp[t5],by simp[t6],by simp[t7],by simp[t8],by simp[t9],by simp[t10]⟩
  ·have hlt':¬ (i:Int) < (l.length:Int):=by omega
   simp[Qbb,Y8,-Y8,t1,t5,t6,t7,t8,t9,t10,lenM,hlt'];exact fin _ ⟨by simp[t1],by simp[t5],by simp[t6],by simp[t7],by simp[t8],by simp[t9],by simp[t10]⟩
end
end Go.Proofs.YtijagoebdgohnaaGreatDoor
end
noncomputable section
namespace Go.Proofs.YtijagoebdgohnaaGreatDoor
open Go Go.Ab
open Go.ChangeShapes Go.WideShapes Go.RowKit
set_option maxRecDepth 1000000
abbrev InQ:Heap->List Value->Prop:=SlQ 1 (fun _ cs=>IntsOf [.i64] cs)
abbrev Ji0:Heap->List Value->Prop:=fun _ cs=>IntsOf [.i64] cs
def Zuf:∀ {rows:List (List Value)},(∀ r ∈ rows,IntsOf [.i64] r)->∃ xs:List Int,rows.flatten=xs.map (Value.int .i64)/\xs.length=rows.length
 | [],_=>⟨[],rfl,rfl⟩
 | r::rows,h=>by
  obtain⟨n,r',rfl,hw,hr'⟩:=h r (by simp);have : r'=[]:=hr';subst this;obtain⟨xs,h1,h2⟩:=Zuf (rows:=rows) fun q hq=>h q (by simp[hq]);exact⟨n::xs,by simp[h1],by simp[h2]⟩
def Z2u{h:Heap}{v:Value}(q:InQ h [v]):∃ xs:List Int,Sl h 1 v xs.length (xs.map (Value.int .i64))/\xs.length < 4611686018427387904:=by
 obtain⟨v',rows,e,s,hb,hr⟩:=q;obtain rfl:v=v':=by simpa using e
 obtain⟨xs,h1,h2⟩:=Zuf fun r hm=>(hr r hm).1;refine⟨xs,?_,?_⟩
 ·rw[h2,<- h1];exact s
 ·rw[h2];exact dM hb (by decide)
abbrev MvQ:Heap->List Value->Prop:=CatQ [InQ,Ji0,Ji0,Ji0]
abbrev Jil:Heap->List Value->Prop:=SlQ 4 MvQ
def Zxd:Ykm MvQ:=CatQ.stable fun Q hQ=>by
 simp only[ax,cQ,or_false]at hQ;rcases hQ with rfl | rfl | rfl | rfl
 ·exact SlQ.stable (Qrz _)
 ·exact Qrz _
 ·exact Qrz _
 ·exact Qrz _
def Jgs{h:Heap}{cs:List Value}(q:MvQ h cs):∃ x:MvV,cs=x.cells/\MvAt h x:=by
 obtain⟨c1,r1,rfl,q1,c2,r2,rfl,q2,c3,r3,rfl,q3,c4,r4,rfl,q4,qn⟩:=q;obtain rfl:r4=[]:=qn;obtain⟨cv,e1⟩:∃ v,c1=[v]:=by obtain⟨v,_,e,_⟩:=q1;exact⟨v,e⟩
 subst e1;obtain⟨xs,s1,n1⟩:=Z2u q1;obtain⟨z2,y2,rfl, -,e2⟩:=q2;obtain⟨z3,y3,rfl, -,e3⟩:=q3;obtain⟨z4,y4,rfl, -,e4⟩:=q4;obtain rfl:y2=[]:=e2;obtain rfl:y3=[]:=e3;obtain rfl:y4=[]:=e4;exact⟨⟨cv,xs,z2,z3,z4⟩,rfl,s1,n1⟩
def Z3p{h:Heap}:∀ {rows:List (List Value)},(∀ r ∈ rows,MvQ h r)->∃ l:List MvV,rows.flatten=Yye l/\l.length=rows.length/\∀ x ∈ l,MvAt h x
 | [],_=>⟨[],rfl,rfl,by simp⟩
 | r::rows,hr=>by
  obtain⟨x,rfl,hx⟩:=Jgs (hr r (by simp));obtain⟨l,h1,h2,h3⟩:=Z3p (rows:=rows) fun q hq=>hr q (by simp[hq]);refine⟨x::l,by simp[h1,Yye],by simp[h2],fun q hq => ?_⟩;rcases ax.1 hq with rfl | hq
  ·exact hx
  ·exact h3 q hq
def Jfe{h:Heap}{v:Value}(q:Jil h [v]):∃ l,MvsAt h v l:=by
 obtain⟨v',rows,e,s,hb,hr⟩:=q;obtain rfl:v=v':=by simpa using e
 obtain⟨l,h1,h2,h3⟩:=Z3p fun r hm=>(hr r hm).1;refine⟨l,⟨?_,?_,h3⟩⟩
 ·rw[h2,<- h1];exact s
 ·rw[h2];exact dM hb (by decide)
def Z3v:Array Field:=match Tryz.prog.underlying 36 with
 | some (.struct fs)=>fs
 | _ => #[]
def Yk6(i:Nat):Field:=(Z3v[i]?).getD default
section
variable{H:Type}{enc:TypeId × Value->H}{W:World}
def Zhl:Z60 enc Tryz.prog ⟨nv,W.heap.size⟩ W 22 InQ:=Y6v (e:=3) rfl (by kernel_rfl) (by kernel_rfl) (by omega) (by rw[show Tryz.prog.bytesOf 3=8 by kernel_rfl];omega) (Qrz _) (Ydu (by kernel_rfl))
def Zyg:Z60 enc Tryz.prog ⟨nv,W.heap.size⟩ W 36 MvQ:=by
 refine Zs1 (fs:=Z3v) (by kernel_rfl) ?_ (by kernel_rfl);rw[show Z3v.toList=[Yk6 0,Yk6 1,Yk6 2,Yk6 3] by kernel_rfl];refine⟨by kernel_rfl,?_,SlQ.stable (Qrz _),by kernel_rfl,?_,Qrz _,by kernel_rfl,?_,Qrz _,by kernel_rfl,?_,Qrz _,trivial⟩
 ·rw[show(Yk6 0).type=22 by kernel_rfl];exact Zhl
 ·rw[show(Yk6 1).type=3 by kernel_rfl];exact Ydu (by kernel_rfl)
 ·rw[show(Yk6 2).type=3 by kernel_rfl];exact Ydu (by kernel_rfl)
 ·rw[show(Yk6 3).type=3 by kernel_rfl];exact Ydu (by kernel_rfl)
def Zwc:Z60 enc Tryz.prog ⟨nv,W.heap.size⟩ W 23 Jil:=Y6v (e:=36) rfl (by kernel_rfl) (by kernel_rfl) (by omega) (by rw[show Tryz.prog.bytesOf 36=48 by kernel_rfl];omega) Zxd Zyg
end
end Go.Proofs.YtijagoebdgohnaaGreatDoor
end
