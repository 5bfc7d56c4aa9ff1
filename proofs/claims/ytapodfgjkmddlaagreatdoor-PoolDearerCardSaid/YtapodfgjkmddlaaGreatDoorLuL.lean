import Derived.Test.YtapodfgjkmddlaaGreatDoorLuA
import Derived.Test.YtapodfgjkmddlaaGreatDoorLgI
import Derived.Test.YtapodfgjkmddlaaGreatDoorHtA
import Derived.Test.YtapodfgjkmddlaaGreatDoorScB
import Derived.Test.YtapodfgjkmddlaaGreatDoorTxA
import Derived.Test.YtapodfgjkmddlaaGreatDoorScA
import Derived.Test.YtapodfgjkmddlaaGreatDoorWaA
import Derived.Test.YtapodfgjkmddlaaGreatDoorBlA
set_option linter.all false
noncomputable section
namespace Go.Proofs.YtapodfgjkmddlaaGreatDoor
open Go Go.Ab
set_option maxRecDepth 100000
attribute [local simp] Xj kON kOC Xn kNN kNP kRR kEN kER Q6 X2 Yn Ya aop Qg nth Ab.g0 gv gs Qd Qc aev evs evO Qh Tr.get_put St.put Tm.put flat flatA Y9 Qm Qp Qn Qo Qk Ql Qj Qt Qi Q7 Q8 kTN kTR kTX kTP kBN kBR kBX kBP kCS kCR kCE kAM Xm.putAll Qv Q0 Q9 Wj Yq Y1 ldv Yk Vi Nat.testBit loadAt Ab.runT Zc Yl Ys Qb6
section
def Zhs(b:Nat){h:Heap}(laid:Ab.LaidIn h laidAll)(K:KP)(hk:∀ ν h',h'.get ν=some (.cells true 1 (Xrc.map u8v))->h.next<=ν->Old h h'->K (.ret (pO ν 0)) h'):FK b 15 [] h K:=by
 refine F3 b (Wp b) Y17 rfl ?_;obtain⟨hA,eA,aA,gA⟩:=Q2n h ((Jgh.map u8v));have bl:W7 (E b).toEnv 45 4 [(0,.int .u8 107),(1,.int .u8 101),(2,.int .u8 121),(3,.int .u8 115)] h=some (.slice (some ⟨h.next,0,none⟩) 4 4,hA):=by rw[eA];exact Jqz b _ _ _ _ h
 have s:SN hA (.slice (some ⟨h.next,0,none⟩) 4 4) Jgh:=(Own.new (n0:=0) (z:=1) (n:=4) (c:=4) (bn _) gA rfl (by decide) (.inr rfl)).sl;simp[Xex,Ykg,Wp,Z4z,Qwv,bl,Jes b gA];refine Jrd b (Laid.old laid aA) s (by simp[Jgh]) _ fun ν h1 g1 hn a1 => ?_;simp[Xex,Ykg,Wp,Z4z,Qwv];exact hk ν h1 g1 (ai aA.1 hn) (aA.trans a1)
def Jvq(x:Int)(m:Nat):Qfz (binOp .rem 3 (.int .i64 x) (.int .i64 (Int.ofNat (m+1))))=some (.int .i64 (Int.tmod x (Int.ofNat (m+1)))):=kR
def Jvm(x:Int){n:Int}(hn:0 < n):Qfz (binOp .rem 3 (.int .i64 x) (.int .i64 n))=some (.int .i64 (Int.tmod x n)):=by
 obtain⟨m,rfl⟩:∃ m:Nat,n=Int.ofNat (m+1):=⟨n.toNat-1,by simp;omega⟩;exact Jvq x m
def Ykf(b:Nat)(v:Int){n:Int}(hn:0 < n)(hm:n < 4611686018427387904)(h:Heap)(K:KP)(hk:K (.ret (.int .i64 (Yhs v n))) h):FK b 12 [.int .i64 v,.int .i64 n] h K:=by
 refine F3 b (V0 b) Zld rfl ?_;have hrem:=Jvm v hn;have hin:=X2e v hn;have h0:¬ n < 1:=by omega
 unfold Yhs at hk hin;by_cases hz:Int.tmod v n < 0
 ·rw[if_pos hz]at hk hin;have w2:IntKind.i64.wrap (Int.tmod v n+n)=Int.tmod v n+n:=Uq (by omega) (by omega);simp[Xpu,Y1q,V0,Ygs,h0,hrem,hz,w2];exact hk
 ·rw[if_neg hz]at hk;simp[Xpu,Y1q,V0,Ygs,h0,hrem,hz];exact hk
end
def Jd5{o:Int}(ho:0<=o/\o < 256):IntKind.u8.wrap o=o:=by
 have:=Jhz (n:=o.toNat) (by omega);rw[d6 ho.1]at this;exact this
def Xlg{o:Int}(ho:0<=o/\o < 256):Bytes (Xvs o):=by
 intro x hx;simp only[Xvs,ap,cm,or_false]at hx;rw[Jd5 ho]at hx;rcases hx with rfl | rfl | rfl <;> omega
structure OutsR (h0 g:Heap) (ov:Value) (os:List OutV):Prop where
 o:Own g h0.next 2 ov os.length (Qpo os)
 s:∀ x ∈ os,NewO g h0.next x
 d:∀ x ∈ os,∀ c,J4 x.sv=some c->J4 ov≠some c
 a:Old h0 g
def OutsR.nil(h:Heap):OutsR h h (.slice none 0 0) []:=⟨Own.nil,by simp,by simp,Old.refl _⟩
def OutsR.outs{h0 g:Heap}{ov:Value}{os:List OutV}(R:OutsR h0 g ov os)(hn:os.length < 1000000):Outs g ov os:=⟨R.o.sl,hn,fun x hx=>⟨(R.s x hx).1.sl,(R.s x hx).2.1,(R.s x hx).2.2⟩⟩
def OutsR.more(b:Nat){h0 g h3:Heap}{ov sv:Value}{os:List OutV}(R:OutsR h0 g ov os)(hi:os.length < 1000000)(a3:Old g h3){v:Int}{sc:List Int}(s3:OB h3 g.next sv sc)(hb:Bytes sc)(hl:sc.length < 1000000) :
  ∃ ov' h4,Qjr (E b).toEnv 29 29 ov (.slice (some ⟨h3.next,0,none⟩) 1 1) (h3.push (.cells true 1 [.int .i64 v,sv]))=some (ov',h4)/\OutsR h0 h4 ov' (os ++ [⟨v,sv,sc⟩])/\Xxl ov'=true/\(∀ c,J4 ov'=some c->J4 ov=some c∨h3.next<=c)/\(∀ c,c < h3.next->J4 ov≠some c->h4.get c=h3.get c)/\h3.next<=h4.next:=by
 have n1:=R.a.1;have n3:=a3.1;have o3:Own h3 h0.next 2 ov os.length (Qpo os):=R.o.keep fun c _ hc=>a3.2 c hc;obtain⟨ov',h4,j1,j2,j3,j4⟩:=Qtj (T29 b) (z:=2) Qjv (by omega) o3 (ai n1 n3) (ys:=[.int .i64 v,sv]) rfl (by rw[Zrn];omega) (by omega);have lo:∀ c,J4 ov=some c->c < g.next:=fun c hc=>(R.o.from hc).2;have sF:∀ c,J4 sv=some c->g.next<=c/\c < h3.next:=fun c hc=>s3.from hc;refine⟨ov',h4,j1,⟨?_,fun x hx => ?_,fun x hx c hc e => ?_,?_⟩,j2.one,j4,j3.2,j3.1⟩
 ·rw[Yr4,ae,bK];exact j2
 ·rcases al.1 hx with q | q
  ·exact((R.s x q).keep (h':=h3) fun c _ hc=>a3.2 c hc).keep (h':=h4) fun c hc hl=>j3.2 c hl (R.d x q c hc)
  ·rw[aw.1 q];exact⟨(s3.low n1).keep fun c hc hl=>j3.2 c hl (fun e=>by have:=sF c hc;have:=lo c e;omega),hb,hl⟩
 ·rcases al.1 hx with q | q
  ·have:=((R.s x q).1.from hc).2;exact(j4 c e).elim (R.d x q c hc) fun r=>by omega
  ·rw[aw.1 q]at hc;have:=sF c hc;exact(j4 c e).elim (fun r=>by have:=lo c r;omega) fun r=>by omega
 ·exact j3.old (R.a.trans a3) o3
def Y38(b:Nat)(v:Int)(sv:Value)(h:Heap):W7 (E b).toEnv 29 1 [(0,.agg ⟨[.int .i64 v,sv]⟩)] h=some (.slice (some ⟨h.next,0,none⟩) 1 1,h.push (.cells true 1 [.int .i64 v,sv])):=Xlx (T29 b) (z:=2) (y:=.agg ⟨[.int .i64 v,sv]⟩) (ys:=[.int .i64 v,sv]) Qjv (by omega) (by omega) rfl rfl rfl
def Zg6(m:Xk0)(B:Int):Prop:=∀ p c,m p=some c->(∃ o:Int,1<=o/\o<=32/\c.script=Xvs o)/\1<=c.value/\c.value<=B/\0<=p.n/\p.n<=7
def Jc0{l:List POut}{p:Pt}{c:PC}(h:Jkh l p=some c):∃ i o,l[i]? = some o/\p=pn i/\c=⟨o.value,o.script,0⟩:=by
 have key:∀ (n:Nat) (l:List POut),l.length=n->Jkh l p=some c->∃ i o,l[i]? = some o/\p=pn i/\c=⟨o.value,o.script,0⟩:=by
  intro n;induction n with
  | zero=>intro l hl h;rw[aY hl]at h;cases h
  | succ n ih =>
   intro l hl h;rcases List.eq_nil_or_concat l with e | ⟨l',x,e⟩
   ·rw[e]at hl;cases hl
   ·rw[List.concat_eq_append]at e;subst e;rw[ae,bK]at hl;rw[Z60]at h;by_cases hp:p=pn l'.length
    ·rw[hp,Jdy]at h;cases h;exact⟨l'.length,x,by simp,hp,rfl⟩
    ·rw[Jo7 hp]at h;obtain⟨i,o,h1,h2,h3⟩:=ih l' (by omega) h;have hi:=(List.getElem?_eq_some_iff.1 h1).1;exact⟨i,o,by rw[List.getElem?_append_left hi];exact h1,h2,h3⟩
 exact key _ l rfl h
def SSI(h0:Heap)(lv:Value)(n:Nat)(k:Nat)(s:St):Prop:=∃ (t:Tr Value) (g:Heap) (ov:Value) (os:List OutV) (i:Nat),s=⟨⟨32,t⟩,[],g⟩/\t.get 0=some lv/\t.get 3=some ov/\t.get 4=some (.int .i64 (i:Int))/\i<=n/\i<=8/\k=8-i/\os.length=i/\OutsR h0 g ov os/\∀ x ∈ os,1<=x.value/\x.value<=1000/\∃ o:Int,1<=o/\o<=32/\x.script=Xvs o
section
attribute [local simp] Qfg Qky Jx Qgw Qgt Qgx Qh0 Qfo Vz V0 Xbp Jm Wp Qct
set_option maxHeartbeats 1000000 in
def Jgg(b:Nat){h:Heap}{lv:Value}{l:List Int}(la:Ab.LaidIn h laidAll)(s:Sl h 1 lv l.length (l.map (Value.int .i64)))(hn:l.length < 4611686018427387904)
  (K:KP) (hk:∀ lb mb clk ν h' ls,LedS h' lb mb 1 ν clk Xrc (.slice none 0 0) ls []->Zg6 (Qum ls) 1000->ls.length<=8->Old h h'->h.next<=lb->h.next<=mb->K (.ret (pO lb 0)) h') :
  CallOK Tryz.prog (E b).G 4 [lv] h K:=by
 refine Qh3 (E b) (Vy _ _) (Uf b) (Jd b) mixed (Ui b) (Jx b) Yte.1 Yte.2.1 Yte.2.2 rfl ?_;have len:∀ hx,Qkc (E b).toEnv 22 lv hx=some (.int .i64 (l.length:Int)):=fun hx=>Qa0 (T22 b) s;simp[Qdb];refine Qdf (SSI h lv l.length) 8 ⟨_,h,.slice none 0 0,[],0,rfl,by simp,by simp,by simp,by omega,by omega,rfl,rfl,OutsR.nil h,by simp⟩ ?_;rintro k s' ⟨t,g,ov,os,i,rfl,t0,t3,t4,hi,h8,rfl,hos,R,hv⟩ -;by_cases hlt:i < l.length/\i < 8
 ·have hlt':(i:Int) < (l.length:Int):=by omega
  have hlt8:(i:Int) < 8:=by omega
  have hw:=wS (i:=i) (by omega);obtain⟨x,hx⟩:∃ x,l[i]? = some x:=⟨_,List.getElem?_eq_getElem hlt.1⟩;obtain⟨bk,off,x0,x1,x2, -⟩:=Q7o (T22 b) Ynr (s.old R.a) (k:=.i64) (i:=(i:Int)) (by omega) hlt';have x2:=x2 0 (by omega);rw[aT,dx,bX,bX,List.getElem?_map,hx]at x2;simp only[ax]at x2;have pin:=X2e x (n:=1000) (by omega);obtain⟨v,ev⟩:∃ v,v=1+Yhs x 1000:=⟨_,rfl⟩;have hwv:IntKind.i64.wrap (1+Yhs x 1000)=v:=by rw[ev,Uq (by omega) (by omega)]
  have t3in:0<=Int.tmod (i:Int) 3/\Int.tmod (i:Int) 3 < 3:=⟨Int.tmod_nonneg _ (by omega),Int.tmod_lt_of_pos _ (by omega)⟩;obtain⟨o,eo⟩:∃ o,o=1+Int.tmod (i:Int) 3:=⟨_,rfl⟩;have hwo:IntKind.i64.wrap (1+Int.tmod (i:Int) 3)=o:=by rw[eo,Uq (by omega) (by omega)]
  simp[Qdb,t0,t3,t4,len,hlt',hlt8,x1,x2];refine(Ykf b x (n:=1000) (by omega) (by omega) g _ ?_).ok;simp[Qdb,t0,t3,t4,hwv,hwo];refine(Z6p b o g _ fun sv h2 o2 a2 => ?_).ok;obtain⟨ov',h4,j1,R4, -⟩:=R.more b (by omega) a2 (v:=v) o2 (Xlg (by omega)) (by simp[Xvs]);simp[Qdb,t0,t3,t4,Q60 b v o2.sl,Y38,j1,hw];exact⟨8-(i+1),by omega,_,h4,ov',_,i+1,rfl,by simp[t0],by simp,by simp,by omega,by omega,rfl,by simp[hos],R4,fun y hy=>by
   rcases al.1 hy with q | q
   ·exact hv y q
   ·rw[aw.1 q];exact⟨by show 1<=v;omega,by show v<=1000;omega,o,by omega,by omega,rfl⟩⟩
 ·have fin:∀ (tt:Tr Value),tt.get 3=some ov->Qac (E b) (Xrd Tryz.prog (E b).G) (D0 b) none Xdv ⟨⟨32,tt⟩,[],g⟩ (Zh4 (E b) (DD b) Q3t K):=by
   intro tt e3;simp[Qdb,e3];refine(Zhs b (Laid.old la R.a) _ fun ν h1 g1 hn1 a1 => ?_).ok;simp[Qdb,e3];have hm:=R.outs (by omega);refine Jb2 b (Laid.old la (R.a.trans a1)) ⟨true,1,g1⟩ Zu8 (hm.old a1) (fun x hx=>by have:=hv x hx;omega) _ fun lb mb clk h2 ls S em hl a2 n1 n2 => ?_;simp[Qdb];have a12:=R.a.trans a1;refine hk lb mb clk ν h2 ls S (fun p c hc => ?_) (by omega) (a12.trans a2) (ai a12.1 n1) (ai a12.1 n2);rw[em]at hc;obtain⟨j,y,hy,rfl,rfl⟩:=Jc0 hc;obtain⟨z,hz,rfl⟩:=am.1 (List.mem_of_getElem? hy);have hj:=(List.getElem?_eq_some_iff.1 hy).1;rw[aL]at hj;obtain⟨q1,q2,q3⟩:=hv z hz;exact⟨q3,q1,q2,by show(0:Int)<=(j:Int);omega,by show(j:Int)<=7;omega⟩
  by_cases h1:i < l.length
  ·have hlt':(i:Int) < (l.length:Int):=by omega
   have h2:¬ (i:Int) < 8:=by omega
   simp[Qdb,-Qdb,t0,t3,t4,len,hlt',h2];exact fin _ (by simp[t3])
  ·have hlt':¬ (i:Int) < (l.length:Int):=by omega
   simp[Qdb,-Qdb,t0,t3,t4,len,hlt'];exact fin _ (by simp[t3])
end
def Z3h(x:InV):List Value:=x.wv::x.its.map (·.1)
def InAt.keepV{h h':Heap}{x:InV}(a:InAt h x)(k:∀ v ∈ Z3h x,∀ c,J4 v=some c->c < h.next->h'.get c=h.get c):InAt h' x :=
 ⟨a.w.keep fun c hc hl=>k x.wv (by simp[Z3h]) c hc hl,fun p hp=>⟨(a.i p hp).1.keep fun c hc hl=>k p.1 (aN _ (am.2 ⟨p,hp,rfl⟩)) c hc hl,(a.i p hp).2⟩,a.n,a.l⟩
def InAt.lt{h:Heap}{x:InV}(a:InAt h x){v:Value}(hv:v ∈ Z3h x){c:Nat}(hc:J4 v=some c):c < h.next:=by
 rcases ap.1 hv with rfl | hv
 ·exact a.w.blk hc
 ·obtain⟨p,hp,rfl⟩:=am.1 hv;exact(a.i p hp).1.blk hc
def InN(h:Heap)(n0:Nat)(x:InV):Prop:=InAt h x/\∀ v ∈ Z3h x,∀ c,J4 v=some c->n0<=c
def InN.low{h:Heap}{n0 n1:Nat}{x:InV}(a:InN h n0 x)(hn:n1<=n0):InN h n1 x:=⟨a.1,fun v hv c hc=>ai hn (a.2 v hv c hc)⟩
structure InsR (h0 g:Heap) (iv:Value) (ins:List InV):Prop where
 o:Own g h0.next 34 iv ins.length (Qee ins)
 s:∀ x ∈ ins,InN g h0.next x
 d:∀ x ∈ ins,∀ v ∈ Z3h x,∀ c,J4 v=some c->J4 iv≠some c
 a:Old h0 g
def InsR.nil(h:Heap):InsR h h (.slice none 0 0) []:=⟨Own.nil,by simp,by simp,Old.refl _⟩
def InsR.ins{h0 g:Heap}{iv:Value}{ins:List InV}(R:InsR h0 g iv ins)(hn:ins.length < 1000000):Ins g iv ins:=⟨R.o.sl,hn,fun x hx=>(R.s x hx).1⟩
def InsR.old{h0 g g':Heap}{iv:Value}{ins:List InV}(R:InsR h0 g iv ins)(a:Old g g'):InsR h0 g' iv ins:=⟨R.o.keep fun c _ hc=>a.2 c hc,fun x hx=>⟨(R.s x hx).1.old a,(R.s x hx).2⟩,R.d,R.a.trans a⟩
def OutsR.old{h0 g g':Heap}{ov:Value}{os:List OutV}(R:OutsR h0 g ov os)(a:Old g g'):OutsR h0 g' ov os:=⟨R.o.keep fun c _ hc=>a.2 c hc,fun x hx=>(R.s x hx).keep fun c _ hc=>a.2 c hc,R.d,R.a.trans a⟩
def Z35(l m:List InV):Qee (l++m)=Qee l++Qee m:=by simp[Qee]
def InsR.more(b:Nat){h0 g h3:Heap}{iv:Value}{ins:List InV}(R:InsR h0 g iv ins)(hi:ins.length < 1000000)(a3:Old g h3){x:InV}(hx:InN h3 g.next x) :
  ∃ iv' h4,Qjr (E b).toEnv 28 28 iv (.slice (some ⟨h3.next,0,none⟩) 1 1) (h3.push (.cells true 1 x.cells))=some (iv',h4)/\InsR h0 h4 iv' (ins ++ [x])/\Xxl iv'=true/\∀ c,c < h3.next->J4 iv≠some c->h4.get c=h3.get c:=by
 have n1:=R.a.1;have n3:=a3.1;have o3:Own h3 h0.next 34 iv ins.length (Qee ins):=R.o.keep fun c _ hc=>a3.2 c hc;obtain⟨iv',h4,j1,j2,j3,j4⟩:=Qtj (T28 b) (z:=34) Qeo (by omega) o3 (ai n1 n3) (ys:=x.cells) x.len (by rw[Y1l];omega) (by omega);have lo:∀ c,J4 iv=some c->c < g.next:=fun c hc=>(R.o.from hc).2;refine⟨iv',h4,j1,⟨?_,fun y hy => ?_,fun y hy v hv c hc e => ?_,?_⟩,j2.one,j3.2⟩
 ·rw[Z35,ae,bK];have : Qee [x]=x.cells:=by simp[Qee]
  rw[this];exact j2
 ·rcases al.1 hy with q | q
  ·obtain⟨q1,q2⟩:=R.s y q;exact⟨(q1.old a3).keepV fun v hv c hc hl=>j3.2 c hl (R.d y q v hv c hc),q2⟩
  ·rw[aw.1 q];exact⟨hx.1.keepV fun v hv c hc hl=>j3.2 c hl fun e=>by have:=hx.2 v hv c hc;have:=lo c e;omega,fun v hv c hc=>ai n1 (hx.2 v hv c hc)⟩
 ·rcases al.1 hy with q | q
  ·have:=(R.s y q).1.lt hv hc;exact(j4 c e).elim (R.d y q v hv c hc) fun r=>by omega
  ·rw[aw.1 q]at hv;have:=hx.2 v hv c hc;have:=hx.1.lt hv hc;exact(j4 c e).elim (fun r=>by have:=lo c r;omega) fun r=>by omega
 ·exact j3.old (R.a.trans a3) o3
def Zqy(b:Nat)(p:Pt){v:Value}(hv:Xxl v=true):Qn1 (E b).toEnv 68 [(0,.agg ⟨p.cells⟩),(1,v)]=some (.agg ⟨p.cells ++ [v]⟩):=by
 obtain⟨fs,pl,hfs,hpl,hp0,hp1⟩:∃ fs pl,R68.desc=.struct fs/\Q8g (E b).toEnv fs.toList=some pl/\nth pl 0=some (0,33)/\nth pl 1=some (33,1) :=
  ⟨(match R68.desc with | .struct fs=>fs | _ => #[]),(Q8g (E b).toEnv (match R68.desc with | .struct fs=>fs | _ => #[]).toList).getD [],by kernel_rfl,by kernel_rfl,by kernel_rfl,by kernel_rfl⟩
 obtain⟨zz,ez,hz,hzd⟩:∃ zz:List Value,zz=R68.zero.cells.toList/\zz.length=34/\zz.drop 33=[.slice none 0 0]:=⟨_,rfl,by kernel_rfl,by kernel_rfl⟩;have e2:(Qid (.agg ⟨p.cells⟩) && (Value.agg ⟨p.cells⟩).cells.size == 33 && Nat.ble (0+33) zz.length)=true:=by
  have h1:(Value.agg ⟨p.cells⟩).cells.size=33:=p.len;rw[h1,hz];rfl
 have e3:Qlj zz 0 (Value.agg ⟨p.cells⟩).cells.toList=some (p.cells++zz.drop 33):=by
  show Qlj zz 0 p.cells=_;rw[Qq8 (by rw[p.len,hz];omega)];simp[p.len]
 obtain⟨n1,n2⟩:=Q29 hv;have l4:(p.cells ++ [.slice none 0 0]:List Value).length=34:=by simp[p.len]
 have e4:(Qid v && v.cells.size == 1 && Nat.ble (33+1) (p.cells ++ [.slice none 0 0]:List Value).length)=true:=by
  rw[n1,n2,l4];rfl
 have e5:Qlj (p.cells ++ [.slice none 0 0]:List Value) 33 v.cells.toList=some (p.cells ++ [v]):=by
  rw[n2];show Qlj _ 33 [v]=_;rw[Qq8 (by rw[l4];exact ab _)];have lp:=p.len;simp[<- lp]
 simp only[Qn1,Yta,hfs,hpl,<- ez,Xsb,hp0,hp1,e2,if_true,e3,hzd,e4,e5,ax]
def CII(h:Heap)(sv:Value)(l:List InV)(k:Nat)(s:St):Prop:=∃ (t:Tr Value) (g:Heap) (iv:Value) (ins:List InV) (i:Nat),s=⟨⟨27,t⟩,[],g⟩/\t.get 0=some sv/\t.get 3=some iv/\t.get 4=some (.int .i64 (i:Int))/\i<=l.length/\k=l.length-i/\ins.length=i/\InsR h g iv ins/\ins.map InV.p=(l.take i).map InV.p
section
attribute [local simp] Qm9 Qv8 Qgm Qp1 Qpd Qpe Yx Uh U7 Qbm Qd5 
set_option maxHeartbeats 1000000 in
def Z9o(b:Nat){h:Heap}{sv:Value}{l:List InV}(si:Ins h sv l)(K:KP)(hk:∀ iv ins h',InsR h h' iv ins->ins.map InV.p=l.map InV.p->K (.ret iv) h'):FK b 73 [sv] h K:=by
 refine F3 b (Qgm b) Ytd rfl ?_;have hn:=si.n;have len:∀ hx,Qkc (E b).toEnv 28 sv hx=some (.int .i64 (l.length:Int)):=fun hx=>Qa0 (T28 b) si.s;simp;refine Qdf (CII h sv l) l.length ⟨_,h,.slice none 0 0,[],0,rfl,by simp,by simp,by simp,by omega,rfl,rfl,InsR.nil h,by simp⟩ ?_;rintro k s' ⟨t,g,iv,ins,i,rfl,t0,t3,t4,hi,rfl,hil,R,hp⟩ _;by_cases hlt:i < l.length
 ·have hlt':(i:Int) < (l.length:Int):=by omega
  have hw:=wS (i:=i) (by omega);obtain⟨x,hx⟩:∃ x,l[i]? = some x:=⟨_,List.getElem?_eq_getElem hlt⟩;have sg:=si.old R.a;obtain⟨bk,off, -,x1, -,x3⟩:=Xhr (b:=b) (T28 b) Qeo sg.s hx;have x2:=Jg0 (b:=b) sg.s hx x1;have x4:=x3 33 (by omega);rw[Jk0]at x4;have xa:=sg.a x (List.mem_of_getElem? hx);obtain⟨_,h2,c1,n1,o,out,rfl,q1,q2,q3,q4,a2⟩:=Z95 b xa.w (by have:=xa.n;omega) xa.i (fun p hp=>by have:=xa.l p hp;omega) (fun r h' => ∃ o out,r=.ret o/\Own h' g.next 1 o x.its.length (out.map (·.1))/\out.map (·.2)=x.its.map (·.2)/\ItsAt h' out/\(∀ p ∈ out,∀ c,J4 p.1=some c->g.next<=c/\J4 o≠some c)/\Old g h') (fun o out h' a1 a2 a3 a4 a5=>⟨o,out,rfl,a1,a2,a3,a4,a5⟩);have lo:out.length=x.its.length:=by have:=congrArg List.length q2;simpa using this
  obtain⟨y,ey⟩:∃ y:InV,y=⟨x.pt,o,out⟩:=⟨_,rfl⟩;have yn:InN h2 g.next y:=by
   rw[ey];refine⟨⟨by show Sl h2 1 o out.length _;rw[lo];exact q1.sl,q3,by show out.length < _;rw[lo];exact xa.n,fun p hp => ?_⟩,fun v hv c hc => ?_⟩
   ·have : p.2 ∈ x.its.map (·.2):=by rw[<- q2];exact am.2 ⟨p,hp,rfl⟩
    obtain⟨r,hr,e⟩:=am.1 this;rw[<- e];exact xa.l r hr
   ·rcases ap.1 hv with rfl | hv
    ·exact(q1.from hc).1
    ·obtain⟨p,hp,rfl⟩:=am.1 hv;exact(q4 p hp c hc).1
  have yc:y.cells=x.pt.cells ++ [o]:=by rw[ey];rfl
  obtain⟨iv',h4,j1,R4, -, -⟩:=R.more b (by omega) a2 yn;rw[yc]at j1;have bl:W7 (E b).toEnv 28 1 [(0,.agg ⟨x.pt.cells ++ [o]⟩)] h2=some (.slice (some ⟨h2.next,0,none⟩) 1 1,h2.push (.cells true 1 (x.pt.cells ++ [o]))):=Xlx (T28 b) (z:=34) (y:=.agg ⟨x.pt.cells ++ [o]⟩) (ys:=x.pt.cells ++ [o]) Qeo (by omega) (by omega) rfl rfl (by simp[Pt.len]);simp[t0,t3,t4,len,hlt'];have x2':Wy h2 bk off 33=some (.agg ⟨x.pt.cells⟩):=by
   have:=Jg0 (b:=b) (sg.old a2).s hx x1;exact this
  have x4':Yw h2 bk (off+33)=some x.wv:=by
   have sg2:=sg.old a2;obtain⟨bk',off', -,y1, -,y3⟩:=Xhr (b:=b) (T28 b) Qeo sg2.s hx;rw[x1]at y1;cases y1;have:=y3 33 (by omega);rw[Jk0]at this;exact this
  refine Qem [⟨107,[x.wv],g,o,h2,true⟩] ?_ X2y Ydr X63 (by simp[Yhw,Yh0,Yhk,t0,t3,t4,x1,x2,x4,Zqy b x.pt q1.one,bl,j1];first | exact⟨rfl,rfl⟩ | rfl) ?_ ?_
  ·exact zk1 ⟨c1,n1,fun _ c hc=>a2.2 c hc⟩
  ·simp[Qgv,t0,t3,t4,x1,x2,x4,x2',x4',Xpl xa.w]
  simp[t0,t3,t4,hw];refine⟨l.length-(i+1),by omega,_,h4,iv',_,i+1,rfl,by simp[t0],by simp,by simp,by omega,rfl,by simp[hil],R4,?_⟩;rw[aQ,hx,aR,hp,ey];simp[InV.p,q2]
 ·have hlt':¬ (i:Int) < (l.length:Int):=by omega
  have : i=l.length:=by omega
  subst this;simp[t0,t3,t4,len];rw[bc]at hp;exact hk iv ins g R hp
end
def COI(h:Heap)(sv:Value)(l:List OutV)(k:Nat)(s:St):Prop:=∃ (t:Tr Value) (g:Heap) (ov:Value) (os:List OutV) (i:Nat),s=⟨⟨27,t⟩,[],g⟩/\t.get 0=some sv/\t.get 3=some ov/\t.get 4=some (.int .i64 (i:Int))/\i<=l.length/\k=l.length-i/\os.length=i/\OutsR h g ov os/\os.map OutV.p=(l.take i).map OutV.p
section
attribute [local simp] Qke Qsq Qex Qnf Qng Qna Jo Vz Jv Z8 Qav Qlr Qls
set_option maxHeartbeats 1000000 in
def Zzz(b:Nat){h:Heap}{sv:Value}{l:List OutV}(si:Outs h sv l)(K:KP)(hk:∀ ov os h',OutsR h h' ov os->os.map OutV.p=l.map OutV.p->K (.ret ov) h'):FK b 74 [sv] h K:=by
 refine F3 b (Qex b) Ymc rfl ?_;have hn:=si.n;have len:∀ hx,Qkc (E b).toEnv 29 sv hx=some (.int .i64 (l.length:Int)):=fun hx=>Qa0 (T29 b) si.s;simp;refine Qdf (COI h sv l) l.length ⟨_,h,.slice none 0 0,[],0,rfl,by simp,by simp,by simp,by omega,rfl,rfl,OutsR.nil h,by simp⟩ ?_;rintro k s' ⟨t,g,ov,os,i,rfl,t0,t3,t4,hi,rfl,hil,R,hp⟩ _;by_cases hlt:i < l.length
 ·have hlt':(i:Int) < (l.length:Int):=by omega
  have hw:=wS (i:=i) (by omega);obtain⟨x,hx⟩:∃ x,l[i]? = some x:=⟨_,List.getElem?_eq_getElem hlt⟩;have sg:=si.old R.a;obtain⟨bk,off, -,x1, -,x2,x3⟩:=Xjz (b:=b) (T29 b) Qjv sg.s hx;have xa:=sg.a x (List.mem_of_getElem? hx);obtain⟨_,h2,c1,n1,sv2,rfl,o2,a2⟩:=Zt6 b xa.s (by have:=xa.l;omega) (fun r h' => ∃ v,r=.ret v/\OB h' g.next v x.script/\Old g h') (fun v h' o a=>⟨v,rfl,o,a⟩);obtain⟨ov',h4,j1,R4, -⟩:=R.more b (by omega) a2 (v:=x.value) o2 xa.b xa.l;have sg2:=sg.old a2;obtain⟨bk',off', -,y1, -,y2,y3⟩:=Xjz (b:=b) (T29 b) Qjv sg2.s hx;rw[x1]at y1;cases y1;simp[t0,t3,t4,len,hlt'];refine Qem [⟨108,[x.sv],g,sv2,h2,true⟩] ?_ Xyp X33 X11 (by simp[Ydp,Yal,Ydh,t0,t3,t4,x1,x2,x3,Q60 b x.value o2.sl,Y38,j1];first | exact⟨rfl,rfl⟩ | rfl) ?_ ?_
  ·exact zk1 ⟨c1,n1,fun _ c hc=>a2.2 c hc⟩
  ·simp[Qfu,t0,t3,t4,x1,x2,x3,y2,y3,Xpl xa.s,Qwt]
  simp[t0,t3,t4,hw];refine⟨l.length-(i+1),by omega,_,h4,ov',_,i+1,rfl,by simp[t0],by simp,by simp,by omega,rfl,by simp[hil],R4,?_⟩;rw[aQ,hx,aR,hp];simp[OutV.p]
 ·have hlt':¬ (i:Int) < (l.length:Int):=by omega
  have : i=l.length:=by omega
  subst this;simp[t0,t3,t4,len];rw[bc]at hp;exact hk ov os g R hp
end
structure TxR (h0 g:Heap) (iv ov:Value) (ins:List InV) (outs:List OutV):Prop where
 i:InsR h0 g iv ins
 o:OutsR h0 g ov outs
 d1:∀ c,J4 iv=some c->J4 ov≠some c
 d2:∀ x ∈ outs,∀ c,J4 x.sv=some c->J4 iv≠some c
 ni:ins.length < 1000000
 no:outs.length < 1000000
structure TxFar (N:Nat) (iv ov:Value) (ins:List InV) (outs:List OutV):Prop where
 a:∀ c,J4 iv=some c->N<=c
 b:∀ c,J4 ov=some c->N<=c
 c:∀ x ∈ ins,∀ v ∈ Z3h x,∀ c,J4 v=some c->N<=c
 d:∀ x ∈ outs,∀ c,J4 x.sv=some c->N<=c
def TxR.far{h0 g:Heap}{iv ov:Value}{ins:List InV}{outs:List OutV}(R:TxR h0 g iv ov ins outs):TxFar h0.next iv ov ins outs :=
 ⟨fun c hc=>(R.i.o.from hc).1,fun c hc=>(R.o.o.from hc).1,fun x hx=>(R.i.s x hx).2,fun x hx c hc=>((R.o.s x hx).1.from hc).1⟩
def TxR.keepF{h0 g h1 g':Heap}{N:Nat}{iv ov:Value}{ins:List InV}{outs:List OutV}(R:TxR h0 g iv ov ins outs)(F:TxFar N iv ov ins outs)(hn:h1.next<=N)(k:∀ c,N<=c->c < g.next->g'.get c=g.get c)(a:Old h1 g')(h0n:h1.next<=h0.next):TxR h1 g' iv ov ins outs :=
  ⟨⟨(R.i.o.low h0n).keep fun c hc hl=>k c (F.a c hc) hl,fun x hx=>⟨(R.i.s x hx).1.keepV fun v hv c hc hl=>k c (F.c x hx v hv c hc) hl,fun v hv c hc=>ai hn (F.c x hx v hv c hc)⟩,R.i.d,a⟩,
   ⟨(R.o.o.low h0n).keep fun c hc hl=>k c (F.b c hc) hl,fun x hx=>⟨((R.o.s x hx).1.low h0n).keep fun c hc hl=>k c (F.d x hx c hc) hl,(R.o.s x hx).2⟩,R.o.d,a⟩,R.d1,R.d2,R.ni,R.no⟩
def Jkg{ins ins2:List InV}{outs outs2:List OutV}{lock:Int}(h1:ins2.map InV.p=ins.map InV.p)(h2:outs2.map OutV.p=outs.map OutV.p):ptx ins2 outs2 lock=ptx ins outs lock:=by
 unfold ptx;rw[h1,h2]
def Jal(b:Nat){iv ov:Value}(h1:Xxl iv=true)(h2:Xxl ov=true)(lock:Int):Qn1 (E b).toEnv 31 [(0,iv),(1,ov),(2,.int .i64 lock)]=some (.agg ⟨txC iv ov lock⟩):=by
 obtain⟨n1,n2⟩:=Q29 h1;obtain⟨m1,m2⟩:=Q29 h2;obtain⟨fs,pl,hfs,hpl,hp0,hp1,hp2⟩:∃ fs pl,R31.desc=.struct fs/\Q8g (E b).toEnv fs.toList=some pl/\nth pl 0=some (0,1)/\nth pl 1=some (1,1)/\nth pl 2=some (2,1) :=
  ⟨(match R31.desc with | .struct fs=>fs | _ => #[]),(Q8g (E b).toEnv (match R31.desc with | .struct fs=>fs | _ => #[]).toList).getD [],by kernel_rfl,by kernel_rfl,by kernel_rfl,by kernel_rfl,by kernel_rfl⟩
 obtain⟨zz,ez,hz⟩:∃ zz:List Value,zz=R31.zero.cells.toList/\zz=[.slice none 0 0,.slice none 0 0,.int .i64 0]:=⟨_,rfl,by kernel_rfl⟩;have s0:Qlj [.slice none 0 0,.slice none 0 0,.int .i64 0] 0 [iv]=some [iv,.slice none 0 0,.int .i64 0]:=rfl;have s1:Qlj [iv,.slice none 0 0,.int .i64 0] 1 [ov]=some [iv,ov,.int .i64 0]:=rfl;have s2:Qlj [iv,ov,.int .i64 0] 2 [.int .i64 lock]=some [iv,ov,.int .i64 lock]:=rfl;have c3:(Value.int .i64 lock).cells = #[.int .i64 lock]:=rfl;have t3:Qid (Value.int .i64 lock)=true:=rfl;simp[Qn1,Zj9,hfs,hpl,<- ez,hz,Xsb,hp0,hp1,hp2,n1,n2,m1,m2,s0,s1,s2,c3,t3,txC]
section
attribute [local simp] Qx1 Xc0 Qdr Ym Vm Qgm Jf Qal Qex Ud Vz Qc7
set_option maxHeartbeats 1000000 in
def Jdd(b:Nat){h:Heap}{iv ov:Value}{ins:List InV}{outs:List OutV}{lock:Int}(si:Ins h iv ins)(so:Outs h ov outs)(K:KP)
  (hk:∀ iv2 ov2 ins2 outs2 h',TxR h h' iv2 ov2 ins2 outs2->ins2.map InV.p=ins.map InV.p->outs2.map OutV.p=outs.map OutV.p->K (.ret (.agg ⟨txC iv2 ov2 lock⟩)) h'):FK b 45 [.agg ⟨txC iv ov lock⟩] h K:=by
 refine F3 b (Qdr b) Y4k rfl ?_;obtain⟨hA,eA⟩:∃ hA,hA=h.push (.cells true 1 (txC iv ov lock)):=⟨_,rfl⟩;have bx:=Qw8 eA;have aA:=Qon eA;have gA:hA.get h.next=some (.cells true 1 (txC iv ov lock)):=by rw[eA,Heap.get_push,if_pos rfl]
 have nA:=Q8i eA;obtain⟨hB,eB⟩:∃ hB,hB=hA.push (.cells true 1 X2g):=⟨_,rfl⟩;have alB:Qbx (E b).toEnv 31 hA=some (pO hA.next 0,hB):=by rw[eB];exact Qb6 b hA
 have aB:=Qon eB;have gB:hB.get hA.next=some (.cells true 1 X2g):=by rw[eB,Heap.get_push,if_pos rfl]
 have nB:hB.next=h.next+2:=by rw[eB];simp only[Qmo,nA]
 have aAB:=aA.trans aB;have c0:∀ {hx:Heap},hx.get h.next=some (.cells true 1 (txC iv ov lock))->Yw hx h.next 0=some iv/\Yw hx h.next 1=some ov/\Yw hx h.next 2=some (.int .i64 lock):=fun g=>⟨by rw[Yi g];rfl,by rw[Yi g];rfl,by rw[Yi g];rfl⟩;have q0:=c0 (aB.get gA);obtain⟨_,h2,c1,n1,iv2,ins2,rfl,R1,e1⟩:=Z9o b (si.old aAB) (fun r h' => ∃ iv2 ins2,r=.ret iv2/\InsR hB h' iv2 ins2/\ins2.map InV.p=ins.map InV.p) (fun iv2 ins2 h' R e=>⟨iv2,ins2,rfl,R,e⟩);have a2:=R1.a;have q2:=c0 (a2.get (aB.get gA));obtain⟨_,h3,c2,n2,ov2,outs2,rfl,R2,e2⟩:=Zzz b (so.old (aAB.trans a2)) (fun r h' => ∃ ov2 outs2,r=.ret ov2/\OutsR h2 h' ov2 outs2/\outs2.map OutV.p=outs.map OutV.p) (fun ov2 outs2 h' R e=>⟨ov2,outs2,rfl,R,e⟩);have a3:=R2.a;have q3:=c0 (a3.get (a2.get (aB.get gA)));have l1:ins2.length=ins.length:=by have:=congrArg List.length e1;simpa using this
 have l2:outs2.length=outs.length:=by have:=congrArg List.length e2;simpa using this
 have g3:=a3.get (a2.get gB);have lt3:=Heap.get_lt g3;obtain⟨h4,e4⟩:∃ h4,h4=h3.set hA.next (some (.cells true 1 (txC iv2 ov2 lock))):=⟨_,rfl⟩;have st:Qbw (E b).toEnv 31 (pO hA.next 0) (.agg ⟨txC iv2 ov2 lock⟩) h3=some h4:=by
  rw[Qx2 (l:=txC iv2 ov2 lock) (Zj9 b) (by rw[Qvs];rfl),e4];exact Wh g3 (by simp[X2g,txC])
 have g4:h4.get hA.next=some (.cells true 1 (txC iv2 ov2 lock)):=by rw[e4,gY lt3,if_pos rfl]
 have k4:∀ c,c≠hA.next->h4.get c=h3.get c:=fun c hc=>by rw[e4,gY lt3,if_neg (Ne.symm hc)]
 have ag4:Wy h4 hA.next 0 3=some (.agg ⟨txC iv2 ov2 lock⟩):=by rw[V2 g4 (by simp[txC])];rfl
 simp[Qb6,bx,-Qb6,alB];refine Qem [⟨73,[iv],hB,iv2,h2,true⟩,⟨74,[ov],h2,ov2,h3,true⟩] ?_ Yah Yfc X9q (by simp[Yn2,Ytv,Yu8,Yw1,q0.1,q2.2.1,q3.2.2,Qud,Jal b R1.o.one R2.o.one lock,st];first | exact⟨rfl,rfl⟩ | rfl) ?_ ?_
 ·exact zk2 ⟨c1,n1,fun _ c hc=>a2.2 c hc⟩ ⟨c2,n2,fun _ c hc=>a3.2 c hc⟩
 ·have q4:=c0 ((k4 _ (by omega)).trans (a3.get (a2.get (aB.get gA))));simp[Qfb,q0,q2,q3,q4,Qwt,Xpl si.s,Xpl so.s]
 simp[Qb6,V4,ag4];have n12:=a2.1;have n13:=a3.1;have far:∀ c,hB.next<=c->h4.get c=h3.get c:=fun c hc=>k4 c (by omega);have oldA:Old h h4:=⟨by rw[e4];show h.next<=h3.next;omega,fun c hc=>by rw[k4 c (by omega),a3.2 c (by omega),a2.2 c (by omega),aAB.2 c hc]⟩;have R1':=R1.old a3;refine hk iv2 ov2 ins2 outs2 h4 ⟨⟨(R1'.o.low aAB.1).keep fun c hc _=>far c (R1'.o.from hc).1,fun x hx=>⟨(R1'.s x hx).1.keepV fun v hv c hc _=>far c ((R1'.s x hx).2 v hv c hc),fun v hv c hc=>ai aAB.1 ((R1'.s x hx).2 v hv c hc)⟩,R1.d,oldA⟩,⟨(R2.o.low (ai aAB.1 n12)).keep fun c hc _=>far c (ai n12 (R2.o.from hc).1),fun x hx=>⟨((R2.s x hx).1.low (ai aAB.1 n12)).keep fun c hc _=>far c (ai n12 ((R2.s x hx).1.from hc).1),(R2.s x hx).2⟩,R2.d,oldA⟩,fun c hc e => ?_,fun x hx c hc e => ?_,by have:=si.n;omega,by have:=so.n;omega⟩ e1 e2
 ·have:=(R1.o.from hc).2;have:=(R2.o.from e).1;omega
 ·have:=((R2.s x hx).1.from hc).1;have:=(R1.o.from e).2;omega
end
def Jfq{o:Int}(ho:0<=o/\o < 256):(Xvs o)[1]? = some o:=by
 simp[Xvs,Jd5 ho]
section
attribute [local simp] Qxi Xao Jr Uw Qwi Qhs Qhr Qul Jm Xv Q2z Q19 Qy9 Q46
set_option maxHeartbeats 1000000 in
def Jj7(b:Nat){h:Heap}{sv:Value}{o:Int}(ho:1<=o/\o<=32)(s:SB h sv (Xvs o))(K:KP)(hk:∀ h',Old h h'->K (.ret (.tuple #[.int .i64 o,.bool true])) h') :
  CallOK Tryz.prog (E b).G 18 [sv] h K:=by
 refine Qh3 (E b) (Vy _ _) (Uf b) (Jd b) mixed (Ui b) (Jr b) Yz8.1 Yz8.2.1 Yz8.2.2 rfl ?_;have len:∀ hx,Qkc (E b).toEnv 45 sv hx=some (.int .i64 3):=fun hx=>Qa0 (T45 b) s;obtain⟨bk,off, -,x1,x2⟩:=Zg3 (b:=b) s (k:=.i64) (i:=1) (Jfq (o:=o) (by omega));have hw:IntKind.i64.wrap o=o:=Uq (by omega) (by omega);have hin:inF o 1 32=true:=by unfold inF;exact decide_eq_true ho
 have x1:V5 (E b).toEnv 45 sv (.int .i64 1)=some (pO bk off):=x1;simp only[i8]at x2;simp[len,x1,x2,hw];refine(Jjx b o h _ ?_).ok;simp[hin,len,x1,x2,hw];refine(Z6p b o h _ fun pv h2 o2 a2 => ?_).ok;simp;refine(Z53 b (s.old a2) o2.sl (Xlg (by omega)) (Xlg (by omega)) _ ?_).ok;obtain⟨bk',off', -,y1,y2⟩:=Zg3 (b:=b) (s.old a2) (k:=.i64) (i:=1) (Jfq (o:=o) (by omega));have y1:V5 (E b).toEnv 45 sv (.int .i64 1)=some (pO bk' off'):=y1;simp only[i8]at y2;simp[y1,y2,hw];exact hk h2 a2
end
def Xon(tg:List Nat):List (List Int):=[X5r tg]
def Jie(b:Nat){tg:List Nat}(ht:tg.length=16)(bt:∀ n ∈ tg,n < 256)(h:Heap)(K:KP)(hk:∀ wv its h',WitNew h' h.next wv its (Xon tg)->Old h h'->K (.ret wv) h') :
  FK b 46 [.agg ⟨tg.map u8v⟩] h K:=by
 refine F3 b (Qgy b) Y7m rfl ?_;obtain⟨hA,eA,aA,gA⟩:=Q2n h ((tg.map u8v));have bxA:=Qw8 eA;obtain⟨v1,ev1⟩:∃ v:Value,v=.slice (some ⟨h.next,0,none⟩) 16 16:=⟨_,rfl⟩;obtain⟨hD,eD⟩:∃ hD,hD=hA.push (.cells true 1 [v1]):=⟨_,rfl⟩;have aD:=Qon eD;have bl2:W7 (E b).toEnv 66 1 [(0,v1)] hA=some (.slice (some ⟨hA.next,0,none⟩) 1 1,hD):=by rw[eD,ev1];kernel_rfl
 have sl1:∀ hx,Qes (E b).toEnv 104 (pO h.next 0) none none none hx=some (v1,hx):=fun hx=>by rw[ev1];exact Jjg b _ _ hx
 simp[Xzv,Zjm,Qgy,bxA,sl1,bl2];refine hk _ [(v1,X5r tg)] hD ⟨?_,fun p hp => ?_,rfl⟩ (aA.trans aD)
 ·exact Own.new (z':=1) (n:=1) (by rw[eA];simp only[Qmo];omega) (by rw[eD,Heap.get_push,if_pos rfl];rfl) rfl (by decide) (.inr rfl)
 ·rw[aw.1 hp];refine⟨?_,Zh8 tg bt⟩;have l:(X5r tg).length=16:=by simp[X5r,ht]
  have:=Own.new (n0:=h.next) (z:=1) (n:=16) (c:=16) (ab _) (aD.get gA) (by simp[ht]) (by decide) (.inr rfl);show Own hD h.next 1 v1 (X5r tg).length ((X5r tg).map i8);rw[l,ev1,<- Jdu];exact this
def WitNew.inN{h:Heap}{n0:Nat}{p:Pt}{wv:Value}{its:List (Value × List Int)}{w:List (List Int)}(a:WitNew h n0 wv its w)(hw:w.length < 1000000)(hl:∀ x ∈ w,x.length < 1000000):InN h n0 ⟨p,wv,its⟩ :=
 ⟨a.inAt hw hl,fun v hv c hc=>by
  rcases ap.1 hv with rfl | hv
  ·exact(a.s.from hc).1
  ·obtain⟨q,hq,rfl⟩:=am.1 hv;exact((a.i q hq).1.from hc).1⟩
def InsR.set{h0 g g2:Heap}{iv:Value}{new rest:List InV}{x:InV}(R:InsR h0 g iv (new++x::rest))(a:Old g g2){wv:Value}{its:List (Value × List Int)}(hx:InN g2 g.next ⟨x.pt,wv,its⟩){bk:Nat}(hb:J4 iv=some bk) :
  ∃ h3,Ur g2 bk (new.length*34+33) [wv]=some h3/\InsR h0 h3 iv (new++⟨x.pt,wv,its⟩::rest)/\h3.next=g2.next/\∀ c,c≠bk->h3.get c=g2.get c:=by
 have o2:Own g2 h0.next 34 iv (new++x::rest).length (Qee (new++x::rest)):=R.o.keep fun c _ hc=>a.2 c hc;have lc:(Qee (new++x::rest)).length=(new++x::rest).length*34:=Ybl _;obtain⟨h3,s1,s2,s3,s4⟩:=Q34 o2 hb (i:=new.length*34+33) (by rw[lc,ae,aS];omega) wv;rw[Jr5 new rest x wv its]at s2;have lb:=R.o.from hb;refine⟨h3,s1,⟨?_,fun y hy => ?_,fun y hy v hv c hc e => ?_,⟨by rw[s3];exact ai R.a.1 a.1,fun c hc=>by rw[s4 c (by omega),a.2 c (au hc R.a.1),R.a.2 c hc]⟩⟩,s3,s4⟩
 ·have : (new++⟨x.pt,wv,its⟩::rest).length=(new++x::rest).length:=by simp
  rw[this];exact s2
 ·have key:∀ y ∈ new++x::rest,InN h3 h0.next y:=fun y hy=>by
   obtain⟨q1,q2⟩:=R.s y hy;exact⟨(q1.old a).keepV fun v hv c hc _=>s4 c fun e=>R.d y hy v hv c hc (by rw[hb,e]),q2⟩
  rcases al.1 hy with q | q
  ·exact key y (al.2 (.inl q))
  ·rcases ap.1 q with rfl | q
   ·exact⟨hx.1.keepV fun v hv c hc _=>s4 c fun e=>by have:=hx.2 v hv c hc;omega,fun v hv c hc=>ai R.a.1 (hx.2 v hv c hc)⟩
   ·exact key y (al.2 (.inr (aN _ q)))
 ·rcases al.1 hy with q | q
  ·exact R.d y (al.2 (.inl q)) v hv c hc e
  ·rcases ap.1 q with rfl | q
   ·have:=hx.2 v hv c hc;have:=(R.o.from e).2;omega
   ·exact R.d y (al.2 (.inr (aN _ q))) v hv c hc e
def eqRow_u8':∀ l:List Nat,Za5 (l.map u8v) (l.map u8v)=true
 | []=>rfl
 | x::l=>by simp[Za5,u8v,Xf6,Ynf,eqRow_u8' l]
def Jgs(l:List Nat):Xzz (some (.agg ⟨l.map u8v⟩)) (some (.agg ⟨l.map u8v⟩))=true:=by simp[Xzz,Zfo,eqRow_u8']
def Zr2{h:Heap}{z n:Nat}{v:Value}{xs:List Value}(o:Sl h z v n xs):Xf6 v v=true:=by
 rcases o with⟨c,rfl,_⟩ | ⟨bk,o,c,ow,z',pre,post,rfl,_⟩
 ·simp[Xf6,X74]
 ·simp[Xf6,X74]
def Yg3{h:Heap}{z n z2 n2:Nat}{v w:Value}{xs ys:List Value}(o:Sl h z v n xs)(o2:Sl h z2 w n2 ys)(lock:Int):Xzz (some (.agg ⟨txC v w lock⟩)) (some (.agg ⟨txC v w lock⟩))=true:=by
 have e3:Xf6 (.int .i64 lock) (.int .i64 lock)=true:=by simp[Xf6,Ynf]
 show Za5 [v,w,.int .i64 lock] [v,w,.int .i64 lock]=true;simp only[Za5,Zr2 o,Zr2 o2,e3,Bool.and_true]
def Zrj{tg:List Nat}(ht:tg.length=16):(Xon tg).length < 1000000/\∀ x ∈ Xon tg,x.length < 1000000:=by
 refine⟨by simp[Xon],fun x hx => ?_⟩;simp only[Xon,aw]at hx;subst hx;simp[X5r,ht]
def Jrk{ins new:List InV}{outs outs2:List OutV}{lock:Int}{w:List (List Int)}(h1:new.map (·.pt)=ins.map (·.pt))(h2:∀ y ∈ new,y.its.map (·.2)=w)(h3:outs2.map OutV.p=outs.map OutV.p):ptx new outs2 lock=X1q (ptx ins outs lock) w:=by
 unfold ptx X1q;rw[h3];congr 1;have e1:∀ l:List InV,(∀ y ∈ l,y.its.map (·.2)=w)->l.map InV.p=(l.map (·.pt)).map fun p=>(⟨p,w⟩:PIn):=by
  intro l;induction l with
  | nil=>intro _;rfl
  | cons y l ih =>
   intro hl;simp only[aE];rw[ih fun z hz=>hl z (by simp[hz])];simp only[InV.p,hl y (by simp)]
 rw[e1 new h2,h1];simp[bL];intro a _;rfl
def Jsb(t:PTx)(o:Int):PTx:=X1q t (Xon (Q1e (Xyq Xrc o) (dgF X5s t)))
def SGI(h:Heap)(N T D:Nat)(iv ov:Value)(lock:Int)(l:List InV)(outs:List OutV)(tg:List Nat)(k:Nat)(s:St):Prop:=∃ (t:Tr Value) (g:Heap) (new:List InV) (i:Nat),s=⟨⟨29,t⟩,[],g⟩/\t.get 2=some (pO T 0)/\t.get 4=some (pO (T+1) 0)/\t.get 5=some (pO D 0)/\t.get 6=some (.int .i64 (i:Int))/\i<=l.length/\k=l.length-i/\g.get T=some (.cells true 1 (txC iv ov lock))/\g.get (T+1)=some (.cells true 1 X2g)/\g.get D=some (.cells true 1 (tg.map u8v))/\new.length=i/\new.map (·.pt)=(l.take i).map (·.pt)/\(∀ y ∈ new,y.its.map (·.2)=Xon tg)/\TxR h g iv ov (new++l.drop i) outs/\TxFar N iv ov (new++l.drop i) outs/\N<=g.next
section
attribute [local simp] Qcy Qgh Yv Wp V4 Vt J9 Qyw Q4w Qdr Qc7 Qe7 Ym Vm Qhk Qgy U7 
set_option maxHeartbeats 2000000 in
def Jaz(b:Nat){h:Heap}(laid:Ab.LaidIn h laidAll){iv ov:Value}{ins:List InV}{outs:List OutV}{lock:Int}(si:Ins h iv ins)(so:Outs h ov outs)(hp:∀ x ∈ ins,PtB x.pt){o:Int}(h1:1<=o)(h2:o<=32)(K:KP)
  (hk:∀ iv2 ov2 ins2 outs2 h',TxR h h' iv2 ov2 ins2 outs2->ptx ins2 outs2 lock=Jsb (ptx ins outs lock) o->ins2.map (·.pt)=ins.map (·.pt)->K (.ret (.agg ⟨txC iv2 ov2 lock⟩)) h') :
  FK b 19 [.agg ⟨txC iv ov lock⟩,.int .i64 o] h K:=by
 refine F3 b (Yv b) Ynv rfl ?_;have hn:=si.n;obtain⟨hA,eA⟩:∃ hA,hA=h.push (.cells true 1 (txC iv ov lock)):=⟨_,rfl⟩;have bx:=Qw8 eA;have aA:=Qon eA;have gA:hA.get h.next=some (.cells true 1 (txC iv ov lock)):=by rw[eA,Heap.get_push,if_pos rfl]
 have nA:=Q8i eA;obtain⟨hB,eB⟩:∃ hB,hB=hA.push (.cells true 1 X2g):=⟨_,rfl⟩;have alB:Qbx (E b).toEnv 31 hA=some (pO (h.next+1) 0,hB):=by rw[eB,<- nA];exact Qb6 b hA
 have aB:=Qon eB;have gB:hB.get (h.next+1)=some (.cells true 1 X2g):=by rw[eB,Heap.get_push,if_pos nA]
 have nB:hB.next=h.next+2:=by rw[eB];simp only[Qmo,nA]
 have aAB:=aA.trans aB;have ldT:∀ {hx B iv ov lock},hx.get B=some (.cells true 1 (txC iv ov lock))->Wy hx B 0 3=some (.agg ⟨txC iv ov lock⟩):=fun g=>by rw[V2 g (by simp[txC])];rfl
 have gT:=aB.get gA;obtain⟨_,k1,c1,n1,ν,rfl,g1,hn1,a1⟩:=Zhs b (Laid.old laid aAB) (fun r h' => ∃ ν,r=.ret (pO ν 0)/\h'.get ν=some (.cells true 1 (Xrc.map u8v))/\hB.next<=ν/\Old hB h') (fun ν h' g n a=>⟨ν,rfl,g,n,a⟩);obtain⟨dg,edg⟩:∃ dg,dg=dgF X5s (ptx ins outs lock):=⟨_,rfl⟩;have dl:dg.length=32:=by rw[edg];exact X1a _ _
 obtain⟨_,k2,c2,n2,rfl,a2⟩:=Zrs b (lock:=lock) (Laid.old laid (aAB.trans a1)) (si.old (aAB.trans a1)) (so.old (aAB.trans a1)) hp (fun r h'=>r=.ret (.agg ⟨dg.map u8v⟩)/\Old k1 h') (fun h' a=>⟨by rw[edg],a⟩);have aB2:=a1.trans a2;obtain⟨tg,htg⟩:∃ tg,tg=Q1e (Xyq Xrc o) dg:=⟨_,rfl⟩;have tl:tg.length=16:=by rw[htg];exact Y04 _ _
 have tb:∀ n ∈ tg,n < 256:=by rw[htg];exact Jiw _ _
 obtain⟨_,k3,c3,n3,rfl,a3⟩:=Jfz b (Xn6 (Laid.old laid (aAB.trans aB2))) h1 h2 (a2.get g1) Zu8 dl (fun r h'=>r=.ret (.agg ⟨tg.map u8v⟩)/\Old k2 h') (fun h' a=>⟨by rw[htg],a⟩);have aB3:=aB2.trans a3;obtain⟨hE,eE⟩:∃ hE,hE=k3.push (.cells true 1 z16):=⟨_,rfl⟩;have alE:Qbx (E b).toEnv 104 k3=some (pO k3.next 0,hE):=by rw[eE];exact Qyw b k3
 have gE:hE.get k3.next=some (.cells true 1 z16):=by rw[eE,Heap.get_push,if_pos rfl]
 have lE:=Heap.get_lt gE;obtain⟨hG,eG⟩:∃ hG,hG=hE.set k3.next (some (.cells true 1 (tg.map u8v))):=⟨_,rfl⟩;have stG:Ur hE k3.next 0 (tg.map u8v)=some hG:=by
  rw[Wh gE (by simp[z16,tl]),eG];congr 4;simp[z16,tl]
 have stG':Qbw (E b).toEnv 104 (pO k3.next 0) (.agg ⟨tg.map u8v⟩) hE=some hG:=by
  rw[Qx2 (l:=tg.map u8v) (Z4q b) (by rw[Y1v];simp[tl])];exact stG
 have gG:hG.get k3.next=some (.cells true 1 (tg.map u8v)):=by rw[eG,gY lE,if_pos rfl]
 have aG:Old k3 hG:=by rw[eG,eE];exact(Old.push _ _).set _ (ab _) (by rw[<- eE];exact lE)
 have aBG:=aB3.trans aG;simp[Qb6,bx,-Qb6,alB];refine Qem [⟨15,[],hB,pO ν 0,k1,true⟩,⟨44,[.agg ⟨txC iv ov lock⟩],k1,.agg ⟨dg.map u8v⟩,k2,true⟩,⟨43,[pO ν 0,.int .i64 o,.agg ⟨dg.map u8v⟩],k2,.agg ⟨tg.map u8v⟩,k3,true⟩] ?_ X1p X4c Xyc (by simp[Ya8,Yh9,ldT gT,ldT (a1.get gT),Qud,-Qyw,alE,stG'];first | exact⟨rfl,rfl⟩ | rfl) ?_ ?_
 ·exact zk3 ⟨c1,n1,fun _ c hc=>a1.2 c hc⟩ ⟨c2,n2,fun _ c hc=>a2.2 c hc⟩ ⟨c3,n3,fun _ c hc=>a3.2 c hc⟩
 ·simp[Qkd,ldT gT,ldT (a1.get gT),ldT (aB2.get gT),ldT (aB3.get gT),ldT (aBG.get gT),Yg3 si.s so.s]
 have gTG:=aBG.get gT;simp[Qb6,ldT gTG];have aHG:=aAB.trans aBG;refine Jdd b (lock:=lock) (si.old aHG) (so.old aHG) _ fun iv2 ov2 ins2 outs2 h5 R e1 e2 => ?_;have a5:=R.i.a;have gT5:=a5.get gTG;have lT5:=Heap.get_lt gT5;obtain⟨h6,e6⟩:∃ h6,h6=h5.set h.next (some (.cells true 1 (txC iv2 ov2 lock))):=⟨_,rfl⟩;have st6:Ur h5 h.next 0 (txC iv2 ov2 lock)=some h6:=by
  rw[e6,Wh gT5 (by simp[txC])];simp[txC]
 have k6:∀ c,c≠h.next->h6.get c=h5.get c:=fun c hc=>by rw[e6,gY lT5,if_neg (Ne.symm hc)]
 have gT6:h6.get h.next=some (.cells true 1 (txC iv2 ov2 lock)):=by rw[e6,gY lT5,if_pos rfl]
 have tlc:(txC iv2 ov2 lock).length=3:=rfl;have ltD:=Heap.get_lt gG;have ltT:=Heap.get_lt gTG;have ltB:=Heap.get_lt (aBG.get gB);have far:∀ c,hG.next<=c->h6.get c=h5.get c:=fun c hc=>k6 c (by omega);have old6:Old h h6:=⟨by rw[e6];exact ai aHG.1 a5.1,fun c hc=>by rw[k6 c (by omega),a5.2 c (au hc aHG.1),aHG.2 c hc]⟩;have hGn:=aHG.1;have R6:TxR h h6 iv2 ov2 ins2 outs2:=R.keepF R.far aHG.1 (fun c hc _=>far c hc) old6 aHG.1;have ivN:∀ c,J4 iv2=some c->hG.next<=c:=fun c hc=>(R.i.o.from hc).1;have gB6:h6.get (h.next+1)=some (.cells true 1 X2g):=by rw[k6 _ (by omega)];exact a5.get (aBG.get gB)
 have gD6:h6.get k3.next=some (.cells true 1 (tg.map u8v)):=by rw[k6 _ (by have:=aAB.1;have:=aB3.1;omega)];exact a5.get gG
 have l2:ins2.length=ins.length:=by have:=congrArg List.length e1;simpa using this
 have lenI:∀ hx,Qkc (E b).toEnv 28 iv2 hx=some (.int .i64 (ins2.length:Int)):=fun hx=>Qa0 (T28 b) R6.i.o.sl;have cI:∀ {hx},hx.get h.next=some (.cells true 1 (txC iv2 ov2 lock))->Yw hx h.next 0=some iv2:=fun g=>by rw[Yi g];rfl
 simp[Qb6,tlc,st6];refine Qdf (SGI h hG.next h.next k3.next iv2 ov2 lock ins2 outs2 tg) ins2.length ⟨_,h6,[],0,rfl,by simp,by simp,by simp,by simp,by omega,rfl,gT6,gB6,gD6,rfl,by simp,by simp,by simpa using R6,by simpa using R.far,by rw[e6];exact a5.1⟩ ?_;rintro k s' ⟨t,hx,new,i,rfl,t2,t4,t5,t6,hi,rfl,gX,gX2,gX3,hnl,hnp,hnw,RX,FX,hNx⟩ -;by_cases hlt:i < ins2.length
 ·have hlt':(i:Int) < (ins2.length:Int):=by omega
  have hw':=wS (i:=i) (by omega);obtain⟨x,hxi⟩:∃ x,ins2[i]? = some x:=⟨_,List.getElem?_eq_getElem hlt⟩;have hd:ins2.drop i=x::ins2.drop (i+1):=by
   rw[bb hlt];rw[List.getElem?_eq_getElem hlt]at hxi;rw[bz hxi]
  rw[hd]at RX FX;obtain⟨_,hy,q1,n1',wv,its,rfl,wn,ay⟩:=Jie b tl tb hx (fun r h' => ∃ wv its,r=.ret wv/\WitNew h' hx.next wv its (Xon tg)/\Old hx h') (fun wv its h2 w a=>⟨wv,its,rfl,w,a⟩);obtain⟨w1,w2⟩:=Zrj tl;have RY:=RX.i.old ay;have lenX:(new++x::ins2.drop (i+1)).length=ins2.length:=by rw[<- hd,ae,bm,hnl];omega
  have oY:=RY.o;rw[lenX]at oY;obtain⟨bk,y1,y2, -⟩:=Jqp (b:=b) (T28 b) Qeo oY (k:=.i64) (i:=(i:Int)) (by omega) (by omega);rw[aT]at y2;have bkN:=ivN bk y1;obtain⟨h3,s1,s2,s3,s4⟩:=RX.i.set ay (x:=x) (wn.inN w1 w2) y1;rw[hnl]at s1;have tagx:∀ {hz:Heap},hz.get k3.next=some (.cells true 1 (tg.map u8v))->Wy hz k3.next 0 16=some (.agg ⟨tg.map u8v⟩):=fun g=>agW g (by simp[tl]) (by simp[tl]);have gXy:=ay.get gX;have sWv:=wn.s;have g3:h3.get h.next=some (.cells true 1 (txC iv2 ov2 lock)):=by rw[s4 _ (by omega)];exact gXy
  have g32:h3.get (h.next+1)=some (.cells true 1 X2g):=by rw[s4 _ (by omega)];exact ay.get gX2
  have g33:h3.get k3.next=some (.cells true 1 (tg.map u8v)):=by rw[s4 _ (by omega)];exact ay.get gX3
  simp[Qb6,t2,t4,t5,t6,cI gX,lenI,hlt,hlt'];refine Qem [⟨46,[.agg ⟨tg.map u8v⟩],hx,wv,hy,true⟩] ?_ Xyl X4t X07 (by simp[Ydz,Yky,Yho,t2,t4,t5,t6,cI gX,tagx gX3,y2,Jn0,sWv.one,s1];exact⟨rfl,rfl⟩) ?_ ?_
  ·exact zk1 ⟨q1,n1',fun _ c hc=>ay.2 c hc⟩
  ·simp[Qfh,t2,t4,t5,t6,cI gX,cI gXy,cI g3,tagx gX3,tagx (ay.get gX3),tagx g33,Xxx RX.i.o,Jgs]
  simp[Qb6,t2,t4,t5,t6,hw'];have tk:(ins2.take (i+1)).map (·.pt)=(ins2.take i).map (·.pt) ++ [x.pt]:=by rw[aQ,hxi];simp
  have e3:new ++ [(⟨x.pt,wv,its⟩:InV)]++ins2.drop (i+1)=new++⟨x.pt,wv,its⟩::ins2.drop (i+1):=by simp
  have lt3:∀ x ∈ outs2,∀ c,J4 x.sv=some c->c≠bk:=fun z hz c hc e=>RX.d2 z hz c hc (by rw[y1,e]);refine⟨ins2.length-(i+1),by omega,_,h3,new ++ [⟨x.pt,wv,its⟩],i+1,rfl,by simp[t2],by simp[t4],by simp[t5],by simp,by omega,rfl,g3,g32,g33,by simp[hnl],by rw[aR,hnp,tk];rfl,fun y hy' => ?_,?_⟩
  ·rcases al.1 hy' with q | q
   ·exact hnw y q
   ·rw[aw.1 q];exact wn.e
  ·rw[e3];have RO:=RX.o.old ay;refine⟨⟨s2,⟨RO.o.keep fun c hc _=>s4 c fun e=>RX.d1 bk y1 (by rw[hc,e]),fun z hz=>(RO.s z hz).keep fun c hc _=>s4 c (lt3 z hz c hc),RO.d,s2.a⟩,RX.d1,RX.d2,by have:=RX.ni;rw[lenX]at this;rw[ae,aS,bm,hnl];omega,RX.no⟩,⟨FX.a,FX.b,fun y hy' v hv c hc => ?_,FX.d⟩,by rw[s3];exact ai hNx ay.1⟩;rcases al.1 hy' with q | q
   ·exact FX.c y (al.2 (.inl q)) v hv c hc
   ·rcases ap.1 q with rfl | q
    ·have:=(wn.inN (p:=x.pt) w1 w2).2 v hv c hc;omega
    ·exact FX.c y (al.2 (.inr (aN _ q))) v hv c hc
 ·have hlt':¬ (i:Int) < (ins2.length:Int):=by omega
  have hil:i=ins2.length:=by omega
  subst hil;rw[bc]at hnp;rw[cQ,bP]at RX FX;have lX2:=Heap.get_lt gX2;obtain⟨h9,e9⟩:∃ h9,h9=hx.set (h.next+1) (some (.cells true 1 (txC iv2 ov2 lock))):=⟨_,rfl⟩;have st9:Ur hx (h.next+1) 0 (txC iv2 ov2 lock)=some h9:=by rw[e9,Wh gX2 (by simp[X2g,txC])];rfl
  have ld9:Wy h9 (h.next+1) 0 3=some (.agg ⟨txC iv2 ov2 lock⟩):=ldT (by rw[e9,gY lX2,if_pos rfl]);simp[Qb6,t2,t4,t5,t6,cI gX,lenI,ldT gX,tlc,st9,ld9];have k9:∀ c,c≠h.next+1->h9.get c=hx.get c:=fun c hc=>by rw[e9,gY lX2,if_neg (Ne.symm hc)]
  have R9:TxR h h9 iv2 ov2 new outs2:=RX.keepF FX aHG.1 (fun c hc _=>k9 c (by omega)) ⟨by rw[e9];exact RX.i.a.1,fun c hc=>by rw[k9 c (by omega),RX.i.a.2 c hc]⟩ (ab _);have hpt:ins2.map (·.pt)=ins.map (·.pt):=by
   have:=congrArg (List.map PIn.pt) e1;simpa[bL,cj,InV.p]using this
  refine hk iv2 ov2 new outs2 h9 R9 ?_ (by rw[hnp,hpt]);unfold Jsb;rw[<- edg,<- htg];exact Jrk (by rw[hnp,hpt]) hnw e2
end
def Jo0{c:Int}(hc:129<=c/\c<=139)(f:Nat)(r:List Int):pz (f+1) (c::r)=(pz f r).map ((c,[]) :: ·):=by
 rw[pz,if_neg (by omega),if_neg (by omega)]
def Jol(c:Int)(d:List Int)(hd:(d.length:Int)=c)(hc:c<=64)(f:Nat)(r:List Int):pz (f+1) (c::(d++r))=(pz f r).map ((c,d) :: ·):=by
 have h1:c.toNat=d.length:=by omega
 rw[pz,if_pos ⟨hc,by rw[ae];omega⟩,h1,bZ,dX]
def Jt8(o:Int):List (Int × List Int):=[(1,[IntKind.u8.wrap o]),(134,[])]
def Jqh(o:Int):pz 3 (Xvs o)=some (Jt8 o):=by
 have e:Xvs o=1::([IntKind.u8.wrap o]++(134 :: [])):=rfl;rw[e,Jol 1 [_] rfl (by omega),Jo0 (by omega),pz];rfl
def Jn4(a:Asks)(o:Int)(stk:List (List Int)):Zhu a (Xvs o) stk=Jlq a (Jt8 o) stk:=by
 unfold Zhu;have : (Xvs o).length=3:=rfl;rw[this,if_neg (by omega),Jqh];rfl
def Z6f{a:Asks}{c:Int}{d:List Int}{l:List (Int × List Int)}{st st':List (List Int)}{op op':List Br}(h:Q7r a c d st op=.ok (st',op')):X0u a ((c,d)::l) st op=X0u a l st' op':=by
 show(Q7r a c d st op).bind _=_;rw[h];rfl
def Z47{x:List Int}{st:List (List Int)}(h:st.length < 16):Xew x st=.ok (x::st):=if_pos h
section
variable{a:Asks}{d x y:List Int}{r:List (List Int)}{op:List Br}(off:Jgw op=false)
include off
theorem Jv3{c:Int}(h1:c≠136)(h2:c≠137)(h3:c≠138){st:List (List Int)}:Q7r a c d st op=(doF a c d st).map fun st'=>(st',op):=by simp[Q7r,brF,h1,h2,h3,off]
theorem Jq5{c:Int}(hc:c<=64)(hr:r.length < 16):Q7r a c d r op=.ok (d::r,op):=by
 rw[Jv3 off (by omega) (by omega) (by omega)];unfold doF;rw[if_neg (by omega),if_neg (by omega),if_neg (by omega),if_neg (by omega),if_neg (by omega),if_neg (by omega),if_neg (by omega),if_neg (by omega),Z47 hr];rfl
theorem Jrq{o:Int}(hy:y.length=16)(hr:r.length < 16):Q7r a 134 d ([o]::y::r) op=.ok (Jik (Jg8 a o y)::r,op):=by
 rw[Jv3 off (by omega) (by omega) (by omega)];unfold doF;rw[if_neg (by omega),if_neg (by omega),if_neg (by omega),if_neg (by omega),if_neg (by omega),if_pos rfl];simp only[hy];rw[if_pos ⟨rfl,trivial⟩,Z47 hr];rfl
end
def Ju4{o:Int}(ho:0<=o/\o < 256):IntKind.u8.wrap o=o:=by
 have:=Jhz (n:=o.toNat) (by omega);rw[d6 ho.1]at this;exact this
def Jj5(q:Bool):Z9q (.ok ([Jik q],[]))=if q=true then 0 else 16:=by cases q <;> rfl
def Jqq{x:List Int}(h:x.length<=64):Yap [x] []=.ok [x]:=by
 rw[Yap,if_pos h,Z47 (by simp)];rfl
def Jpg{a:Asks}{l:List (Int × List Int)}{stk st:List (List Int)}(h:Yap stk []=.ok st):Jlq a l stk=Z9q (X0u a l st []):=by
 unfold Jlq;rw[h]
def Zom(l:List Nat):(X5r l).length=l.length:=by simp[X5r]
def Jgk{a:Asks}{o:Int}(ho:0<=o/\o < 256){tg:List Nat}(ht:tg.length=16):Zhu a (Xvs o) [X5r tg]=if Jg8 a o (X5r tg)=true then 0 else 16:=by
 have hl:=Zom tg;generalize X5r tg=T at *;rw[Jn4,Jpg (Jqq (by omega)),Jt8,Z6f (Jq5 rfl (by omega) (by simp)),Z6f (Jrq rfl (by omega) (by simp)),Ju4 ho];exact Jj5 _
def Zus{t:PTx}(k:TxOk t):Qzx t=0:=by
 unfold Qzx;have h1:(!inF t.ins.length 1 8 || !inF t.outs.length 1 8)=false:=by
  have:=k.insN;have:=k.outsN;rw[Yoj.2 (by omega),Yoj.2 (by omega)];rfl
 have h2:(t.ins.any Jhi || !inF t.lock 0 1073741824)=false:=by
  rw[Yoj.2 k.lock];have : t.ins.any Jhi=false:=by
   rw[cf];intro x hx;unfold Jhi;rw[Yoj.2 (k.far x hx)];simp
  rw[this];rfl
 have h3:(!decide (t.ins.map (·.pt)).Nodup)=false:=by rw[decide_eq_true k.pts];rfl
 have h4:(!X9e t.outs 1125899906842624)=false:=by rw[k.vals];rfl
 have h5:(t.outs.any Zbr || t.ins.any Zb6)=false:=by
  have a1:t.outs.any Zbr=false:=by
   rw[cf];intro o ho;have:=k.script o ho;unfold Zbr;simp;omega
  have a2:t.ins.any Zb6=false:=by
   rw[cf];intro x hx;obtain⟨q1,q2⟩:=k.wit x hx;unfold Zb6;simp;exact⟨q1,q2⟩
  rw[a1,a2];rfl
 simp only[h1,h2,h3,h4,h5];rfl
def Z9r(t:PTx)(w:List (List Int)):Yps (X1q t w)=Yps t:=by
 unfold Yps X1q;have e:(t.ins.map fun x=>(⟨x.pt,w⟩:PIn)).flatMap inB=t.ins.flatMap inB:=by
  rw[flat_map'];rfl
 simp only[e,aL]
def Jhg{s:List Nat}{t:PTx}{w:List (List Int)}(h0:Qzx t=0)(h1:Qzx (X1q t w)=0):dgF s (X1q t w)=dgF s t:=by
 unfold dgF;rw[if_pos h0,if_pos h1,Z9r]
def Jj1{ks:List Nat}{hks:ks.length=1024}{t:PTx}{d:List Nat}{o:Int}(ho:1<=o/\o<=32)(hd:dgF X5s t=d):Jg8 (Zou ks hks t) o (X5r (Q1e (Xyq ks o) d))=true:=by
 unfold Jg8;rw[Jb1];simp only[Zou,hd,decide_true,Bool.and_true];exact decide_eq_true ho
def Yov(m:Xk0)(l:List Pt):Int:=(l.map fun p=>(Ylg m p).value).sum
def Jga(pts:List Pt)(outs:List POut):PTx:=⟨pts.map fun p=>⟨p,[]⟩,outs,0⟩
structure MadeOf (m:Xk0) (T:PTx) (o:Int) (pts:List Pt) (outs:List POut) (fee:Int):Prop where
 o1:1<=o
 o2:o<=32
 p1:1<=pts.length
 p4:pts.length<=4
 nd:pts.Nodup
 at':∀ p ∈ pts,∃ c,m p=some c/\c.script=Xvs o
 f:0<=fee
 e:Yov m pts=Q3o outs+fee
 q1:1<=outs.length
 q2:outs.length<=2
 q:∀ x ∈ outs,1<=x.value/\∃ u:Int,1<=u/\u<=32/\x.script=Xvs u
 t:T=Jsb (Jga pts outs) o
def Z6n:∀ {l:List POut} {left:Int},(∀ o ∈ l,1<=o.value)->Q3o l<=left->X9e l left=true
 | [],_,_,_=>rfl
 | o::l,left,h,hs=>by
  have h1:=h o (by simp);have e:Q3o (o::l)=o.value+Q3o l:=by simp[Q3o]
  have h0:0<=Q3o l:=by
   have : ∀ l:List POut,(∀ o ∈ l,1<=o.value)->0<=Q3o l:=by
    intro l;induction l with
    | nil=>intro _;simp[Q3o]
    | cons y l ih =>
     intro hl;have:=ih fun z hz=>hl z (by simp[hz]);have:=hl y (by simp);have e:Q3o (y::l)=y.value+Q3o l:=by simp[Q3o]
     omega
   exact this l fun z hz=>h z (by simp[hz])
  unfold X9e;rw[if_neg (by omega)];exact Z6n (fun z hz=>h z (by simp[hz])) (by omega)
def Zok{m:Xk0}{B:Int}(G:Zg6 m B)(hB:0<=B):∀ {l:List Pt},Yov m l<=l.length*B
 | []=>by simp[Yov]
 | p::l=>by
  have ih:=Zok G hB (l:=l);have e:Yov m (p::l)=(Ylg m p).value+Yov m l:=by simp[Yov]
  have h1:(Ylg m p).value<=B:=by
   unfold Ylg;cases hm:m p with
   | none=>exact hB
   | some c=>exact(G p c hm).2.2.1
  have e2:((p::l).length:Int)*B=B+(l.length:Int)*B:=by rw[aS];push_cast;rw[Int.add_mul];omega
  omega
def Zgv:∀ {l:List POut} {x:POut},(∀ y ∈ l,1<=y.value)->x ∈ l->x.value<=Q3o l
 | y::l,x,h,hx=>by
  have e:Q3o (y::l)=y.value+Q3o l:=by simp[Q3o]
  have h0:0<=Q3o l:=by
   have : ∀ l:List POut,(∀ o ∈ l,1<=o.value)->0<=Q3o l:=by
    intro l;induction l with
    | nil=>intro _;simp[Q3o]
    | cons y l ih =>
     intro hl;have:=ih fun z hz=>hl z (by simp[hz]);have:=hl y (by simp);have e:Q3o (y::l)=y.value+Q3o l:=by simp[Q3o]
     omega
   exact this l fun z hz=>h z (by simp[hz])
  rcases ap.1 hx with rfl | hx
  ·omega
  ·have:=Zgv (fun z hz=>h z (by simp[hz])) hx;have:=h y (by simp);omega
section
variable{m:Xk0}{B:Int}{T:PTx}{o fee:Int}{pts:List Pt}{outs:List POut}(M:MadeOf m T o pts outs fee)(G:Zg6 m B)(hB:0<=B)(h4:4*B<=1125899906842624)
include M G hB h4
theorem Z5h:Yov m pts<=4*B:=by
 have:=Zok G hB (l:=pts);have h:=M.p4;have : (pts.length:Int)*B<=4*B:=cS (by omega) hB;omega
theorem Zse{w:List (List Int)}(hw:w.length<=16)(hw2:∀ y ∈ w,y.length<=64):TxOk ⟨pts.map fun p=>⟨p,w⟩,outs,0⟩:=by
 have hs:=Z5h M G hB h4;have he:=M.e;have hf:=M.f;have hp1:=M.p1;have hp4:=M.p4;have hq1:=M.q1;have hq2:=M.q2;refine⟨by simp;omega,by simp;omega,fun x hx => ?_,by simp,?_,Z6n (fun x hx=>(M.q x hx).1) (by show Q3o outs<=_;omega),fun x hx => ?_,fun x hx => ?_⟩
 ·obtain⟨p,hp,rfl⟩:=am.1 hx;obtain⟨c,hc, -⟩:=M.at' p hp;obtain⟨-, -, -,h1,h2⟩:=G p c hc;exact⟨h1,by show p.n<=8;omega⟩
 ·rw[bL];have : ((fun x:PIn=>x.pt) ∘ fun p:Pt=>(⟨p,w⟩:PIn))=id:=rfl;rw[this,dQ];exact M.nd
 ·obtain⟨-,u, -, -,e⟩:=M.q x hx;rw[e];simp[Xvs]
 ·obtain⟨p,hp,rfl⟩:=am.1 hx;exact⟨hw,hw2⟩
theorem Jhf:Qzx (Jga pts outs)=0:=Zus (Zse M G hB h4 (by simp) (by simp))
theorem Jci:T=⟨pts.map fun p=>⟨p,Xon (Q1e (Xyq Xrc o) (dgF X5s (Jga pts outs)))⟩,outs,0⟩:=by
 rw[M.t];unfold Jsb X1q Jga;simp[bL,cj]
theorem Ymx:Qzx T=0:=by
 rw[Jci M G hB h4];refine Zus (Zse M G hB h4 (by simp[Xon]) fun y hy => ?_);simp only[Xon,aw]at hy;rw[hy,Zom,Y04];omega
theorem Z4p(hks:Xrc.length=1024)(w:List (List Int))(hw:w=Xon (Q1e (Xyq Xrc o) (dgF X5s (Jga pts outs)))):∀ (l:List Pt) (s:Int),(∀ p ∈ l,p ∈ pts)->Z92 (Zou Xrc hks T) m (l.map fun p=>⟨p,w⟩) s=.ok (s+Yov m l)
 | [],s,_=>by simp[Z92,Yov]
 | p::l,s,hl=>by
  obtain⟨c,hc,hs⟩:=M.at' p (hl p (by simp));have hd:dgF X5s T=dgF X5s (Jga pts outs):=by
   have hc:=Ymx M G hB h4;rw[M.t]at hc ⊢;exact Jhg (Jhf M G hB h4) hc
  have hr:=Jgk (a:=Zou Xrc hks T) (o:=o) (by have:=M.o1;have:=M.o2;omega) (tg:=Q1e (Xyq Xrc o) (dgF X5s (Jga pts outs))) (Y04 _ _);rw[Jj1 ⟨M.o1,M.o2⟩ hd,if_pos rfl]at hr;have hr':Zhu (Zou Xrc hks T) c.script w=0:=by rw[hs,hw];exact hr
  have ih:=Z4p hks w hw l (s+c.value) fun q hq=>hl q (by simp[hq]);simp only[aE,Z92,hc,hr',if_true];rw[ih];have : Yov m (p::l)=c.value+Yov m l:=by simp[Yov,Ylg,hc]
  rw[this];congr 1;omega
theorem Z7o{hks:Xrc.length=1024}{ht:Int}(h0:0<=ht):Ykp Xrc hks m ht T=(fee,0):=by
 have hc:=Ymx M G hB h4;have hT:=Jci M G hB h4;have hl:¬ ht+1 < T.lock:=by rw[hT];show ¬ ht+1 < 0;omega
 have hi:Z92 (Zou Xrc hks T) m T.ins 0=.ok (Yov m pts):=by
  have:=Z4p M G hB h4 hks _ rfl pts 0 (fun p hp=>hp);rw[Int.zero_add]at this;have e:T.ins=pts.map fun p=>⟨p,Xon (Q1e (Xyq Xrc o) (dgF X5s (Jga pts outs)))⟩:=by
   rw[hT]
  rw[e];exact this
 have ho:T.outs=outs:=by rw[hT]
 have he:=M.e;have hf:=M.f;unfold Ykp;rw[if_pos hc,if_neg hl,hi,ho];have e:Yov m pts-Q3o outs=fee:=by omega
 simp only[e];rw[if_neg (by omega)]
end
def Zq9(p:Pt):InV:=⟨p,.slice none 0 0,[]⟩
def Jpy{h:Heap}{n0:Nat}(p:Pt):InN h n0 (Zq9 p):=⟨⟨Sl.nil,(fun q hq=>(by cases hq)),by simp[Zq9],(fun q hq=>(by cases hq))⟩,fun v hv c hc=>by
 simp only[Z3h,Zq9,cH,aw]at hv;subst hv;cases hc⟩
def Jlf(pts:List Pt)(outs:List OutV):ptx (pts.map Zq9) outs 0=Jga pts (outs.map OutV.p):=by
 simp only[ptx,Jga,bL,PTx.mk.injEq,and_true,true_and];exact bA fun p _=>rfl
def Jru(b:Nat):Qn1 (E b).toEnv 31 []=some (.agg ⟨X2g⟩):=kR
structure MvV where
 cv:Value
 coins:List Int
 to:Int
 part:Int
 fee:Int
def MvV.cells(x:MvV):List Value:=[x.cv,.int .i64 x.to,.int .i64 x.part,.int .i64 x.fee]
structure MvAt (h:Heap) (x:MvV):Prop where
 s:Sl h 1 x.cv x.coins.length (x.coins.map (Value.int .i64))
 n:x.coins.length < 4611686018427387904
def MvAt.old{h h':Heap}{x:MvV}(a:MvAt h x)(o:Old h h'):MvAt h' x:=⟨a.s.old o,a.n⟩
structure Coins (m:Xk0) (owner sum:Int) (pts:List Pt):Prop where
 z:pts=[]->owner=0
 o:pts ≠ []->1<=owner/\owner<=32
 n:pts.length<=4
 nd:pts.Nodup
 at':∀ p ∈ pts,∃ c,m p=some c/\c.script=Xvs owner
 s:sum=Yov m pts
 b:∀ p ∈ pts,PtB p
structure MadeAt2 (h h':Heap) (m:Xk0) (iv ov:Value) (ins:List InV) (outs:List OutV):Prop where
 r:TxR h h' iv ov ins outs
 p:∀ x ∈ ins,PtB x.pt
 m:∃ o pts qs fee,MadeOf m (ptx ins outs 0) o pts qs fee
section
attribute [local simp] Jc Ve Yr Y5 Ye Qfs Qy0 Jg J2 Qc7 J0 Zz J1 Zf Vz V0 Uh Qqz Yb Qa2 Qb9 Jv Z8 Jr Ym Vm Yx Uw Zy Ze Zi Zh Jo Qfq J3 Zg Qfw Qfi Jm Jf Qal V4 Yv Yo
set_option maxHeartbeats 4000000 in
def Jc8(b:Nat){h g:Heap}(la:Ab.LaidIn h laidAll){m:Xk0}{B:Int}(G:Zg6 m B)(hB:0<=B)(h4:4*B<=1125899906842624){x:MvV}{X N:Nat}{iv:Value}{pts:List Pt}{owner sum:Int}(C:Coins m owner sum pts)
  (gM:g.get h.next=some (.cells true 1 x.cells)) (gR:g.get (h.next+1)=some (.cells true 1 X2g)) (gX:g.get X=some (.cells true 1 (txC iv (.slice none 0 0) 0))) (hX:h.next+1 < X) (hXN:X < N) (hN:N<=g.next) (oi:Own g N 34 iv pts.length (Qee (pts.map Zq9))) (aH:Old h g)
  {t:Tr Value} (t3:t.get 3=some (pO h.next 0)) (t4:t.get 4=some (pO (h.next+1) 0)) (t7:t.get 7=some (.int .i64 owner)) (t8:t.get 8=some (.int .i64 sum)) (t9:t.get 9=some (pO X 0))
  (K:KP) (hno:∀ h',Old h h'->K (.ret (.tuple #[.agg ⟨X2g⟩,.bool false])) h')
  (hk:∀ iv2 ov2 ins2 outs2 h',MadeAt2 h h' m iv2 ov2 ins2 outs2->K (.ret (.tuple #[.agg ⟨txC iv2 ov2 0⟩,.bool true])) h') :
  Qac (E b) (Xrd Tryz.prog (E b).G) (D0 b) none Q6q ⟨⟨161,t⟩,[],g⟩ (Zh4 (E b) (DD b) Qxv K):=by
 have c1:∀ {hx:Heap},hx.get h.next=some (.cells true 1 x.cells)->Yw hx h.next 1=some (.int .i64 x.to)/\Yw hx h.next 2=some (.int .i64 x.part)/\Yw hx h.next 3=some (.int .i64 x.fee):=fun g=>⟨by rw[Yi g];rfl,by rw[Yi g];rfl,by rw[Yi g];rfl⟩;have q1:=c1 gM;obtain⟨fee,efee⟩:∃ fee,fee=Yhs x.fee 20:=⟨_,rfl⟩;have fin:=X2e x.fee (n:=20) (by omega);rw[<- efee]at fin;have lR:=Heap.get_lt gR;have hs:sum<=4*B:=by
  have:=Zok G hB (l:=pts);have h:=C.n;have : (pts.length:Int)*B<=4*B:=cS (by omega) hB;have:=C.s;omega
 have hw1:IntKind.i64.wrap (fee+1)=fee+1:=Uq (by omega) (by omega);obtain⟨nt,ent⟩:∃ nt,nt=X2g:=⟨_,rfl⟩;have nl:nt.length=3:=by rw[ent];rfl
 have bd:Qn1 (E b).toEnv 31 []=some (.agg ⟨nt⟩):=by rw[ent];exact Jru b
 obtain⟨gz,egz⟩:∃ gz,gz=g.set (h.next+1) (some (.cells true 1 nt)):=⟨_,rfl⟩;have stz:Ur g (h.next+1) 0 nt=some gz:=by rw[egz,Wh gR (by rw[nl];simp[X2g,txC])];simp[nl,X2g,txC]
 have ldz:Wy gz (h.next+1) 0 3=some (.agg ⟨nt⟩):=agW (by rw[egz,gY lR,if_pos rfl]) (by omega) (by omega);have oz:Old h gz:=by rw[egz];exact aH.set _ (by omega) lR
 have hno':=hno gz oz;rw[<- ent]at hno';have t8':sum=Yov m pts:=C.s;simp[Zd,t3,t4,t7,t8,t9,q1];refine(Ykf b x.fee (n:=20) (by omega) (by omega) g _ ?_).ok;rw[<- efee];by_cases o0:owner=0
 ·simp[Zd,t3,t4,t7,t8,t9,q1,o0,bd,nl,stz,ldz];exact hno'
 by_cases hlt:sum < fee+1
 ·simp[Zd,t3,t4,t7,t8,t9,q1,o0,hw1,hlt,bd,nl,stz,ldz];exact hno'
 have hws:IntKind.i64.wrap (sum-fee)=sum-fee:=Uq (by omega) (by omega);simp[Zd,t3,t4,t7,t8,t9,q1,o0,hw1,hlt,hws];refine(Ykf b x.part (n:=sum-fee) (by omega) (by omega) g _ ?_).ok;have pin:=X2e x.part (n:=sum-fee) (by omega);obtain⟨part,epart⟩:∃ part,part=1+Yhs x.part (sum-fee):=⟨_,rfl⟩;have hwp:IntKind.i64.wrap (1+Yhs x.part (sum-fee))=part:=by rw[epart,Uq (by omega) (by omega)]
 have tin:=X2e x.to (n:=32) (by omega);obtain⟨to,eto⟩:∃ to,to=1+Yhs x.to 32:=⟨_,rfl⟩;have hwt:IntKind.i64.wrap (1+Yhs x.to 32)=to:=by rw[eto,Uq (by omega) (by omega)]
 simp[Zd,t3,t4,t7,t8,t9,q1,hwp];refine(Ykf b x.to (n:=32) (by omega) (by omega) g _ ?_).ok;simp[Zd,t3,t4,t7,t8,t9,q1,hwt];refine(Z6p b to g _ fun v1 g1 o1 a1 => ?_).ok;have gX1:=a1.get gX;obtain⟨g2,eg2⟩:∃ g2,g2=g1.push (.cells true 1 [.int .i64 part,v1]):=⟨_,rfl⟩;have a2:=Qon eg2;have bl1:=Y38 b part v1 g1;rw[<- eg2]at bl1;have gg2:g2.get g1.next=some (.cells true 1 [.int .i64 part,v1]):=by rw[eg2,Heap.get_push,if_pos rfl]
 have gX2:=a2.get gX1;have lX2:=Heap.get_lt gX2;have n01:=a1.1;have n2:=Q8i eg2;obtain⟨ov1,eov1⟩:∃ ov1:Value,ov1=.slice (some ⟨g1.next,0,none⟩) 1 1:=⟨_,rfl⟩;rw[<- eov1]at bl1;obtain⟨g3,eg3⟩:∃ g3,g3=g2.set X (some (.cells true 1 (txC iv ov1 0))):=⟨_,rfl⟩;have st3:Ur g2 X 1 [ov1]=some g3:=by rw[eg3,Qeu gX2 (by simp[txC])];rfl
 have k3:∀ c,c≠X->g3.get c=g2.get c:=fun c hc=>by rw[eg3,gY lX2,if_neg (Ne.symm hc)]
 have gX3:g3.get X=some (.cells true 1 (txC iv ov1 0)):=by rw[eg3,gY lX2,if_pos rfl]
 have n3:g3.next=g2.next:=by rw[eg3];rfl
 have one1:Xxl ov1=true:=by rw[eov1];exact Q0 _ _ _
 have b1:J4 ov1=some g1.next:=by rw[eov1];rfl
 have hto:0<=to/\to < 256:=by omega
 have v1b:∀ c,J4 v1=some c->g.next<=c/\c < g1.next:=fun c hc=>o1.from hc;have oldh3:Old h g3:=⟨by have:=aH.1;omega,fun c hc=>by rw[k3 c (by omega),a2.2 c (by have:=aH.1;omega),a1.2 c (by have:=aH.1;omega),aH.2 c hc]⟩;have R3:OutsR h g3 ov1 [⟨part,v1,Xvs to⟩]:=by
  refine⟨?_,fun y hy => ?_,fun y hy c hc e => ?_,oldh3⟩
  ·have e:Qpo [(⟨part,v1,Xvs to⟩:OutV)]=[.int .i64 part,v1]:=rfl;rw[e,eov1];exact Own.new (z':=1) (n:=1) (by have:=aH.1;omega) (by rw[k3 _ (by omega)];exact gg2) rfl (by decide) (.inr rfl)
  ·rw[aw.1 hy];exact⟨(o1.low (by have:=aH.1;omega)).keep fun c hc hl=>by have:=v1b c hc;rw[k3 c (by omega),a2.2 c hl],Xlg hto,by simp[Xvs]⟩
  ·rw[aw.1 hy]at hc;rw[b1]at e;cases e;have:=v1b _ hc;omega
 have oi3:Own g3 N 34 iv pts.length (Qee (pts.map Zq9)):=oi.keep fun c hc hl=>by have:=(oi.from hc).1;rw[k3 c (by omega),a2.2 c (by omega),a1.2 c hl]
 have gR3:g3.get (h.next+1)=some (.cells true 1 X2g):=by rw[k3 _ (by omega),a2.2 _ (by omega),a1.2 _ lR];exact gR
 have key:∀ (g5:Heap) (ov:Value) (outs:List OutV) (tt:Tr Value),g5.get X=some (.cells true 1 (txC iv ov 0))->OutsR h g5 ov outs->(∀ c,J4 ov=some c->N<=c)->(∀ y ∈ outs,∀ c,J4 y.sv=some c->N<=c)->Own g5 N 34 iv pts.length (Qee (pts.map Zq9))->g5.get (h.next+1)=some (.cells true 1 X2g)->N<=g5.next ->
   tt.get 4=some (pO (h.next+1) 0)->tt.get 7=some (.int .i64 owner)->tt.get 9=some (pO X 0) ->
   Q3o (outs.map OutV.p)+fee=sum->1<=outs.length->outs.length<=2->(∀ q ∈ outs.map OutV.p,1<=q.value/\∃ u:Int,1<=u/\u<=32/\q.script=Xvs u) ->
   Qac (E b) (Xrd Tryz.prog (E b).G) (D0 b) none Xki ⟨⟨161,tt⟩,[],g5⟩ (Zh4 (E b) (DD b) Qxv K):=by
  intro g5 ov outs tt gX5 R5 ovN osN oi5 gR5 hN5 e4 e7 e9 hsum l1 l2 hq;have ld5:Wy g5 X 0 3=some (.agg ⟨txC iv ov 0⟩):=by rw[V2 gX5 (by simp[txC])];rfl
  simp[Zd,e4,e7,e9,ld5];have hp0:pts ≠ []:=fun q=>o0 (C.z q);have ho:=C.o hp0;have hn4:=C.n;have il:(pts.map Zq9).length=pts.length:=by simp
  have si:Ins g5 iv (pts.map Zq9):=⟨by rw[il];exact oi5.sl,by rw[il];omega,fun y hy=>by
   obtain⟨p,hp,rfl⟩:=am.1 hy;exact(Jpy (h:=g5) (n0:=0) p).1⟩
  refine(Jaz b (Laid.old la R5.a) (lock:=0) si (R5.outs (by omega)) (fun y hy=>by
   obtain⟨p,hp,rfl⟩:=am.1 hy;exact C.b p hp) ho.1 ho.2 _ fun iv2 ov2 ins2 outs2 h7 R7 e1 e2 => ?_).ok
  have a7:=R7.i.a;have g7:=a7.get gR5;have l7:=Heap.get_lt g7;have tlc:(txC iv2 ov2 0).length=3:=rfl;obtain⟨h8,e8⟩:∃ h8,h8=h7.set (h.next+1) (some (.cells true 1 (txC iv2 ov2 0))):=⟨_,rfl⟩;have st8:Ur h7 (h.next+1) 0 (txC iv2 ov2 0)=some h8:=by rw[e8,Wh g7 (by simp[X2g,txC])];simp[X2g,txC]
  have g8:h8.get (h.next+1)=some (.cells true 1 (txC iv2 ov2 0)):=by rw[e8,gY l7,if_pos rfl]
  have ld8:Wy h8 (h.next+1) 0 3=some (.agg ⟨txC iv2 ov2 0⟩):=by rw[V2 g8 (by simp[txC])];rfl
  have k8:∀ c,c≠h.next+1->h8.get c=h7.get c:=fun c hc=>by rw[e8,gY l7,if_neg (Ne.symm hc)]
  simp[Zd,e4,e7,e9,tlc,st8,ld8];have hg5:=R5.a.1;refine hk iv2 ov2 ins2 outs2 h8 ⟨R7.keepF R7.far hg5 (fun c hc _=>k8 c (by omega)) ⟨by rw[e8];exact ai hg5 a7.1,fun c hc=>by rw[k8 c (by omega),a7.2 c (by omega),R5.a.2 c hc]⟩ hg5,fun y hy => ?_,owner,pts,outs.map OutV.p,fee,?_⟩
  ·have : y.pt ∈ ins2.map (·.pt):=am.2 ⟨y,hy,rfl⟩;rw[e2]at this;obtain⟨z,hz,e⟩:=am.1 this;obtain⟨p,hp,rfl⟩:=am.1 hz;rw[<- e];exact C.b p hp
  ·refine⟨ho.1,ho.2,?_,hn4,C.nd,C.at',by omega,by rw[<- t8'];omega,by simpa using l1,by simpa using l2,hq,?_⟩
   ·cases hpp:pts with
    | nil=>exact absurd hpp hp0
    | cons a l=>simp
   ·rw[e1,Jlf]
 have hwd:IntKind.i64.wrap (sum-fee-part)=sum-fee-part:=Uq (by omega) (by omega);by_cases hpt:part < sum-fee
 ·simp[Zd,-Zd,t3,t4,t7,t8,t9,Q60 b part o1.sl,bl1,Jgi,one1,st3,hws,hpt];have hp0:pts ≠ []:=fun q=>o0 (C.z q);have ho:=C.o hp0;have cX3:Yw g3 X 1=some ov1:=by rw[Yi gX3];rfl
  obtain⟨_,g4,c4,n4,v2,rfl,o2,a4⟩:=Z6p b owner g3 (fun r h' => ∃ v,r=.ret v/\OB h' g3.next v (Xvs owner)/\Old g3 h') (fun v h' o a=>⟨v,rfl,o,a⟩);obtain⟨ov2,g5,j1,R5,one5,j4,j5,j6⟩:=R3.more b (by simp) a4 (v:=sum-fee-part) o2 (Xlg (by omega)) (by simp[Xvs]);have gX4:=a4.get gX3;have lX4:=Heap.get_lt gX4;have gX5:g5.get X=some (.cells true 1 (txC iv ov1 0)):=by rw[j5 X lX4 (by rw[b1];intro e;cases e;omega)];exact gX4
  have lX5:=Heap.get_lt gX5;obtain⟨g6,eg6⟩:∃ g6,g6=g5.set X (some (.cells true 1 (txC iv ov2 0))):=⟨_,rfl⟩;have st6:Ur g5 X 1 [ov2]=some g6:=by rw[eg6,Qeu gX5 (by simp[txC])];rfl
  have st6':Qbw (E b).toEnv 29 (pO X 1) ov2 g5=some g6:=by rw[Jgi b _ _ _ _ one5];exact st6
  have k6:∀ c,c≠X->g6.get c=g5.get c:=fun c hc=>by rw[eg6,gY lX5,if_neg (Ne.symm hc)]
  have gX6:g6.get X=some (.cells true 1 (txC iv ov2 0)):=by rw[eg6,gY lX5,if_pos rfl]
  refine Qem [⟨13,[.int .i64 owner],g3,v2,g4,true⟩] ?_ X3o Yea X3f (by simp[Ykr,Yoq,Yko,Yfr,Zd,t3,t4,t7,t8,t9,cX3,hws,hwd,Q60 b (sum-fee-part) o2.sl,Y38,j1,st6'];first | exact⟨rfl,rfl⟩ | rfl) ?_ ?_
  ·exact zk1 ⟨c4,n4,fun _ c hc=>a4.2 c hc⟩
  ·have cX4:Yw g4 X 1=some ov1:=by rw[Yi gX4];rfl
   simp[Qe4,Zd,t3,t4,t7,t8,t9,cX3,cX4,hws,hwd,Xxx R3.o,Qwt]
  simp[Zd,-Zd];have n34:=a4.1;have v2b:∀ c,J4 v2=some c->g3.next<=c:=fun c hc=>(o2.from hc).1;have ov2N:∀ c,J4 ov2=some c->N<=c:=fun c hc=>by
   rcases j4 c hc with q | q
   ·rw[b1]at q;cases q;omega
   ·omega
  have osN:∀ y ∈ [(⟨part,v1,Xvs to⟩:OutV)] ++ [⟨sum-fee-part,v2,Xvs owner⟩],∀ c,J4 y.sv=some c->N<=c:=fun y hy c hc=>by
   rcases al.1 hy with q | q
   ·rw[aw.1 q]at hc;have:=v1b c hc;omega
   ·rw[aw.1 q]at hc;have:=v2b c hc;omega
  have R6:OutsR h g6 ov2 ([⟨part,v1,Xvs to⟩] ++ [⟨sum-fee-part,v2,Xvs owner⟩]) :=
   ⟨R5.o.keep fun c hc _=>k6 c (by have:=ov2N c hc;omega),fun y hy=>(R5.s y hy).keep fun c hc _=>k6 c (by have:=osN y hy c hc;omega),R5.d,⟨by rw[eg6];exact R5.a.1,fun c hc=>by rw[k6 c (by have:=aH.1;omega),R5.a.2 c hc]⟩⟩
  have kk:∀ c,c < g3.next->c≠X->J4 ov1≠some c->g6.get c=g3.get c:=fun c h1 h2 h3=>by rw[k6 c h2,j5 c (au h1 n34) h3,a4.2 c h1]
  refine key g6 ov2 ([⟨part,v1,Xvs to⟩] ++ [⟨sum-fee-part,v2,Xvs owner⟩]) _ gX6 R6 ov2N osN (oi3.keep fun c hc hl=>kk c hl (by have:=(oi.from hc).1;omega) fun e => ?_) ?_ (by rw[eg6];show N<=g5.next;omega) (by simp[t4]) (by simp[t7]) (by simp[t9]) ?_ (by simp) (by simp) (fun q hq => ?_)
  ·rw[b1]at e;have:=bz e;have:=(oi.from hc).2;omega
  ·rw[kk _ (by omega) (by omega) (fun e=>by rw[b1]at e;have:=bz e;omega)];exact gR3
  ·have : Q3o (([(⟨part,v1,Xvs to⟩:OutV)] ++ [(⟨sum-fee-part,v2,Xvs owner⟩:OutV)]).map OutV.p)=part+(sum-fee-part):=by simp[Q3o,OutV.p]
   rw[this];omega
  ·simp only[aR,aE,cH,al,aw]at hq;rcases hq with rfl | rfl
   ·exact⟨by show 1<=part;omega,to,by omega,by omega,rfl⟩
   ·exact⟨by show 1<=sum-fee-part;omega,owner,by omega,by omega,rfl⟩
 ·simp[Zd,-Zd,t3,t4,t7,t8,t9,Q60 b part o1.sl,bl1,Jgi,one1,st3,hws,hpt];refine key g3 ov1 [⟨part,v1,Xvs to⟩] _ gX3 R3 (fun c hc=>by rw[b1]at hc;cases hc;omega) (fun y hy c hc=>by rw[aw.1 hy]at hc;have:=v1b c hc;omega) oi3 gR3 (by omega) (by simp[t4]) (by simp[t7]) (by simp[t9]) ?_ (by simp) (by simp) (fun q hq => ?_)
  ·have : Q3o ([(⟨part,v1,Xvs to⟩:OutV)].map OutV.p)=part:=by simp[Q3o,OutV.p]
   rw[this];omega
  ·simp only[aE,cH,aw]at hq;subst hq;exact⟨by show 1<=part;omega,to,by omega,by omega,rfl⟩
end
structure MRg (t:Tr Value) (lb h X:Nat) (v:Value) (owner sum:Int) (i:Nat):Prop where
 t0:t.get 0=some (pO lb 0)
 t3:t.get 3=some (pO h 0)
 t4:t.get 4=some (pO (h+1) 0)
 t6:t.get 6=some v
 t7:t.get 7=some (.int .i64 owner)
 t8:t.get 8=some (.int .i64 sum)
 t9:t.get 9=some (pO X 0)
 t10:t.get 10=some (.int .i64 (i:Int))
structure MIv (h hX:Heap) (m:Xk0) (X:Nat) (iv:Value) (pts:List Pt) (owner sum:Int) (g:Heap):Prop where
 c:Coins m owner sum pts
 gX:g.get X=some (.cells true 1 (txC iv (.slice none 0 0) 0))
 o:Own g hX.next 34 iv pts.length (Qee (pts.map Zq9))
 n:hX.next<=g.next
 f:∀ c,c < hX.next->c≠X->g.get c=hX.get c
def MI(h hX:Heap)(m:Xk0)(lb X:Nat)(v:Value)(k:Nat)(s:St):Prop:=∃ (t:Tr Value) (g:Heap) (iv:Value) (pts:List Pt) (owner sum:Int) (i:Nat),s=⟨⟨161,t⟩,[],g⟩/\MRg t lb h.next X v owner sum i/\i<=4/\k=4-i/\pts.length<=i/\MIv h hX m X iv pts owner sum g
def Jeu{m:Xk0}{B:Int}(G:Zg6 m B):∀ {l:List Pt},0<=Yov m l
 | []=>by simp[Yov]
 | p::l=>by
  have ih:=Jeu G (l:=l);have e:Yov m (p::l)=(Ylg m p).value+Yov m l:=by simp[Yov]
  have h1:0<=(Ylg m p).value:=by
   unfold Ylg;cases hm:m p with
   | none=>exact Int.le_refl _
   | some c=>have:=(G p c hm).2.1;show 0<=c.value;omega
  omega
def Ji7(m:Xk0)(l k:List Pt):Yov m (l++k)=Yov m l+Yov m k:=by simp[Yov]
def MIv.old{h hX:Heap}{m:Xk0}{X:Nat}{iv:Value}{pts:List Pt}{owner sum:Int}{g g':Heap}(I:MIv h hX m X iv pts owner sum g)(a:Old g g'):MIv h hX m X iv pts owner sum g' :=
 ⟨I.c,a.get I.gX,I.o.keep fun c _ hl=>a.2 c hl,ai I.n a.1,fun c h1 h2=>by rw[a.2 c (au h1 I.n),I.f c h1 h2]⟩
def MJ(g:Heap)(lb h X:Nat)(v:Value)(owner sum:Int)(i P O:Nat)(who:Int)(p:Pt)(pts:List Pt)(k:Nat)(s:St):Prop:=∃ (t:Tr Value) (j:Nat),s=⟨⟨161,t⟩,[],g⟩/\MRg t lb h X v owner sum i/\t.get 11=some (pO P 0)/\t.get 12=some (pO O 0)/\t.get 15=some (.int .i64 who)/\t.get 16=some (.bool true)/\t.get 17=some (.bool (decide (p ∈ pts.take j)))/\t.get 18=some (.int .i64 (j:Int))/\j<=pts.length/\k=pts.length-j
def Zy3(pts:List Pt)(p:Pt):Qee ((pts ++ [p]).map Zq9)=Qee (pts.map Zq9)++(p.cells ++ [.slice none 0 0]):=by
 simp[Qee,Zq9,InV.cells]
section
attribute [local simp] Jc Ve Yr Y5 Ye Qfs Qy0 Jg J2 Qc7 J0 Zz J1 Zf Vz V0 Uh Yb Qb9 Jv Z8 Jr Ym Vm Yx Uw Zy Ze Zi Zh Jo Qfq J3 Zg Qfw Qfi Jm Jf Qal V4 Yv Zd
set_option maxHeartbeats 8000000 in
def Jnb(b:Nat){h:Heap}{lb mb z ν clk:Nat}{ks:List Nat}{un:Value}{ls:List LC}{ud:List (List BK)}(S:LedS h lb mb z ν clk ks un ls ud)(hn:ls.length < 900000){B:Int}(G:Zg6 (Qum ls) B)(hB:0<=B)(h4:4*B<=1125899906842624){x:MvV}(mv:MvAt h x)
  (K:KP) (hno:∀ h',Old h h'->K (.ret (.tuple #[.agg ⟨X2g⟩,.bool false])) h')
  (hk:∀ iv2 ov2 ins2 outs2 h',MadeAt2 h h' (Qum ls) iv2 ov2 ins2 outs2->K (.ret (.tuple #[.agg ⟨txC iv2 ov2 0⟩,.bool true])) h') :
  CallOK Tryz.prog (E b).G 6 [pO lb 0,.agg ⟨x.cells⟩] h K:=by
 refine Qh3 (E b) (Vy _ _) (Uf b) (Jd b) mixed (Ui b) (Yr b) Y5w.1 Y5w.2.1 Y5w.2.2 rfl ?_;obtain⟨hA,eA⟩:∃ hA,hA=h.push (.cells true 1 x.cells):=⟨_,rfl⟩;have bx:=Qw8 eA;have aA:=Qon eA;have gA:hA.get h.next=some (.cells true 1 x.cells):=by rw[eA,Heap.get_push,if_pos rfl]
 have nA:=Q8i eA;obtain⟨hB',eB⟩:∃ hB',hB'=hA.push (.cells true 1 X2g):=⟨_,rfl⟩;have alB:Qbx (E b).toEnv 31 hA=some (pO (h.next+1) 0,hB'):=by rw[eB,<- nA];exact Qb6 b hA
 have aB:=Qon eB;have gB:hB'.get (h.next+1)=some (.cells true 1 X2g):=by rw[eB,Heap.get_push,if_pos nA]
 have nB:hB'.next=h.next+2:=by rw[eB];simp only[Qmo,nA]
 have aAB:=aA.trans aB;have SLB:=S.old aAB;simp[Qb6,Qqz,Qa2,Yo,bx,-Qb6,alB];refine Jf0 b SLB.la SLB.gl SLB.co (by omega) _ fun v h1 l pm pb hl op a1 => ?_;have aA1:=aB.trans a1;have aH1:=aA.trans aA1;have gM1:=aA1.get gA;have gR1:=a1.get gB;have lenA:∀ hx,Qkc (E b).toEnv 56 v hx=some (.int .i64 (l.length:Int)):=fun hx=>Qa0 (T56 b) op.sl;have lenC:∀ hx,Qkc (E b).toEnv 22 x.cv hx=some (.int .i64 (x.coins.length:Int)):=fun hx=>Qa0 (T22 b) mv.s;have c0:∀ {hx:Heap},hx.get h.next=some (.cells true 1 x.cells)->Yw hx h.next 0=some x.cv:=fun g=>by rw[Yi g];rfl
 obtain⟨nt,ent⟩:∃ nt,nt=X2g:=⟨_,rfl⟩;have nl:nt.length=3:=by rw[ent];rfl
 have bd:Qn1 (E b).toEnv 31 []=some (.agg ⟨nt⟩):=by rw[ent];exact Jru b
 have lR1:=Heap.get_lt gR1;obtain⟨gz,egz⟩:∃ gz,gz=h1.set (h.next+1) (some (.cells true 1 nt)):=⟨_,rfl⟩;have stz:Ur h1 (h.next+1) 0 nt=some gz:=by rw[egz,Wh gR1 (by rw[nl];simp[X2g,txC])];simp[nl,X2g,txC]
 have ldz:Wy gz (h.next+1) 0 3=some (.agg ⟨nt⟩):=agW (by rw[egz,gY lR1,if_pos rfl]) (by omega) (by omega);have oz:Old h gz:=by rw[egz];exact aH1.set _ (by omega) lR1
 have hno':=hno gz oz;rw[<- ent]at hno';by_cases hl0:l.length=0
 ·simp[Qb6,Qqz,Qa2,Yo,lenA,hl0,bd,nl,stz,ldz];exact hno'
 have hl0':¬ (l.length:Int)=0:=by omega
 by_cases hc0:x.coins.length=0
 ·simp[Qb6,Qqz,Qa2,Yo,lenA,hl0,hl0',c0 gM1,lenC,hc0,bd,nl,stz,ldz];exact hno'
 have hc0':¬ (x.coins.length:Int)=0:=by omega
 obtain⟨hX,eX⟩:∃ hX,hX=h1.push (.cells true 1 X2g):=⟨_,rfl⟩;have alX:Qbx (E b).toEnv 31 h1=some (pO h1.next 0,hX):=by rw[eX];exact Qb6 b h1
 have aX:=Qon eX;have gX:hX.get h1.next=some (.cells true 1 X2g):=by rw[eX,Heap.get_push,if_pos rfl]
 have nX:=Q8i eX;simp[Qb6,Qqz,Qa2,Yo,-Yo,lenA,hl0,hl0',c0 gM1,lenC,hc0,hc0',-Qb6,alX];refine Qdf (MI h hX (Qum ls) lb h1.next v) 4 ⟨_,hX,.slice none 0 0,[],0,0,0,rfl,⟨by simp,by simp,by simp,by simp,by simp,by simp,by simp,by simp⟩,by omega,rfl,by simp,⟨⟨fun _=>rfl,fun q=>absurd rfl q,by simp,by simp,by simp,by simp[Yov],by simp⟩,gX,Own.nil,ab _,fun _ _ _=>rfl⟩⟩ ?_;rintro k s' ⟨t,g,iv,pts,owner,sum,i,rfl,⟨t0,t3,t4,t6,t7,t8,t9,t10⟩,hi,rfl,hpi,I⟩ -;have aHX:=aH1.trans aX;have aHg:Old h g:=⟨by have:=I.n;have:=aHX.1;omega,fun c hc=>by rw[I.f c (by have:=aHX.1;omega) (by have:=aH1.1;omega),aHX.2 c hc]⟩;have Sg:=S.old aHg;have gMg:g.get h.next=some (.cells true 1 x.cells):=by rw[I.f _ (by have:=Heap.get_lt gM1;omega) (by have:=Heap.get_lt gM1;omega)];exact aX.get gM1
 have gRg:g.get (h.next+1)=some (.cells true 1 X2g):=by rw[I.f _ (by omega) (by omega)];exact aX.get gR1
 have slA:Sl g 33 v l.length (Qp0 l):=op.sl.keep fun c hc hl=>by rw[I.f c (by omega) (by omega)];exact aX.2 c hl
 by_cases hlt:i < x.coins.length/\i < 4
 ·have hlt':(i:Int) < (x.coins.length:Int):=by omega
  have hlt4:(i:Int) < 4:=by omega
  have hw:=wS (i:=i) (by omega);obtain⟨cn,hcn⟩:∃ cn,x.coins[i]? = some cn:=⟨_,List.getElem?_eq_getElem hlt.1⟩;have mvg:=mv.old aHg;obtain⟨bk,off,x0,x1,x2, -⟩:=Q7o (T22 b) Ynr mvg.s (k:=.i64) (i:=(i:Int)) (by omega) hlt';have x2:=x2 0 (by omega);rw[aT,dx,bX,bX,List.getElem?_map,hcn]at x2;simp only[ax]at x2;have pin:=X2e cn (n:=(l.length:Int)) (by omega);obtain⟨j,hj,hjl⟩:∃ j:Nat,Yhs cn (l.length:Int)=(j:Int)/\j < l.length:=⟨(Yhs cn (l.length:Int)).toNat,by omega,by omega⟩;obtain⟨p,hp⟩:∃ p,l[j]? = some p:=⟨_,List.getElem?_eq_getElem hjl⟩;have hpl:=List.mem_of_getElem? hp;obtain⟨bp,op',y1,y2⟩:=Ju1 (b:=b) (T56 b) Xi4 slA hp;obtain⟨c,hc⟩:∃ c,Qum ls p=some c:=by
   cases hm:Qum ls p with
   | none=>exact absurd hm ((pm.at' p).1 hpl)
   | some c=>exact⟨c,rfl⟩
  have hgc:Ylg (Qum ls) p=c:=by unfold Ylg;rw[hc];rfl
  obtain⟨⟨o',o1,o2,hsc⟩,cv1,cv2, -, -⟩:=G p c hc;simp[Qb6,Qqz,Qa2,Yo,-Yo,t0,t3,t4,t6,t7,t8,t9,t10,c0 gMg,lenC,hlt',hlt4,x1,x2,lenA];refine(Ykf b cn (n:=(l.length:Int)) (by omega) (by omega) g _ ?_).ok;rw[hj];obtain⟨hA2,hP,alP,stP,stP',gP,aP,nP⟩:=Quc b (Y1w b) (l:=p.cells) (by rw[Pt.len,Xi4]) (by kernel_rfl) g;have lP:∀ {hx:Heap},hx.get g.next=some (.cells true 1 p.cells)->Wy hx g.next 0 33=some (.agg ⟨p.cells⟩):=fun q=>agW q (by rw[Pt.len];omega) (by rw[Pt.len];omega);have plen:=p.len;have SgP:=Sg.old aP;simp[Qb6,Qqz,Qa2,Yo,-Yo,t0,t3,t4,t6,t7,t8,t9,t10,y1,y2,-Qqz,alP,stP,stP',plen,lP gP];refine(Jrr b SgP.gl SgP.co p _ fun sv h3 o3 a3 => ?_).ok;rw[hgc]at o3 ⊢;obtain⟨hA3,h4',alO,stO,stO',gO,aO,nO⟩:=Quc b (Zdt b) (l:=[.int .i64 c.value,sv]) (by rw[Qjv];rfl) (by kernel_rfl) h3;have cO:∀ {hx:Heap},hx.get h3.next=some (.cells true 1 [.int .i64 c.value,sv])->Yw hx h3.next 0=some (.int .i64 c.value)/\Yw hx h3.next 1=some sv:=fun g=>⟨by rw[Yi g];rfl,by rw[Yi g];rfl⟩;have cO4:=cO gO;simp[Qb6,Qqz,Qa2,Yo,-Yo,t0,t3,t4,t6,t7,t8,t9,t10,-Qa2,alO,stO,stO',cO4];have so:SB h4' sv (Xvs o'):=by
   have:=(o3.sl.old aO);rw[hsc]at this;exact this
  refine Jj7 b ⟨o1,o2⟩ so _ fun h5 a5 => ?_;have aP5:Old hP h5:=a3.trans (aO.trans a5);have ag5:=aP.trans aP5;have I5:=I.old ag5;have gP5:=aP5.get gP;have cO5:=cO (a5.get gO);simp[Qb6,Qqz,Qa2,Yo,-Yo,t0,t3,t4,t6,t7,t8,t9,t10];refine Qdf (MJ h5 lb h.next h1.next v owner sum i g.next h3.next o' p pts) pts.length ⟨_,0,rfl,⟨by simp[t0],by simp[t3],by simp[t4],by simp[t6],by simp[t7],by simp[t8],by simp[t9],by simp[t10]⟩,by simp,by simp,by simp,by simp,by simp,by simp,by omega,rfl⟩ ?_;rintro k2 s2 ⟨t,jj,rfl,⟨t0,t3,t4,t6,t7,t8,t9,t10⟩,t11,t12,t15,t16,t17,t18,hjj,rfl⟩ -;have cX5:Yw h5 h1.next 0=some iv:=by rw[Yi I5.gX];rfl
  have il:(pts.map Zq9).length=pts.length:=by simp
  have oI:Own h5 hX.next 34 iv (pts.map Zq9).length (Qee (pts.map Zq9)):=by rw[il];exact I5.o
  have lenI:∀ hx,Qkc (E b).toEnv 28 iv hx=some (.int .i64 (pts.length:Int)):=fun hx=>Qa0 (T28 b) I5.o.sl;by_cases hjlt:jj < pts.length
  ·have hjlt':(jj:Int) < (pts.length:Int):=by omega
   have hwj:=wS (i:=jj) (by omega);obtain⟨q,hq⟩:∃ q,pts[jj]? = some q:=⟨_,List.getElem?_eq_getElem hjlt⟩;have hq':(pts.map Zq9)[jj]? = some (Zq9 q):=by rw[List.getElem?_map,hq];rfl
   obtain⟨B1,O1, -,z1, -, -⟩:=Xhr (b:=b) (T28 b) Qeo oI.sl hq';have z2:=Jg0 (b:=b) oI.sl hq' z1;have z2:Wy h5 B1 O1 33=some (.agg ⟨q.cells⟩):=z2;have pq:=peq b q p;have tk:p ∈ pts.take (jj+1)↔p ∈ pts.take jj∨q=p:=by
    rw[aQ,hq,al];simp[eq_comm]
   simp[Qb6,Qqz,Qa2,Yo,-Yo,t0,t3,t4,t6,t7,t8,t9,t10,t11,t12,t15,t16,t17,t18,cX5,lenI,hjlt,hjlt'];by_cases th:p ∈ pts.take jj
   ·rw[decide_eq_true th]at t17;have e17:decide (p ∈ pts.take (jj+1))=true:=decide_eq_true (tk.2 (.inl th));refine Qem [] (by simp) Q9c Xf2 Xa1 (by simp[Xix,Xig,Qqz,Qa2,Yo,t0,t9,t11,t17,t18,cX5,z1,z2,lP gP5];first | exact⟨rfl,rfl⟩ | rfl) ?_ ?_
    ·simp[Qpa,Qqz,Qa2,Yo,t0,t9,t11,t17,t18]
    simp[Qb6,Qqz,Qa2,Yo,-Yo,t0,t3,t4,t6,t7,t8,t9,t10,t11,t12,t15,t16,t17,t18,hwj];exact⟨pts.length-(jj+1),by omega,_,jj+1,rfl,⟨by simp[t0],by simp[t3],by simp[t4],by simp[t6],by simp[t7],by simp[t8],by simp[t9],by simp[t10]⟩,by simp[t11],by simp[t12],by simp[t15],by simp[t16],by rw[e17];simp,by simp,by omega,rfl⟩
   ·rw[decide_eq_false th]at t17;have e17:decide (p ∈ pts.take (jj+1))=decide (q=p):=by
     by_cases e:q=p
     ·rw[decide_eq_true e,decide_eq_true (tk.2 (.inr e))]
     ·rw[decide_eq_false e,decide_eq_false fun w=>(tk.1 w).elim th e]
    refine Qem [] (by simp) Q9c Xf2 Xa1 (by simp[Xix,Xig,Qqz,Qa2,Yo,t0,t9,t11,t17,t18,cX5,z1,z2,lP gP5,pq];first | exact⟨rfl,rfl⟩ | rfl) ?_ ?_
    ·simp[Qpa,Qqz,Qa2,Yo,t0,t9,t11,t17,t18]
    simp[Qb6,Qqz,Qa2,Yo,-Yo,t0,t3,t4,t6,t7,t8,t9,t10,t11,t12,t15,t16,t17,t18,hwj];exact⟨pts.length-(jj+1),by omega,_,jj+1,rfl,⟨by simp[t0],by simp[t3],by simp[t4],by simp[t6],by simp[t7],by simp[t8],by simp[t9],by simp[t10]⟩,by simp[t11],by simp[t12],by simp[t15],by simp[t16],by rw[e17];simp,by simp,by omega,rfl⟩
  ·have hjlt':¬ (jj:Int) < (pts.length:Int):=by omega
   have : jj=pts.length:=by omega
   subst this;rw[bc]at t17;have again:∀ tt:Tr Value,MRg tt lb h.next h1.next v owner sum (i+1)->∃ k',k' < 4-i/\MI h hX (Qum ls) lb h1.next v k' ⟨⟨161,tt⟩,[],h5⟩:=fun tt R=>⟨4-(i+1),by omega,_,h5,iv,pts,owner,sum,i+1,rfl,R,by omega,rfl,by omega,I5⟩;by_cases hin:p ∈ pts
   ·rw[decide_eq_true hin]at t17;simp[Qb6,Qqz,Qa2,Yo,-Yo,t0,t3,t4,t6,t7,t8,t9,t10,t11,t12,t15,t16,t17,t18,cX5,lenI,hw];exact again _ ⟨by simp[t0],by simp[t3],by simp[t4],by simp[t6],by simp[t7],by simp[t8],by simp[t9],by simp⟩
   rw[decide_eq_false hin]at t17;have take:(pts ≠ []->o'=owner)->∀ (tt:Tr Value),MRg tt lb h.next h1.next v owner sum i->tt.get 11=some (pO g.next 0)->tt.get 12=some (pO h3.next 0)->tt.get 15=some (.int .i64 o')->∃ (h7:Heap) (iv':Value),Qjr (E b).toEnv 28 28 iv (.slice (some ⟨h5.next,0,none⟩) 1 1) (h5.push (.cells true 1 (p.cells ++ [.slice none 0 0])))=some (iv',h7)/\Xxl iv'=true/\∃ h8,Ur h7 h1.next 0 [iv']=some h8/\MIv h hX (Qum ls) h1.next iv' (pts ++ [p]) o' (sum+c.value) h8:=by
    intro hoo tt R _ _ _;obtain⟨iv',h7,j1,j2,j3,j4⟩:=Qtj (T28 b) (z:=34) Qeo (by omega) I5.o I5.n (ys:=p.cells ++ [.slice none 0 0]) (by simp[Pt.len]) (by rw[Y1l];omega) (by omega);have ivX:∀ c,J4 iv=some c->hX.next<=c:=fun c hc=>(I5.o.from hc).1;have gX7:h7.get h1.next=some (.cells true 1 (txC iv (.slice none 0 0) 0)):=by rw[j3.2 _ (Heap.get_lt I5.gX) fun e=>by have:=ivX _ e;omega];exact I5.gX
    have l7:=Heap.get_lt gX7;obtain⟨h8,e8⟩:∃ h8,h8=h7.set h1.next (some (.cells true 1 (txC iv' (.slice none 0 0) 0))):=⟨_,rfl⟩;have k8:∀ c,c≠h1.next->h8.get c=h7.get c:=fun c hc=>by rw[e8,gY l7,if_neg (Ne.symm hc)]
    refine⟨h7,iv',j1,j2.one,h8,by rw[e8,Qeu gX7 (by simp[txC])];rfl,⟨⟨fun q=>by simp at q,fun _=>⟨o1,o2⟩,by rw[ae,bK];omega,Yls.2 ⟨I5.c.nd,hin⟩,fun q hq => ?_,?_,fun q hq => ?_⟩,by rw[e8,gY l7,if_pos rfl],?_,?_,fun c h1' h2' => ?_⟩⟩
    ·rcases al.1 hq with w | w
     ·obtain⟨cq,q1,q2⟩:=I5.c.at' q w;exact⟨cq,q1,by rw[q2,hoo (List.ne_nil_of_mem w)]⟩
     ·rw[aw.1 w];exact⟨c,hc,hsc⟩
    ·rw[Ji7,<- I5.c.s];simp[Yov,hgc]
    ·rcases al.1 hq with w | w
     ·exact I5.c.b q w
     ·rw[aw.1 w];exact pb p hpl
    ·rw[Zy3,ae,bK];exact j2.keep fun c hc hl=>k8 c (by have:=(j2.from hc).1;omega)
    ·rw[e8];have:=I5.n;have:=j3.1;show hX.next<=h7.next;omega
    ·rw[k8 c h2',j3.2 c (au h1' I5.n) fun e=>by have:=ivX c e;omega,I5.f c h1' h2']
   have hsum0:0<=sum:=by rw[I5.c.s];exact Jeu G
   have hsum4:sum<=4*B:=by
    have q1:=Zok G hB (l:=pts);have : (pts.length:Int)*B<=4*B:=cS (by omega) hB;have:=I5.c.s;omega
   have hws:IntKind.i64.wrap (sum+c.value)=sum+c.value:=Uq (by omega) (by omega);have bl:W7 (E b).toEnv 28 1 [(0,.agg ⟨p.cells ++ [.slice none 0 0]⟩)] h5=some (.slice (some ⟨h5.next,0,none⟩) 1 1,h5.push (.cells true 1 (p.cells ++ [.slice none 0 0]))):=Xlx (T28 b) (z:=34) (y:=.agg ⟨p.cells ++ [.slice none 0 0]⟩) (ys:=p.cells ++ [.slice none 0 0]) Qeo (by omega) (by omega) rfl rfl (by simp[Pt.len]);have R0:MRg t lb h.next h1.next v owner sum i:=⟨t0,t3,t4,t6,t7,t8,t9,t10⟩;by_cases hpos:0 < owner
   ·by_cases hwo:o'=owner
    ·obtain⟨h7,iv',j1,one',h8,st8,I8⟩:=take (fun _=>hwo) t R0 t11 t12 t15;simp[Qb6,Qqz,Qa2,Yo,-Yo,t0,t3,t4,t6,t7,t8,t9,t10,t11,t12,t15,t16,t17,t18,cX5,lenI,hw,hpos,hwo,cO5,hws,lP gP5,Z5o,bl,j1,Jl9,one',st8];rw[hwo]at I8;exact⟨4-(i+1),by omega,_,h8,iv',pts ++ [p],owner,sum+c.value,i+1,rfl,⟨by simp[t0],by simp[t3],by simp[t4],by simp[t6],by simp,by simp,by simp[t9],by simp⟩,by omega,rfl,by simp;omega,I8⟩
    ·simp[Qb6,Qqz,Qa2,Yo,-Yo,t0,t3,t4,t6,t7,t8,t9,t10,t11,t12,t15,t16,t17,t18,cX5,lenI,hw,hpos,hwo];exact again _ ⟨by simp[t0],by simp[t3],by simp[t4],by simp[t6],by simp[t7],by simp[t8],by simp[t9],by simp⟩
   ·obtain⟨h7,iv',j1,one',h8,st8,I8⟩:=take (fun q=>absurd (I5.c.o q).1 (by omega)) t R0 t11 t12 t15;simp[Qb6,Qqz,Qa2,Yo,-Yo,t0,t3,t4,t6,t7,t8,t9,t10,t11,t12,t15,t16,t17,t18,cX5,lenI,hw,hpos,cO5,hws,lP gP5,Z5o,bl,j1,Jl9,one',st8];exact⟨4-(i+1),by omega,_,h8,iv',pts ++ [p],o',sum+c.value,i+1,rfl,⟨by simp[t0],by simp[t3],by simp[t4],by simp[t6],by simp,by simp,by simp[t9],by simp⟩,by omega,rfl,by simp;omega,I8⟩
 ·have fin:∀ tt:Tr Value,MRg tt lb h.next h1.next v owner sum i->Qac (E b) (Xrd Tryz.prog (E b).G) (D0 b) none Q6q ⟨⟨161,tt⟩,[],g⟩ (Zh4 (E b) (DD b) Qxv K):=fun tt R =>
   Jc8 b S.la G hB h4 I.c gMg gRg I.gX (by omega) (by omega) I.n I.o aHg R.t3 R.t4 R.t7 R.t8 R.t9 K hno hk
  by_cases h1':i < x.coins.length
  ·have hlt':(i:Int) < (x.coins.length:Int):=by omega
   have h2:¬ (i:Int) < 4:=by omega
   simp[Qb6,Qqz,Qa2,Yo,-Yo,t0,t3,t4,t6,t7,t8,t9,t10,c0 gMg,lenC,hlt',h2];exact fin _ ⟨by simp[t0],by simp[t3],by simp[t4],by simp[t6],by simp[t7],by simp[t8],by simp[t9],by simp[t10]⟩
  ·have hlt':¬ (i:Int) < (x.coins.length:Int):=by omega
   simp[Qb6,Qqz,Qa2,Yo,-Yo,t0,t3,t4,t6,t7,t8,t9,t10,c0 gMg,lenC,hlt'];exact fin _ ⟨by simp[t0],by simp[t3],by simp[t4],by simp[t6],by simp[t7],by simp[t8],by simp[t9],by simp[t10]⟩
end
def Y6h(l:List MvV):List Value:=l.flatMap MvV.cells
def MvV.len(x:MvV):x.cells.length=4:=rfl
structure MvsAt (h:Heap) (v:Value) (l:List MvV):Prop where
 s:Sl h 4 v l.length (Y6h l)
 n:l.length < 4611686018427387904
 a:∀ x ∈ l,MvAt h x
def Jti{b:Nat}{te ts:TypeId}{re rs:TyRec}(T:SlTy (E b).toEnv te ts re rs)(hz:re.size=4){h:Heap}{v:Value}{l:List MvV}(s:Sl h 4 v l.length (Y6h l)){i:Nat}{x:MvV}(hp:l[i]? = some x) :
  ∃ bk off,V5 (E b).toEnv ts v (.int .i64 (i:Int))=some (pO bk off)/\Wy h bk off 4=some (.agg ⟨x.cells⟩):=by
 have hl:=(List.getElem?_eq_some_iff.1 hp).1;obtain⟨bk,off,q1,q2,q3,q4⟩:=Q7o T hz s (k:=.i64) (i:=(i:Int)) (by omega) (by omega);refine⟨bk,off,q2,?_⟩;rw[q4,aT,Y6h,Yac MvV.len hp]
def Jrl(b:Nat)(c1:TxV)(h:Heap):W7 (E b).toEnv 37 1 [(0,.agg ⟨txC c1.iv c1.ov c1.lock⟩)] h=some (.slice (some ⟨h.next,0,none⟩) 1 1,h.push (.cells true 1 c1.cells)):=kR
def Y1c(z:TxV):List Value:=z.iv::z.ov::(z.ins.flatMap Z3h++z.outs.map (·.sv))
def TxAt.keepV{h h':Heap}{z:TxV}(a:TxAt h z)(k:∀ v ∈ Y1c z,∀ c,J4 v=some c->c < h.next->h'.get c=h.get c):TxAt h' z:=by
 have ki:∀ x ∈ z.ins,∀ v ∈ Z3h x,v ∈ Y1c z:=fun x hx v hv=>by
  simp only[Y1c,ap,al];exact .inr (.inr (.inl (cN.2 ⟨x,hx,hv⟩)))
 have ko:∀ x ∈ z.outs,x.sv ∈ Y1c z:=fun x hx=>by
  simp only[Y1c,ap,al];exact .inr (.inr (.inr (am.2 ⟨x,hx,rfl⟩)))
 exact⟨⟨a.i.s.keep fun c hc hl=>k z.iv (by simp[Y1c]) c hc hl,a.i.n,fun x hx=>(a.i.a x hx).keepV fun v hv c hc hl=>k v (ki x hx v hv) c hc hl⟩,
  ⟨a.o.s.keep fun c hc hl=>k z.ov (by simp[Y1c]) c hc hl,a.o.n,fun x hx=>⟨(a.o.a x hx).s.keep fun c hc hl=>k x.sv (ko x hx) c hc hl,(a.o.a x hx).b,(a.o.a x hx).l⟩⟩,a.p⟩
def TxAt.lt{h:Heap}{z:TxV}(a:TxAt h z){v:Value}(hv:v ∈ Y1c z){c:Nat}(hc:J4 v=some c):c < h.next:=by
 simp only[Y1c,ap,al]at hv;rcases hv with rfl | rfl | hv | hv
 ·exact a.i.s.blk hc
 ·exact a.o.s.blk hc
 ·obtain⟨x,hx,hv⟩:=cN.1 hv;exact(a.i.a x hx).lt hv hc
 ·obtain⟨x,hx,rfl⟩:=am.1 hv;exact(a.o.a x hx).s.blk hc
def TxR.txv{h0 g:Heap}{iv ov:Value}{ins:List InV}{outs:List OutV}{lock:Int}(R:TxR h0 g iv ov ins outs)(hp:∀ x ∈ ins,PtB x.pt):TxAt g ⟨iv,ov,ins,outs,lock⟩/\∀ v ∈ Y1c ⟨iv,ov,ins,outs,lock⟩,∀ c,J4 v=some c->h0.next<=c:=by
 have F:=R.far;refine⟨⟨R.i.ins R.ni,R.o.outs R.no,hp⟩,fun v hv c hc => ?_⟩;simp only[Y1c,ap,al]at hv;rcases hv with rfl | rfl | hv | hv
 ·exact F.a c hc
 ·exact F.b c hc
 ·obtain⟨x,hx,hv⟩:=cN.1 hv;exact F.c x hx v hv c hc
 ·obtain⟨x,hx,rfl⟩:=am.1 hv;exact F.d x hx c hc
structure TxsN (n0:Nat) (g:Heap) (tv:Value) (l:List TxV):Prop where
 o:Own g n0 3 tv l.length (Xjw l)
 s:∀ z ∈ l,TxAt g z
 f:∀ z ∈ l,∀ v ∈ Y1c z,∀ c,J4 v=some c->n0<=c
 d:∀ z ∈ l,∀ v ∈ Y1c z,∀ c,J4 v=some c->J4 tv≠some c
def TxsN.nil(n0:Nat)(g:Heap):TxsN n0 g (.slice none 0 0) []:=⟨Own.nil,by simp,by simp,by simp⟩
def TxsN.old{n0:Nat}{g g':Heap}{tv:Value}{l:List TxV}(R:TxsN n0 g tv l)(a:Old g g'):TxsN n0 g' tv l:=⟨R.o.keep fun c _ hc=>a.2 c hc,fun z hz=>(R.s z hz).old a,R.f,R.d⟩
def TxsN.txs{n0:Nat}{g:Heap}{tv:Value}{l:List TxV}(R:TxsN n0 g tv l)(hn:l.length < 1000000):TxsAt g tv l:=⟨R.o.sl,hn,R.s⟩
def Z05(l m:List TxV):Xjw (l++m)=Xjw l++Xjw m:=by simp[Xjw]
def TxsN.more(b:Nat){n0:Nat}{g:Heap}{tv:Value}{l:List TxV}(R:TxsN n0 g tv l)(hi:l.length < 1000000)(hn:n0<=g.next){z:TxV}(hz:TxAt g z)(hz2:∀ v ∈ Y1c z,∀ c,J4 v=some c->n0<=c/\J4 tv≠some c) :
  ∃ tv' h4,Qjr (E b).toEnv 37 37 tv (.slice (some ⟨g.next,0,none⟩) 1 1) (g.push (.cells true 1 z.cells))=some (tv',h4)/\TxsN n0 h4 tv' (l ++ [z])/\Xxl tv'=true/\(∀ c,J4 tv'=some c->J4 tv=some c∨g.next<=c)/\(∀ c,c < g.next->J4 tv≠some c->h4.get c=g.get c)/\g.next<=h4.next:=by
 obtain⟨tv',h4,j1,j2,j3,j4⟩:=Qtj (T37 b) (z:=3) Qvs (by omega) R.o hn (ys:=z.cells) z.len (by rw[Jfu];omega) (by omega);refine⟨tv',h4,j1,⟨?_,fun y hy => ?_,fun y hy v hv c hc => ?_,fun y hy v hv c hc e => ?_⟩,j2.one,j4,j3.2,j3.1⟩
 ·rw[Z05,ae,bK];have : Xjw [z]=z.cells:=by simp[Xjw]
  rw[this];exact j2
 ·rcases al.1 hy with q | q
  ·exact(R.s y q).keepV fun v hv c hc hl=>j3.2 c hl (R.d y q v hv c hc)
  ·rw[aw.1 q];exact hz.keepV fun v hv c hc hl=>j3.2 c hl (hz2 v hv c hc).2
 ·rcases al.1 hy with q | q
  ·exact R.f y q v hv c hc
  ·rw[aw.1 q]at hv;exact(hz2 v hv c hc).1
 ·rcases al.1 hy with q | q
  ·have:=(R.s y q).lt hv hc;exact(j4 c e).elim (R.d y q v hv c hc) fun r=>by omega
  ·rw[aw.1 q]at hv;have:=hz.lt hv hc;exact(j4 c e).elim (hz2 v hv c hc).2 fun r=>by omega
end Go.Proofs.YtapodfgjkmddlaaGreatDoor
end
