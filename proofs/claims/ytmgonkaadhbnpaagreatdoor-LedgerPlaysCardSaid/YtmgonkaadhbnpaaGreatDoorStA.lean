import Derived.Test.YtmgonkaadhbnpaaGreatDoorBlA
import Derived.Test.YtmgonkaadhbnpaaGreatDoorFA
set_option linter.all false
set_option maxHeartbeats 8000000
open List renaming length→L
open Option renaming some→U,none→O
open Bool renaming true→Y,false→J
open Go renaming Value→V
open Go.Value renaming int→I,slice→M
open Go.IntKind renaming i64→X
open Go.Ab.Blk renaming cells→S
noncomputable section
namespace Go.Ab
variable{P:Program}{E:f_ P}{C:iP}{rd:Option Nat}{D0:h_}
def p_(F:St->Prop)(K:Exit->St->Prop)(s:St):x6 F K .normal s=F s:=Eq.trans rfl rfl
def p9(F:St->Prop)(K:Exit->St->Prop)(j:List PanicEntry)(s:St):x6 F K (.panic j) s=K (.panic j) s:=Eq.trans rfl rfl
def p5(d:Option Tmp)(s:St)(K:Exit->St->Prop)(v:V)(h:N):Fk d s K (.ret v) h=K .normal (s.put d v h):=Eq.trans rfl rfl
def pZ(F:St->Prop)(K:Exit->St->Prop)(s:St):sO F K .normal s=F s:=Eq.trans rfl rfl
def pX(F:St->Prop)(K:Exit->St->Prop)(s:St):sO F K .ret s=K .ret s:=Eq.trans rfl rfl
def pW(F:St->Prop)(K:Exit->St->Prop)(id:Nat)(s:St):sO F K (.exit id) s=K (.exit id) s:=Eq.trans rfl rfl
def pY(F:St->Prop)(K:Exit->St->Prop)(j:List PanicEntry)(s:St):sO F K (.panic j) s=K (.panic j) s:=Eq.trans rfl rfl
def qn(id:Nat)(K:Exit->St->Prop)(s:St):sT id K .normal s=K .normal s:=Eq.trans rfl rfl
def qk(id:Nat)(K:Exit->St->Prop)(s:St):sT id K .ret s=K .ret s:=Eq.trans rfl rfl
def qj(id j:Nat)(K:Exit->St->Prop)(s:St):sT id K (.exit j) s=if j=id then K .normal s else K (.exit j) s:=Eq.trans rfl rfl
def qq(y:Code)(K:Exit->St->Prop)(t:Tm)(ds:List Deferred)(h:N):EK E C D0 rd y K ⟨t,ds,h⟩=iO E C D0 rd y ⟨t,ds,h⟩ K:=Eq.trans rfl rfl
def qd(D:r7)(fn:Func)(K:jc->N->Prop)(s:St):pj E D fn K .normal s=tK E D fn K .returning s:=Eq.trans rfl rfl
def qc(D:r7)(fn:Func)(K:jc->N->Prop)(s:St):pj E D fn K .ret s=tK E D fn K .returning s:=Eq.trans rfl rfl
def p6(ops:List Oper)(K:Exit->St->Prop)(t:Tm)(ds:List Deferred)(h:N):oE E C rd ops K [] ⟨t,ds,h⟩=K .normal ⟨t,ds,h⟩:=Eq.trans rfl rfl
def p7(ops:List Oper)(K:Exit->St->Prop)(o:Oper)(r:List Oper)(t:Tm)(ds:List Deferred)(h:N):oE E C rd ops K (o::r) ⟨t,ds,h⟩ =
 (match Qg ops t o with
  | some Y=>X0 E C rd o ⟨t,ds,h⟩ (x6 (oE E C rd ops K r) K)
  | some J=>if lg ⟨t,ds,h⟩ o.dst then oE E C rd ops K r (St.put ⟨t,ds,h⟩ o.dst Qq h)else False
  | none=>False):=Eq.trans rfl rfl
def qf(s:St)(K:Exit->St->Prop):iO E C D0 rd .skip s K=K .normal s:=Eq.trans rfl rfl
def qg(s:St)(K:Exit->St->Prop):iO E C D0 rd .ret s K=K .ret s:=Eq.trans rfl rfl
def qi(id:Nat)(s:St)(K:Exit->St->Prop):iO E C D0 rd (.exit id) s K=K (.exit id) s:=Eq.trans rfl rfl
end Go.Ab
end
noncomputable section
namespace Go.Proofs.YtmgonkaadhbnpaaGreatDoor
open Go Go.Ab
set_option maxRecDepth 100000
def U2s(x:Int):B3 .neg (I X x)=U (I X (IntKind.i64.wrap (0-x))):=kR
def Sy(b:Nat):jP (E b).tojo 257 [(0,I X 16),(1,I X 12)]=U (.agg ⟨[I X 16,I X 12]⟩)/\jP (E b).tojo 257 [(0,I X 8),(1,I X 7)]=U (.agg ⟨[I X 8,I X 7]⟩) /\
  jP (E b).tojo 258 [(0,.agg ⟨[I X 16,I X 12]⟩),(1,.agg ⟨[I X 8,I X 7]⟩)]=U (.agg ⟨[I X 16,I X 12,I X 8,I X 7]⟩):=⟨by kernel_rfl,by kernel_rfl,by kernel_rfl⟩
def Wah(x:Int):ja (binOp .shr 124 (I .u32 x) (I .u64 7))=U (I .u32 (x.fdiv (2 ^ 7))):=kR
def Wak(x:Int):ja (binOp .shr 124 (I .u32 x) (I .u64 8))=U (I .u32 (x.fdiv (2 ^ 8))):=kR
def U2j(x:Int):ja (binOp .shr 124 (I .u32 x) (I .u64 12))=U (I .u32 (x.fdiv (2 ^ 12))):=kR
def U1w(x:Int):ja (binOp .shr 124 (I .u32 x) (I .u64 16))=U (I .u32 (x.fdiv (2 ^ 16))):=kR
def U2h(x:Int):ja (binOp .shl 124 (I .u32 x) (I .u64 25))=U (I .u32 (IntKind.u32.wrap (x*2 ^ 25))):=kR
def NP(x:Int):ja (binOp .shl 124 (I .u32 x) (I .u64 24))=U (I .u32 (IntKind.u32.wrap (x*2 ^ 24))):=kR
def U26(x:Int):ja (binOp .shl 124 (I .u32 x) (I .u64 20))=U (I .u32 (IntKind.u32.wrap (x*2 ^ 20))):=kR
def NX(x:Int):ja (binOp .shl 124 (I .u32 x) (I .u64 16))=U (I .u32 (IntKind.u32.wrap (x*2 ^ 16))):=kR
def vS(x y:Int):ja (binOp .xor 124 (I .u32 x) (I .u32 y))=U (I .u32 (sW x y)):=kR
def BY(x y:Int):ja (binOp .or 124 (I .u32 x) (I .u32 y))=U (I .u32 (uP x y)):=kR
def Wbg:ja (binOp .and 127 (I .u64 18446744073709551600) (I .u64 31))=U (I .u64 16)/\ja (binOp .and 127 (I .u64 18446744073709551604) (I .u64 31))=U (I .u64 20)/\ja (binOp .and 127 (I .u64 18446744073709551608) (I .u64 31))=U (I .u64 24)/\ja (binOp .and 127 (I .u64 18446744073709551609) (I .u64 31))=U (I .u64 25):=⟨by kernel_rfl,by kernel_rfl,by kernel_rfl,by kernel_rfl⟩
def U0b:IntKind.u64.wrap (-16)=18446744073709551600/\IntKind.u64.wrap (-12)=18446744073709551604/\IntKind.u64.wrap (-8)=18446744073709551608/\IntKind.u64.wrap (-7)=18446744073709551609/\IntKind.u64.wrap 16=16/\IntKind.u64.wrap 12=12/\IntKind.u64.wrap 8=8/\IntKind.u64.wrap 7=7/\IntKind.u64.wrap 25=25/\IntKind.u64.wrap 24=24/\IntKind.u64.wrap 20=20:=⟨rfl,rfl,rfl,rfl,rfl,rfl,rfl,rfl,rfl,rfl,rfl⟩
def CO(n:Nat):Prop:=n=16∨n=12∨n=8∨n=7
def U8e(x m s:Nat)(hs:s<=32)(j:m=32-s):uP (IntKind.u32.wrap (Int.ofNat x*2 ^ s)) ((Int.ofNat x).fdiv (2 ^ m))=Int.ofNat (Bl.rot x m):=by
 subst j;rw[<- Ump x s hs];rfl
attribute [local simp] Qw p6 p7 X0 p_ p9 p5 qd qc Q6 Qt Yg Y6 jm Qg iD Ab.g0 gv gs Q8 Qd iH kH lr Qh Tr.H St.put Tm.put flat iS Y5 Qm Qp Qn Qo Qk Ql Qj Qq Qi Q7 Q9 pZ pX pW pY qn qk qj qf qg qi qq Qz.putAll Qr Q0 Qa Wa ku Yk Jn Yo ju Nat.testBit Y0 loadAt wN Ab.runT Ym Yb xL Yh
section
attribute [local simp] Qp0 Qxr Vp Jqu Jqr EH Wbg U0b BY
def Uuk(b:Nat)(x n:Nat)(T:CO n)(h:N)(K:KP)(j:K (.ret (iG (Bl.rot x n))) h):FK b 179 [iG x,I X (-(n:Int))] h K:=by
 refine ip b (Vp b) X37 rfl ?_;have e:=U8e x;simp only[iG]at j ⊢;rcases T with rfl | rfl | rfl | rfl
 ·rw[<- e 16 16 kA rfl]at j;simp[U1w,NX];exact j
 ·rw[<- e 12 20 kA rfl]at j;simp[U2j,U26];exact j
 ·rw[<- e 8 24 kA rfl]at j;simp[Wak,NP];exact j
 ·rw[<- e 7 25 kA rfl]at j;simp[Wah,U2h];exact j
end
def U8a(a b x:Nat):Bl.w32 (Bl.w32 (a+b)+x)=Bl.w32 (a+Bl.w32 (b+x)):=by
 show((a+b) % 4294967296+x) % 4294967296=(a+(b+x) % 4294967296) % 4294967296;omega
def Cb(ws:List Nat)(a b c d x s t:Nat):L (Bl.half ws a b c d x s t)=L ws:=by simp[Bl.half]
def U9j(a b:Nat):IntKind.u32.wrap ((a:Int)+(b:Int))=((Bl.w32 (a+b):Nat):Int):=Np a b
def E1(a b:Nat):sW (a:Int) (b:Int)=((Bl.xr a b:Nat):Int):=NJ a b
structure ng (h h1:N) (bk z':Nat) (rest:List V) (ws:List Nat):Prop where
 at':h1.A bk=U (S Y z' (ws.map iG++rest))
 Q:h1.Q=h.Q
 same:∀ k,k≠bk->h1.A k=h.A k
 len:L ws=16
def ng.cell{h h1:N}{bk z':Nat}{j:List V}{ws:List Nat}(W:ng h h1 bk z' j ws){i:Nat}(hi:i < 16):Zq h1 bk i=U (I .u32 ((Bl.wd ws i:Nat):Int)):=by
 have T:=W.len;rw[Z2 W.at',aN (by grind),b7,ac iA];simp[Bl.wd,iG,ac (show i < L ws by omega)]
def ng.other{h h1:N}{bk z':Nat}{j:List V}{ws:List Nat}(W:ng h h1 bk z' j ws){p o:Nat}(T:p≠bk):Zq h1 p o=Zq h p o:=by
 unfold Zq;rw[W.same p T]
def ng.put{h h1:N}{bk z':Nat}{j:List V}{ws:List Nat}(W:ng h h1 bk z' j ws){i:Nat}(hi:i < 16)(v:Nat):∃ h2,iN h1 bk i [I .u32 ((v:Nat):Int)]=U h2/\ng h h2 bk z' j (ws.set i v):=by
 have hl:=W.len;have T:=N.D W.at';refine⟨_,nS W.at' (by grind),⟨?_,W.Q,fun k hk => ?_,by grind⟩⟩
 ·rw[gY T,if_pos rfl,ff _ _ (by grind),gy];rfl
 ·rw[gY T,if_neg (Ne.symm hk),W.same k hk]
def kW(ω:Nat)(h h':N):Prop:=h.Q<=h'.Q/\∀ c,c < h.Q->c≠ω->h'.A c=h.A c
def CP(ws:List Nat)(p0 j T p3 x y:Nat):Nat->List Nat
 | 0=>ws
 | 1=>Bl.half ws p0 j T p3 x 16 12
 | _=>Bl.half (Bl.half ws p0 j T p3 x 16 12) p0 j T p3 y 8 7
def CN:List V:=[I X 16,I X 12,I X 8,I X 7]
def BkS(h:N)(bk z' C:Nat)(ws:List Nat)(p0 j T p3 x y:Nat)(k:Nat)(s:St):Prop:=∃ (t:Tr V) (h1:N) (i:Nat),s=⟨⟨94,t⟩,[],h1⟩/\t.A 0=U (pO bk 0)/\t.A 1=U (I X (p0:Int))/\t.A 2=U (I X (j:Int))/\t.A 3=U (I X (T:Int))/\t.A 4=U (I X (p3:Int)) /\
 t.A 12=U (pO C 0)/\t.A 18=U (.agg ⟨[iG x,iG y]⟩)/\t.A 19=U (I X (i:Int))/\i<=2/\k=2-i/\h1.A bk=U (S Y z' ((CP ws p0 j T p3 x y i).map iG))/\h1.A C=U (S Y 1 CN)/\kW bk h h1
def Uum{ws:List Nat}(j:L ws=16)(p0 T p2 p3 x y:Nat):∀ i,L (CP ws p0 T p2 p3 x y i)=16
 | 0=>j
 | 1=>by rw[CP,Cb,j]
 | n+2=>by show(Bl.half _ _ _ _ _ _ _ _).length=16;rw[Cb,Cb,j]
section
attribute [local simp] Qbx Qdv Re X1a XG By nJ sE Ju WB Ma V0 Vp
def U4r(b:Nat){h:N}{bk z':Nat}{ws:List Nat}{p0 p1 T j x y:Nat}(g:h.A bk=U (S Y z' (ws.map iG)))(hw:L ws=16)(q0:p0 < 16)(q1:p1 < 16)(q2:T < 16)(q3:j < 16)
  (K:KP) (hk:∀ h',h'.A bk=U (S Y z' ((Bl.half (Bl.half ws p0 p1 T j x 16 12) p0 p1 T j y 8 7).map iG))->kW bk h h'->K (.ret (.tuple #[])) h') :
  FK b 150 [pO bk 0,I X (p0:Int),I X (p1:Int),I X (T:Int),I X (j:Int),.agg ⟨[iG x,iG y]⟩] h K:=by
 refine ip b (Re b) Y81 rfl ?_;have lt:=N.D g;obtain⟨hA,eA⟩:∃ hA,hA=h.push (S Y 1 [iG x,iG y]):=⟨_,rfl⟩;have bx:=kE eA;have nA:=lT eA;have gA:hA.A h.Q=U (S Y 1 [iG x,iG y]):=by rw[eA,N.F,if_pos rfl]
 obtain⟨hB,eB⟩:∃ hB,hB=hA.push (S Y 1 [(I X 0),(I X 0),(I X 0),(I X 0)]):=⟨_,rfl⟩;have al:jd (E b).tojo 258 hA=U (pO hA.Q 0,hB):=by rw[eB];exact xL b hA
 have gB:hB.A hA.Q=U (S Y 1 [(I X 0),(I X 0),(I X 0),(I X 0)]):=by rw[eB,N.F,if_pos rfl]
 obtain⟨hC,eC⟩:∃ hC,hC=hB.set hA.Q (U (S Y 1 CN)):=⟨_,rfl⟩;have st:iN hB hA.Q 0 CN=U hC:=by rw[jQ gB (by simp[CN]),eC];rfl
 have lB:=N.D gB;have gC:hC.A hA.Q=U (S Y 1 CN):=by rw[eC,gY lB,if_pos rfl]
 have aC:a_ h hC:=by rw[eC,eB];exact((by rw[eA];exact a_.push _ _:a_ h hA).trans (a_.push _ _)).set _ iA (by grind)
 have h4:hC.A h.Q=U (S Y 1 [iG x,iG y]):=by rw[eC,gY lB,if_neg iA,eB,N.F,if_neg iA,gA]
 have ld:iy hC h.Q 0 2=U (.agg ⟨[iG x,iG y]⟩):=by rw[V9 h4 jA];rfl
 unfold CN at st;simp[xL,wN,bx,(Sy b).1,(Sy b).2.1,(Sy b).2.2,al,-xL,st,ld];refine iV (BkS h bk z' hA.Q ws p0 p1 T j x y) 2 ⟨_,hC,0,rfl,jA,jA,jA,jA,jA,jA,jA,jA,iA,rfl,aC.A g,gC,aC.1,fun c hc _=>aC.2 c hc⟩ ?_;clear gC;have lC:hA.Q≠bk:=iA
 generalize hA.Q=C at lC ⊢;rintro k s' ⟨t,h1,i,rfl,t0,t1,t2,t3,t4,hx,t18,hl,hi,rfl,gW,gC,bt⟩ _;by_cases v':i < 2
 rotate_left
 ·have h2:¬ (i:Int) < 2:=iA
  have : i=2:=iA
  subst this;simp[xL,wN,hl];exact hk h1 gW bt
 have h2:(i:Int) < 2:=iA
 have h3:=Uum hw p0 p1 T j x y i;obtain⟨s,r,xi,hs,hr,cs,cr,ix,es⟩:∃ s r xi:Nat,CO s/\CO r/\Zq h1 C (i*2)=U (I X (s:Int))/\Zq h1 C (i*2+1)=U (I X (r:Int))/\vH (E b).tojo 230 (.agg ⟨[iG x,iG y]⟩) (I X (i:Int))=U (I .u32 (xi:Int))/\CP ws p0 p1 T j x y (i+1)=Bl.half (CP ws p0 p1 T j x y i) p0 p1 T j xi s r:=by
  have hu:i=0∨i=1:=iA
  rcases hu with rfl | rfl
  ·exact⟨16,12,x,.inl rfl,.inr (.inl rfl),by rw[Z2 gC];rfl,by rw[Z2 gC];rfl,by rw[wN b ⟨iA,iA⟩];rfl,rfl⟩
  ·exact⟨8,7,y,.inr (.inr (.inl rfl)),.inr (.inr (.inr rfl)),by rw[Z2 gC];rfl,by rw[Z2 gC];rfl,by rw[wN b ⟨iA,iA⟩];rfl,rfl⟩
 have e2:=wS (i:=i) iA;have hq:IntKind.i64.wrap (-(s:Int)) = -(s:Int):=by rcases hs with rfl | rfl | rfl | rfl <;> rfl
 have M':IntKind.i64.wrap (-(r:Int)) = -(r:Int):=by rcases hr with rfl | rfl | rfl | rfl <;> rfl
 have pa:∀ p:Nat,p < 16->J1 (E b).tojo 190 (pO bk 0) (I X (p:Int))=U (pO bk p):=fun p hp=>by
  rw[By b ⟨iA,iA⟩];simp
 have x0:=pa p0 q0;have x1:=pa p1 q1;have x2:=pa T q2;have x3:=pa j q3;have tn:J1 (E b).tojo 258 (pO C 0) (I X (i:Int))=U (pO C (i*2)):=by rw[WB b ⟨iA,iA⟩];simp
 have hn:J1 (E b).tojo 257 (pO C (i*2)) (I X 0)=U (pO C (i*2)):=by rw[Ma b ⟨iA,iA⟩];simp
 have a2:J1 (E b).tojo 257 (pO C (i*2)) (I X 1)=U (pO C (i*2+1)):=by rw[Ma b ⟨iA,iA⟩];simp
 obtain⟨W,eW⟩:∃ W,W=CP ws p0 p1 T j x y i:=⟨_,rfl⟩;rw[<- eW]at gW es h3;have W0:ng h1 h1 bk z' [] W:=⟨by grind,rfl,fun _ _=>rfl,h3⟩;simp[xL,wN,t0,t1,t2,t3,t4,hx,t18,hl,h2,ix,-wN];obtain⟨v0,f0⟩:∃ v,v=Bl.w32 (Bl.wd W p1+xi):=⟨_,rfl⟩;obtain⟨v1,e1⟩:∃ v,v=Bl.w32 (Bl.wd W p0+v0):=⟨_,rfl⟩;obtain⟨g1,s1,W1⟩:=W0.put q0 v1;have y0:=W0.cell q0;have y1:=W0.cell q1;refine jf [] jA YG.1 (by simp (config:={maxSteps:=1000000}) [YG.2,Yif,t0,t1,t2,x0,x1,y0,y1,U9j,<- f0,<- e1,s1];first | exact⟨rfl,rfl⟩ | rfl) ?_ ?_
 ·simp (config:={maxSteps:=1000000}) [PX,t0,t1,t2,x0,x1,y0,y1]
 simp[xL,wN];have cs:=(W1.other (o:=i*2) lC).trans cs;obtain⟨r1,f1⟩:∃ v,v=Bl.xr (Bl.wd (W.set p0 v1) j) (Bl.wd (W.set p0 v1) p0):=⟨_,rfl⟩;obtain⟨g2,s2,W2⟩:=W1.put q3 (Bl.rot r1 s);have z0:=W1.cell q0;have z3:=W1.cell q3;obtain⟨_,_,k1,hy,j1,j2⟩:=Uuk b r1 s hs g1 (fun r h'=>r=.ret (iG (Bl.rot r1 s))/\h'=g1) ⟨rfl,rfl⟩;rw[j1,j2]at k1;rw[j2]at hy;refine jf [⟨179,[I .u32 (r1:Int),I X (-(s:Int))],g1,I .u32 ((Bl.rot r1 s:Nat):Int),g1,Y⟩] ?_ Yt.1 (by simp (config:={maxSteps:=1000000})[Yt.2,Yi7,Yh5,t0,t1,t4,hx,x0,x3,z0,z3,tn,hn,cs,hq,U2s,vS,E1,<- f1,s2];first | exact⟨rfl,rfl⟩ | rfl) ?_ ?_
 ·exact nK ⟨k1,hy,fun _ _ _=>rfl⟩
 ·simp (config:={maxSteps:=1000000}) [Ki,t0,t1,t4,hx,x0,x3,z0,z3,tn,hn,cs]
 simp[xL,wN];obtain⟨v3,e3⟩:∃ v,v=Bl.w32 (Bl.wd ((W.set p0 v1).set j (Bl.rot r1 s)) T+Bl.wd ((W.set p0 v1).set j (Bl.rot r1 s)) j):=⟨_,rfl⟩;obtain⟨g3,s3,W3⟩:=W2.put q2 v3;have z2:=W2.cell q2;have z3:=W2.cell q3;refine jf [] jA U4.1 (by simp (config:={maxSteps:=1000000}) [U4.2,Ygy,t0,t3,t4,x2,x3,z2,z3,U9j,<- e3,s3];first | exact⟨rfl,rfl⟩ | rfl) ?_ ?_
 ·simp (config:={maxSteps:=1000000}) [PY,t0,t3,t4,x2,x3,z2,z3]
 simp[xL,wN];have cr:=(W3.other (o:=i*2+1) lC).trans cr;obtain⟨r2,f2⟩:∃ v,v=Bl.xr (Bl.wd (((W.set p0 v1).set j (Bl.rot r1 s)).set T v3) p1) (Bl.wd (((W.set p0 v1).set j (Bl.rot r1 s)).set T v3) T):=⟨_,rfl⟩;obtain⟨g4,s4,W4⟩:=W3.put q1 (Bl.rot r2 r);have z1:=W3.cell q1;have z2:=W3.cell q2;obtain⟨_,_,k2,ho,j3,j4⟩:=Uuk b r2 r hr g3 (fun e h'=>e=.ret (iG (Bl.rot r2 r))/\h'=g3) ⟨rfl,rfl⟩;rw[j3,j4]at k2;rw[j4]at ho;refine jf [⟨179,[I .u32 (r2:Int),I X (-(r:Int))],g3,I .u32 ((Bl.rot r2 r:Nat):Int),g3,Y⟩] ?_ X'.1 (by simp (config:={maxSteps:=1000000})[X'.2,Yja,Yis,t0,t2,t3,hx,x1,x2,z1,z2,tn,a2,cr,M',U2s,vS,E1,<- f2,s4];first | exact⟨rfl,rfl⟩ | rfl) ?_ ?_
 ·exact nK ⟨k2,ho,fun _ _ _=>rfl⟩
 ·simp (config:={maxSteps:=1000000}) [Kj,t0,t2,t3,hx,x1,x2,z1,z2,tn,a2,cr]
 simp[xL,wN,hl,e2];have e4:(((W.set p0 v1).set j (Bl.rot r1 s)).set T v3).set p1 (Bl.rot r2 r)=Bl.half W p0 p1 T j xi s r:=by
  subst f0 e1 f1 e3 f2;rfl
 rw[e4,<- es]at W4;have lw:=N.D gW;refine⟨2-(i+1),iA,_,g4,i+1,rfl,by simp[t0],by simp[t1],by simp[t2],by simp[t3],by simp[t4],by simp[hx],by simp[t18],jA,iA,rfl,by simpa using W4.at',by rw[W4.same C lC];exact gC,by rw[W4.Q];exact bt.1,fun c hc hb=>by rw[W4.same c hb];exact bt.2 c hc hb⟩
end
def qt(d:Nat):Nat:=if d < 10 then 48+d else 87+d
def Bt(o:List Nat):ByteArray:=⟨(o.map fun d=>UInt8.ofNat (qt d)).toArray⟩
section
attribute [local simp] WE Zrn Ps U29 U1x Ay Az
def U0u(b:Nat){d:Nat}(hd:d < 16)(h:N)(K:KP)(hk:K (.ret (I X (d:Int))) h):FK b 149 [I .u8 (qt d:Int)] h K:=by
 refine ip b (Ps b) Jjb rfl ?_;have wu:∀ z:Int,0<=z->z < 256->IntKind.u8.wrap z=z:=fun z h0 h1=>by
  have : IntKind.u8.wrap z=z % 256:=by simp[IntKind.wrap,IntKind.bits,IntKind.signed]
  omega
 by_cases T:d < 10
 ·have e:qt d=48+d:=if_pos T;have q:¬ ((qt d:Nat):Int) ≥ 97:=iA
  have w1:IntKind.u8.wrap ((qt d:Nat)-48:Int)=(d:Int):=by grind
  have w2:IntKind.i64.wrap (d:Int)=(d:Int):=Jr iA iA;have q':¬ (97:Int)<=((qt d:Nat):Int):=q;simp[q',w1,w2];exact hk
 ·have e:qt d=87+d:=if_neg T;have q:(97:Int)<=((qt d:Nat):Int):=iA
  obtain⟨j,hc⟩:∃ j:Nat,d=j+10:=⟨d-10,iA⟩;have w1:IntKind.u8.wrap ((qt d:Nat)-97:Int)=(j:Int):=by grind
  have w2:IntKind.i64.wrap (j:Int)=(j:Int):=Jr iA iA;have w3:IntKind.i64.wrap ((j:Int)+10)=(d:Int):=by rw[Jr iA iA];omega
  simp[q,w1,w2,w3];exact hk
end
def pN(o:List Nat):Prop:=L o=16/\∀ x ∈ o,x < 16
def pN.at{o:List Nat}(h:pN o){i:Nat}(hi:i < 16):Bl.wd o i < 16/\o[i]? = U (Bl.wd o i):=by
 have j:i < L o:=by have:=h.1;omega
 have e:o[i]? = U (Bl.wd o i):=by simp[Bl.wd,ac j]
 exact⟨h.2 _ (ae e),e⟩
def pN.ix(b:Nat){o:List Nat}(h:pN o){i:Nat}(hi:i < 16):vH (E b).tojo 9 (.string (Bt o)) (I X (i:Int))=U (I .u8 (qt (Bl.wd o i):Int)):=by
 have j:(E b).tojo.ty.A 9=U R9:=Ii b;have hd:R9.desc=.string:=kR
 have e:iD (Bt o).data.toList i=U (UInt8.ofNat (qt (Bl.wd o i))):=by
  rw[sQ];simp[Bt,(h.at hi).2]
 have T:qt (Bl.wd o i) < 256:=by have:=(h.at hi).1;unfold qt;grind
 simp only[vH,j,hd];rw[if_pos iA,bA,e];simp only[UInt8.toNat_ofNat']
 grind
def U0g{c d:Nat}(j:c < 16)(hd:d < 16)(h:qt c=qt d):c=d:=by
 unfold qt at h
 grind
def ye(h:N)(d:Nat):KE:=⟨149,[I .u8 (qt d:Int)],h,I X (d:Int),h,Y⟩
def U1b{c d:Nat}(j:c < 16)(hd:d < 16)(h:N):pc [ye h c,ye h d] 149 [I .u8 (qt d:Int)] h=U ⟨149,[I .u8 (qt d:Int)],h,I X (d:Int),h,Y⟩:=by
 by_cases e:c=d
 ·subst e;exact Yo _ _ _ _ _ _ _
 ·have : (ye h c).args ≠ [I .u8 (qt d:Int)]:=fun q=>by
   simp only[ye,List.cons.injEq,Value.int.injEq,and_true,true_and]at q;exact e (U0g j hd iA)
  simp only[pc];rw[if_neg (fun q=>this q.2.1)];simp[ye]
def U1z(b:Nat){d:Nat}(hd:d < 16)(h:N):ue Tryz.prog (E b).G (ye h d):=by
 obtain⟨_,_,k1,j,j1,T⟩:=U0u b hd h (fun r h'=>r=.ret (I X (d:Int))/\h'=h) ⟨rfl,rfl⟩;rw[j1,T]at k1;rw[T]at j;exact⟨k1,j,fun _ _ _=>rfl⟩
def U8j(i:Nat)(hi:i < 8):∃ a c n1 m1 j c2 n2 m2 T c3 n3 m3 p3:Nat,Int.tmod (i:Int) 4=(a:Int)/\(i:Int) / 4=(c:Int)/\IntKind.i64.wrap (c:Int)=(c:Int)/\IntKind.i64.wrap ((a:Int)+(c:Int))=(n1:Int)/\Int.tmod (n1:Int) 4=(m1:Int)/\IntKind.i64.wrap (4+(m1:Int))=(j:Int) /\
  IntKind.i64.wrap (2*(c:Int))=(c2:Int)/\IntKind.i64.wrap ((a:Int)+(c2:Int))=(n2:Int)/\Int.tmod (n2:Int) 4=(m2:Int)/\IntKind.i64.wrap (8+(m2:Int))=(T:Int)/\IntKind.i64.wrap (3*(c:Int))=(c3:Int)/\IntKind.i64.wrap ((a:Int)+(c3:Int))=(n3:Int)/\Int.tmod (n3:Int) 4=(m3:Int)/\IntKind.i64.wrap (12+(m3:Int))=(p3:Int) /\
  Bl.places[i]? = U [a,j,T,p3]/\a < 16/\j < 16/\T < 16/\p3 < 16:=by
 have q:∀ i:Nat,i < 8->Int.tmod (i:Int) 4=((i % 4:Nat):Int)/\(i:Int) / 4=((i / 4:Nat):Int)/\Bl.places[i]? = U [i % 4,4+(i % 4+i / 4) % 4,8+(i % 4+2*(i / 4)) % 4,12+(i % 4+3*(i / 4)) % 4]:=kA
 obtain⟨q1,q2,q3⟩:=q i hi;have ha:i % 4 < 4:=eN _ kA;have hc:i / 4 < 2:=iA
 generalize i % 4=a at *;generalize i / 4=c at *;have w:∀ (x:Int) (n:Nat),x=(n:Int)->n < 1000->IntKind.i64.wrap x=(n:Int):=fun x n e h=>by rw[e];exact Jr iA iA
 have t:∀ x:Nat,Int.tmod (x:Int) 4=((x % 4:Nat):Int):=fun x=>(fO x 4).symm;exact⟨a,c,a+c,(a+c) % 4,4+(a+c) % 4,2*c,a+2*c,(a+2*c) % 4,8+(a+2*c) % 4,3*c,a+3*c,(a+3*c) % 4,12+(a+3*c) % 4,q1,q2,w _ _ rfl iA,w _ _ iA iA,t _,w _ _ iA iA,w _ _ iA iA,w _ _ iA iA,t _,w _ _ iA iA,w _ _ iA iA,w _ _ iA iA,t _,w _ _ iA iA,q3,iA,iA,iA,iA⟩
def SE{ms o ws:List Nat}(j:L ws=16):∀ i,i<=8->L (Bl.round ms o ws i)=16
 | 0,_=>j
 | i+1,T=>by
  obtain⟨_,_,_,_,_,_,_,_,_,_,_,_,_,_,_,_,_,_,_,_,_,_,_,_,_,_,_,e,_⟩:=U8j i iA;rw[Bl.round,Bl.step,e];simp only[Cb];exact SE j i iA
def BkN(h:N)(bk z' mb:Nat)(ms o ws:List Nat)(k:Nat)(s:St):Prop:=∃ (t:Tr V) (h1:N) (i:Nat),s=⟨⟨59,t⟩,[],h1⟩/\t.A 0=U (pO bk 0)/\t.A 1=U (pO mb 0)/\t.A 2=U (.string (Bt o))/\t.A 10=U (I X (i:Int))/\i<=8/\k=8-i /\
 h1.A bk=U (S Y z' ((Bl.round ms o ws i).map iG))/\kW bk h h1
section
attribute [local simp] Qnm Qum Vr Ps Dx nJ RS Vqe Uy yo XG Re
def U1a(b:Nat){h:N}{bk z' mb zm:Nat}{ow:Bool}{ms o ws:List Nat}(g:h.A bk=U (S Y z' (ws.map iG)))(hw:L ws=16)(gm:h.A mb=U (.cells ow zm (ms.map iG)))(hm:L ms=16)(ne:mb≠bk)(ho:pN o)
  (K:KP) (hk:∀ h',h'.A bk=U (S Y z' ((Bl.round ms o ws 8).map iG))->kW bk h h'->K (.ret (.tuple #[])) h') :
  FK b 112 [pO bk 0,pO mb 0,.string (Bt o)] h K:=by
 refine ip b (Vr b) Yzx rfl ?_;have lt:=N.D g;have lm:=N.D gm;simp;refine iV (BkN h bk z' mb ms o ws) 8 ⟨_,h,0,rfl,jA,jA,jA,jA,iA,rfl,g,ai _,fun _ _ _=>rfl⟩ ?_;rintro k s' ⟨t,h1,i,rfl,t0,t1,t2,t10,hi,rfl,gW,bt⟩ _;by_cases hA:i < 8
 rotate_left
 ·have j:¬ (i:Int) < 8:=iA
  have : i=8:=iA
  subst this;simp[t10]
  grind
 have j:(i:Int) < 8:=iA
 have gM:h1.A mb=U (.cells ow zm (ms.map iG)):=by rw[bt.2 mb lm ne];exact gm
 obtain⟨ka,ea⟩:∃ x:Nat,x=2*i:=⟨_,rfl⟩;obtain⟨kb,eb⟩:∃ x:Nat,x=2*i+1:=⟨_,rfl⟩;have wa:IntKind.i64.wrap (2*(i:Int))=(ka:Int):=by rw[Jr iA iA];omega
 have wb:IntKind.i64.wrap ((ka:Int)+1)=(kb:Int):=by rw[Jr iA iA];omega
 have w1:=wS (i:=i) iA;have oa:=(ho.at (i:=ka) iA).1;have ob:=(ho.at (i:=kb) iA).1;have xa:=ho.ix b (i:=ka) iA;have xb:=ho.ix b (i:=kb) iA;obtain⟨da,fa⟩:∃ x,x=Bl.wd o ka:=⟨_,rfl⟩;obtain⟨db,fb⟩:∃ x,x=Bl.wd o kb:=⟨_,rfl⟩;rw[<- fa]at oa xa;rw[<- fb]at ob xb;have mi:∀ d:Nat,d < 16->J1 (E b).tojo 189 (pO mb 0) (I X (d:Int))=U (pO mb d)/\Zq h1 mb d=U (I .u32 ((Bl.wd ms d:Nat):Int)):=fun d hd=>by
  refine⟨by rw[Dx b ⟨iA,iA⟩];simp,?_⟩;rw[Z2 gM,b7,ac iA];simp[Bl.wd,iG,ac (show d < L ms by omega)]
 obtain⟨ia,ca⟩:=mi da oa;obtain⟨ib,cb⟩:=mi db ob;obtain⟨T,hx⟩:∃ x,x=Bl.wd ms da:=⟨_,rfl⟩;obtain⟨x2,hb⟩:∃ x,x=Bl.wd ms db:=⟨_,rfl⟩;rw[<- hx]at ca;rw[<- hb]at cb;have hy:pc [ye h1 da,ye h1 db] 149 [I .u8 (qt da:Int)] h1=U ⟨149,[I .u8 (qt da:Int)],h1,I X (da:Int),h1,Y⟩:=Yo _ _ _ _ _ _ _;have e1:=U1b oa ob h1;obtain⟨hB,eB⟩:∃ hB,hB=h1.push (S Y 1 [(I .u32 0),(I .u32 0)]):=⟨_,rfl⟩;have al:jd (E b).tojo 230 h1=U (pO h1.Q 0,hB):=by rw[eB];exact RS b h1
 have gB:hB.A h1.Q=U (S Y 1 [(I .u32 0),(I .u32 0)]):=by rw[eB,N.F,if_pos rfl]
 have lB:=N.D gB;obtain⟨hC,eC⟩:∃ hC,hC=hB.set h1.Q (U (S Y 1 [I .u32 (T:Int),I .u32 (x2:Int)])):=⟨_,rfl⟩;have st:iN hB h1.Q 0 [I .u32 (T:Int),I .u32 (x2:Int)]=U hC:=by rw[jQ gB jA,eC];rfl
 have gC:hC.A h1.Q=U (S Y 1 [I .u32 (T:Int),I .u32 (x2:Int)]):=by rw[eC,gY lB,if_pos rfl]
 have aC:a_ h1 hC:=by rw[eC,eB];exact(a_.push _ _).set _ (ai _) (by grind)
 have ld:iy hC h1.Q 0 2=U (.agg ⟨[I .u32 (T:Int),I .u32 (x2:Int)]⟩):=by rw[V9 gC jA];rfl
 have h3:jP (E b).tojo 230 [(0,I .u32 (T:Int)),(1,I .u32 (x2:Int))]=U (.agg ⟨[I .u32 (T:Int),I .u32 (x2:Int)]⟩):=kR
 simp[t0,t1,t2,t10,j];refine jf [ye h1 da,ye h1 db] ?_ YR.1 (by simp (config:={maxSteps:=1000000}) [YR.2,Yg7,t1,t2,wa,wb,xa,xb,hy,e1,ia,ib,ca,cb,h3,al,-RS,st];first | exact⟨rfl,rfl⟩ | rfl) ?_ ?_
 ·simp only[ar,ct,or_false];rintro e (rfl | rfl)
  ·exact U1z b oa h1
  ·exact U1z b ob h1
 ·simp only[Yb,Y0,P_,ku,Ab.runT,Nat.testBit,Jn,Yk,Yh,Ym,loadAt,Wa,Yo,jm,Qg,iD,Ab.g0,gv,gs,Q8,Qd,Qw,iH,kH,lr,Qh,Tr.H,St.put,Tm.put,flat,iS,Y5,Qm,Qp,Qn,Qo,Qk,Ql,Qj,Qq,Y6,Qi,Q7,Q9,Qr,Q0,Qa,d8];simp
 obtain⟨a,c,n1,m1,p1,c2,n2,m2,p2,c3,n3,m3,p3,u0,td,v0,v1,u1,v2,v3,v4,u2,v5,v6,v7,u3,v8,hp,la,hn,a2,h4⟩:=U8j i hA;simp[t0,u0,td,v0,v1,u1,v2,v3,v4,u2,v5,v6,v7,u3,v8,ld];have hl:=SE (ms:=ms) (o:=o) hw i iA;refine U4r b (aC.A gW) hl (x:=T) (y:=x2) la hn a2 h4 _ fun h2 g2 b2 => ?_;simp[t10,w1];have es:Bl.round ms o ws (i+1)=Bl.half (Bl.half (Bl.round ms o ws i) a p1 p2 p3 T 16 12) a p1 p2 p3 x2 8 7:=by
  rw[Bl.round,Bl.step,hp,hx,hb,fa,fb,ea,eb]
 rw[<- es]at g2;have l1:=N.D gW;exact⟨8-(i+1),iA,_,h2,i+1,rfl,by simp[t0],by simp[t1],by simp[t2],jA,iA,rfl,g2,ao bt.1 (ao aC.1 b2.1),fun c hc hr=>by
  have hu:=bt.1;have e2:=aC.1;rw[b2.2 c iA hr,aC.2 c iA,bt.2 c hc hr]⟩
end
def sD:List V:=Bl.begins.map iG
def wq:List V:=Bl.orders.map fun o => .string (Bt o)
def pA:List (Nat × List V):=[(0,sD),(2,wq)]
def U2x:∀ o ∈ Bl.orders,pN o:=by unfold pN;decide
def SX(b:Nat):(0 < (E b).G.n)=True:=eq_true (by show 0 < nv;decide)
def gn2(b:Nat):(2 < (E b).G.n)=True:=eq_true (by show 2 < nv;decide)
def Wbh(x:Int):ja (binOp .shl 124 (I .u32 x) (I .u64 8))=U (I .u32 (IntKind.u32.wrap (x*2 ^ 8))):=kR
def U7z(x:Int):ja (binOp .shr 128 (I .u64 x) (I .u64 32))=U (I .u64 (x.fdiv (2 ^ 32))):=kR
def Z':B3 .xor (I .u32 528734635)=U (I .u32 3766232660):=kR
def Sa{ms ws:List Nat}(j:L ws=16):∀ r,L (Bl.rounds ms ws r)=16
 | 0=>j
 | r+1=>by rw[Bl.rounds];exact SE (Sa j r) 8 (ai _)
def Unc(hs ws:List Nat):L (Bl.outL hs ws)=8:=by simp[Bl.outL]
def KX{h:N}{bk z:Nat}{ow:Bool}{l:List Nat}(g:h.A bk=U (.cells ow z (l.map iG))){i:Nat}(hi:i < L l):Zq h bk i=U (I .u32 ((Bl.wd l i:Nat):Int)):=by
 rw[Z2 g,b7,ac hi];simp[Bl.wd,iG,ac hi]
def U58{h:N}{bk z:Nat}{ow:Bool}{l:List Nat}(g:h.A bk=U (.cells ow z (l.map dk))){i:Nat}(hi:i < L l):Zq h bk i=U (I .u8 ((Bl.wd l i:Nat):Int)):=by
 rw[Z2 g,b7,ac hi];simp[Bl.wd,dk,ac hi]
def U91(b:Nat){h:N}{P j o c z z':Nat}{ow:Bool}{ds l:List V}(gP:h.A P=U (S Y z ds))(gS:h.A j=U (.cells ow z' l))(T:L l=8)(hd:o+8<=L ds) :
  rV (E b).tojo 191 (M (U ⟨P,o,O⟩) 8 c) (M (U ⟨j,0,O⟩) 8 8) h=U (I X 8,h.set P (U (S Y z (ds.take o++l++ds.drop (o+8))))):=by
 have hr:MZ.desc=.slice 124:=(vi b).d;have h4:Ab.cellsAt h ⟨j,0,O⟩ (Nat.min 8 8*1)=U l:=by
  simp only[Ab.cellsAt,gS];show nQ (8*1) (l.drop 0)=_;rw[th (by simp[T])]
  grind
 have h5:storeAt h ⟨P,o,O⟩ l=U (h.set P (U (S Y z (ds.take o++l++ds.drop (o+8))))):=by
  simp only[storeAt,gP];rw[q_ iA,T];rfl
 match l,T with
 | v::l,_ =>
  simp only[rV,U2c,hr,wK,AD,rN,sf,h4,h5];rfl
def BkO(h0:N)(H P A:Nat)(hs ws:List Nat)(k:Nat)(s:St):Prop:=∃ (t:Tr V) (g:N) (i:Nat),s=⟨⟨107,t⟩,[],g⟩/\t.A 4=U (pO H 0)/\t.A 8=U (pO A 0)/\t.A 11=U (pO P 0)/\t.A 89=U (I X (i:Int))/\i<=8/\k=8-i /\
 g.A H=U (S Y 1 (((Bl.outL hs ws).take i++hs.drop i).map iG))/\g.A P=U (S Y 1 (ws.map iG))/\(∃ j,g.A A=U (S Y 1 j)/\L j=8)/\a_ h0 g
section
attribute [local simp] Kw Q_ V5 pF uu HD qx Dh Di Dx Ju uv By nJ Dp Dq Mh Aa Vr yg BN AB Ur Vt
def Uym(b:Nat){h0 g:N}{H P A:Nat}{hs ws:List Nat}{c8:List V}{t:Tr V}(h8:L hs=8)(hw:L ws=16)(gH:g.A H=U (S Y 1 (hs.map iG)))(gP:g.A P=U (S Y 1 (ws.map iG)))(gA:g.A A=U (S Y 1 c8))(l8:L c8=8)(n1:H≠P)(n2:H≠A)(n3:h0.Q<=H)(n4:h0.Q<=A)(a:a_ h0 g)
  (t4:t.A 4=U (pO H 0)) (t8:t.A 8=U (pO A 0)) (j:t.A 11=U (pO P 0))
  (K:KP) (hk:∀ h',a_ h0 h'->K (.ret (.agg ⟨(Bl.outL hs ws).map iG⟩)) h') :
  iO (E b) (pL Tryz.prog (E b).G) (D0 b) O Kz ⟨⟨107,t⟩,[],g⟩ (pj (E b) (DD b) (FU 67) K):=by
 have lo:=Unc hs ws;simp[t4,t8,j];refine iV (BkO h0 H P A hs ws) 8 ⟨_,g,0,rfl,by simp[t4],by simp[t8],by simp[j],jA,iA,rfl,by grind,gP,⟨c8,gA,l8⟩,a⟩ ?_;clear gH gP gA l8 t4 t8 j a;rintro k s' ⟨t,g,i,rfl,t4,t8,j,hc,hi,rfl,gH,gP,⟨c8,gA,l8⟩,a⟩ _;by_cases hx:i < 8
 rotate_left
 ·have T:¬ (i:Int) < 8:=iA
  have : i=8:=iA
  subst this;rw[aj iA,bG iA,bS]at gH;have ld:iy g H 0 8=U (.agg ⟨(Bl.outL hs ws).map iG⟩):=by
   rw[V9 gH (by simp[lo]),ba,aj (by simp[lo])]
  have lA:=N.D gA;have st:iN g A 0 ((Bl.outL hs ws).map iG)=U (g.set A (U (S Y 1 ((Bl.outL hs ws).map iG)))):=by
   rw[jQ gA (by grind),cZ,bX,bG (by grind),bS]
  have h2:iy (g.set A (U (S Y 1 ((Bl.outL hs ws).map iG)))) A 0 8=U (.agg ⟨(Bl.outL hs ws).map iG⟩):=by
   rw[V9 (by rw[gY lA,if_pos rfl]) (by simp[lo]),ba,aj (by simp[lo])]
  simp[t4,t8,hc,ld,lo,st,h2];exact hk _ (a.set _ n4 lA)
 have T:(i:Int) < 8:=iA
 have w1:=wS (i:=i) iA;obtain⟨i8,e8⟩:∃ x:Nat,x=i+8:=⟨_,rfl⟩;have w2:IntKind.i64.wrap ((i:Int)+8)=(i8:Int):=by rw[Jr iA iA];omega
 have xH:J1 (E b).tojo 126 (pO H 0) (I X (i:Int))=U (pO H i):=by rw[yg b ⟨iA,iA⟩];simp
 have xP:∀ p:Nat,p < 16->J1 (E b).tojo 190 (pO P 0) (I X (p:Int))=U (pO P p):=fun p hp=>by rw[By b ⟨iA,iA⟩];simp
 have x1:=xP i iA;have x2:=xP i8 iA;have lh:L ((Bl.outL hs ws).take i++hs.drop i)=8:=by grind
 have cH:=KX gH (i:=i) iA;have eH:Bl.wd ((Bl.outL hs ws).take i++hs.drop i) i=Bl.wd hs i:=by
  simp[Bl.wd,aL,lo,dN (show i<=8 by omega)]
 rw[eH]at cH;have c1:=KX gP (i:=i) iA;have c2:=KX gP (i:=i8) iA;obtain⟨y,ey⟩:∃ y,y=Bl.xr (Bl.wd ws i) (Bl.wd ws i8):=⟨_,rfl⟩;obtain⟨x,ex⟩:∃ x,x=Bl.xr (Bl.wd hs i) y:=⟨_,rfl⟩;have lH:=N.D gH;obtain⟨g',eg⟩:∃ g',g'=g.set H (U (S Y 1 ((((Bl.outL hs ws).take i++hs.drop i).map iG).set i (I .u32 (x:Int))))):=⟨_,rfl⟩;have st:iN g H i [I .u32 (x:Int)]=U g':=by rw[eg];exact nS gH (by grind)
 simp[t4,t8,j,hc,T];refine jf [] jA YT.1 (by simp (config:={maxSteps:=1000000}) [YT.2,Yfz,t4,j,w2,xH,x1,x2,cH,c1,c2,vS,E1,<- ey,<- ex,st];first | exact⟨rfl,rfl⟩ | rfl) ?_ ?_
 ·simp only[Yb,Y0,Qf,ku,Ab.runT,Nat.testBit,Jn,Yk,Yh,Ym,loadAt,Wa,Yo,jm,Qg,iD,Ab.g0,gv,gs,Q8,Qd,Qw,iH,kH,lr,Qh,Tr.H,St.put,Tm.put,flat,iS,Y5,Qm,Qp,Qn,Qo,Qk,Ql,Qj,Qq,Y6,Qi,Q7,Q9,Qr,Q0,Qa,d8];simp
 simp[hc,w1];refine⟨8-(i+1),iA,_,g',i+1,rfl,by simp[t4],by simp[t8],by simp[j],jA,iA,rfl,?_,?_,⟨c8,?_,l8⟩,?_⟩
 ·rw[eg,gY lH,if_pos rfl];have eo:(Bl.outL hs ws)[i]? = U x:=by
   rw[Bl.outL,b7,dc hx,ex,ey,e8];rfl
  congr 2;have : (I .u32 (x:Int))=iG x:=rfl;rw[this,<- gy];congr 1;rw[bD _ _ (by simp;omega),aT,eo,b9];congr 1;have l1:L (List.take i (Bl.outL hs ws))=i:=by grind
  rw[l1,dQ,bh (show i < L hs by omega)];rfl
 ·rw[eg,gY lH,if_neg n1];exact gP
 ·rw[eg,gY lH,if_neg n2];exact gA
 ·rw[eg];exact a.set _ n3 lH
end
def BkR(h0:N)(H P A M_:Nat)(hs ms ws:List Nat)(c8:List V)(k:Nat)(s:St):Prop:=∃ (t:Tr V) (g:N) (r:Nat),s=⟨⟨107,t⟩,[],g⟩/\t.A 4=U (pO H 0)/\t.A 8=U (pO A 0)/\t.A 9=U (pO M_ 0)/\t.A 11=U (pO P 0)/\t.A 82=U (.agg ⟨wq⟩)/\t.A 83=U (I X (r:Int))/\r<=10/\k=10-r /\
 g.A P=U (S Y 1 ((Bl.rounds ms ws r).map iG))/\g.A H=U (S Y 1 (hs.map iG))/\g.A M_=U (S Y 1 (ms.map iG))/\g.A A=U (S Y 1 c8)/\a_ h0 g
section
attribute [local simp] Kw Q_ V5 pF uu HD qx Dh Di Dx Ju uv By nJ Dp Dq Mh Vr yg BN AB Vt
def Ul3(b:Nat){h0 g:N}{H P A M_:Nat}{hs ms ws:List Nat}{c8:List V}{t:Tr V}(laid:Ab.LaidIn h0 pA)(h8:L hs=8)(hw:L ws=16)(hm:L ms=16)(gH:g.A H=U (S Y 1 (hs.map iG)))(gP:g.A P=U (S Y 1 (ws.map iG)))(gM:g.A M_=U (S Y 1 (ms.map iG)))(gA:g.A A=U (S Y 1 c8))(l8:L c8=8)
  (n1:H≠P) (n2:H≠A) (n3:h0.Q<=H) (n4:h0.Q<=A) (n5:h0.Q<=P) (n6:M_≠P) (n7:A≠P) (a:a_ h0 g)
  (t4:t.A 4=U (pO H 0)) (t8:t.A 8=U (pO A 0)) (t9:t.A 9=U (pO M_ 0)) (j:t.A 11=U (pO P 0))
  (K:KP) (hk:∀ h',a_ h0 h'->K (.ret (.agg ⟨(Bl.outL hs (Bl.rounds ms ws 10)).map iG⟩)) h') :
  iO (E b) (pL Tryz.prog (E b).G) (D0 b) O KB ⟨⟨107,t⟩,[],g⟩ (pj (E b) (DD b) (FU 67) K):=by
 have go:g.A 2=U (S J 0 wq):=a.A (laid (2,wq) (by simp[pA]));have lo:iy g 2 0 10=U (.agg ⟨wq⟩):=by rw[V9 go (by simp[wq,Bl.orders])];rfl
 simp[Aa,Ur,-Ur,gn2,t4,t8,t9,j,lo];refine iV (BkR h0 H P A M_ hs ms ws c8) 10 ⟨_,g,0,rfl,by simp[t4],by simp[t8],by simp[t9],by simp[j],jA,jA,iA,rfl,gP,gH,gM,gA,a⟩ ?_;clear gH gP gM gA t4 t8 t9 j a go lo;rintro k s' ⟨t,g,r,rfl,t4,t8,t9,j,h2,hx,hr,rfl,gP,gH,gM,gA,a⟩ _;by_cases hb:r < 10
 rotate_left
 ·have T:¬ (r:Int) < 10:=iA
  have : r=10:=iA
  subst this;simp[Aa,Ur,-Ur,hx];exact Uym b h8 (Sa hw 10) gH gP gA l8 n1 n2 n3 n4 a (by simp[t4]) (by simp[t8]) (by simp[j]) K hk
 have T:(r:Int) < 10:=iA
 have w1:=wS (i:=r) iA;obtain⟨o,ho⟩:∃ o,Bl.orders[r]? = U o:=⟨_,ac (by show r < 10;omega)⟩;have eo:Bl.orders.getD r []=o:=by grind
 have ix:vH (E b).tojo 192 (.agg ⟨wq⟩) (I X (r:Int))=U (.string (Bt o)):=by
  rw[Aa b ⟨iA,iA⟩,sQ,bA,wq,b7,ho];rfl
 simp[Aa,Ur,t9,j,h2,hx,T,ix,-Aa];have lP:=N.D gP;have lH:=N.D gH;have lM:=N.D gM;have lA:=N.D gA;refine U1a b gP (Sa hw r) gM hm n6 (U2x o (ae ho)) _ fun g' hl bt => ?_;simp[Aa,Ur,hx,w1];exact⟨10-(r+1),iA,_,g',r+1,rfl,by simp[t4],by simp[t8],by simp[t9],by simp[j],by simp[h2],jA,iA,rfl,by rw[Bl.rounds,eo];exact hl,by rw[bt.2 H lH n1];exact gH,by rw[bt.2 M_ lM n6];exact gM,by rw[bt.2 A lA n7];exact gA,ao a.1 bt.1,fun c hc=>by rw[bt.2 c (aq hc a.1) iA,a.2 c hc]⟩
end
def U0k(hs:List Nat)(j:L hs=8)(count:Nat):Bl.wd (hs++Bl.begins) 12=1359893119/\∀ x,Bl.wd ((hs++Bl.begins).set 12 x) 13=2600822924/\∀ y,Bl.wd (((hs++Bl.begins).set 12 x).set 13 y) 14=528734635:=by
 match hs,j with
 | [_,_,_,_,_,_,_,_],_=>exact⟨rfl,fun _=>⟨rfl,fun _=>rfl⟩⟩
def Ux1(hs:List Nat)(j:L hs=8)(count:Nat)(last:Bool):L (Bl.first hs count last)=16:=by cases last <;> simp[Bl.first,j,Bl.begins]
def BkW(h:N)(B H A M_:Nat)(l:List Nat)(count:Nat)(last:Bool)(T:N)(k:Nat)(s:St):Prop:=∃ (t:Tr V) (g:N) (j:Nat),s=⟨⟨107,t⟩,[],g⟩/\t.A 1=U (pO B 0)/\t.A 2=U (I .u64 (count:Int))/\t.A 3=U (.bool last)/\t.A 4=U (pO H 0)/\t.A 8=U (pO A 0)/\t.A 9=U (pO M_ 0)/\t.A 15=U (I X (j:Int))/\j<=16/\k=16-j /\
 g.A M_=U (S Y 1 (((Bl.words l).take j).map iG++List.replicate (16-j) (I .u32 0)))/\g.Q=T.Q/\∀ c,c≠M_->g.A c=T.A c
section
attribute [local simp] Kw Q_ V5 HD qx Dh Di Dx Ju By nJ Dp Dq Mh Aa Vr yg BN AB Ur
def U5x(b:Nat){h:N}(laid:Ab.LaidIn h pA){hs:List Nat}(h8:L hs=8){B z:Nat}{ow:Bool}{l:List Nat}(hg:h.A B=U (.cells ow z (l.map dk)))(w2:L l=64)(count:Nat)(last:Bool)(K:KP)(hk:∀ h',a_ h h'->K (.ret (.agg ⟨(Bl.take hs l count last).map iG⟩)) h') :
  FK b 67 [.agg ⟨hs.map iG⟩,pO B 0,I .u64 (count:Int),.bool last] h K:=by
 refine ip b (V5 b) Y4a rfl ?_;have lB:=N.D hg;obtain⟨h1,e1⟩:∃ h1,h1=h.push (S Y 1 (hs.map iG)):=⟨_,rfl⟩;have bx:=kE e1;have q1:=lT e1;obtain⟨T,e2⟩:∃ T,T=h1.push (S Y 1 (List.replicate 8 (I .u32 0))):=⟨_,rfl⟩;have e0:jd (E b).tojo 126 h1=U (pO h1.Q 0,T):=by rw[e2];exact pF b h1
 have q2:=lT e2;obtain⟨h3,e3⟩:∃ h3,h3=T.push (S Y 1 (List.replicate 16 (I .u32 0))):=⟨_,rfl⟩;have w1:jd (E b).tojo 189 T=U (pO T.Q 0,h3):=by rw[e3];exact uu b T
 have q3:=lT e3;have gH:h3.A h.Q=U (S Y 1 (hs.map iG)):=by rw[e3,N.F,if_neg iA,e2,N.F,if_neg iA,e1,N.F,if_pos rfl]
 have gA:h3.A h1.Q=U (S Y 1 (List.replicate 8 (I .u32 0))):=by rw[e3,N.F,if_neg iA,e2,N.F,if_pos rfl]
 have gM:h3.A T.Q=U (S Y 1 (List.replicate 16 (I .u32 0))):=by rw[e3,N.F,if_pos rfl]
 have a3:a_ h h3:=by rw[e3];exact((by rw[e2];exact(by rw[e1];exact a_.push _ _:a_ h h1).push' _:a_ h T)).push' _
 simp[pF,uu,uv,Vt,bx,e0,w1,-pF,-uu];have wl:L (Bl.words l)=16:=by simp[Bl.words]
 refine iV (BkW h B h.Q h1.Q T.Q l count last h3) 16 ⟨_,h3,0,rfl,jA,jA,jA,jA,jA,jA,jA,iA,rfl,gM,rfl,fun _ _=>rfl⟩ ?_;rintro k s' ⟨t,g,j,rfl,t1,t2,t3,t4,t8,t9,t15,hj,rfl,gM,gn,he⟩ _;by_cases M1:j < 16
 ·have hy:(j:Int) < 16:=iA
  have w0:=wS (i:=j) iA;obtain⟨n,en⟩:∃ n:Nat,n=4*j:=⟨_,rfl⟩;obtain⟨n1,ha⟩:∃ n1:Nat,n1=n+1:=⟨_,rfl⟩;obtain⟨n2,a5⟩:∃ n2:Nat,n2=n+2:=⟨_,rfl⟩;obtain⟨n3,p3⟩:∃ n3:Nat,n3=n+3:=⟨_,rfl⟩;have v0:IntKind.i64.wrap (4*(j:Int))=(n:Int):=by rw[Jr iA iA];omega
  have v1:IntKind.i64.wrap ((n:Int)+1)=(n1:Int):=by rw[Jr iA iA];omega
  have v2:IntKind.i64.wrap ((n:Int)+2)=(n2:Int):=by rw[Jr iA iA];omega
  have v3:IntKind.i64.wrap ((n:Int)+3)=(n3:Int):=by rw[Jr iA iA];omega
  have gB:g.A B=U (.cells ow z (l.map dk)):=by rw[he B iA,a3.2 B lB];exact hg
  have bi:∀ i:Nat,i < 64->J1 (E b).tojo 129 (pO B 0) (I X (i:Int))=U (pO B i)/\Zq g B i=U (I .u8 ((Bl.wd l i:Nat):Int)):=fun i hi=>⟨by rw[HD b ⟨iA,iA⟩];simp,U58 gB iA⟩;obtain⟨x0,c0⟩:=bi n iA;obtain⟨x1,c1⟩:=bi n1 iA;obtain⟨x2,c2⟩:=bi n2 iA;obtain⟨x3,c3⟩:=bi n3 iA;have xm:J1 (E b).tojo 189 (pO T.Q 0) (I X (j:Int))=U (pO T.Q j):=by rw[Dx b ⟨iA,iA⟩];simp
  have le:=U0s (Bl.wd l n) (Bl.wd l n1) (Bl.wd l n2) (Bl.wd l n3);obtain⟨y,ey⟩:∃ y,y=Bl.le4 (Bl.wd l n) (Bl.wd l n1) (Bl.wd l n2) (Bl.wd l n3):=⟨_,rfl⟩;rw[<- ey]at le;obtain⟨a0,f0⟩:∃ a,a=y9 (Bl.wd l n):=⟨_,rfl⟩;obtain⟨a1,f1⟩:∃ a,a=y9 (Bl.wd l n1):=⟨_,rfl⟩;obtain⟨a2,f2⟩:∃ a,a=y9 (Bl.wd l n2):=⟨_,rfl⟩;obtain⟨ho,f3⟩:∃ a,a=y9 (Bl.wd l n3):=⟨_,rfl⟩;obtain⟨s1,g1⟩:∃ s,s=Bp a1 8:=⟨_,rfl⟩;obtain⟨s2,g2⟩:∃ s,s=Bp a2 16:=⟨_,rfl⟩;obtain⟨s3,g3⟩:∃ s,s=Bp ho 24:=⟨_,rfl⟩;have k0:IntKind.u32.wrap ((Bl.wd l n:Nat):Int)=a0:=by rw[f0];rfl
  have k1:IntKind.u32.wrap ((Bl.wd l n1:Nat):Int)=a1:=by rw[f1];rfl
  have k2:IntKind.u32.wrap ((Bl.wd l n2:Nat):Int)=a2:=by rw[f2];rfl
  have k3:IntKind.u32.wrap ((Bl.wd l n3:Nat):Int)=ho:=by rw[f3];rfl
  have m1:ja (binOp .shl 124 (I .u32 a1) (I .u64 8))=U (I .u32 s1):=by rw[g1];exact Wbh a1
  have m2:ja (binOp .shl 124 (I .u32 a2) (I .u64 16))=U (I .u32 s2):=by rw[g2];exact NX a2
  have m3:ja (binOp .shl 124 (I .u32 ho) (I .u64 24))=U (I .u32 s3):=by rw[g3];exact NP ho
  have so:uP (uP (uP a0 s1) s2) s3=(y:Int):=by rw[g1,g2,g3,f0,f1,f2,f3];exact le
  have lM:=N.D gM;obtain⟨g',eg⟩:∃ g',g'=g.set T.Q (U (S Y 1 ((((Bl.words l).take j).map iG++List.replicate (16-j) (I .u32 0)).set j (I .u32 (y:Int))))):=⟨_,rfl⟩;have st:iN g T.Q j [I .u32 (y:Int)]=U g':=by rw[eg];exact nS gM (by grind)
  simp[pF,uu,uv,Vt,t1,t9,t15,hy];refine jf [] jA XZ.1 (by simp (config:={maxSteps:=1000000}) [XZ.2,Yjg,pF,uu,uv,Vt,t1,t9,v0,v1,v2,v3,x0,x1,x2,x3,c0,c1,c2,c3,xm,k0,k1,k2,k3,m1,m2,m3,BY,so,st];first | exact⟨rfl,rfl⟩ | rfl) ?_ ?_
  ·simp only[Yb,Y0,P3,ku,Ab.runT,Nat.testBit,Jn,Yk,Yh,Ym,loadAt,Wa,Yo,jm,Qg,iD,Ab.g0,gv,gs,Q8,Qd,Qw,iH,kH,lr,Qh,Tr.H,St.put,Tm.put,flat,iS,Y5,Qm,Qp,Qn,Qo,Qk,Ql,Qj,Qq,Y6,Qi,Q7,Q9,Qr,Q0,Qa,d8];simp
  simp[pF,uu,uv,Vt,t15,w0];refine⟨16-(j+1),iA,_,g',j+1,rfl,by simp[t1],by simp[t2],by simp[t3],by simp[t4],by simp[t8],by simp[t9],jA,iA,rfl,?_,by rw[eg];exact gn,fun c hc=>by rw[eg,gY lM,if_neg (Ne.symm hc)];grind⟩;rw[eg,gY lM,if_pos rfl];have ew:(Bl.words l)[j]? = U y:=by
   rw[Bl.words,b7,dc M1,ey,p3,a5,ha,en];rfl
  congr 2;rw[bD _ _ (by grind),aT,ew,show 16-j=(16-(j+1))+1 by omega,cy];simp[wl];rw[show j-min j 16=0 by omega];rfl
 have hy:¬ (j:Int) < 16:=iA
 have ej:j=16:=iA
 subst ej;rw[aj iA,dQ,List.replicate_zero,bS]at gM;have lM:=N.D gM;have a4:a_ h g:=⟨iA,fun c hc=>by rw[he c iA];exact a3.2 c hc⟩;obtain⟨h4,e4⟩:∃ h4,h4=g.push (S Y 1 (List.replicate 16 (I .u32 0))):=⟨_,rfl⟩;have r2:jd (E b).tojo 190 g=U (pO g.Q 0,h4):=by rw[e4];exact uv b g
 have gP:h4.A g.Q=U (S Y 1 (List.replicate 16 (I .u32 0))):=by rw[e4,N.F,if_pos rfl]
 have q4:=lT e4;have M':=jG e4;have o1:h4.A h.Q=U (S Y 1 (hs.map iG)):=M'.A (by grind);have sl:j8 (E b).tojo 190 (pO g.Q 0) O (U (I X 8)) O h4=U (M (U ⟨g.Q,0,O⟩) 8 16,h4)/\j8 (E b).tojo 126 (pO h.Q 0) O O O h4=U (M (U ⟨h.Q,0,O⟩) 8 8,h4):=⟨by kernel_rfl,by kernel_rfl⟩;have hz:=U91 b (o:=0) (c:=16) gP o1 (by simp[h8]) jA;obtain⟨h5,e5⟩:∃ h5,h5=h4.set g.Q (U (S Y 1 ((List.replicate 16 (I .u32 0)).take 0++hs.map iG++(List.replicate 16 (I .u32 0)).drop (0+8)))):=⟨_,rfl⟩;rw[<- e5]at hz;have lP:=N.D gP;have hf:h5.A g.Q=U (S Y 1 (hs.map iG++List.replicate 8 (I .u32 0))):=by rw[e5,gY lP,if_pos rfl];rfl
 have v':∀ c,c≠g.Q->h5.A c=h4.A c:=fun c hc=>by rw[e5,gY lP,if_neg (Ne.symm hc)]
 have q5:h5.Q=h4.Q:=by rw[e5];rfl
 have gb:h5.A 0=U (S J 0 sD):=by
  have hb:=laid (0,sD) (by simp[pA]);have lb:=N.D hb;rw[v' _ iA];exact M'.A (a4.A hb)
 have aA:j8 (E b).tojo 190 (pO g.Q 0) (U (I X 8)) O O h5=U (M (U ⟨g.Q,8,O⟩) 8 8,h5)/\j8 (E b).tojo 126 (pO 0 0) O O O h5=U (M (U ⟨0,0,O⟩) 8 8,h5):=⟨by kernel_rfl,by kernel_rfl⟩;have es:=U91 b (o:=8) (c:=8) hf gb (by rfl) (by simp[h8]);obtain⟨h6,e6⟩:∃ h6,h6=h5.set g.Q (U (S Y 1 ((hs++Bl.begins).map iG ++ []))):=⟨_,rfl⟩;have p2:(hs.map iG++List.replicate 8 (I .u32 0)).take 8++sD++(hs.map iG++List.replicate 8 (I .u32 0)).drop (8+8)=(hs++Bl.begins).map iG ++ []:=by
  rw[bm (by simp[h8]),aj (by simp[h8]),bG (by simp[h8]),bF];rfl
 rw[p2,<- e6]at es;have ht:=N.D hf;have W0:ng h6 h6 g.Q 1 [] (hs++Bl.begins):=⟨by rw[e6,gY ht,if_pos rfl],rfl,fun _ _=>rfl,by simp[h8,Bl.begins]⟩;have p1:∀ c,c≠g.Q->h6.A c=h4.A c:=fun c hc=>by rw[e6,gY ht,if_neg (Ne.symm hc),v' c hc]
 have q6:h6.Q=h4.Q:=by rw[e6];exact q5
 have pi:∀ p:Nat,p < 16->J1 (E b).tojo 190 (pO g.Q 0) (I X (p:Int))=U (pO g.Q p):=fun p hp=>by rw[By b ⟨iA,iA⟩];simp
 have hm:J1 (E b).tojo 190 (pO g.Q 0) (I X 12)=U (pO g.Q 12):=pi 12 iA;have hC:J1 (E b).tojo 190 (pO g.Q 0) (I X 13)=U (pO g.Q 13):=pi 13 iA;have lv:J1 (E b).tojo 190 (pO g.Q 0) (I X 14)=U (pO g.Q 14):=pi 14 iA;obtain⟨hD,re⟩:=U0k hs h8 count;obtain⟨hn,hx⟩:∃ y,y=Bl.xr 1359893119 (Bl.w32 count):=⟨_,rfl⟩;obtain⟨hu,hl⟩:∃ y,y=Bl.xr 2600822924 (Bl.w32 (Nat.div count 4294967296)):=⟨_,rfl⟩;have hr:=W0.cell (i:=12) iA;obtain⟨h7,s7,W1⟩:=W0.put (i:=12) iA hn;have hA:=W1.cell (i:=13) iA;obtain⟨hq,s8,W2⟩:=W1.put (i:=13) iA hu;have hB:=W2.cell (i:=14) iA;rw[hD]at hr;rw[(re _).1]at hA;rw[(re _).2]at hB;have hr:Zq h6 g.Q 12=U (I .u32 1359893119):=hr;have hA:Zq h7 g.Q 13=U (I .u32 2600822924):=hA;have hB:Zq hq g.Q 14=U (I .u32 528734635):=hB;obtain⟨cA,eA⟩:∃ y,y=Bl.w32 count:=⟨_,rfl⟩;obtain⟨cB,eB⟩:∃ y,y=Bl.w32 (Nat.div count 4294967296):=⟨_,rfl⟩;obtain⟨dv,ed⟩:∃ y:Int,y=Int.fdiv (count:Int) (2 ^ 32):=⟨_,rfl⟩;have vA:IntKind.u32.wrap (count:Int)=(cA:Int):=by rw[eA];exact xh count
 have vd:ja (binOp .shr 128 (I .u64 (count:Int)) (I .u64 32))=U (I .u64 dv):=by rw[ed];exact U7z _
 have vB:IntKind.u32.wrap dv=(cB:Int):=by rw[ed,eB];exact(congrArg IntKind.u32.wrap (U1e count)).trans (xh _)
 have r1:sW 1359893119 (cA:Int)=(hn:Int):=by rw[hx,<- eA];exact E1 1359893119 cA
 have aB:sW 2600822924 (cB:Int)=(hu:Int):=by rw[hl,<- eB];exact E1 2600822924 cB
 simp[pF,uu,uv,Vt,-Vt,t15,r2,-uv];refine jf [] jA UX.1 (by simp (config:={maxSteps:=1000000}) [UX.2,Ywd,pF,uu,uv,Vt,t4,sl.1,sl.2,hz];first | exact⟨rfl,rfl⟩ | rfl) ?_ ?_
 ·simp only[Yb,Y0,P5,ku,Ab.runT,Nat.testBit,Jn,Yk,Yh,Ym,loadAt,Wa,Yo,jm,Qg,iD,Ab.g0,gv,gs,Q8,Qd,Qw,iH,kH,lr,Qh,Tr.H,St.put,Tm.put,flat,iS,Y5,Qm,Qp,Qn,Qo,Qk,Ql,Qj,Qq,Y6,Qi,Q7,Q9,Qr,Q0,Qa,d8];simp
 simp[pF,uu,uv,Vt,-Vt];refine jf [] jA XY.1 (by simp (config:={maxSteps:=1000000}) [XY.2,Yt6,pF,uu,uv,Vt,SX,aA.1,aA.2,es];first | exact⟨rfl,rfl⟩ | rfl) ?_ ?_
 ·simp only[Yb,Y0,P4,ku,Ab.runT,Nat.testBit,Jn,Yk,Yh,Ym,loadAt,Wa,Yo,jm,Qg,iD,Ab.g0,gv,gs,Q8,Qd,Qw,iH,kH,lr,Qh,Tr.H,St.put,Tm.put,flat,iS,Y5,Qm,Qp,Qn,Qo,Qk,Ql,Qj,Qq,Y6,Qi,Q7,Q9,Qr,Q0,Qa,d8];simp
 have hw:∀ (tr:Tr V) (h9:N) (W3:ng h6 h9 g.Q 1 [] (Bl.first hs count last)),tr.A 4=U (pO h.Q 0)->tr.A 8=U (pO h1.Q 0)->tr.A 9=U (pO T.Q 0)->tr.A 11=U (pO g.Q 0) ->
   iO (E b) (pL Tryz.prog (E b).G) (D0 b) O KB ⟨⟨107,tr⟩,[],h9⟩ (pj (E b) (DD b) (FU 67) K):=by
  intro tr h9 W3 t4 t8 t9 hL;have k9:∀ c,c≠g.Q->h9.A c=h4.A c:=fun c hc=>by rw[W3.same c hc,p1 c hc]
  have o2:∀ c,c < g.Q->h9.A c=g.A c:=fun c hc=>by rw[k9 c iA];exact M'.2 c hc
  refine Ul3 b laid (A:=h1.Q) (M_:=T.Q) (ms:=Bl.words l) (c8:=List.replicate 8 (I .u32 0)) h8 (Ux1 hs h8 count last) wl ?_ (by simpa using W3.at') ?_ ?_ jA iA iA (ai _) iA iA iA iA ?_ t4 t8 t9 hL K fun h' a'=>hk h' a'
  ·grind
  ·grind
  ·grind
  ·exact⟨by rw[W3.Q,q6,q4];omega,fun c hc=>by rw[o2 c iA];exact a4.2 c hc⟩
 cases last with
 | false =>
  simp[pF,uu,uv,Vt,-Vt,t2,t3,hm,hC,hr,vA,vS,r1,s7,hA,vd,vB,aB,s8];refine hw _ hq ?_ ?_ ?_ ?_ ?_
  rotate_left
  ·simp[t4]
  ·simp[t8]
  ·simp[t9]
  ·simp
  have : ((hs++Bl.begins).set 12 hn).set 13 hu=Bl.first hs count J:=by rw[hx,hl];rfl
  grind
 | true =>
  obtain⟨h9,s9,W3⟩:=W2.put (i:=14) iA 3766232660;have ev:iN hq g.Q 14 [I .u32 3766232660]=U h9:=s9;simp[pF,uu,uv,Vt,-Vt,t2,t3,hm,hC,hr,vA,vS,r1,s7,hA,vd,vB,aB,s8,lv,hB,Z',ev];refine hw _ h9 ?_ ?_ ?_ ?_ ?_
  rotate_left
  ·simp[t4]
  ·simp[t8]
  ·simp[t9]
  ·simp
  have : (((hs++Bl.begins).set 12 hn).set 13 hu).set 14 3766232660=Bl.first hs count Y:=by rw[hx,hl];rfl
  grind
end
set_option maxRecDepth 1000000
def yR:List V:=[I .u8 253,I X 2,I .u64 253,I .u8 254,I X 4,I .u64 65536,I .u8 255,I X 8,I .u64 4294967296]
def laidAll:List (Nat × List V):=[(0,sD),(1,yR),(2,wq)]
def jI(j:List Nat):Nat->Nat->List Nat
 | 0,_=>[]
 | n+1,i=>Bl.keyed j [i]++jI j n (Nat.succ i)
end Go.Proofs.YtmgonkaadhbnpaaGreatDoor
end
