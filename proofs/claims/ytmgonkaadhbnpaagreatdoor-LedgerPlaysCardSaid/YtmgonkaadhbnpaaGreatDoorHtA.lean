import Derived.Test.YtmgonkaadhbnpaaGreatDoorTxA
import Derived.Test.YtmgonkaadhbnpaaGreatDoorScA
import Derived.Test.YtmgonkaadhbnpaaGreatDoorScB
set_option linter.all false
open List renaming length→L
open Option renaming some→U,none→O
open Bool renaming true→Y,false→J
open Go renaming Value→V
open Go.Value renaming int→I,slice→M
open Go.IntKind renaming i64→X
open Go.Ab.Blk renaming cells→S
noncomputable section
namespace Go.Proofs.YtmgonkaadhbnpaaGreatDoor
open Go Go.Ab
set_option maxRecDepth 100000
variable(b:Nat)(n:Int){h:N}
inductive ke where
 | push (v:V) (xs:List Int)
 | code (c:Int)
def ke.val:ke->V
 | .push v _ => .iface 31 v
 | .code c => .iface 3 (I X c)
def ke.op:ke->mr
 | .push v j=>⟨L j,j,v⟩
 | .code c=>⟨c,[],M O 0 0⟩
def Wc2(h:N):ke->Prop
 | .push v j=>SB h v j/\L j<=1000
 | .code _=>True
def Uuy(z:Int){v:V}{h:N}{n:Nat}{xs:List V}(s:Sl h 1 v n xs):jP (E b).tojo 156 [(0,I X z),(1,v)]=U (.agg ⟨[I X z,v]⟩):=by
 rcases s with⟨c,rfl,_⟩ | ⟨j,o,c,ow,C,pre,post,rfl,_⟩
 ·kernel_rfl
 ·kernel_rfl
def OPI(sv:V)(l:List ke)(h:N)(k:Nat)(s:St):Prop:=∃ (t:Tr V) (h1:N) (o:V) (i:Nat),s=⟨⟨36,t⟩,[],h1⟩/\t.A 3=U o/\t.A 8=U sv/\t.A 9=U (I X (L l:Int))/\t.A 10=U (I X (i:Int))/\i<=L l/\k=L l-i/\a_ h h1/\ij h1 h.Q 2 o i (rh ((l.take i).map ke.op))
attribute [local simp] Qw p6 p7 X0 p_ p9 p5 qd qc Q6 Qt Yg Y6 jm Qg iD Ab.g0 gv gs Q8 Qd iH kH lr Qh Tr.H St.put Tm.put flat iS Y5 Qm Qp Qn Qo Qk Ql Qj Qq Qi Q7 Q9 pZ pX pW pY qn qk qj qf qg qi qq Qz.putAll Qr Q0 Qa Wa ku Yk Jn Yo Nat.testBit Y0 loadAt Ab.runT Ym Yb Yh
section
def U8o{sv:V}{l:List ke}(s:Sl h 1 sv (L l) (l.map ke.val))(hn:L l < 1000)(ha:∀ a ∈ l,Wc2 h a)(K:KP)(hk:∀ v h',OB h' h.Q v (vW (l.map ke.op))->a_ h h'->K (.ret v) h') :
  FK b 62 [sv] h K:=by
 refine ip b (BL b) V1i rfl ?_;have hr:∃ rs,(E b).tojo.ty.A 183=U rs/\rs.desc=.slice 20:=⟨((E b).tojo.ty.A 183).getD ⟨.invalid,0,0,.bool J,[]⟩,by kernel_rfl,by kernel_rfl⟩;have len:∀ P,iC (E b).tojo 183 sv P=U (I X (L l:Int)):=fun P=>iT (Wc4 b) s;have hl:∀ v,zN (E b).tojo (.iface 31 v) 31 Y=U (.tuple #[v,.bool Y]):=fun v=>by kernel_rfl
 have h3:∀ z,zN (E b).tojo (.iface 3 (I X z)) 31 Y=U (.tuple #[M O 0 0,.bool J]):=fun v=>by kernel_rfl
 have hb:∀ z,zN (E b).tojo (.iface 3 (I X z)) 3 Y=U (.tuple #[I X z,.bool Y]):=fun v=>by kernel_rfl
 simp[Cw,EI,BL,EU,BA,len];refine iV (OPI sv l h) (L l) ⟨_,h,M O 0 0,0,rfl,jA,jA,jA,jA,iA,rfl,a_.refl _,by simpa[rh]using ij.nil⟩ ?_;rintro k s' ⟨t,h1,o,i,rfl,t3,t8,t9,t10,hi,rfl,j,oo⟩ _;by_cases hA:i < L l
 ·have C:(i:Int) < (L l:Int):=iA
  obtain⟨x,P⟩:∃ x,l[i]? = U x:=⟨_,ac hA⟩;have hw:=wS (i:=i) iA;obtain⟨bk,off,q1,q2,q3, -⟩:=mQ (Wc4 b) Um7 (s.R j) (k:=.i64) (i:=(i:Int)) iA iA;have q4:Zq h1 bk off=U x.val:=by
   grind
  have tk:(l.take (i+1)).map ke.op=(l.take i).map ke.op ++ [x.op]:=by rw[aT,P];simp
  have T:rh ((l.take (i+1)).map ke.op)=rh ((l.take i).map ke.op)++x.op.cells:=by rw[tk];simp[rh]
  obtain⟨v',h2,k1,k2,k3⟩:=Ca (wX b) (z:=2) xR iA oo j.1 (ys:=x.op.cells) rfl (by rw[Sc];omega) iA;have bl:V6 (E b).tojo 149 1 [(0,.agg ⟨x.op.cells⟩)] h1=U (M (U ⟨h1.Q,0,O⟩) 1 1,h1.push (S Y 1 x.op.cells)):=oL (wX b) (z:=2) xR iA iA rfl rfl rfl;have a2:a_ h h2:=k3.R j oo;have hc:=ha x (ae P);cases x with
  | push v xs =>
   have lv:=fun P=>j_ (b:=b) (h1:=P) hc.1;simp only[ke.op,mr.cells]at bl k1;simp only[ke.val]at q4;simp[Cw,EI,BL,EU,BA,t3,t8,t9,t10,C,q2,q4,hl,lv,Uuy b _ hc.1,bl,k1,hw];exact⟨L l-(i+1),iA,_,h2,v',i+1,rfl,jA,by simp[t8],by simp[t9],jA,iA,rfl,a2,by rw[T];exact k2⟩
  | code c =>
   simp only[ke.op,mr.cells]at bl k1;simp only[ke.val]at q4;simp[Cw,EI,BL,EU,BA,t3,t8,t9,t10,C,q2,q4,h3,hb,B',bl,k1,hw];exact⟨L l-(i+1),iA,_,h2,v',i+1,rfl,jA,by simp[t8],by simp[t9],jA,iA,rfl,a2,by rw[T];exact k2⟩
 ·have C:¬ (i:Int) < (L l:Int):=iA
  have : i=L l:=iA
  subst this;rw[bH]at oo;simp[Cw,EI,BL,EU,BA,t3,t8,t9,t10];have ln:L (l.map ke.op)=L l:=jA
  refine U8i b (os:=l.map ke.op) (by rw[ln];exact oo.sl) (fun p hp => ?_) (by simpa using hn) (fun p hp => ?_) _ fun v h2 o2 a2 => ?_
  ·obtain⟨x,P,rfl⟩:=am.1 hp;have:=ha x P;cases x with
   | push v xs=>exact this.1.R j
   | code c=>exact Sl.nil
  ·obtain⟨x,P,rfl⟩:=am.1 hp;have:=ha x P;cases x with
   | push v xs=>exact this.2
   | code c=>exact bw _
  ·simp[Cw,EI,BL,EU,BA];exact hk v h2 (o2.low j.1) (j.trans a2)
def U7y(h:N)(K:KP)(j:∀ h',SB h' (M (U ⟨h.Q,0,O⟩) 1 1) [IntKind.u8.wrap n]->a_ h h'->K (.ret (M (U ⟨h.Q,0,O⟩) 1 1)) h'):FK b 63 [I X n] h K:=by
 refine ip b (ME b) Vzs rfl ?_;simp[TK,Ui3,ME,qB,Vv,Vu,ua];exact j _ (SB.push (xs:=[IntKind.u8.wrap n]) jA) (a_.push _ _)
end
def rq(o:Int):List Int:=[1,IntKind.u8.wrap o,134]
section
attribute [local simp] VZ Zyg Kk qB ME U6y Wc3 BL
def U32(h:N)(K:KP)(hk:∀ v h',OB h' h.Q v (rq n)->a_ h h'->K (.ret v) h'):FK b 23 [I X n] h K:=by
 refine ip b (Kk b) V2b rfl ?_;simp;refine U7y b n h _ fun h1 s1 a1 => ?_;obtain⟨l,j⟩:∃ l:List ke,l=[.push (M (U ⟨h.Q,0,O⟩) 1 1) [IntKind.u8.wrap n],.code 134]:=⟨_,rfl⟩;obtain⟨C,T⟩:∃ C,C=h1.push (S Y 1 (l.map ke.val)):=⟨_,rfl⟩;have P:=jG T;have bl:V6 (E b).tojo 183 2 [(0,.iface 31 (M (U ⟨h.Q,0,O⟩) 1 1)),(1,.iface 3 (I X 134))] h1=U (M (U ⟨h1.Q,0,O⟩) 2 2,C):=by rw[T,j];kernel_rfl
 have ss:Sl C 1 (M (U ⟨h1.Q,0,O⟩) 2 2) (L l) (l.map ke.val):=by
  rw[show L l=2 by grind];exact(ij.new (n0:=0) (z:=1) (n:=2) (bw _) (by rw[T,N.F,if_pos rfl]) (by grind) kA (.inr rfl)).sl
 simp[bl];refine U8o b ss (by rw[j];simp) (fun a ha => ?_) _ fun v h2 o2 a2 => ?_
 ·rw[j]at ha;simp only[ar,ct,or_false]at ha;rcases ha with rfl | rfl
  ·exact⟨s1.R P,jA⟩
  ·trivial
 ·simp;refine hk v h2 ?_ (a1.trans (P.trans a2));have e:vW (l.map ke.op)=rq n:=by
   rw[j];simp[vW,ke.op,rq];decide
  rw[e]at o2;exact o2.low (a1.trans P).1
end
structure Ht where
 hash:List Nat
 claimer:Int
 refunder:Int
 til:Int
 hd:L hash=32
def Ht.cells(x:Ht):List V:=x.hash.map dk ++ [I X x.claimer,I X x.refunder,I X x.til]
structure lU (h:N) (n0:Nat) (wv:V) (its:List (V × List Int)) (w:List (List Int)):Prop where
 s:ij h n0 1 wv (L its) (its.map (·.1))
 i:∀ p ∈ its,OB h n0 p.1 p.2/\Bytes p.2
 e:its.map (·.2)=w
def lU.keep{h':N}{n0:Nat}{wv:V}{its:List (V × List Int)}{w:List (List Int)}(a:lU h n0 wv its w)(k:∀ c,n0<=c->c < h.Q->h'.A c=h.A c):lU h' n0 wv its w :=
 ⟨a.s.keep fun c j C=>k c (a.s.from j).1 C,fun p P=>⟨(a.i p P).1.keep fun c j C=>k c ((a.i p P).1.from j).1 C,(a.i p P).2⟩,a.e⟩
def lU.inAt{n0:Nat}{p:Pt}{wv:V}{its:List (V × List Int)}{w:List (List Int)}(a:lU h n0 wv its w)(P:L w < 1000000)(C:∀ x ∈ w,L x < 1000000):ma h ⟨p,wv,its⟩:=by
 refine⟨a.s.sl,fun p j=>⟨(a.i p j).1.sl,(a.i p j).2⟩,?_,fun p j => ?_⟩
 ·have:=congrArg List.length a.e
  grind
 ·exact gu (C _ (by rw[<- a.e];grind)) kA
def U1h(B o:Nat)(h:N):j8 (E b).tojo 186 (pO B o) O O O h=U (M (U ⟨B,o,O⟩) 16 16,h):=kR
def lF(z:Int):V:=I X z
def Wa2(new j:List g_)(x:g_)(wv:V)(its:List (V × List Int)):(my (new++x::j)).set (L new*34+33) wv=my (new++⟨x.pt,wv,its⟩::j):=by
 have C:∀ (l r:List g_),my (l++r)=my l++my r:=fun l r=>by simp[my]
 have P:∀ (y:g_) (r:List g_),my (y::r)=y.cells++my r:=fun y r=>by simp[my]
 rw[C,C,P,P,bD _ _ (by rw[Lm];omega),Lm];congr 1;rw[show L new*34+33-L new*34=33 by omega,ff _ _ (by rw[g_.len];omega)];congr 1;rw[g_.cells,bD _ _ (by rw[Pt.len];omega),Pt.len];rfl
inductive Made where
 | no (e:Int)
 | ok (t:mL)
def vU:List V:=iz (M O 0 0) (M O 0 0) 0
def Ot(t:mL)(w:List (List Int)):mL:=⟨t.ins.map fun x=>⟨x.pt,w⟩,t.outs,t.lock⟩
def Usd(k d:List Nat):L (na k d)=16:=by
 have j:L (Bl.keyed1 k d)=32:=oR _;simp[na,j]
def U0i(k d:List Nat):∀ n ∈ na k d,n < 256:=fun n j=>BQ _ n (cO j)
def Uzi(p:Pt):jP (E b).tojo 96 [(0,.agg ⟨p.cells⟩)]=U (.agg ⟨p.cells ++ [M O 0 0]⟩):=by
 obtain⟨C,pl,P,hc,T⟩:∃ C pl,tS.desc=.struct C/\uq (E b).tojo C.toList=U pl/\iD pl 0=U (0,33) :=
  ⟨(match tS.desc with | .struct C=>C | _ => #[]),(uq (E b).tojo (match tS.desc with | .struct C=>C | _ => #[]).toList).getD [],by kernel_rfl,by kernel_rfl,by kernel_rfl⟩
 obtain⟨j,ez,hz,hx⟩:∃ j:List V,j=tS.zero.cells.toList/\L j=34/\j.drop 33=[M O 0 0]:=⟨_,rfl,by kernel_rfl,by kernel_rfl⟩;have e2:(mg (.agg ⟨p.cells⟩) && (Value.agg ⟨p.cells⟩).cells.size == 33 && Nat.ble (0+33) (L j))=Y:=by
  have h1:(Value.agg ⟨p.cells⟩).cells.size=33:=p.len;rw[h1,hz];rfl
 have e3:kZ j 0 (Value.agg ⟨p.cells⟩).cells.toList=U (p.cells++j.drop 33):=by
  show kZ j 0 p.cells=_;rw[q_ (by rw[p.len,hz];omega)];simp[p.len]
 simp only[jP,yZ,P,hc,<- ez,oQ,T,e2,if_true,e3,hx,aQ]
def rF:List Nat:=[107,101,121,115]
def x7:List Nat:=jI rF 32 1
def ub:L x7=1024:=LR _ _ _
def CL(v n:Int):Int:=if Int.tmod v n < 0 then Int.tmod v n+n else Int.tmod v n
def Uz0(v:Int){n:Int}(C:0 < n):0<=CL v n/\CL v n < n:=by
 unfold CL;have h1:=Int.tmod_lt_of_pos v C;have j : -n < Int.tmod v n:=by
  have h1:=Int.natAbs_tmod v n;have j:=eN v.natAbs (y:=n.natAbs) iA;omega
 omega
def qP.ext' {a c:qP}(h1:a.pt=c.pt)(j:a.wit=c.wit):a=c:=by cases a;simp_all
def jx.ext' {a c:jx}(h1:a.value=c.value)(j:a.script=c.script):a=c:=by cases a;simp_all
def mL.ext' {a c:mL}(h1:a.ins=c.ins)(j:a.outs=c.outs)(C:a.lock=c.lock):a=c:=by cases a;simp_all
instance : DecidableEq qP:=fun a c=>if h:a.pt=c.pt/\a.wit=c.wit then isTrue (qP.ext' h.1 h.2)else isFalse fun e=>h (by grind)
instance : DecidableEq jx:=fun a c=>if h:a.value=c.value/\a.script=c.script then isTrue (jx.ext' h.1 h.2)else isFalse fun e=>h (by grind)
instance : DecidableEq mL:=fun a c=>if h:a.ins=c.ins/\a.outs=c.outs/\a.lock=c.lock then isTrue (mL.ext' h.1 h.2.1 h.2.2)else isFalse fun e=>h (by grind)
def Sr{A:Type}{l m:List A}{i:Nat}{x y:A}(j:l[i]? = U x)(C:m[i]? = U y)(h:l.take i=m.take i)(e:x=y):l.take (i+1)=m.take (i+1):=by
 rw[aT,aT,h,j,C,e]
def Gw{A:Type}{l m:List A}{i:Nat}{x y:A}(j:l[i]? = U x)(C:m[i]? = U y)(e:x≠y):l≠m:=fun q=>e (by grind)
def Lj:∀ {n:Nat} {l:List V},L l < n->nQ n l=O
 | 0,l,h=>by omega
 | n+1,[],_=>rfl
 | n+1,v::l,h=>by simp[nQ,Lj (n:=n) (l:=l) (by grind)]
def SNE(v1 v2:V)(l m:List (List Int))(h:N)(k:Nat)(s:St):Prop:=∃ (t:Tr V) (i:Nat),s=⟨⟨27,t⟩,[],h⟩/\t.A 0=U v1/\t.A 1=U v2/\t.A 5=U (I X (i:Int))/\i<=L l/\k=L l-i/\l.take i=m.take i
section
attribute [local simp] Qlk Qsl Q1 ki Uu ki v_ Z8 Yd ki Kh zx
def Vv4{v1 v2:V}{l1 l2:List (V × List Int)}(s1:Sl h 1 v1 (L l1) (l1.map (·.1)))(i1:km h l1)(s2:Sl h 1 v2 (L l2) (l2.map (·.1)))(i2:km h l2)(hn:L l1 < 5864062014805)(hl:∀ p ∈ l1,L p.2 < 140737488355328)(K:KP)(hk:K (.ret (.bool (decide (l1.map (·.2)=l2.map (·.2))))) h):FK b 175 [v1,v2] h K:=by
 refine ip b (Q1 b) Zwq rfl ?_;have jR:∀ C,iC (E b).tojo 94 v1 C=U (I X (L l1:Int)):=fun C=>iT (kB b) s1;have T:∀ C,iC (E b).tojo 94 v2 C=U (I X (L l2:Int)):=fun C=>iT (kB b) s2;by_cases hA:L l1=L l2
 case neg =>
  have j:¬ (L l1:Int)=(L l2:Int):=iA
  have ho:¬ l1.map (·.2)=l2.map (·.2):=fun e=>hA (by have:=congrArg List.length e;grind);rw[decide_eq_false ho]at hk;simp[jR,T,j];exact hk
 have j:(L l1:Int)=(L l2:Int):=iA
 simp[jR,T,j];refine iV (SNE v1 v2 (l1.map (·.2)) (l2.map (·.2)) h) (L (l1.map (·.2))) ⟨_,0,rfl,jA,jA,jA,iA,rfl,rfl⟩ ?_;rintro k s' ⟨t,i,rfl,t0,t1,t5,hi,rfl,hq⟩ _;rw[bo]at hi ⊢;by_cases hy:i < L l1
 ·have P:(i:Int) < (L l1:Int):=iA
  have hw:=wS (i:=i) iA;obtain⟨⟨w1,x1⟩,p1⟩:∃ p,l1[i]? = U p:=⟨_,ac hy⟩;obtain⟨⟨w2,x2⟩,p2⟩:∃ p,l2[i]? = U p:=⟨_,ac iA⟩;obtain⟨h2,o1, -,a1,c1, -⟩:=mQ (kB b) oT s1 (k:=.i64) (i:=(i:Int)) iA iA;obtain⟨hb,o2, -,a2,c2, -⟩:=mQ (kB b) oT s2 (k:=.i64) (i:=(i:Int)) iA iA;have hr:Zq h h2 o1=U w1:=by grind
  have h3:Zq h hb o2=U w2:=by grind
  obtain⟨_,_,q1,n1,rfl,rfl⟩:=GR b (i1 _ (ae p1)).1 (i2 _ (ae p2)).1 (by grind) (fun r h'=>r=.ret (.bool (decide (x1=x2)))/\h=h') ⟨rfl,rfl⟩;have e1:(l1.map (·.2))[i]? = U x1:=by simp[p1]
  have e2:(l2.map (·.2))[i]? = U x2:=by simp[p2]
  simp[t0,t1,t5,jR,P];refine jf [⟨33,[w1,w2],h,.bool (decide (x1=x2)),h,Y⟩] ?_ UO.1 (by simp[UO.2,Zpk,t0,t1,t5,a1,a2,hr,h3];first | exact⟨rfl,rfl⟩ | rfl) ?_ ?_
  ·exact nK ⟨q1,n1,fun _ c hc=>rfl⟩
  ·simp[PK]
  by_cases C:x1=x2
  ·simp[t0,t1,t5,C,hw];exact⟨L l1-(i+1),iA,_,i+1,rfl,by simp[t0],by simp[t1],jA,by simp;omega,jA,Sr e1 e2 hq C⟩
  ·rw[decide_eq_false (Gw e1 e2 C)]at hk;simp[t0,t1,t5,C];exact hk
 ·have P:¬ (i:Int) < (L l1:Int):=iA
  have hp:i=L l1:=iA
  subst hp;rw[aj jA,aj (by simp;omega)]at hq;rw[decide_eq_true hq]at hk;simp[t0,t1,t5,jR];exact hk
end
def CK{b:Nat}{h:N}{v:V}{l:List g_}(s:Sl h 34 v (L l) (my l)){i:Nat}{x:g_}(hp:l[i]? = U x){bk off:Nat}(ha:J1 (E b).tojo 45 v (I X (i:Int))=U (pO bk off)):iy h bk off 33=U (.agg ⟨x.pt.cells⟩):=by
 obtain⟨hc,T, -,P,j, -⟩:=qF (b:=b) (kK b) nI s hp;rw[ha]at P;simp only[aU,Value.pointer.injEq,Addr.mk.injEq]at P;obtain⟨rfl,rfl, -⟩:=P;unfold iy at j ⊢;cases hg:h.A bk with
 | none=>grind
 | some y =>
  rw[hg]at j;cases y with
  | cells ow z c =>
   simp only at j ⊢;rw[au]at j;obtain⟨r,hr,e⟩:=j;simp only[fJ,fR]at e;have C:34<=L (c.drop off):=by
    rcases cf (L (c.drop off)) 34 with q | q
    ·have : nQ 34 (c.drop off)=O:=Lj q
     grind
    ·exact q
   rw[th C]at hr;have e2:(c.drop off).take 34=x.cells:=by grind
   rw[th iA,<- B5 x,<- e2,fN];rfl
  | _=>cases j
def SIE(v1 v2:V)(l m:List qP)(h:N)(k:Nat)(s:St):Prop:=∃ (t:Tr V) (i:Nat),s=⟨⟨42,t⟩,[],h⟩/\t.A 0=U v1/\t.A 1=U v2/\t.A 5=U (I X (i:Int))/\i<=L l/\k=L l-i/\l.take i=m.take i
section
attribute [local simp] Qk2 Qrh QR ki Uu ki v_ Jt ph Wc U1 Q1 ki Kh zx
def Uog{v1 v2:V}{l1 l2:List g_}(s1:Ins h v1 l1)(s2:Ins h v2 l2)(K:KP)(hk:K (.ret (.bool (decide (l1.map g_.p=l2.map g_.p)))) h):FK b 140 [v1,v2] h K:=by
 refine ip b (QR b) Jhg rfl ?_;have hn:=s1.n;have jR:∀ hx,iC (E b).tojo 45 v1 hx=U (I X (L l1:Int)):=fun hx=>iT (kK b) s1.s;have hl:∀ hx,iC (E b).tojo 45 v2 hx=U (I X (L l2:Int)):=fun hx=>iT (kK b) s2.s;by_cases hA:L l1=L l2
 case neg =>
  have j:¬ (L l1:Int)=(L l2:Int):=iA
  have ho:¬ l1.map g_.p=l2.map g_.p:=fun e=>hA (by have:=congrArg List.length e;grind);rw[decide_eq_false ho]at hk;simp[jR,hl,j];exact hk
 have j:(L l1:Int)=(L l2:Int):=iA
 simp[jR,hl,j];refine iV (SIE v1 v2 (l1.map g_.p) (l2.map g_.p) h) (L (l1.map g_.p)) ⟨_,0,rfl,jA,jA,jA,iA,rfl,rfl⟩ ?_;rintro k s' ⟨t,i,rfl,t0,t1,t5,hi,rfl,hq⟩ _;rw[bo]at hi ⊢;by_cases hy:i < L l1
 ·have h2:(i:Int) < (L l1:Int):=iA
  have hw:=wS (i:=i) iA;obtain⟨P,p1⟩:∃ p,l1[i]? = U p:=⟨_,ac hy⟩;obtain⟨T,p2⟩:∃ p,l2[i]? = U p:=⟨_,ac iA⟩;obtain⟨hb,o1, -,a1, -,c1⟩:=qF (b:=b) (kK b) nI s1.s p1;obtain⟨hr,o2, -,a2, -,c2⟩:=qF (b:=b) (kK b) nI s2.s p2;have g1:iy h hb o1 33=U (.agg ⟨P.pt.cells⟩):=CK s1.s p1 (b:=b) a1;have g2:iy h hr o2 33=U (.agg ⟨T.pt.cells⟩):=CK s2.s p2 (b:=b) a2;have w1:Zq h hb (o1+33)=U P.wv:=by rw[c1 33 iA,Bu]
  have w2:Zq h hr (o2+33)=U T.wv:=by rw[c2 33 iA,Bu]
  have i1:=s1.a P (ae p1);have i2:=s2.a T (ae p2);obtain⟨_,_,q1,n1,rfl,rfl⟩:=Vv4 b i1.w i1.i i2.w i2.i i1.n i1.l (fun r h'=>r=.ret (.bool (decide (P.its.map (·.2)=T.its.map (·.2))))/\h=h') ⟨rfl,rfl⟩;have e1:(l1.map g_.p)[i]? = U P.p:=by simp[p1]
  have e2:(l2.map g_.p)[i]? = U T.p:=by simp[p2]
  obtain⟨db,h3⟩:∃ db:Bool,db=decide (P.its.map (·.2)=T.its.map (·.2)):=⟨_,rfl⟩;rw[<- h3]at q1;simp[t0,t1,t5,jR,h2];by_cases C:P.pt=T.pt
  case neg =>
   refine jf [] jA Hj.1 (by simp[Hj.2,ZF,YK,t0,t1,t5,a1,a2,g1,g2,DR,C];first | exact⟨rfl,rfl⟩ | rfl) ?_ ?_
   ·simp[JQ]
   rw[decide_eq_false (Gw e1 e2 fun e=>C (by have:=congrArg qP.pt e;exact this))]at hk;simp[t0,t1,t5];exact hk
  refine jf [⟨175,[P.wv,T.wv],h,.bool db,h,Y⟩] ?_ Hj.1 (by simp[Hj.2,ZF,YK,t0,t1,t5,a1,a2,g1,g2,w1,w2,DR,C];first | exact⟨rfl,rfl⟩ | rfl) ?_ ?_
  ·exact nK ⟨q1,n1,fun _ c hc=>rfl⟩
  ·simp[JQ]
  by_cases hx:P.its.map (·.2)=T.its.map (·.2)
  ·have hd:db=Y:=by grind
   simp[t0,t1,t5,hd,hw];exact⟨L l1-(i+1),iA,_,i+1,rfl,by simp[t0],by simp[t1],jA,by simp;omega,jA,Sr e1 e2 hq (qP.ext' C hx)⟩
  ·have hd:db=J:=by grind
   rw[decide_eq_false (Gw e1 e2 fun e=>hx (by have:=congrArg qP.wit e;exact this))]at hk;simp[t0,t1,t5,hd];exact hk
 ·have h2:¬ (i:Int) < (L l1:Int):=iA
  have hp:i=L l1:=iA
  subst hp;rw[aj jA,aj (by simp;omega)]at hq;rw[decide_eq_true hq]at hk;simp[t0,t1,t5,jR];exact hk
end
def SOE(v1 v2:V)(l m:List jx)(h:N)(k:Nat)(s:St):Prop:=∃ (t:Tr V) (i:Nat),s=⟨⟨42,t⟩,[],h⟩/\t.A 0=U v1/\t.A 1=U v2/\t.A 5=U (I X (i:Int))/\i<=L l/\k=L l-i/\l.take i=m.take i
section
attribute [local simp] Qiu Qor J6 ki Uu ki v_ Jy V0 Ya J0 Z8 Yd ki Kh zx
def J5j{v1 v2:V}{l1 l2:List bN}(s1:jg h v1 l1)(s2:jg h v2 l2)(K:KP)(C:K (.ret (.bool (decide (l1.map bN.p=l2.map bN.p)))) h):FK b 11 [v1,v2] h K:=by
 refine ip b (J6 b) Ja9 rfl ?_;have hn:=s1.n;have jR:∀ T,iC (E b).tojo 22 v1 T=U (I X (L l1:Int)):=fun T=>iT (kD b) s1.s;have h2:∀ T,iC (E b).tojo 22 v2 T=U (I X (L l2:Int)):=fun T=>iT (kD b) s2.s;by_cases hr:L l1=L l2
 case neg =>
  have j:¬ (L l1:Int)=(L l2:Int):=iA
  have hp:¬ l1.map bN.p=l2.map bN.p:=fun e=>hr (by have:=congrArg List.length e;grind);rw[decide_eq_false hp]at C;simp[jR,h2,j];exact C
 have j:(L l1:Int)=(L l2:Int):=iA
 simp[jR,h2,j];refine iV (SOE v1 v2 (l1.map bN.p) (l2.map bN.p) h) (L (l1.map bN.p)) ⟨_,0,rfl,jA,jA,jA,iA,rfl,rfl⟩ ?_;rintro k s' ⟨t,i,rfl,t0,t1,t5,hi,rfl,hq⟩ _;rw[bo]at hi ⊢;by_cases h3:i < L l1
 ·have P:(i:Int) < (L l1:Int):=iA
  have hw:=wS (i:=i) iA;obtain⟨x1,p1⟩:∃ p,l1[i]? = U p:=⟨_,ac h3⟩;obtain⟨x2,p2⟩:∃ p,l2[i]? = U p:=⟨_,ac iA⟩;obtain⟨hA,o1, -,a1, -,c1,w1⟩:=qO (b:=b) (kD b) mR s1.s p1;obtain⟨hy,o2, -,a2, -,c2,w2⟩:=qO (b:=b) (kD b) mR s2.s p2;have i1:=s1.a x1 (ae p1);have i2:=s2.a x2 (ae p2);obtain⟨_,_,q1,n1,rfl,rfl⟩:=GR b i1.s i2.s (by have:=i1.l;omega) (fun r h'=>r=.ret (.bool (decide (x1.script=x2.script)))/\h=h') ⟨rfl,rfl⟩;have e1:(l1.map bN.p)[i]? = U x1.p:=by simp[p1]
  have e2:(l2.map bN.p)[i]? = U x2.p:=by simp[p2]
  obtain⟨db,hl⟩:∃ db:Bool,db=decide (x1.script=x2.script):=⟨_,rfl⟩;rw[<- hl]at q1;simp[t0,t1,t5,jR,P];by_cases hv:x1.value=x2.value
  case neg =>
   refine jf [] jA Hl.1 (by simp[Hl.2,Wt,ZH,t0,t1,t5,a1,a2,c1,c2,hv];first | exact⟨rfl,rfl⟩ | rfl) ?_ ?_
   ·simp[JZ]
   rw[decide_eq_false (Gw e1 e2 fun e=>hv (by have:=congrArg jx.value e;exact this))]at C;simp[t0,t1,t5];exact C
  refine jf [⟨33,[x1.sv,x2.sv],h,.bool db,h,Y⟩] ?_ Hl.1 (by simp[Hl.2,Wt,ZH,t0,t1,t5,a1,a2,c1,c2,w1,w2,hv];first | exact⟨rfl,rfl⟩ | rfl) ?_ ?_
  ·exact nK ⟨q1,n1,fun _ c hc=>rfl⟩
  ·simp[JZ]
  by_cases T:x1.script=x2.script
  ·have hd:db=Y:=by grind
   simp[t0,t1,t5,hd,hw];exact⟨L l1-(i+1),iA,_,i+1,rfl,by simp[t0],by simp[t1],jA,by simp;omega,jA,Sr e1 e2 hq (jx.ext' hv T)⟩
  ·have hd:db=J:=by grind
   rw[decide_eq_false (Gw e1 e2 fun e=>T (by have:=congrArg jx.script e;exact this))]at C;simp[t0,t1,t5,hd];exact C
 ·have P:¬ (i:Int) < (L l1:Int):=iA
  have hb:i=L l1:=iA
  subst hb;rw[aj jA,aj (by simp;omega)]at hq;rw[decide_eq_true hq]at C;simp[t0,t1,t5,jR];exact C
end
section
attribute [local simp] Q1i Xew PS Ux V0 Ya J4 tY QR Jc uK J6 Q5v Q2t Q0t
def Uwm{iv ov T hc:V}{ins C:List g_}{outs j:List bN}{lock lock2:Int}(s1:Ins h iv ins)(o1:jg h ov outs)(s2:Ins h T C)(o2:jg h hc j)(K:KP)(hk:∀ h',a_ h h'->K (.ret (.bool (decide (iX ins outs lock=iX C j lock2)))) h') :
  FK b 94 [.agg ⟨iz iv ov lock⟩,.agg ⟨iz T hc lock2⟩] h K:=by
 refine ip b (PS b) Jr3 rfl ?_;obtain⟨hA,eA,aA,gA⟩:=kQ h ((iz iv ov lock));have h2:=kE eA;obtain⟨P,eB,aB,gB⟩:=kQ hA ((iz T hc lock2));have hl:=kE eB;have hx:=aB.A gA;have a0:Zq P h.Q 0=U iv:=by rw[Z2 hx];rfl
 have a1:Zq P h.Q 1=U ov:=by rw[Z2 hx];rfl
 have a2:Zq P h.Q 2=U (I X lock):=by rw[Z2 hx];rfl
 have b0:Zq P hA.Q 0=U T:=by rw[Z2 gB];rfl
 have b1:Zq P hA.Q 1=U hc:=by rw[Z2 gB];rfl
 have b2:Zq P hA.Q 2=U (I X lock2):=by rw[Z2 gB];rfl
 have o:=aA.trans aB;by_cases q1:lock=lock2
 case neg =>
  simp[h2,hl,a2,b2,q1];have:=hk P o;rw[decide_eq_false (fun e=>q1 (by have:=congrArg mL.lock e;exact this))]at this;exact this
 subst q1;simp[h2,hl,a2,b2,a0,b0];refine Uog b (s1.R o) (s2.R o) _ ?_;by_cases q2:ins.map g_.p=C.map g_.p
 case neg =>
  simp[q2];have:=hk P o;rw[decide_eq_false (fun e=>q2 (by have:=congrArg mL.ins e;exact this))]at this;exact this
 simp[q2,a1,b1];refine J5j b (o1.R o) (o2.R o) _ ?_;have:=hk P o;by_cases q3:outs.map bN.p=j.map bN.p
 case neg =>
  simp[q3];rw[decide_eq_false (fun e=>q3 (by have:=congrArg mL.outs e;exact this))]at this;exact this
 have e3:iX ins outs lock=iX C j lock:=mL.ext' q2 q3 rfl;rw[decide_eq_true e3]at this;simp[q3];exact this
end
end Go.Proofs.YtmgonkaadhbnpaaGreatDoor
end
