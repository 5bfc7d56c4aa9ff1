import Derived.Test.YtijagoebdgohnaaGreatDoorTxA
import Derived.Test.YtijagoebdgohnaaGreatDoorScA
import Derived.Test.YtijagoebdgohnaaGreatDoorScB
set_option linter.all false
noncomputable section
namespace Go.Proofs.YtijagoebdgohnaaGreatDoor
open Go Go.Ab
set_option maxRecDepth 100000
inductive AnyV where
 | push (v:Value) (xs:List Int)
 | code (c:Int)
def AnyV.val:AnyV->Value
 | .push v _ => .iface 57 v
 | .code c => .iface 3 (.int .i64 c)
def AnyV.op:AnyV->OpV
 | .push v xs=>⟨xs.length,xs,v⟩
 | .code c=>⟨c,[],.slice none 0 0⟩
def Jis(h:Heap):AnyV->Prop
 | .push v xs=>SB h v xs/\xs.length<=1000
 | .code _=>True
def Z3i(b:Nat)(z:Int){v:Value}{h:Heap}{n:Nat}{xs:List Value}(s:Sl h 1 v n xs):Qm8 (E b).toEnv 120 [(0,.int .i64 z),(1,v)]=some (.agg ⟨[.int .i64 z,v]⟩):=by
 rcases s with⟨c,rfl,_⟩ | ⟨bk,o,c,ow,z',pre,post,rfl,_⟩
 ·kernel_rfl
 ·kernel_rfl
def OPI(sv:Value)(l:List AnyV)(h:Heap)(k:Nat)(s:St):Prop:=∃ (t:Tr Value) (h1:Heap) (o:Value) (i:Nat),s=⟨⟨36,t⟩,[],h1⟩/\t.get 3=some o/\t.get 8=some sv/\t.get 9=some (.int .i64 (l.length:Int))/\t.get 10=some (.int .i64 (i:Int))/\i<=l.length/\k=l.length-i/\Old h h1/\Own h1 h.next 2 o i (Qre ((l.take i).map AnyV.op))
attribute [local simp] Xn kON kOC Xp kNN kNP kRR kRP kEN kER Q4 Xb Z5 Yk aop Qe nth Ab.g0 gv gs Qb Qa aev evs evO Qf Tr.get_put St.put Tm.put flat flatA Yj Qk Qn Ql Qm Qi Qj Qh Qr Qg Q5 Q6 kTN kTR kTX kTP kBN kBR kBX kBP kCS kCR kCE kAM Xo.putAll Qy Q9 Q3 Q0 Q8 Qc Qd Q1 Q2 Q7 Ya Wl Yx ldv Nat.testBit Z7 loadAt Ab.runT J1 Zc Yr Vh
section
def Jfa(b:Nat){h:Heap}{sv:Value}{l:List AnyV}(s:Sl h 1 sv l.length (l.map AnyV.val))(hn:l.length < 1000)(ha:∀ a ∈ l,Jis h a)(K:KP)(hk:∀ v h',OB h' h.next v (Zzt (l.map AnyV.op))->Old h h'->K (.ret v) h') :
  FK b 34 [sv] h K:=by
 refine F3 b (Qsi b) Zfr rfl ?_;have hr:∃ rs,(E b).toEnv.ty.get 117=some rs/\rs.desc=.slice 20:=⟨((E b).toEnv.ty.get 117).getD ⟨.invalid,0,0,.bool false,[]⟩,by kernel_rfl,by kernel_rfl⟩;have len:∀ hx,Qne (E b).toEnv 117 sv hx=some (.int .i64 (l.length:Int)):=fun hx=>Qbq (Jie b) s;have asB:∀ v,Xpe (E b).toEnv (.iface 57 v) 57 true=some (.tuple #[v,.bool true]):=fun v=>by kernel_rfl
 have asN:∀ z,Xpe (E b).toEnv (.iface 3 (.int .i64 z)) 57 true=some (.tuple #[.slice none 0 0,.bool false]):=fun v=>by kernel_rfl
 have asI:∀ z,Xpe (E b).toEnv (.iface 3 (.int .i64 z)) 3 true=some (.tuple #[.int .i64 z,.bool true]):=fun v=>by kernel_rfl
 simp[Qwo,Xcf,Qsi,Zhw,Xt,Z30,Jw,Xv,Qh2,len];refine Qfs (OPI sv l h) l.length ⟨_,h,.slice none 0 0,0,rfl,by simp,by simp,by simp,by simp,by omega,rfl,Old.refl _,by simpa[Qre]using Own.nil⟩ ?_;rintro k s' ⟨t,h1,o,i,rfl,t3,t8,t9,t10,hi,rfl,hold,oo⟩ _;by_cases hlt:i < l.length
 ·have hlt':(i:Int) < (l.length:Int):=by omega
  obtain⟨x,hx⟩:∃ x,l[i]? = some x:=⟨_,ab hlt⟩;have hw:=wS (i:=i) (by omega);obtain⟨bk,off,q1,q2,q3, -⟩:=Xc9 (Jie b) Zvs (s.old hold) (k:=.i64) (i:=(i:Int)) (by omega) (by omega);have q4:J3 h1 bk off=some x.val:=by
   have:=q3 0 (by omega);simpa[hx]using this
  have tk:(l.take (i+1)).map AnyV.op=(l.take i).map AnyV.op ++ [x.op]:=by rw[bn,hx];simp
  have more:Qre ((l.take (i+1)).map AnyV.op)=Qre ((l.take i).map AnyV.op)++x.op.cells:=by rw[tk];simp[Qre]
  obtain⟨v',h2,k1,k2,k3⟩:=Zav (Zzu b) (z:=2) Qve (by omega) oo hold.1 (ys:=x.op.cells) rfl (by rw[Yhi];omega) (by omega);have bl:Vj (E b).toEnv 118 1 [(0,.agg ⟨x.op.cells⟩)] h1=some (.slice (some ⟨h1.next,0,none⟩) 1 1,h1.push (.cells true 1 x.op.cells)):=Q2h (Zzu b) (z:=2) Qve (by omega) (by omega) rfl rfl rfl;have a2:Old h h2:=k3.old hold oo;have hxa:=ha x (ak hx);cases x with
  | push v xs =>
   have lv:=fun hx=>Qoa (b:=b) (h1:=hx) hxa.1;simp only[AnyV.op,OpV.cells]at bl k1;simp only[AnyV.val]at q4;simp[Qwo,Xcf,Qsi,Zhw,Xt,Z30,Jw,Xv,Qh2,t3,t8,t9,t10,hlt',q2,q4,asB,lv,Z3i b _ hxa.1,bl,k1,hw];exact⟨l.length-(i+1),by omega,_,h2,v',i+1,rfl,by simp,by simp[t8],by simp[t9],by simp,by omega,rfl,a2,by rw[more];exact k2⟩
  | code c =>
   simp only[AnyV.op,OpV.cells]at bl k1;simp only[AnyV.val]at q4;simp[Qwo,Xcf,Qsi,Zhw,Xt,Z30,Jw,Xv,Qh2,t3,t8,t9,t10,hlt',q2,q4,asN,asI,X1m,bl,k1,hw];exact⟨l.length-(i+1),by omega,_,h2,v',i+1,rfl,by simp,by simp[t8],by simp[t9],by simp,by omega,rfl,a2,by rw[more];exact k2⟩
 ·have hlt':¬ (i:Int) < (l.length:Int):=by omega
  have : i=l.length:=by omega
  subst this;rw[bJ]at oo;simp[Qwo,Xcf,Qsi,Zhw,Xt,Z30,Jw,Xv,Qh2,t3,t8,t9,t10];have ln:(l.map AnyV.op).length=l.length:=by simp
  refine Jf7 b (os:=l.map AnyV.op) (by rw[ln];exact oo.sl) (fun p hp => ?_) (by simpa using hn) (fun p hp => ?_) _ fun v h2 o2 a2 => ?_
  ·obtain⟨x,hx,rfl⟩:=ao.1 hp;have:=ha x hx;cases x with
   | push v xs=>exact this.1.old hold
   | code c=>exact Sl.nil
  ·obtain⟨x,hx,rfl⟩:=ao.1 hp;have:=ha x hx;cases x with
   | push v xs=>exact this.2
   | code c=>exact bz _
  ·simp[Qwo,Xcf,Qsi,Zhw,Xt,Z30,Jw,Xv,Qh2];exact hk v h2 (o2.low hold.1) (hold.trans a2)
def Jeo(b:Nat)(n:Int)(h:Heap)(K:KP)(hk:∀ h',SB h' (.slice (some ⟨h.next,0,none⟩) 1 1) [IntKind.u8.wrap n]->Old h h'->K (.ret (.slice (some ⟨h.next,0,none⟩) 1 1)) h'):FK b 35 [.int .i64 n] h K:=by
 refine F3 b (Xda b) Zem rfl ?_;simp[Ygw,Zse,Xda,Zfa,Vv,Vu,Xfo];exact hk _ (SB.push (xs:=[IntKind.u8.wrap n]) (by simp)) (Old.push _ _)
def Z9g(b:Nat)(n:Int)(h:Heap)(K:KP)(hk:K (.ret (.bool (inF n 1 32))) h):FK b 44 [.int .i64 n] h K:=by
 refine F3 b (Qss b) Y0e rfl ?_;unfold inF at hk;by_cases h1:1<=n
 ·simp[Xd2,Yek,Qss,Xy7,Qro,Qvq,Xyi,Xsx,h1];by_cases h2:n<=32
  ·simpa[h1,h2]using hk
  ·simpa[h1,h2]using hk
 ·simp[Xd2,Yek,Qss,Xy7,Qro,Qvq,Xyi,Xsx,h1];simpa[h1]using hk
end
def Q88(o:Int):List Int:=[1,IntKind.u8.wrap o,134]
section
attribute [local simp] Q8h Yam J5 Xmt Xda Jdf Jiv Qsi
def Zou(b:Nat)(n:Int)(h:Heap)(K:KP)(hk:∀ v h',OB h' h.next v (Q88 n)->Old h h'->K (.ret v) h'):FK b 19 [.int .i64 n] h K:=by
 refine F3 b (J5 b) Zg5 rfl ?_;simp;refine Jeo b n h _ fun h1 s1 a1 => ?_;obtain⟨l,el⟩:∃ l:List AnyV,l=[.push (.slice (some ⟨h.next,0,none⟩) 1 1) [IntKind.u8.wrap n],.code 134]:=⟨_,rfl⟩;obtain⟨hB,eB⟩:∃ hB,hB=h1.push (.cells true 1 (l.map AnyV.val)):=⟨_,rfl⟩;have aB:=Qpm eB;have bl:Vj (E b).toEnv 117 2 [(0,.iface 57 (.slice (some ⟨h.next,0,none⟩) 1 1)),(1,.iface 3 (.int .i64 134))] h1=some (.slice (some ⟨h1.next,0,none⟩) 2 2,hB):=by rw[eB,el];kernel_rfl
 have ss:Sl hB 1 (.slice (some ⟨h1.next,0,none⟩) 2 2) l.length (l.map AnyV.val):=by
  rw[show l.length=2 by rw[el];rfl];exact(Own.new (n0:=0) (z:=1) (n:=2) (bz _) (by rw[eB,Heap.get_push,if_pos rfl]) (by rw[el];rfl) (by decide) (.inr rfl)).sl
 simp[bl];refine Jfa b ss (by rw[el];simp) (fun a ha => ?_) _ fun v h2 o2 a2 => ?_
 ·rw[el]at ha;simp only[ax,d4,or_false]at ha;rcases ha with rfl | rfl
  ·exact⟨s1.old aB,by simp⟩
  ·trivial
 ·simp;refine hk v h2 ?_ (a1.trans (aB.trans a2));have e:Zzt (l.map AnyV.op)=Q88 n:=by
   rw[el];simp[Zzt,AnyV.op,Q88];decide
  rw[e]at o2;exact o2.low (a1.trans aB).1
end
structure Ht where
 hash:List Nat
 claimer:Int
 refunder:Int
 til:Int
 hd:hash.length=32
def Ht.cells(x:Ht):List Value:=x.hash.map u8v ++ [.int .i64 x.claimer,.int .i64 x.refunder,.int .i64 x.til]
def Ht.at(x:Ht):x.cells[32]? = some (.int .i64 x.claimer)/\x.cells[33]? = some (.int .i64 x.refunder)/\x.cells[34]? = some (.int .i64 x.til):=by
 have l:(x.hash.map u8v).length=32:=by simp[x.hd]
 unfold Ht.cells;refine⟨?_,?_,?_⟩
 ·rw[aS (by omega),l];rfl
 ·rw[aS (by omega),l];rfl
 ·rw[aS (by omega),l];rfl
structure WitNew (h:Heap) (n0:Nat) (wv:Value) (its:List (Value × List Int)) (w:List (List Int)):Prop where
 s:Own h n0 1 wv its.length (its.map (·.1))
 i:∀ p ∈ its,OB h n0 p.1 p.2/\Bytes p.2
 e:its.map (·.2)=w
def WitNew.inAt{h:Heap}{n0:Nat}{p:Pt}{wv:Value}{its:List (Value × List Int)}{w:List (List Int)}(a:WitNew h n0 wv its w)(hw:w.length < 1000000)(hl:∀ x ∈ w,x.length < 1000000):InAt h ⟨p,wv,its⟩:=by
 refine⟨a.s.sl,fun p hp=>⟨(a.i p hp).1.sl,(a.i p hp).2⟩,?_,fun p hp => ?_⟩
 ·have:=congrArg List.length a.e;simp at this;show its.length < 1000000;omega
 ·exact hl _ (by rw[<- a.e];exact ao.2 ⟨p,hp,rfl⟩)
def Z91(b:Nat)(B o:Nat)(h:Heap):Qhk (E b).toEnv 101 (.pointer (some ⟨B,o,none⟩)) none none none h=some (.slice (some ⟨B,o,none⟩) 16 16,h):=kR
def Z5r(z:Int):Value:=.int .i64 z
def Jgf(new rest:List InV)(x:InV)(wv:Value)(its:List (Value × List Int)):(Qd3 (new++x::rest)).set (new.length*34+33) wv=Qd3 (new++⟨x.pt,wv,its⟩::rest):=by
 have e1:∀ (l r:List InV),Qd3 (l++r)=Qd3 l++Qd3 r:=fun l r=>by simp[Qd3]
 have e2:∀ (y:InV) (r:List InV),Qd3 (y::r)=y.cells++Qd3 r:=fun y r=>by simp[Qd3]
 rw[e1,e1,e2,e2,cG _ _ (by rw[Ya7];omega),Ya7];congr 1;rw[show new.length*34+33-new.length*34=33 by omega,List.set_append_left _ _ (by rw[InV.len];omega)];congr 1;rw[InV.cells,cG _ _ (by rw[Pt.len];omega),Pt.len];rfl
inductive Made where
 | no (e:Int)
 | ok (t:PTx)
def X3q:List Value:=txC (.slice none 0 0) (.slice none 0 0) 0
def Rise(n:Nat)(h h':Heap):Prop:=h.next<=h'.next/\∀ c,n<=c->c < h.next->h'.get c=h.get c
def Rise.refl(n:Nat)(h:Heap):Rise n h h:=⟨ae _,fun _ _ _=>rfl⟩
def Xs8(t:PTx)(w:List (List Int)):PTx:=⟨t.ins.map fun x=>⟨x.pt,w⟩,t.outs,t.lock⟩
def Yd6(k d:List Nat):(Qxt k d).length=16:=by
 have kl:(Bl.keyed1 k d).length=32:=Qsa _;simp[Qxt,kl]
def Z8g(k d:List Nat):∀ n ∈ Qxt k d,n < 256:=fun n hn=>Z0b _ n (dc hn)
def Zd0(b:Nat)(p:Pt):Qm8 (E b).toEnv 71 [(0,.agg ⟨p.cells⟩)]=some (.agg ⟨p.cells ++ [.slice none 0 0]⟩):=by
 obtain⟨fs,pl,hfs,hpl,hp0⟩:∃ fs pl,R71.desc=.struct fs/\Q17 (E b).toEnv fs.toList=some pl/\nth pl 0=some (0,33) :=
  ⟨(match R71.desc with | .struct fs=>fs | _ => #[]),(Q17 (E b).toEnv (match R71.desc with | .struct fs=>fs | _ => #[]).toList).getD [],by kernel_rfl,by kernel_rfl,by kernel_rfl⟩
 obtain⟨zz,ez,hz,hzd⟩:∃ zz:List Value,zz=R71.zero.cells.toList/\zz.length=34/\zz.drop 33=[.slice none 0 0]:=⟨_,rfl,by kernel_rfl,by kernel_rfl⟩;have e2:(Qh6 (.agg ⟨p.cells⟩) && (Value.agg ⟨p.cells⟩).cells.size == 33 && Nat.ble (0+33) zz.length)=true:=by
  have h1:(Value.agg ⟨p.cells⟩).cells.size=33:=p.len;rw[h1,hz];rfl
 have e3:Ql3 zz 0 (Value.agg ⟨p.cells⟩).cells.toList=some (p.cells++zz.drop 33):=by
  show Ql3 zz 0 p.cells=_;rw[Qpt (by rw[p.len,hz];omega)];simp[p.len]
 simp only[Qm8,Zb2,hfs,hpl,<- ez,Xqi,hp0,e2,if_true,e3,hzd,aK]
def Z5y:List Nat:=[107,101,121,115]
def Qrf:List Nat:=Qqq Z5y 32 1
def Qlr:Qrf.length=1024:=Xxf _ _ _
def Xz6(v n:Int):Int:=if Int.tmod v n < 0 then Int.tmod v n+n else Int.tmod v n
def Xfh(v:Int){n:Int}(hn:0 < n):0<=Xz6 v n/\Xz6 v n < n:=by
 unfold Xz6;have h1:=Int.tmod_lt_of_pos v hn;have h2 : -n < Int.tmod v n:=by
  have h1:=Int.natAbs_tmod v n;have h2:=Nat.mod_lt v.natAbs (y:=n.natAbs) (by omega);omega
 split <;> omega
def PIn.ext' {a c:PIn}(h1:a.pt=c.pt)(h2:a.wit=c.wit):a=c:=by cases a;cases c;simp_all
def POut.ext' {a c:POut}(h1:a.value=c.value)(h2:a.script=c.script):a=c:=by cases a;cases c;simp_all
def PTx.ext' {a c:PTx}(h1:a.ins=c.ins)(h2:a.outs=c.outs)(h3:a.lock=c.lock):a=c:=by cases a;cases c;simp_all
instance : DecidableEq PIn:=fun a c=>if h:a.pt=c.pt/\a.wit=c.wit then isTrue (PIn.ext' h.1 h.2)else isFalse fun e=>h (by rw[e];exact⟨rfl,rfl⟩)
instance : DecidableEq POut:=fun a c=>if h:a.value=c.value/\a.script=c.script then isTrue (POut.ext' h.1 h.2)else isFalse fun e=>h (by rw[e];exact⟨rfl,rfl⟩)
instance : DecidableEq PTx:=fun a c=>if h:a.ins=c.ins/\a.outs=c.outs/\a.lock=c.lock then isTrue (PTx.ext' h.1 h.2.1 h.2.2)else isFalse fun e=>h (by rw[e];exact⟨rfl,rfl,rfl⟩)
def Z58{A:Type}{l m:List A}{i:Nat}{x y:A}(hx:l[i]? = some x)(hy:m[i]? = some y)(h:l.take i=m.take i)(e:x=y):l.take (i+1)=m.take (i+1):=by
 rw[bn,bn,h,hx,hy,e]
def Z1x{A:Type}{l m:List A}{i:Nat}{x y:A}(hx:l[i]? = some x)(hy:m[i]? = some y)(e:x≠y):l≠m:=fun q=>e (by rw[q,hy]at hx;exact(bE hx).symm)
def Yyz:∀ {n:Nat} {l:List Value},l.length < n->Q35 n l=none
 | 0,l,h=>by omega
 | n+1,[],_=>rfl
 | n+1,v::l,h=>by simp[Q35,Yyz (n:=n) (l:=l) (by simpa using h)]
def Jdw{b:Nat}{h:Heap}{v:Value}{l:List InV}(s:Sl h 34 v l.length (Qd3 l)){i:Nat}{x:InV}(hp:l[i]? = some x){bk off:Nat}(ha:Jx (E b).toEnv 30 v (.int .i64 (i:Int))=some (.pointer (some ⟨bk,off,none⟩))):Qb9 h bk off 33=some (.agg ⟨x.pt.cells⟩):=by
 obtain⟨bk',off', -,a',g', -⟩:=Yd2 (b:=b) (T30 b) Qma s hp;rw[ha]at a';simp only[av,Value.pointer.injEq,Addr.mk.injEq]at a';obtain⟨rfl,rfl, -⟩:=a';unfold Qb9 at g' ⊢;cases hg:h.get bk with
 | none=>rw[hg]at g';cases g'
 | some y =>
  rw[hg]at g';cases y with
  | cells ow z c =>
   simp only at g' ⊢;rw[am]at g';obtain⟨r,hr,e⟩:=g';simp only[Value.agg.injEq,Array.mk.injEq]at e;have hlen:34<=(c.drop off).length:=by
    rcases bg (c.drop off).length 34 with q | q
    ·have : Q35 34 (c.drop off)=none:=Yyz q;rw[this]at hr;cases hr
    ·exact q
   rw[Qyq hlen]at hr;have e2:(c.drop off).take 34=x.cells:=by rw[<- e];exact bE hr
   rw[Qyq (by omega),<- Yrf x,<- e2,List.take_take];rfl
  | _=>cases g'
def SOE(v1 v2:Value)(l m:List POut)(h:Heap)(k:Nat)(s:St):Prop:=∃ (t:Tr Value) (i:Nat),s=⟨⟨42,t⟩,[],h⟩/\t.get 0=some v1/\t.get 1=some v2/\t.get 5=some (.int .i64 (i:Int))/\i<=l.length/\k=l.length-i/\l.take i=m.take i
section
attribute [local simp] Qbl Qfb Zd Qcr Qbm We Qcp Qco Xt V7 U2 Y2 Ve J7 Uq Qbo Xv Qbs Qbv
def Ztj(b:Nat){h:Heap}{v1 v2:Value}{l1 l2:List OutV}(s1:Outs h v1 l1)(s2:Outs h v2 l2)(K:KP)(hk:K (.ret (.bool (decide (l1.map OutV.p=l2.map OutV.p)))) h):FK b 12 [v1,v2] h K:=by
 refine F3 b (Zd b) Yhp rfl ?_;have hn:=s1.n;have len1:∀ hx,Qne (E b).toEnv 27 v1 hx=some (.int .i64 (l1.length:Int)):=fun hx=>Qbq (T27 b) s1.s;have len2:∀ hx,Qne (E b).toEnv 27 v2 hx=some (.int .i64 (l2.length:Int)):=fun hx=>Qbq (T27 b) s2.s;by_cases hll:l1.length=l2.length
 case neg =>
  have hll':¬ (l1.length:Int)=(l2.length:Int):=by omega
  have hne:¬ l1.map OutV.p=l2.map OutV.p:=fun e=>hll (by have:=congrArg List.length e;simpa using this);rw[decide_eq_false hne]at hk;simp[len1,len2,hll'];exact hk
 have hll':(l1.length:Int)=(l2.length:Int):=by omega
 simp[len1,len2,hll'];refine Qfs (SOE v1 v2 (l1.map OutV.p) (l2.map OutV.p) h) (l1.map OutV.p).length ⟨_,0,rfl,by simp,by simp,by simp,by omega,rfl,rfl⟩ ?_;rintro k s' ⟨t,i,rfl,t0,t1,t5,hi,rfl,hq⟩ _;rw[aT]at hi ⊢;by_cases hlt:i < l1.length
 ·have hlt':(i:Int) < (l1.length:Int):=by omega
  have hw:=wS (i:=i) (by omega);obtain⟨x1,p1⟩:∃ p,l1[i]? = some p:=⟨_,ab hlt⟩;obtain⟨x2,p2⟩:∃ p,l2[i]? = some p:=⟨_,ab (by omega)⟩;obtain⟨bk1,o1, -,a1, -,c1,w1⟩:=Xhg (b:=b) (T27 b) Qi0 s1.s p1;obtain⟨bk2,o2, -,a2, -,c2,w2⟩:=Xhg (b:=b) (T27 b) Qi0 s2.s p2;have i1:=s1.a x1 (ak p1);have i2:=s2.a x2 (ak p2);obtain⟨_,_,q1,n1,rfl,rfl⟩:=Z5i b i1.s i2.s (by have:=i1.l;omega) (fun r h'=>r=.ret (.bool (decide (x1.script=x2.script)))/\h=h') ⟨rfl,rfl⟩;have e1:(l1.map OutV.p)[i]? = some x1.p:=by simp[p1]
  have e2:(l2.map OutV.p)[i]? = some x2.p:=by simp[p2]
  obtain⟨db,hdb⟩:∃ db:Bool,db=decide (x1.script=x2.script):=⟨_,rfl⟩;rw[<- hdb]at q1;simp[t0,t1,t5,len1,hlt'];by_cases hv:x1.value=x2.value
  case neg =>
   refine Qg6 [] (by simp) Q58 Q7m Q64 (by simp[Xc0,Q7f,Xbe,t0,t1,t5,a1,a2,c1,c2,hv];exact⟨rfl,rfl⟩) ?_ ?_
   ·simp[Qhp]
   rw[decide_eq_false (Z1x e1 e2 fun e=>hv (by have:=congrArg POut.value e;exact this))]at hk;simp[t0,t1,t5];exact hk
  refine Qg6 [⟨31,[x1.sv,x2.sv],h,.bool db,h,true⟩] ?_ Q58 Q7m Q64 (by simp[Xc0,Q7f,Xbe,t0,t1,t5,a1,a2,c1,c2,w1,w2,hv];exact⟨rfl,rfl⟩) ?_ ?_
  ·exact zk1 ⟨q1,n1,fun _ c hc=>rfl⟩
  ·simp[Qhp]
  by_cases hx:x1.script=x2.script
  ·have hd:db=true:=by rw[hdb];exact decide_eq_true hx
   simp[t0,t1,t5,hd,hw];exact⟨l1.length-(i+1),by omega,_,i+1,rfl,by simp[t0],by simp[t1],by simp,by simp;omega,by simp,Z58 e1 e2 hq (POut.ext' hv hx)⟩
  ·have hd:db=false:=by rw[hdb];exact decide_eq_false hx
   rw[decide_eq_false (Z1x e1 e2 fun e=>hx (by have:=congrArg POut.script e;exact this))]at hk;simp[t0,t1,t5,hd];exact hk
 ·have hlt':¬ (i:Int) < (l1.length:Int):=by omega
  have hil:i=l1.length:=by omega
  subst hil;rw[aJ (by simp),aJ (by simp;omega)]at hq;rw[decide_eq_true hq]at hk;simp[t0,t1,t5,len1];exact hk
end
end Go.Proofs.YtijagoebdgohnaaGreatDoor
end
