import Derived.Test.YtapodfgjkmddlaaGreatDoorTxA
import Derived.Test.YtapodfgjkmddlaaGreatDoorScA
import Derived.Test.YtapodfgjkmddlaaGreatDoorScB
set_option linter.all false
noncomputable section
namespace Go.Proofs.YtapodfgjkmddlaaGreatDoor
open Go Go.Ab
set_option maxRecDepth 100000
inductive AnyV where
 | push (v:Value) (xs:List Int)
 | code (c:Int)
def AnyV.val:AnyV->Value
 | .push v _ => .iface 45 v
 | .code c => .iface 3 (.int .i64 c)
def AnyV.op:AnyV->OpV
 | .push v xs=>⟨xs.length,xs,v⟩
 | .code c=>⟨c,[],.slice none 0 0⟩
def Jtd(h:Heap):AnyV->Prop
 | .push v xs=>SB h v xs/\xs.length<=1000
 | .code _=>True
def Je2(b:Nat)(z:Int){v:Value}{h:Heap}{n:Nat}{xs:List Value}(s:Sl h 1 v n xs):Qn1 (E b).toEnv 125 [(0,.int .i64 z),(1,v)]=some (.agg ⟨[.int .i64 z,v]⟩):=by
 rcases s with⟨c,rfl,_⟩ | ⟨bk,o,c,ow,z',pre,post,rfl,_⟩
 ·kernel_rfl
 ·kernel_rfl
def OPI(sv:Value)(l:List AnyV)(h:Heap)(k:Nat)(s:St):Prop:=∃ (t:Tr Value) (h1:Heap) (o:Value) (i:Nat),s=⟨⟨36,t⟩,[],h1⟩/\t.get 3=some o/\t.get 8=some sv/\t.get 9=some (.int .i64 (l.length:Int))/\t.get 10=some (.int .i64 (i:Int))/\i<=l.length/\k=l.length-i/\Old h h1/\Own h1 h.next 2 o i (Qt0 ((l.take i).map AnyV.op))
attribute [local simp] Xj kON kOC Xn kNN kNP kRR kEN kER Q6 X2 Yn Ya aop Qg nth Ab.g0 gv gs Qd Qc aev evs evO Qh Tr.get_put St.put Tm.put flat flatA Y9 Qm Qp Qn Qo Qk Ql Qj Qt Qi Q7 Q8 kTN kTR kTX kTP kBN kBR kBX kBP kCS kCR kCE kAM Xm.putAll Qv Q0 Q9 Wj Yq Y1 ldv Yk Vi Nat.testBit loadAt Ab.runT Zc Yl Ys
section
def Jpu(b:Nat){h:Heap}{sv:Value}{l:List AnyV}(s:Sl h 1 sv l.length (l.map AnyV.val))(hn:l.length < 1000)(ha:∀ a ∈ l,Jtd h a)(K:KP)(hk:∀ v h',OB h' h.next v (Ja4 (l.map AnyV.op))->Old h h'->K (.ret v) h') :
  FK b 31 [sv] h K:=by
 refine F3 b (Qua b) Zoj rfl ?_;have hr:∃ rs,(E b).toEnv.ty.get 122=some rs/\rs.desc=.slice 20:=⟨((E b).toEnv.ty.get 122).getD ⟨.invalid,0,0,.bool false,[]⟩,by kernel_rfl,by kernel_rfl⟩;have len:∀ hx,Qkc (E b).toEnv 122 sv hx=some (.int .i64 (l.length:Int)):=fun hx=>Qa0 (Jtj b) s;have asB:∀ v,Xzy (E b).toEnv (.iface 45 v) 45 true=some (.tuple #[v,.bool true]):=fun v=>by kernel_rfl
 have asN:∀ z,Xzy (E b).toEnv (.iface 3 (.int .i64 z)) 45 true=some (.tuple #[.slice none 0 0,.bool false]):=fun v=>by kernel_rfl
 have asI:∀ z,Xzy (E b).toEnv (.iface 3 (.int .i64 z)) 3 true=some (.tuple #[.int .i64 z,.bool true]):=fun v=>by kernel_rfl
 simp[Qys,Xer,Qua,Jdi,Qgz,len];refine Qdf (OPI sv l h) l.length ⟨_,h,.slice none 0 0,0,rfl,by simp,by simp,by simp,by simp,by omega,rfl,Old.refl _,by simpa[Qt0]using Own.nil⟩ ?_;rintro k s' ⟨t,h1,o,i,rfl,t3,t8,t9,t10,hi,rfl,hold,oo⟩ _;by_cases hlt:i < l.length
 ·have hlt':(i:Int) < (l.length:Int):=by omega
  obtain⟨x,hx⟩:∃ x,l[i]? = some x:=⟨_,List.getElem?_eq_getElem hlt⟩;have hw:=wS (i:=i) (by omega);obtain⟨bk,off,q1,q2,q3, -⟩:=Q7o (Jtj b) Z5l (s.old hold) (k:=.i64) (i:=(i:Int)) (by omega) (by omega);have q4:Yw h1 bk off=some x.val:=by
   have:=q3 0 (by omega);simpa[hx]using this
  have tk:(l.take (i+1)).map AnyV.op=(l.take i).map AnyV.op ++ [x.op]:=by rw[aQ,hx];simp
  have more:Qt0 ((l.take (i+1)).map AnyV.op)=Qt0 ((l.take i).map AnyV.op)++x.op.cells:=by rw[tk];simp[Qt0]
  obtain⟨v',h2,k1,k2,k3⟩:=Zj8 (Ja5 b) (z:=2) Qwu (by omega) oo hold.1 (ys:=x.op.cells) rfl (by rw[Ypq];omega) (by omega);have bl:W7 (E b).toEnv 123 1 [(0,.agg ⟨x.op.cells⟩)] h1=some (.slice (some ⟨h1.next,0,none⟩) 1 1,h1.push (.cells true 1 x.op.cells)):=Xlx (Ja5 b) (z:=2) Qwu (by omega) (by omega) rfl rfl rfl;have a2:Old h h2:=k3.old hold oo;have hxa:=ha x (List.mem_of_getElem? hx);cases x with
  | push v xs =>
   have lv:=fun hx=>Qmi (b:=b) (h1:=hx) hxa.1;simp only[AnyV.op,OpV.cells]at bl k1;simp only[AnyV.val]at q4;simp[Qys,Xer,Qua,Jdi,Qgz,t3,t8,t9,t10,hlt',q2,q4,asB,lv,Je2 b _ hxa.1,bl,k1,hw];exact⟨l.length-(i+1),by omega,_,h2,v',i+1,rfl,by simp,by simp[t8],by simp[t9],by simp,by omega,rfl,a2,by rw[more];exact k2⟩
  | code c =>
   simp only[AnyV.op,OpV.cells]at bl k1;simp only[AnyV.val]at q4;simp[Qys,Xer,Qua,Jdi,Qgz,t3,t8,t9,t10,hlt',q2,q4,asN,asI,X2b,bl,k1,hw];exact⟨l.length-(i+1),by omega,_,h2,v',i+1,rfl,by simp,by simp[t8],by simp[t9],by simp,by omega,rfl,a2,by rw[more];exact k2⟩
 ·have hlt':¬ (i:Int) < (l.length:Int):=by omega
  have : i=l.length:=by omega
  subst this;rw[bc]at oo;simp[Qys,Xer,Qua,Jdi,Qgz,t3,t8,t9,t10];have ln:(l.map AnyV.op).length=l.length:=by simp
  refine Jps b (os:=l.map AnyV.op) (by rw[ln];exact oo.sl) (fun p hp => ?_) (by simpa using hn) (fun p hp => ?_) _ fun v h2 o2 a2 => ?_
  ·obtain⟨x,hx,rfl⟩:=am.1 hp;have:=ha x hx;cases x with
   | push v xs=>exact this.1.old hold
   | code c=>exact Sl.nil
  ·obtain⟨x,hx,rfl⟩:=am.1 hp;have:=ha x hx;cases x with
   | push v xs=>exact this.2
   | code c=>exact bn _
  ·simp[Qys,Xer,Qua,Jdi,Qgz];exact hk v h2 (o2.low hold.1) (hold.trans a2)
def Jp7(b:Nat)(n:Int)(h:Heap)(K:KP)(hk:∀ h',SB h' (.slice (some ⟨h.next,0,none⟩) 1 1) [IntKind.u8.wrap n]->Old h h'->K (.ret (.slice (some ⟨h.next,0,none⟩) 1 1)) h'):FK b 32 [.int .i64 n] h K:=by
 refine F3 b (Xfp b) Znc rfl ?_;simp[Ylc,Z1s,Xfp,Znz,Ub,Ua,Xie];exact hk _ (SB.push (xs:=[IntKind.u8.wrap n]) (by simp)) (Old.push _ _)
def Jjx(b:Nat)(n:Int)(h:Heap)(K:KP)(hk:K (.ret (.bool (inF n 1 32))) h):FK b 41 [.int .i64 n] h K:=by
 refine F3 b (Qul b) Y79 rfl ?_;unfold inF at hk;by_cases h1:1<=n
 ·simp[Xfd,Yi5,Qul,Xyy,Xz9,Xuc,h1];by_cases h2:n<=32
  ·simpa[h1,h2]using hk
  ·simpa[h1,h2]using hk
 ·simp[Xfd,Yi5,Qul,Xyy,Xz9,Xuc,h1];simpa[h1]using hk
end
def Xvs(o:Int):List Int:=[1,IntKind.u8.wrap o,134]
section
attribute [local simp] Xav Ycg Jm Xp8 Xfp Jly Jtg Qua
def Z6p(b:Nat)(n:Int)(h:Heap)(K:KP)(hk:∀ v h',OB h' h.next v (Xvs n)->Old h h'->K (.ret v) h'):FK b 13 [.int .i64 n] h K:=by
 refine F3 b (Jm b) Zp3 rfl ?_;simp;refine Jp7 b n h _ fun h1 s1 a1 => ?_;obtain⟨l,el⟩:∃ l:List AnyV,l=[.push (.slice (some ⟨h.next,0,none⟩) 1 1) [IntKind.u8.wrap n],.code 134]:=⟨_,rfl⟩;obtain⟨hB,eB⟩:∃ hB,hB=h1.push (.cells true 1 (l.map AnyV.val)):=⟨_,rfl⟩;have aB:=Qon eB;have bl:W7 (E b).toEnv 122 2 [(0,.iface 45 (.slice (some ⟨h.next,0,none⟩) 1 1)),(1,.iface 3 (.int .i64 134))] h1=some (.slice (some ⟨h1.next,0,none⟩) 2 2,hB):=by rw[eB,el];kernel_rfl
 have ss:Sl hB 1 (.slice (some ⟨h1.next,0,none⟩) 2 2) l.length (l.map AnyV.val):=by
  rw[show l.length=2 by rw[el];rfl];exact(Own.new (n0:=0) (z:=1) (n:=2) (bn _) (by rw[eB,Heap.get_push,if_pos rfl]) (by rw[el];rfl) (by decide) (.inr rfl)).sl
 simp[bl];refine Jpu b ss (by rw[el];simp) (fun a ha => ?_) _ fun v h2 o2 a2 => ?_
 ·rw[el]at ha;simp only[ap,cm,or_false]at ha;rcases ha with rfl | rfl
  ·exact⟨s1.old aB,by simp⟩
  ·trivial
 ·simp;refine hk v h2 ?_ (a1.trans (aB.trans a2));have e:Ja4 (l.map AnyV.op)=Xvs n:=by
   rw[el];simp[Ja4,AnyV.op,Xvs];decide
  rw[e]at o2;exact o2.low (a1.trans aB).1
end
structure Ht where
 hash:List Nat
 claimer:Int
 refunder:Int
 til:Int
 hd:hash.length=32
def Ht.cells(x:Ht):List Value:=x.hash.map u8v ++ [.int .i64 x.claimer,.int .i64 x.refunder,.int .i64 x.til]
structure WitNew (h:Heap) (n0:Nat) (wv:Value) (its:List (Value × List Int)) (w:List (List Int)):Prop where
 s:Own h n0 1 wv its.length (its.map (·.1))
 i:∀ p ∈ its,OB h n0 p.1 p.2/\Bytes p.2
 e:its.map (·.2)=w
def WitNew.inAt{h:Heap}{n0:Nat}{p:Pt}{wv:Value}{its:List (Value × List Int)}{w:List (List Int)}(a:WitNew h n0 wv its w)(hw:w.length < 1000000)(hl:∀ x ∈ w,x.length < 1000000):InAt h ⟨p,wv,its⟩:=by
 refine⟨a.s.sl,fun p hp=>⟨(a.i p hp).1.sl,(a.i p hp).2⟩,?_,fun p hp => ?_⟩
 ·have:=congrArg List.length a.e;simp at this;show its.length < 1000000;omega
 ·exact hl _ (by rw[<- a.e];exact am.2 ⟨p,hp,rfl⟩)
def Jjg(b:Nat)(B o:Nat)(h:Heap):Qes (E b).toEnv 104 (pO B o) none none none h=some (.slice (some ⟨B,o,none⟩) 16 16,h):=kR
def Jg9(z:Int):Value:=.int .i64 z
def Jr5(new rest:List InV)(x:InV)(wv:Value)(its:List (Value × List Int)):(Qee (new++x::rest)).set (new.length*34+33) wv=Qee (new++⟨x.pt,wv,its⟩::rest):=by
 have e1:∀ (l r:List InV),Qee (l++r)=Qee l++Qee r:=fun l r=>by simp[Qee]
 have e2:∀ (y:InV) (r:List InV),Qee (y::r)=y.cells++Qee r:=fun y r=>by simp[Qee]
 rw[e1,e1,e2,e2,bN _ _ (by rw[Ybl];omega),Ybl];congr 1;rw[show new.length*34+33-new.length*34=33 by omega,List.set_append_left _ _ (by rw[InV.len];omega)];congr 1;rw[InV.cells,bN _ _ (by rw[Pt.len];omega),Pt.len];rfl
inductive Made where
 | no (e:Int)
 | ok (t:PTx)
def X2g:List Value:=txC (.slice none 0 0) (.slice none 0 0) 0
def X1q(t:PTx)(w:List (List Int)):PTx:=⟨t.ins.map fun x=>⟨x.pt,w⟩,t.outs,t.lock⟩
def Y04(k d:List Nat):(Q1e k d).length=16:=by
 have kl:(Bl.keyed1 k d).length=32:=Qu2 _;simp[Q1e,kl]
def Jiw(k d:List Nat):∀ n ∈ Q1e k d,n < 256:=fun n hn=>Jjy _ n (ce hn)
def Z5o(b:Nat)(p:Pt):Qn1 (E b).toEnv 68 [(0,.agg ⟨p.cells⟩)]=some (.agg ⟨p.cells ++ [.slice none 0 0]⟩):=by
 obtain⟨fs,pl,hfs,hpl,hp0⟩:∃ fs pl,R68.desc=.struct fs/\Q8g (E b).toEnv fs.toList=some pl/\nth pl 0=some (0,33) :=
  ⟨(match R68.desc with | .struct fs=>fs | _ => #[]),(Q8g (E b).toEnv (match R68.desc with | .struct fs=>fs | _ => #[]).toList).getD [],by kernel_rfl,by kernel_rfl,by kernel_rfl⟩
 obtain⟨zz,ez,hz,hzd⟩:∃ zz:List Value,zz=R68.zero.cells.toList/\zz.length=34/\zz.drop 33=[.slice none 0 0]:=⟨_,rfl,by kernel_rfl,by kernel_rfl⟩;have e2:(Qid (.agg ⟨p.cells⟩) && (Value.agg ⟨p.cells⟩).cells.size == 33 && Nat.ble (0+33) zz.length)=true:=by
  have h1:(Value.agg ⟨p.cells⟩).cells.size=33:=p.len;rw[h1,hz];rfl
 have e3:Qlj zz 0 (Value.agg ⟨p.cells⟩).cells.toList=some (p.cells++zz.drop 33):=by
  show Qlj zz 0 p.cells=_;rw[Qq8 (by rw[p.len,hz];omega)];simp[p.len]
 simp only[Qn1,Yta,hfs,hpl,<- ez,Xsb,hp0,e2,if_true,e3,hzd,ax]
def Jgh:List Nat:=[107,101,121,115]
def Xrc:List Nat:=Qsd Jgh 32 1
def Zu8:Xrc.length=1024:=Xy7 _ _ _
def Yhs(v n:Int):Int:=if Int.tmod v n < 0 then Int.tmod v n+n else Int.tmod v n
def X2e(v:Int){n:Int}(hn:0 < n):0<=Yhs v n/\Yhs v n < n:=by
 unfold Yhs;have h1:=Int.tmod_lt_of_pos v hn;have h2 : -n < Int.tmod v n:=by
  have h1:=Int.natAbs_tmod v n;have h2:=dm v.natAbs (y:=n.natAbs) (by omega);omega
 split <;> omega
def PIn.ext' {a c:PIn}(h1:a.pt=c.pt)(h2:a.wit=c.wit):a=c:=by cases a;cases c;simp_all
def POut.ext' {a c:POut}(h1:a.value=c.value)(h2:a.script=c.script):a=c:=by cases a;cases c;simp_all
def PTx.ext' {a c:PTx}(h1:a.ins=c.ins)(h2:a.outs=c.outs)(h3:a.lock=c.lock):a=c:=by cases a;cases c;simp_all
instance : DecidableEq PIn:=fun a c=>if h:a.pt=c.pt/\a.wit=c.wit then isTrue (PIn.ext' h.1 h.2)else isFalse fun e=>h (by rw[e];exact⟨rfl,rfl⟩)
instance : DecidableEq POut:=fun a c=>if h:a.value=c.value/\a.script=c.script then isTrue (POut.ext' h.1 h.2)else isFalse fun e=>h (by rw[e];exact⟨rfl,rfl⟩)
instance : DecidableEq PTx:=fun a c=>if h:a.ins=c.ins/\a.outs=c.outs/\a.lock=c.lock then isTrue (PTx.ext' h.1 h.2.1 h.2.2)else isFalse fun e=>h (by rw[e];exact⟨rfl,rfl,rfl⟩)
def Y6q{A:Type}{l m:List A}{i:Nat}{x y:A}(hx:l[i]? = some x)(hy:m[i]? = some y)(h:l.take i=m.take i)(e:x=y):l.take (i+1)=m.take (i+1):=by
 rw[aQ,aQ,h,hx,hy,e]
def Y1t{A:Type}{l m:List A}{i:Nat}{x y:A}(hx:l[i]? = some x)(hy:m[i]? = some y)(e:x≠y):l≠m:=fun q=>e (by rw[q,hy]at hx;exact(bz hx).symm)
def Y5v:∀ {n:Nat} {l:List Value},l.length < n->Q72 n l=none
 | 0,l,h=>by omega
 | n+1,[],_=>rfl
 | n+1,v::l,h=>by simp[Q72,Y5v (n:=n) (l:=l) (by simpa using h)]
def SNE(v1 v2:Value)(l m:List (List Int))(h:Heap)(k:Nat)(s:St):Prop:=∃ (t:Tr Value) (i:Nat),s=⟨⟨27,t⟩,[],h⟩/\t.get 0=some v1/\t.get 1=some v2/\t.get 5=some (.int .i64 (i:Int))/\i<=l.length/\k=l.length-i/\l.take i=m.take i
section
attribute [local simp] Qdu Qho U8 Qf3 Uw Qf8 Qf7 Z8 Jp Qe9 Qed Qeb
def Zkj(b:Nat){h:Heap}{v1 v2:Value}{l1 l2:List (Value × List Int)}(s1:Sl h 1 v1 l1.length (l1.map (·.1)))(i1:ItsAt h l1)(s2:Sl h 1 v2 l2.length (l2.map (·.1)))(i2:ItsAt h l2)(hn:l1.length < 1000000)(hl:∀ p ∈ l1,p.2.length < 1000000)
  (K:KP) (hk:K (.ret (.bool (decide (l1.map (·.2)=l2.map (·.2))))) h):FK b 99 [v1,v2] h K:=by
 refine F3 b (U8 b) Yaj rfl ?_;have len1:∀ hx,Qkc (E b).toEnv 66 v1 hx=some (.int .i64 (l1.length:Int)):=fun hx=>Qa0 (T66 b) s1;have len2:∀ hx,Qkc (E b).toEnv 66 v2 hx=some (.int .i64 (l2.length:Int)):=fun hx=>Qa0 (T66 b) s2;by_cases hll:l1.length=l2.length
 case neg =>
  have hll':¬ (l1.length:Int)=(l2.length:Int):=by omega
  have hne:¬ l1.map (·.2)=l2.map (·.2):=fun e=>hll (by have:=congrArg List.length e;simpa using this);rw[decide_eq_false hne]at hk;simp[len1,len2,hll'];exact hk
 have hll':(l1.length:Int)=(l2.length:Int):=by omega
 simp[len1,len2,hll'];refine Qdf (SNE v1 v2 (l1.map (·.2)) (l2.map (·.2)) h) (l1.map (·.2)).length ⟨_,0,rfl,by simp,by simp,by simp,by omega,rfl,rfl⟩ ?_;rintro k s' ⟨t,i,rfl,t0,t1,t5,hi,rfl,hq⟩ _;rw[aL]at hi ⊢;by_cases hlt:i < l1.length
 ·have hlt':(i:Int) < (l1.length:Int):=by omega
  have hw:=wS (i:=i) (by omega);obtain⟨⟨w1,x1⟩,p1⟩:∃ p,l1[i]? = some p:=⟨_,List.getElem?_eq_getElem hlt⟩;obtain⟨⟨w2,x2⟩,p2⟩:∃ p,l2[i]? = some p:=⟨_,List.getElem?_eq_getElem (by omega)⟩;obtain⟨bk1,o1, -,a1,c1, -⟩:=Q7o (T66 b) Qic s1 (k:=.i64) (i:=(i:Int)) (by omega) (by omega);obtain⟨bk2,o2, -,a2,c2, -⟩:=Q7o (T66 b) Qic s2 (k:=.i64) (i:=(i:Int)) (by omega) (by omega);have c1':Yw h bk1 o1=some w1:=by have:=c1 0 (by omega);simpa[p1]using this
  have c2':Yw h bk2 o2=some w2:=by have:=c2 0 (by omega);simpa[p2]using this
  obtain⟨_,_,q1,n1,rfl,rfl⟩:=Zz5 b (i1 _ (List.mem_of_getElem? p1)).1 (i2 _ (List.mem_of_getElem? p2)).1 (by have:=hl _ (List.mem_of_getElem? p1);simp only at this;show x1.length < 1099511627776;omega) (fun r h'=>r=.ret (.bool (decide (x1=x2)))/\h=h') ⟨rfl,rfl⟩;have e1:(l1.map (·.2))[i]? = some x1:=by simp[p1]
  have e2:(l2.map (·.2))[i]? = some x2:=by simp[p2]
  simp[t0,t1,t5,len1,hlt'];refine Qem [⟨100,[w1,w2],h,.bool (decide (x1=x2)),h,true⟩] ?_ Xq5 Xvx Xot (by simp[Xze,X69,t0,t1,t5,a1,a2,c1',c2'];exact⟨rfl,rfl⟩) ?_ ?_
  ·exact zk1 ⟨q1,n1,fun _ c hc=>rfl⟩
  ·simp[Qhd]
  by_cases hx:x1=x2
  ·simp[t0,t1,t5,hx,hw];exact⟨l1.length-(i+1),by omega,_,i+1,rfl,by simp[t0],by simp[t1],by simp,by simp;omega,by simp,Y6q e1 e2 hq hx⟩
  ·rw[decide_eq_false (Y1t e1 e2 hx)]at hk;simp[t0,t1,t5,hx];exact hk
 ·have hlt':¬ (i:Int) < (l1.length:Int):=by omega
  have hil:i=l1.length:=by omega
  subst hil;rw[aj (by simp),aj (by simp;omega)]at hq;rw[decide_eq_true hq]at hk;simp[t0,t1,t5,len1];exact hk
end
def Jg0{b:Nat}{h:Heap}{v:Value}{l:List InV}(s:Sl h 34 v l.length (Qee l)){i:Nat}{x:InV}(hp:l[i]? = some x){bk off:Nat}(ha:V5 (E b).toEnv 28 v (.int .i64 (i:Int))=some (pO bk off)):Wy h bk off 33=some (.agg ⟨x.pt.cells⟩):=by
 obtain⟨bk',off', -,a',g', -⟩:=Xhr (b:=b) (T28 b) Qeo s hp;rw[ha]at a';simp only[ar,Value.pointer.injEq,Addr.mk.injEq]at a';obtain⟨rfl,rfl, -⟩:=a';unfold Wy at g' ⊢;cases hg:h.get bk with
 | none=>rw[hg]at g';cases g'
 | some y =>
  rw[hg]at g';cases y with
  | cells ow z c =>
   simp only at g' ⊢;rw[ak]at g';obtain⟨r,hr,e⟩:=g';simp only[Value.agg.injEq,Array.mk.injEq]at e;have hlen:34<=(c.drop off).length:=by
    rcases aU (c.drop off).length 34 with q | q
    ·have : Q72 34 (c.drop off)=none:=Y5v q;rw[this]at hr;cases hr
    ·exact q
   rw[Q2o hlen]at hr;have e2:(c.drop off).take 34=x.cells:=by rw[<- e];exact bz hr
   rw[Q2o (by omega),<- Zn7 x,<- e2,List.take_take];rfl
  | _=>cases g'
def SIE(v1 v2:Value)(l m:List PIn)(h:Heap)(k:Nat)(s:St):Prop:=∃ (t:Tr Value) (i:Nat),s=⟨⟨42,t⟩,[],h⟩/\t.get 0=some v1/\t.get 1=some v2/\t.get 5=some (.int .i64 (i:Int))/\i<=l.length/\k=l.length-i/\l.take i=m.take i
section
attribute [local simp] Qcv Qgr Qat Qdx Uw Qe0 Qdy Yx Uh U7 Qbm U8 Qcx Qd0 Qcz
def Z78(b:Nat){h:Heap}{v1 v2:Value}{l1 l2:List InV}(s1:Ins h v1 l1)(s2:Ins h v2 l2)(K:KP)(hk:K (.ret (.bool (decide (l1.map InV.p=l2.map InV.p)))) h):FK b 62 [v1,v2] h K:=by
 refine F3 b (Qat b) Ys0 rfl ?_;have hn:=s1.n;have len1:∀ hx,Qkc (E b).toEnv 28 v1 hx=some (.int .i64 (l1.length:Int)):=fun hx=>Qa0 (T28 b) s1.s;have len2:∀ hx,Qkc (E b).toEnv 28 v2 hx=some (.int .i64 (l2.length:Int)):=fun hx=>Qa0 (T28 b) s2.s;by_cases hll:l1.length=l2.length
 case neg =>
  have hll':¬ (l1.length:Int)=(l2.length:Int):=by omega
  have hne:¬ l1.map InV.p=l2.map InV.p:=fun e=>hll (by have:=congrArg List.length e;simpa using this);rw[decide_eq_false hne]at hk;simp[len1,len2,hll'];exact hk
 have hll':(l1.length:Int)=(l2.length:Int):=by omega
 simp[len1,len2,hll'];refine Qdf (SIE v1 v2 (l1.map InV.p) (l2.map InV.p) h) (l1.map InV.p).length ⟨_,0,rfl,by simp,by simp,by simp,by omega,rfl,rfl⟩ ?_;rintro k s' ⟨t,i,rfl,t0,t1,t5,hi,rfl,hq⟩ _;rw[aL]at hi ⊢;by_cases hlt:i < l1.length
 ·have hlt':(i:Int) < (l1.length:Int):=by omega
  have hw:=wS (i:=i) (by omega);obtain⟨x1,p1⟩:∃ p,l1[i]? = some p:=⟨_,List.getElem?_eq_getElem hlt⟩;obtain⟨x2,p2⟩:∃ p,l2[i]? = some p:=⟨_,List.getElem?_eq_getElem (by omega)⟩;obtain⟨bk1,o1, -,a1, -,c1⟩:=Xhr (b:=b) (T28 b) Qeo s1.s p1;obtain⟨bk2,o2, -,a2, -,c2⟩:=Xhr (b:=b) (T28 b) Qeo s2.s p2;have g1:Wy h bk1 o1 33=some (.agg ⟨x1.pt.cells⟩):=Jg0 s1.s p1 (b:=b) a1;have g2:Wy h bk2 o2 33=some (.agg ⟨x2.pt.cells⟩):=Jg0 s2.s p2 (b:=b) a2;have w1:Yw h bk1 (o1+33)=some x1.wv:=by rw[c1 33 (by omega),Jk0]
  have w2:Yw h bk2 (o2+33)=some x2.wv:=by rw[c2 33 (by omega),Jk0]
  have i1:=s1.a x1 (List.mem_of_getElem? p1);have i2:=s2.a x2 (List.mem_of_getElem? p2);obtain⟨_,_,q1,n1,rfl,rfl⟩:=Zkj b i1.w i1.i i2.w i2.i i1.n i1.l (fun r h'=>r=.ret (.bool (decide (x1.its.map (·.2)=x2.its.map (·.2))))/\h=h') ⟨rfl,rfl⟩;have e1:(l1.map InV.p)[i]? = some x1.p:=by simp[p1]
  have e2:(l2.map InV.p)[i]? = some x2.p:=by simp[p2]
  obtain⟨db,hdb⟩:∃ db:Bool,db=decide (x1.its.map (·.2)=x2.its.map (·.2)):=⟨_,rfl⟩;rw[<- hdb]at q1;simp[t0,t1,t5,len1,hlt'];by_cases hpt:x1.pt=x2.pt
  case neg =>
   refine Qem [] (by simp) Q9b Xff Q9a (by simp[Xj3,Xea,Xia,t0,t1,t5,a1,a2,g1,g2,peq,hpt];exact⟨rfl,rfl⟩) ?_ ?_
   ·simp[Qje]
   rw[decide_eq_false (Y1t e1 e2 fun e=>hpt (by have:=congrArg PIn.pt e;exact this))]at hk;simp[t0,t1,t5];exact hk
  refine Qem [⟨99,[x1.wv,x2.wv],h,.bool db,h,true⟩] ?_ Q9b Xff Q9a (by simp[Xj3,Xea,Xia,t0,t1,t5,a1,a2,g1,g2,w1,w2,peq,hpt];exact⟨rfl,rfl⟩) ?_ ?_
  ·exact zk1 ⟨q1,n1,fun _ c hc=>rfl⟩
  ·simp[Qje]
  by_cases hx:x1.its.map (·.2)=x2.its.map (·.2)
  ·have hd:db=true:=by rw[hdb];exact decide_eq_true hx
   simp[t0,t1,t5,hd,hw];exact⟨l1.length-(i+1),by omega,_,i+1,rfl,by simp[t0],by simp[t1],by simp,by simp;omega,by simp,Y6q e1 e2 hq (PIn.ext' hpt hx)⟩
  ·have hd:db=false:=by rw[hdb];exact decide_eq_false hx
   rw[decide_eq_false (Y1t e1 e2 fun e=>hx (by have:=congrArg PIn.wit e;exact this))]at hk;simp[t0,t1,t5,hd];exact hk
 ·have hlt':¬ (i:Int) < (l1.length:Int):=by omega
  have hil:i=l1.length:=by omega
  subst hil;rw[aj (by simp),aj (by simp;omega)]at hq;rw[decide_eq_true hq]at hk;simp[t0,t1,t5,len1];exact hk
end
def SOE(v1 v2:Value)(l m:List POut)(h:Heap)(k:Nat)(s:St):Prop:=∃ (t:Tr Value) (i:Nat),s=⟨⟨42,t⟩,[],h⟩/\t.get 0=some v1/\t.get 1=some v2/\t.get 5=some (.int .i64 (i:Int))/\i<=l.length/\k=l.length-i/\l.take i=m.take i
section
attribute [local simp] Qc1 Qf0 Ws Qd9 Uw Qd7 Jo Vz Ye Jv Z8 Jp Qc3 
def Z2y(b:Nat){h:Heap}{v1 v2:Value}{l1 l2:List OutV}(s1:Outs h v1 l1)(s2:Outs h v2 l2)(K:KP)(hk:K (.ret (.bool (decide (l1.map OutV.p=l2.map OutV.p)))) h):FK b 63 [v1,v2] h K:=by
 refine F3 b (Ws b) Yml rfl ?_;have hn:=s1.n;have len1:∀ hx,Qkc (E b).toEnv 29 v1 hx=some (.int .i64 (l1.length:Int)):=fun hx=>Qa0 (T29 b) s1.s;have len2:∀ hx,Qkc (E b).toEnv 29 v2 hx=some (.int .i64 (l2.length:Int)):=fun hx=>Qa0 (T29 b) s2.s;by_cases hll:l1.length=l2.length
 case neg =>
  have hll':¬ (l1.length:Int)=(l2.length:Int):=by omega
  have hne:¬ l1.map OutV.p=l2.map OutV.p:=fun e=>hll (by have:=congrArg List.length e;simpa using this);rw[decide_eq_false hne]at hk;simp[len1,len2,hll'];exact hk
 have hll':(l1.length:Int)=(l2.length:Int):=by omega
 simp[len1,len2,hll'];refine Qdf (SOE v1 v2 (l1.map OutV.p) (l2.map OutV.p) h) (l1.map OutV.p).length ⟨_,0,rfl,by simp,by simp,by simp,by omega,rfl,rfl⟩ ?_;rintro k s' ⟨t,i,rfl,t0,t1,t5,hi,rfl,hq⟩ _;rw[aL]at hi ⊢;by_cases hlt:i < l1.length
 ·have hlt':(i:Int) < (l1.length:Int):=by omega
  have hw:=wS (i:=i) (by omega);obtain⟨x1,p1⟩:∃ p,l1[i]? = some p:=⟨_,List.getElem?_eq_getElem hlt⟩;obtain⟨x2,p2⟩:∃ p,l2[i]? = some p:=⟨_,List.getElem?_eq_getElem (by omega)⟩;obtain⟨bk1,o1, -,a1, -,c1,w1⟩:=Xjz (b:=b) (T29 b) Qjv s1.s p1;obtain⟨bk2,o2, -,a2, -,c2,w2⟩:=Xjz (b:=b) (T29 b) Qjv s2.s p2;have i1:=s1.a x1 (List.mem_of_getElem? p1);have i2:=s2.a x2 (List.mem_of_getElem? p2);obtain⟨_,_,q1,n1,rfl,rfl⟩:=Zz5 b i1.s i2.s (by have:=i1.l;omega) (fun r h'=>r=.ret (.bool (decide (x1.script=x2.script)))/\h=h') ⟨rfl,rfl⟩;have e1:(l1.map OutV.p)[i]? = some x1.p:=by simp[p1]
  have e2:(l2.map OutV.p)[i]? = some x2.p:=by simp[p2]
  obtain⟨db,hdb⟩:∃ db:Bool,db=decide (x1.script=x2.script):=⟨_,rfl⟩;rw[<- hdb]at q1;simp[t0,t1,t5,len1,hlt'];by_cases hv:x1.value=x2.value
  case neg =>
   refine Qem [] (by simp) Q76 Q9z Q82 (by simp[Xei,Q9o,Xdw,t0,t1,t5,a1,a2,c1,c2,hv];exact⟨rfl,rfl⟩) ?_ ?_
   ·simp[Qhq]
   rw[decide_eq_false (Y1t e1 e2 fun e=>hv (by have:=congrArg POut.value e;exact this))]at hk;simp[t0,t1,t5];exact hk
  refine Qem [⟨100,[x1.sv,x2.sv],h,.bool db,h,true⟩] ?_ Q76 Q9z Q82 (by simp[Xei,Q9o,Xdw,t0,t1,t5,a1,a2,c1,c2,w1,w2,hv];exact⟨rfl,rfl⟩) ?_ ?_
  ·exact zk1 ⟨q1,n1,fun _ c hc=>rfl⟩
  ·simp[Qhq]
  by_cases hx:x1.script=x2.script
  ·have hd:db=true:=by rw[hdb];exact decide_eq_true hx
   simp[t0,t1,t5,hd,hw];exact⟨l1.length-(i+1),by omega,_,i+1,rfl,by simp[t0],by simp[t1],by simp,by simp;omega,by simp,Y6q e1 e2 hq (POut.ext' hv hx)⟩
  ·have hd:db=false:=by rw[hdb];exact decide_eq_false hx
   rw[decide_eq_false (Y1t e1 e2 fun e=>hx (by have:=congrArg POut.script e;exact this))]at hk;simp[t0,t1,t5,hd];exact hk
 ·have hlt':¬ (i:Int) < (l1.length:Int):=by omega
  have hil:i=l1.length:=by omega
  subst hil;rw[aj (by simp),aj (by simp;omega)]at hq;rw[decide_eq_true hq]at hk;simp[t0,t1,t5,len1];exact hk
end
section
attribute [local simp] Qnr Qyk Qfn Qsu Ud Vz Ye Ym Vm Qat Jf Qal Ws Qso Qp4 Qn9
def Jfj(b:Nat){h:Heap}{iv ov iv2 ov2:Value}{ins ins2:List InV}{outs outs2:List OutV}{lock lock2:Int}(s1:Ins h iv ins)(o1:Outs h ov outs)(s2:Ins h iv2 ins2)(o2:Outs h ov2 outs2)(K:KP)(hk:∀ h',Old h h'->K (.ret (.bool (decide (ptx ins outs lock=ptx ins2 outs2 lock2)))) h') :
  FK b 30 [.agg ⟨txC iv ov lock⟩,.agg ⟨txC iv2 ov2 lock2⟩] h K:=by
 refine F3 b (Qfn b) Yy1 rfl ?_;obtain⟨hA,eA,aA,gA⟩:=Q2n h ((txC iv ov lock));have bxA:=Qw8 eA;obtain⟨hB,eB,aB,gB⟩:=Q2n hA ((txC iv2 ov2 lock2));have bxB:=Qw8 eB;have gA':=aB.get gA;have a0:Yw hB h.next 0=some iv:=by rw[Yi gA'];rfl
 have a1:Yw hB h.next 1=some ov:=by rw[Yi gA'];rfl
 have a2:Yw hB h.next 2=some (.int .i64 lock):=by rw[Yi gA'];rfl
 have b0:Yw hB hA.next 0=some iv2:=by rw[Yi gB];rfl
 have b1:Yw hB hA.next 1=some ov2:=by rw[Yi gB];rfl
 have b2:Yw hB hA.next 2=some (.int .i64 lock2):=by rw[Yi gB];rfl
 have o:=aA.trans aB;by_cases q1:lock=lock2
 case neg =>
  simp[bxA,bxB,a2,b2,q1];have:=hk hB o;rw[decide_eq_false (fun e=>q1 (by have:=congrArg PTx.lock e;exact this))]at this;exact this
 subst q1;simp[bxA,bxB,a2,b2,a0,b0];refine Z78 b (s1.old o) (s2.old o) _ ?_;by_cases q2:ins.map InV.p=ins2.map InV.p
 case neg =>
  simp[q2];have:=hk hB o;rw[decide_eq_false (fun e=>q2 (by have:=congrArg PTx.ins e;exact this))]at this;exact this
 simp[q2,a1,b1];refine Z2y b (o1.old o) (o2.old o) _ ?_;have:=hk hB o;by_cases q3:outs.map OutV.p=outs2.map OutV.p
 case neg =>
  simp[q3];rw[decide_eq_false (fun e=>q3 (by have:=congrArg PTx.outs e;exact this))]at this;exact this
 have e3:ptx ins outs lock=ptx ins2 outs2 lock:=PTx.ext' q2 q3 rfl;rw[decide_eq_true e3]at this;simp[q3];exact this
end
end Go.Proofs.YtapodfgjkmddlaaGreatDoor
end
