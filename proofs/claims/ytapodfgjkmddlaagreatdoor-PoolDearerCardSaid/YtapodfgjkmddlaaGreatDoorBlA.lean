import Derived.Test.YtapodfgjkmddlaaGreatDoorAbG
import Derived.Test.YtapodfgjkmddlaaGreatDoorProg
import Derived.Test.YtapodfgjkmddlaaGreatDoorAbF
set_option linter.all false
noncomputable section
namespace Go.Proofs.YtapodfgjkmddlaaGreatDoor
open Go Go.Ab
set_option maxRecDepth 100000
def nv:Nat:=4
abbrev E(b:Nat):Env2 Tryz.prog:=mkE Tryz.prog nv b
noncomputable def Xz(f:Nat):Code:=((Tryz.prog.funcs[f]?).bind (·.body)).getD .skip
def mixed:Tryz.prog.follows .mixedOrders=true:=kR
def D0(b:Nat):CallF:=Y9t (E b) Jjk 100 0
def Uf(b:Nat):CallsSound Tryz.prog (E b).G (D0 b):=Zlj (E b) (Z6b _) Y12 mixed 100 0
def Jd(b:Nat):CallsLow (D0 b):=Y2d (E b) Y12 100 0
def DD(b:Nat):Qwn:=Xue (E b) (D0 b) 100
def Ui(b:Nat):Q1s Tryz.prog (E b).G (DD b):=Zsy (E b) (Uf b) (Jd b) mixed
def U3(b:Nat):Xy3 (DD b):=Zhj (Jd b)
def Q2n(h:Heap)(l:List Value):∃ hA,hA=h.push (.cells true 1 l)/\Old h hA/\hA.get h.next=some (.cells true 1 l):=⟨_,rfl,Old.push _ _,by rw[Heap.get_push,if_pos rfl]⟩
def Qw8{h hA:Heap}{l:List Value}(e:hA=h.push (.cells true 1 l)):Zzo (.agg ⟨l⟩) h=some (.pointer (some ⟨h.next,0,none⟩),hA):=by rw[e];rfl
def Qon{h hA:Heap}{x:Blk}(e:hA=h.push x):Old h hA:=by rw[e];exact Old.push _ _
def Q8i{h hA:Heap}{x:Blk}(e:hA=h.push x):hA.next=h.next+1:=by rw[e];rfl
abbrev FF(b:Nat):=@U2 _ (E b) _ (Uf b) (Jd b) mixed _ (Ui b) (U3 b)
abbrev KP:=AEnd->Heap->Prop
abbrev FK(b:Nat):=FnK Tryz.prog (E b).G
def agW{h:Heap}{bk z k:Nat}{ow:Bool}{c:List Value}(hg:h.get bk=some (.cells ow z c))(hl:0+k<=c.length)(h2:c.length<=k):Wy h bk 0 k=some (.agg ⟨c⟩):=by rw[V2 hg hl,bB,aj h2]
def zk1{P:KE->Prop}{a:KE}(h:P a):∀ e∈[a],P e:=by simpa using h
def zk2{P:KE->Prop}{a c:KE}(h:P a)(h2:P c):∀ e∈[a,c],P e:=by simpa using ⟨h,h2⟩
def zk3{P:KE->Prop}{a c d:KE}(h:P a)(h2:P c)(h3:P d):∀ e∈[a,c,d],P e:=by simpa using ⟨h,h2,h3⟩
def zk4{P:KE->Prop}{a c d f:KE}(h:P a)(h2:P c)(h3:P d)(h4:P f):∀ e∈[a,c,d,f],P e:=by simpa using ⟨h,h2,h3,h4⟩
end Go.Proofs.YtapodfgjkmddlaaGreatDoor
end
noncomputable section
namespace Go.Ab
variable{P:Program}{E:Env2 P}{C:CallP}{rd:Option Nat}{D0:CallF}
def kNN(F:St->Prop)(K:Exit->St->Prop)(s:St):Z3r F K .normal s=F s:=Eq.trans rfl rfl
def kNP(F:St->Prop)(K:Exit->St->Prop)(ch:List PanicEntry)(s:St):Z3r F K (.panic ch) s=K (.panic ch) s:=Eq.trans rfl rfl
def kRR(d:Option Tmp)(s:St)(K:Exit->St->Prop)(v:Value)(h:Heap):Jon d s K (.ret v) h=K .normal (s.put d v h):=Eq.trans rfl rfl
def kTN(F:St->Prop)(K:Exit->St->Prop)(s:St):X3j F K .normal s=F s:=Eq.trans rfl rfl
def kTR(F:St->Prop)(K:Exit->St->Prop)(s:St):X3j F K .ret s=K .ret s:=Eq.trans rfl rfl
def kTX(F:St->Prop)(K:Exit->St->Prop)(id:Nat)(s:St):X3j F K (.exit id) s=K (.exit id) s:=Eq.trans rfl rfl
def kTP(F:St->Prop)(K:Exit->St->Prop)(ch:List PanicEntry)(s:St):X3j F K (.panic ch) s=K (.panic ch) s:=Eq.trans rfl rfl
def kBN(id:Nat)(K:Exit->St->Prop)(s:St):Xae id K .normal s=K .normal s:=Eq.trans rfl rfl
def kBR(id:Nat)(K:Exit->St->Prop)(s:St):Xae id K .ret s=K .ret s:=Eq.trans rfl rfl
def kBP(id:Nat)(K:Exit->St->Prop)(ch:List PanicEntry)(s:St):Xae id K (.panic ch) s=K (.panic ch) s:=Eq.trans rfl rfl
def kBX(id id':Nat)(K:Exit->St->Prop)(s:St):Xae id K (.exit id') s=if id'=id then K .normal s else K (.exit id') s:=Eq.trans rfl rfl
def kAM(y:Code)(K:Exit->St->Prop)(t:Tm)(ds:List Deferred)(h:Heap):Js2 E C D0 rd y K ⟨t,ds,h⟩=Qac E C D0 rd y ⟨t,ds,h⟩ K:=Eq.trans rfl rfl
def kEN(D:Qwn)(fn:Func)(K:AEnd->Heap->Prop)(s:St):Zh4 E D fn K .normal s=Xep E D fn K .returning s:=Eq.trans rfl rfl
def kER(D:Qwn)(fn:Func)(K:AEnd->Heap->Prop)(s:St):Zh4 E D fn K .ret s=Xep E D fn K .returning s:=Eq.trans rfl rfl
def kON(ops:List Oper)(K:Exit->St->Prop)(t:Tm)(ds:List Deferred)(h:Heap):Yns E C rd ops K [] ⟨t,ds,h⟩=K .normal ⟨t,ds,h⟩:=Eq.trans rfl rfl
def kOC(ops:List Oper)(K:Exit->St->Prop)(o:Oper)(r:List Oper)(t:Tm)(ds:List Deferred)(h:Heap):Yns E C rd ops K (o::r) ⟨t,ds,h⟩ =
 (match Qg ops t o with
  | some true=>Xn E C rd o ⟨t,ds,h⟩ (Z3r (Yns E C rd ops K r) K)
  | some false=>if Qoy ⟨t,ds,h⟩ o.dst then Yns E C rd ops K r (St.put ⟨t,ds,h⟩ o.dst Qt h)else False
  | none=>False):=Eq.trans rfl rfl
def kCS(s:St)(K:Exit->St->Prop):Qac E C D0 rd .skip s K=K .normal s:=Eq.trans rfl rfl
def kCR(s:St)(K:Exit->St->Prop):Qac E C D0 rd .ret s K=K .ret s:=Eq.trans rfl rfl
def kCE(id:Nat)(s:St)(K:Exit->St->Prop):Qac E C D0 rd (.exit id) s K=K (.exit id) s:=Eq.trans rfl rfl
end Go.Ab
end
noncomputable section
namespace Go.Proofs.YtapodfgjkmddlaaGreatDoor
open Go Go.Ab
set_option maxRecDepth 1000000
def Xgq(ix l:List Nat)(x y:Nat):Option (List Nat):=match l with
 | [p0,p1,p2,p3,p4,p5,p6,p7,p8,p9,pA,pB,pC,pD,pE,pF] =>
  bq (eqN ix [0,4,8,12]) (some (Bl.stir p0 p4 p8 pC x y fun p0 p4 p8 pC=>[p0,p1,p2,p3,p4,p5,p6,p7,p8,p9,pA,pB,pC,pD,pE,pF])) <|
  bq (eqN ix [1,5,9,13]) (some (Bl.stir p1 p5 p9 pD x y fun p1 p5 p9 pD=>[p0,p1,p2,p3,p4,p5,p6,p7,p8,p9,pA,pB,pC,pD,pE,pF])) <|
  bq (eqN ix [2,6,10,14]) (some (Bl.stir p2 p6 pA pE x y fun p2 p6 pA pE=>[p0,p1,p2,p3,p4,p5,p6,p7,p8,p9,pA,pB,pC,pD,pE,pF])) <|
  bq (eqN ix [3,7,11,15]) (some (Bl.stir p3 p7 pB pF x y fun p3 p7 pB pF=>[p0,p1,p2,p3,p4,p5,p6,p7,p8,p9,pA,pB,pC,pD,pE,pF])) <|
  bq (eqN ix [0,5,10,15]) (some (Bl.stir p0 p5 pA pF x y fun p0 p5 pA pF=>[p0,p1,p2,p3,p4,p5,p6,p7,p8,p9,pA,pB,pC,pD,pE,pF])) <|
  bq (eqN ix [1,6,11,12]) (some (Bl.stir p1 p6 pB pC x y fun p1 p6 pB pC=>[p0,p1,p2,p3,p4,p5,p6,p7,p8,p9,pA,pB,pC,pD,pE,pF])) <|
  bq (eqN ix [2,7,8,13]) (some (Bl.stir p2 p7 p8 pD x y fun p2 p7 p8 pD=>[p0,p1,p2,p3,p4,p5,p6,p7,p8,p9,pA,pB,pC,pD,pE,pF])) <|
  bq (eqN ix [3,4,9,14]) (some (Bl.stir p3 p4 p9 pE x y fun p3 p4 p9 pE=>[p0,p1,p2,p3,p4,p5,p6,p7,p8,p9,pA,pB,pC,pD,pE,pF])) <|
  none
 | _=>none
def Jee:Xhm:=fun f args h=>bq (Nat.beq f 140) (match args with
 | [p,a,b,c,d,.agg ⟨[.int .u32 (.ofNat x),.int .u32 (.ofNat y)]⟩]=>ob (Y4l h p) fun q=>ob (Jo1 q.2) fun l=>ob (Jqv [a,b,c,d]) fun ix=>ob (Xgq ix l x y) fun l'=>some (.ret (.tuple #[]),h.set q.1 (some (.cells true 1 (l'.map Qg0))))
 | _=>none) none
def Jdx{a b c d:Value}{ix:List Nat}(h:Jqv [a,b,c,d]=some ix):∃ i j k l,ix=[i,j,k,l]/\a=Jg9 i/\b=Jg9 j/\c=Jg9 k/\d=Jg9 l:=by
 have:=Jcz h
 match ix,this with
 | [i,j,k,l],e=>simp only[aE,cH,bO,and_true]at e;exact⟨i,j,k,l,rfl,e.1,e.2.1,e.2.2.1,e.2.2.2⟩
def Zjt(n blk:Nat):Y1g (emb n [blk]) (.pointer (some ⟨n,0,none⟩)) (.pointer (some ⟨blk,0,none⟩)):=Ymi (by simp[emb])
def L1(l:List Nat):Prop:=∃ p0 p1 p2 p3 p4 p5 p6 p7 p8 p9 pA pB pC pD pE pF,l=[p0,p1,p2,p3,p4,p5,p6,p7,p8,p9,pA,pB,pC,pD,pE,pF]
def L1.all{l:List Nat}(h:L1 l){P:List Nat->Prop}(k:∀ p0 p1 p2 p3 p4 p5 p6 p7 p8 p9 pA pB pC pD pE pF,P [p0,p1,p2,p3,p4,p5,p6,p7,p8,p9,pA,pB,pC,pD,pE,pF]):P l:=by
 obtain⟨p0,p1,p2,p3,p4,p5,p6,p7,p8,p9,pA,pB,pC,pD,pE,pF,rfl⟩:=h;exact k _ _ _ _ _ _ _ _ _ _ _ _ _ _ _ _
def Jda{ix l l':List Nat}{x y:Nat}(h:Xgq ix l x y=some l'):L1 l:=by
 unfold Xgq at h;split at h
 ·exact⟨_,_,_,_,_,_,_,_,_,_,_,_,_,_,_,_,rfl⟩
 ·cases h
def stI(i j k q:Nat)(P:List Nat)(x y:Nat):List Value:=Jia (.ofNat (P.getD i 0)) (.ofNat (P.getD j 0)) (.ofNat (P.getD k 0)) (.ofNat (P.getD q 0)) (.ofNat x) 16 20 fun a b c d=>Jia a b c d (.ofNat y) 24 25 fun a b c d=>((((P.map Qg0).set i (.int .u32 a)).set j (.int .u32 b)).set k (.int .u32 c)).set q (.int .u32 d)
def stS(i j k q:Nat)(P:List Nat)(x y:Nat):List Nat:=Bl.stir (P.getD i 0) (P.getD j 0) (P.getD k 0) (P.getD q 0) x y fun a b c d=>(((P.set i a).set j b).set k c).set q d
def Jl0(i j k q:Nat)(P:List Nat)(x y:Nat):stI i j k q P x y=(stS i j k q P x y).map Qg0:=by
 unfold stI stS;rw[Zuq _ _ _ _ _ 16 20 (by decide) (by decide)];simp only[Bl.half,Zuq _ _ _ _ _ 24 25 (by decide) (by decide),Bl.stir,List.map_set];rfl
def ST(b i j k q:Nat)(x y:Nat)(l:List Nat):Prop :=
 Z5g nv ((Qrw Tryz.prog (mkE Tryz.prog nv b) Jjk 100 4).fn 140 [.pointer (some ⟨nv,0,none⟩),Jg9 i,Jg9 j,Jg9 k,Jg9 q,.agg #[Qg0 x,Qg0 y]] (Qlz nv [] true [(1,l.map Qg0)]))=some (.tuple #[],stI i j k q l x y)
def SE(i j k q:Nat)(x y:Nat)(l:List Nat):Prop:=Xgq [i,j,k,q] l x y=some (stS i j k q l x y)
def st0(b x y:Nat){l:List Nat}(h:L1 l):ST b 0 4 8 12 x y l/\SE 0 4 8 12 x y l:=⟨h.all (P:=ST b 0 4 8 12 x y) (by intros;show _=_;kernel_rfl),h.all (P:=SE 0 4 8 12 x y) (by intros;show _=_;kernel_rfl)⟩
def st1(b x y:Nat){l:List Nat}(h:L1 l):ST b 1 5 9 13 x y l/\SE 1 5 9 13 x y l:=⟨h.all (P:=ST b 1 5 9 13 x y) (by intros;show _=_;kernel_rfl),h.all (P:=SE 1 5 9 13 x y) (by intros;show _=_;kernel_rfl)⟩
def st2(b x y:Nat){l:List Nat}(h:L1 l):ST b 2 6 10 14 x y l/\SE 2 6 10 14 x y l:=⟨h.all (P:=ST b 2 6 10 14 x y) (by intros;show _=_;kernel_rfl),h.all (P:=SE 2 6 10 14 x y) (by intros;show _=_;kernel_rfl)⟩
def st3(b x y:Nat){l:List Nat}(h:L1 l):ST b 3 7 11 15 x y l/\SE 3 7 11 15 x y l:=⟨h.all (P:=ST b 3 7 11 15 x y) (by intros;show _=_;kernel_rfl),h.all (P:=SE 3 7 11 15 x y) (by intros;show _=_;kernel_rfl)⟩
def st4(b x y:Nat){l:List Nat}(h:L1 l):ST b 0 5 10 15 x y l/\SE 0 5 10 15 x y l:=⟨h.all (P:=ST b 0 5 10 15 x y) (by intros;show _=_;kernel_rfl),h.all (P:=SE 0 5 10 15 x y) (by intros;show _=_;kernel_rfl)⟩
def st5(b x y:Nat){l:List Nat}(h:L1 l):ST b 1 6 11 12 x y l/\SE 1 6 11 12 x y l:=⟨h.all (P:=ST b 1 6 11 12 x y) (by intros;show _=_;kernel_rfl),h.all (P:=SE 1 6 11 12 x y) (by intros;show _=_;kernel_rfl)⟩
def st6(b x y:Nat){l:List Nat}(h:L1 l):ST b 2 7 8 13 x y l/\SE 2 7 8 13 x y l:=⟨h.all (P:=ST b 2 7 8 13 x y) (by intros;show _=_;kernel_rfl),h.all (P:=SE 2 7 8 13 x y) (by intros;show _=_;kernel_rfl)⟩
def st7(b x y:Nat){l:List Nat}(h:L1 l):ST b 3 4 9 14 x y l/\SE 3 4 9 14 x y l:=⟨h.all (P:=ST b 3 4 9 14 x y) (by intros;show _=_;kernel_rfl),h.all (P:=SE 3 4 9 14 x y) (by intros;show _=_;kernel_rfl)⟩
def Xyz{A:Type}{c:Bool}{v:A}{y:Option A}{z:A}(h:bq c (some v) y=some z):c=true∨y=some z:=by
 cases c with
 | true=>exact .inl rfl
 | false=>exact .inr h
def Jrc{i j k q x y:Nat}{l l':List Nat}(h:Xgq [i,j,k,q] l x y=some l'):(∀ b,ST b i j k q x y l)/\SE i j k q x y l:=by
 have hL:=Jda h;obtain⟨p0,p1,p2,p3,p4,p5,p6,p7,p8,p9,pA,pB,pC,pD,pE,pF,rfl⟩:=id hL;unfold Xgq at h;simp only at h;rcases Xyz h with e | h
 ·have:=Xuu e;simp only[bO,and_true]at this;obtain⟨rfl,rfl,rfl,rfl⟩:=this;exact⟨fun b=>(st0 b x y hL).1,(st0 0 x y hL).2⟩
 rcases Xyz h with e | h
 ·have:=Xuu e;simp only[bO,and_true]at this;obtain⟨rfl,rfl,rfl,rfl⟩:=this;exact⟨fun b=>(st1 b x y hL).1,(st1 0 x y hL).2⟩
 rcases Xyz h with e | h
 ·have:=Xuu e;simp only[bO,and_true]at this;obtain⟨rfl,rfl,rfl,rfl⟩:=this;exact⟨fun b=>(st2 b x y hL).1,(st2 0 x y hL).2⟩
 rcases Xyz h with e | h
 ·have:=Xuu e;simp only[bO,and_true]at this;obtain⟨rfl,rfl,rfl,rfl⟩:=this;exact⟨fun b=>(st3 b x y hL).1,(st3 0 x y hL).2⟩
 rcases Xyz h with e | h
 ·have:=Xuu e;simp only[bO,and_true]at this;obtain⟨rfl,rfl,rfl,rfl⟩:=this;exact⟨fun b=>(st4 b x y hL).1,(st4 0 x y hL).2⟩
 rcases Xyz h with e | h
 ·have:=Xuu e;simp only[bO,and_true]at this;obtain⟨rfl,rfl,rfl,rfl⟩:=this;exact⟨fun b=>(st5 b x y hL).1,(st5 0 x y hL).2⟩
 rcases Xyz h with e | h
 ·have:=Xuu e;simp only[bO,and_true]at this;obtain⟨rfl,rfl,rfl,rfl⟩:=this;exact⟨fun b=>(st6 b x y hL).1,(st6 0 x y hL).2⟩
 rcases Xyz h with e | h
 ·have:=Xuu e;simp only[bO,and_true]at this;obtain⟨rfl,rfl,rfl,rfl⟩:=this;exact⟨fun b=>(st7 b x y hL).1,(st7 0 x y hL).2⟩
 cases h
def Jhh(b:Nat):Qst Tryz.prog ⟨nv,b⟩ Jee:=by
 intro f args h r h' hx;unfold Jee at hx;obtain⟨hf,hx⟩:=Qpg hx;have hf:=aK hf;subst hf;split at hx
 ·rename_i p a b' c d x y hq;obtain⟨⟨blk,cs⟩,h1,hx⟩:=Qa7 hx;obtain⟨l,h2,hx⟩:=Qa7 hx;obtain⟨ix,h3,hx⟩:=Qa7 hx;obtain⟨l',h4,hx⟩:=Qa7 hx;cases hx;obtain⟨rfl,hg⟩:=Xds h1;have:=Yzf h2;subst this;obtain⟨i,j,k,q,rfl,rfl,rfl,rfl,rfl⟩:=Jdx h3;obtain⟨s1,s2⟩:=Jrc h4;unfold SE at s2;rw[h4]at s2;cases s2;exact Jeh (k:=100) (m:=4) mixed (fun b=>Z6b _) Y12 (fun b=>(s1 b).trans (by rw[Jl0])) rfl (Xzo _) (Xzo _) hg (Qcr (Zjt _ _) (Qcr (Qm4 rfl) (Qcr (Qm4 rfl) (Qcr (Qm4 rfl) (Qcr (Qm4 rfl) (Qcr (Qm4 rfl) Q6d))))))
 ·cases hx
def Je1:Q0y Jee:=by
 intro f args h r h' hx;unfold Jee at hx;obtain⟨hf,hx⟩:=Qpg hx;split at hx
 ·obtain⟨⟨blk,cs⟩,h1,hx⟩:=Qa7 hx;obtain⟨l,h2,hx⟩:=Qa7 hx;obtain⟨ix,h3,hx⟩:=Qa7 hx;obtain⟨l',h4,hx⟩:=Qa7 hx;cases hx;obtain⟨_,hg⟩:=Xds h1;exact LowOK.set _ _ _ (Heap.get_lt hg)
 ·cases hx
def Js6:ByteArray:=⟨#[48,49,50,51,52,53,54,55,56,57,97,98,99,100,101,102]⟩
def Jsa:ByteArray:=⟨#[101,97,52,56,57,102,100,54,49,99,48,50,98,55,53,51]⟩
def Jsf:ByteArray:=⟨#[98,56,99,48,53,50,102,100,97,101,51,54,55,49,57,52]⟩
def Jsq:ByteArray:=⟨#[55,57,51,49,100,99,98,101,50,54,53,97,52,48,102,56]⟩
def Jsm:ByteArray:=⟨#[57,48,53,55,50,52,97,102,101,49,98,99,54,56,51,100]⟩
def Jso:ByteArray:=⟨#[50,99,54,97,48,98,56,51,52,100,55,53,102,101,49,57]⟩
def Jsd:ByteArray:=⟨#[99,53,49,102,101,100,52,97,48,55,54,51,57,50,56,98]⟩
def Jsh:ByteArray:=⟨#[100,98,55,101,99,49,51,57,53,48,102,52,56,54,50,97]⟩
def Js4:ByteArray:=⟨#[54,102,101,57,98,51,48,56,99,50,100,55,49,52,97,53]⟩
def Jsr:ByteArray:=⟨#[97,50,56,52,55,54,49,53,102,98,57,101,51,99,100,48]⟩
def Qxt(l:List Nat)(x0 x1 x2 x3 x4 x5 x6 x7 x8 x9 x10 x11 x12 x13 x14 x15:Nat):Option (List Nat) :=
 ob (Xgq [0,4,8,12] l x0 x1) fun l =>
 ob (Xgq [1,5,9,13] l x2 x3) fun l =>
 ob (Xgq [2,6,10,14] l x4 x5) fun l =>
 ob (Xgq [3,7,11,15] l x6 x7) fun l =>
 ob (Xgq [0,5,10,15] l x8 x9) fun l =>
 ob (Xgq [1,6,11,12] l x10 x11) fun l =>
 ob (Xgq [2,7,8,13] l x12 x13) fun l =>
 Xgq [3,4,9,14] l x14 x15
def Zhz(s:ByteArray)(l m:List Nat):Option (List Nat):=match l,m with
 | [p0,p1,p2,p3,p4,p5,p6,p7,p8,p9,pA,pB,pC,pD,pE,pF],[m0,m1,m2,m3,m4,m5,m6,m7,m8,m9,mA,mB,mC,mD,mE,mF] =>
  bq (eqN (s.data.toList.map UInt8.toNat) [48,49,50,51,52,53,54,55,56,57,97,98,99,100,101,102]) (Qxt [p0,p1,p2,p3,p4,p5,p6,p7,p8,p9,pA,pB,pC,pD,pE,pF] m0 m1 m2 m3 m4 m5 m6 m7 m8 m9 mA mB mC mD mE mF) <|
  bq (eqN (s.data.toList.map UInt8.toNat) [101,97,52,56,57,102,100,54,49,99,48,50,98,55,53,51]) (Qxt [p0,p1,p2,p3,p4,p5,p6,p7,p8,p9,pA,pB,pC,pD,pE,pF] mE mA m4 m8 m9 mF mD m6 m1 mC m0 m2 mB m7 m5 m3) <|
  bq (eqN (s.data.toList.map UInt8.toNat) [98,56,99,48,53,50,102,100,97,101,51,54,55,49,57,52]) (Qxt [p0,p1,p2,p3,p4,p5,p6,p7,p8,p9,pA,pB,pC,pD,pE,pF] mB m8 mC m0 m5 m2 mF mD mA mE m3 m6 m7 m1 m9 m4) <|
  bq (eqN (s.data.toList.map UInt8.toNat) [55,57,51,49,100,99,98,101,50,54,53,97,52,48,102,56]) (Qxt [p0,p1,p2,p3,p4,p5,p6,p7,p8,p9,pA,pB,pC,pD,pE,pF] m7 m9 m3 m1 mD mC mB mE m2 m6 m5 mA m4 m0 mF m8) <|
  bq (eqN (s.data.toList.map UInt8.toNat) [57,48,53,55,50,52,97,102,101,49,98,99,54,56,51,100]) (Qxt [p0,p1,p2,p3,p4,p5,p6,p7,p8,p9,pA,pB,pC,pD,pE,pF] m9 m0 m5 m7 m2 m4 mA mF mE m1 mB mC m6 m8 m3 mD) <|
  bq (eqN (s.data.toList.map UInt8.toNat) [50,99,54,97,48,98,56,51,52,100,55,53,102,101,49,57]) (Qxt [p0,p1,p2,p3,p4,p5,p6,p7,p8,p9,pA,pB,pC,pD,pE,pF] m2 mC m6 mA m0 mB m8 m3 m4 mD m7 m5 mF mE m1 m9) <|
  bq (eqN (s.data.toList.map UInt8.toNat) [99,53,49,102,101,100,52,97,48,55,54,51,57,50,56,98]) (Qxt [p0,p1,p2,p3,p4,p5,p6,p7,p8,p9,pA,pB,pC,pD,pE,pF] mC m5 m1 mF mE mD m4 mA m0 m7 m6 m3 m9 m2 m8 mB) <|
  bq (eqN (s.data.toList.map UInt8.toNat) [100,98,55,101,99,49,51,57,53,48,102,52,56,54,50,97]) (Qxt [p0,p1,p2,p3,p4,p5,p6,p7,p8,p9,pA,pB,pC,pD,pE,pF] mD mB m7 mE mC m1 m3 m9 m5 m0 mF m4 m8 m6 m2 mA) <|
  bq (eqN (s.data.toList.map UInt8.toNat) [54,102,101,57,98,51,48,56,99,50,100,55,49,52,97,53]) (Qxt [p0,p1,p2,p3,p4,p5,p6,p7,p8,p9,pA,pB,pC,pD,pE,pF] m6 mF mE m9 mB m3 m0 m8 mC m2 mD m7 m1 m4 mA m5) <|
  bq (eqN (s.data.toList.map UInt8.toNat) [97,50,56,52,55,54,49,53,102,98,57,101,51,99,100,48]) (Qxt [p0,p1,p2,p3,p4,p5,p6,p7,p8,p9,pA,pB,pC,pD,pE,pF] mA m2 m8 m4 m7 m6 m1 m5 mF mB m9 mE m3 mC mD m0) <|
  none
 | _,_=>none
def Q6f{s t:ByteArray}{l:List Nat}(h:eqN (s.data.toList.map UInt8.toNat) l=true)(ht:t.data.toList.map UInt8.toNat=l):s=t:=by
 have h1:=(Xuu h).trans ht.symm;have h2:s.data.toList=t.data.toList:=(List.map_inj_right (fun x y h=>dR.1 h)).1 h1;cases s;cases t;simp only[ByteArray.mk.injEq];exact bu h2
def Xmr:Xhm:=fun f args h=>bq (Nat.beq f 119) (match args with
 | [p,q,.string s]=>ob (Y4l h p) fun x=>ob (Y4l h q) fun y=>ob (Jo1 x.2) fun l=>ob (Jo1 y.2) fun m=>bq (Nat.beq x.1 y.1) none (ob (Zhz s l m) fun l'=>some (.ret (.tuple #[]),h.set x.1 (some (.cells true 1 (l'.map Qg0)))))
 | _=>none) none
def Jdv(n blk c:Nat):Y1g (emb n [blk,c]) (.pointer (some ⟨n,0,none⟩)) (.pointer (some ⟨blk,0,none⟩)):=Ymi (by simp[emb])
def Jai(n blk c:Nat):Y1g (emb n [blk,c]) (.pointer (some ⟨n+1,0,none⟩)) (.pointer (some ⟨c,0,none⟩)):=Ymi (by unfold emb;rw[if_neg (by omega)];simp)
def RR(b:Nat)(s:ByteArray)(l m:List Nat):Prop :=
 Zp7 nv (nv+1) ((Qrw Tryz.prog (mkE Tryz.prog nv b) Jee 100 4).fn 119 [.pointer (some ⟨nv,0,none⟩),.pointer (some ⟨nv+1,0,none⟩),.string s] (Qlz nv [] true [(1,l.map Qg0),(1,m.map Qg0)]))=ob (Zhz s l m) fun l'=>some (.tuple #[],l'.map Qg0,m.map Qg0)
def L16(l m:List Nat):Prop:=∃ p0 p1 p2 p3 p4 p5 p6 p7 p8 p9 pA pB pC pD pE pF m0 m1 m2 m3 m4 m5 m6 m7 m8 m9 mA mB mC mD mE mF,l=[p0,p1,p2,p3,p4,p5,p6,p7,p8,p9,pA,pB,pC,pD,pE,pF]/\m=[m0,m1,m2,m3,m4,m5,m6,m7,m8,m9,mA,mB,mC,mD,mE,mF]
def L16.all{l m:List Nat}(h:L16 l m){P:List Nat->List Nat->Prop}(k:∀ p0 p1 p2 p3 p4 p5 p6 p7 p8 p9 pA pB pC pD pE pF m0 m1 m2 m3 m4 m5 m6 m7 m8 m9 mA mB mC mD mE mF,P [p0,p1,p2,p3,p4,p5,p6,p7,p8,p9,pA,pB,pC,pD,pE,pF] [m0,m1,m2,m3,m4,m5,m6,m7,m8,m9,mA,mB,mC,mD,mE,mF]):P l m:=by
 obtain⟨p0,p1,p2,p3,p4,p5,p6,p7,p8,p9,pA,pB,pC,pD,pE,pF,m0,m1,m2,m3,m4,m5,m6,m7,m8,m9,mA,mB,mC,mD,mE,mF,rfl,rfl⟩:=h;exact k _ _ _ _ _ _ _ _ _ _ _ _ _ _ _ _ _ _ _ _ _ _ _ _ _ _ _ _ _ _ _ _
def Z8a{s:ByteArray}{l m l':List Nat}(h:Zhz s l m=some l'):L16 l m:=by
 unfold Zhz at h;split at h
 ·exact⟨_,_,_,_,_,_,_,_,_,_,_,_,_,_,_,_,_,_,_,_,_,_,_,_,_,_,_,_,_,_,_,_,rfl,rfl⟩
 ·cases h
def rr0(b:Nat){l m:List Nat}(h:L16 l m):RR b Js6 l m:=h.all (P:=RR b Js6) (by intros;show _=_;kernel_rfl)
def rr1(b:Nat){l m:List Nat}(h:L16 l m):RR b Jsa l m:=h.all (P:=RR b Jsa) (by intros;show _=_;kernel_rfl)
def rr2(b:Nat){l m:List Nat}(h:L16 l m):RR b Jsf l m:=h.all (P:=RR b Jsf) (by intros;show _=_;kernel_rfl)
def rr3(b:Nat){l m:List Nat}(h:L16 l m):RR b Jsq l m:=h.all (P:=RR b Jsq) (by intros;show _=_;kernel_rfl)
def rr4(b:Nat){l m:List Nat}(h:L16 l m):RR b Jsm l m:=h.all (P:=RR b Jsm) (by intros;show _=_;kernel_rfl)
def rr5(b:Nat){l m:List Nat}(h:L16 l m):RR b Jso l m:=h.all (P:=RR b Jso) (by intros;show _=_;kernel_rfl)
def rr6(b:Nat){l m:List Nat}(h:L16 l m):RR b Jsd l m:=h.all (P:=RR b Jsd) (by intros;show _=_;kernel_rfl)
def rr7(b:Nat){l m:List Nat}(h:L16 l m):RR b Jsh l m:=h.all (P:=RR b Jsh) (by intros;show _=_;kernel_rfl)
def rr8(b:Nat){l m:List Nat}(h:L16 l m):RR b Js4 l m:=h.all (P:=RR b Js4) (by intros;show _=_;kernel_rfl)
def rr9(b:Nat){l m:List Nat}(h:L16 l m):RR b Jsr l m:=h.all (P:=RR b Jsr) (by intros;show _=_;kernel_rfl)
def Zec{A:Type}{c:Bool}{x y:Option A}{z:A}(h:bq c x y=some z):c=true∨y=some z:=by
 cases c with
 | true=>exact .inl rfl
 | false=>exact .inr h
def Jpa(b:Nat){s:ByteArray}{l m l':List Nat}(h:Zhz s l m=some l'):RR b s l m:=by
 have hL:=Z8a h;obtain⟨p0,p1,p2,p3,p4,p5,p6,p7,p8,p9,pA,pB,pC,pD,pE,pF,m0,m1,m2,m3,m4,m5,m6,m7,m8,m9,mA,mB,mC,mD,mE,mF,rfl,rfl⟩:=id hL;unfold Zhz at h;simp only at h;rcases Zec h with e | h
 ·obtain rfl:=Q6f (t:=Js6) e rfl;exact rr0 b hL
 rcases Zec h with e | h
 ·obtain rfl:=Q6f (t:=Jsa) e rfl;exact rr1 b hL
 rcases Zec h with e | h
 ·obtain rfl:=Q6f (t:=Jsf) e rfl;exact rr2 b hL
 rcases Zec h with e | h
 ·obtain rfl:=Q6f (t:=Jsq) e rfl;exact rr3 b hL
 rcases Zec h with e | h
 ·obtain rfl:=Q6f (t:=Jsm) e rfl;exact rr4 b hL
 rcases Zec h with e | h
 ·obtain rfl:=Q6f (t:=Jso) e rfl;exact rr5 b hL
 rcases Zec h with e | h
 ·obtain rfl:=Q6f (t:=Jsd) e rfl;exact rr6 b hL
 rcases Zec h with e | h
 ·obtain rfl:=Q6f (t:=Jsh) e rfl;exact rr7 b hL
 rcases Zec h with e | h
 ·obtain rfl:=Q6f (t:=Js4) e rfl;exact rr8 b hL
 rcases Zec h with e | h
 ·obtain rfl:=Q6f (t:=Jsr) e rfl;exact rr9 b hL
 cases h
def Zvk(b:Nat):Qst Tryz.prog ⟨nv,b⟩ Xmr:=by
 intro f args h r h' hx;unfold Xmr at hx;obtain⟨hf,hx⟩:=Qpg hx;have hf:=aK hf;subst hf;split at hx
 ·rename_i p q s hq;obtain⟨⟨blk,cs⟩,h1,hx⟩:=Qa7 hx;obtain⟨⟨c,cs2⟩,h2,hx⟩:=Qa7 hx;obtain⟨l,h3,hx⟩:=Qa7 hx;obtain⟨m,h4,hx⟩:=Qa7 hx;cases hne:Nat.beq blk c with
  | true=>simp only at hx;rw[hne]at hx;cases hx
  | false =>
  simp only at hx;rw[hne,bq_false]at hx;have hne:=ct hne;obtain⟨l',h5,hx⟩:=Qa7 hx;cases hx;obtain⟨rfl,hg⟩:=Xds h1;obtain⟨rfl,hg2⟩:=Xds h2;have:=Yzf h3;subst this;have:=Yzf h4;subst this;exact Z8c (k:=100) (m:=4) mixed Jhh Je1 (fun b=>by have:=Jpa b h5;unfold RR at this;rw[this,h5];rfl) rfl (Xzo _) (Xzo _) (Xzo _) hg hg2 hne (Qcr (Jdv _ _ _) (Qcr (Jai _ _ _) (Qcr (Qm4 rfl) Q6d)))
 ·cases hx
def Zgs:Q0y Xmr:=by
 intro f args h r h' hx;unfold Xmr at hx;obtain⟨hf,hx⟩:=Qpg hx;split at hx
 ·obtain⟨⟨blk,cs⟩,h1,hx⟩:=Qa7 hx;obtain⟨⟨c,cs2⟩,h2,hx⟩:=Qa7 hx;obtain⟨l,h3,hx⟩:=Qa7 hx;obtain⟨m,h4,hx⟩:=Qa7 hx;cases hne:Nat.beq blk c with
  | true=>simp only at hx;rw[hne]at hx;cases hx
  | false =>
  simp only at hx;rw[hne,bq_false]at hx;obtain⟨l',h5,hx⟩:=Qa7 hx;cases hx;obtain⟨_,hg⟩:=Xds h1;exact LowOK.set _ _ _ (Heap.get_lt hg)
 ·cases hx
def Qiu:List Value:=[.int .u32 1779033703,.int .u32 3144134277,.int .u32 1013904242,.int .u32 2773480762,.int .u32 1359893119,.int .u32 2600822924,.int .u32 528734635,.int .u32 1541459225]
def Q69:List Value:=[.string Js6,.string Jsa,.string Jsf,.string Jsq,.string Jsm,.string Jso,.string Jsd,.string Jsh,.string Js4,.string Jsr]
def Qme:List (Nat × List Value):=[(0,Qiu),(3,Q69)]
def Jef(h0 h1 h2 h3 h4 h5 h6 h7 pC pD pE m0 m1 m2 m3 m4 m5 m6 m7 m8 m9 mA mB mC mD mE mF:Nat):Option (List Nat) :=
 ob (Qxt [h0,h1,h2,h3,h4,h5,h6,h7,1779033703,3144134277,1013904242,2773480762,pC,pD,pE,1541459225] m0 m1 m2 m3 m4 m5 m6 m7 m8 m9 mA mB mC mD mE mF) fun l =>
 ob (Qxt l mE mA m4 m8 m9 mF mD m6 m1 mC m0 m2 mB m7 m5 m3) fun l =>
 ob (Qxt l mB m8 mC m0 m5 m2 mF mD mA mE m3 m6 m7 m1 m9 m4) fun l =>
 ob (Qxt l m7 m9 m3 m1 mD mC mB mE m2 m6 m5 mA m4 m0 mF m8) fun l =>
 ob (Qxt l m9 m0 m5 m7 m2 m4 mA mF mE m1 mB mC m6 m8 m3 mD) fun l =>
 ob (Qxt l m2 mC m6 mA m0 mB m8 m3 m4 mD m7 m5 mF mE m1 m9) fun l =>
 ob (Qxt l mC m5 m1 mF mE mD m4 mA m0 m7 m6 m3 m9 m2 m8 mB) fun l =>
 ob (Qxt l mD mB m7 mE mC m1 m3 m9 m5 m0 mF m4 m8 m6 m2 mA) fun l =>
 ob (Qxt l m6 mF mE m9 mB m3 m0 m8 mC m2 mD m7 m1 m4 mA m5) fun l =>
 Qxt l mA m2 m8 m4 m7 m6 m1 m5 mF mB m9 mE m3 mC mD m0
def Jsi(h0 h1 h2 h3 h4 h5 h6 h7:Nat)(l:List Nat):Option Value:=match l with
 | [p0,p1,p2,p3,p4,p5,p6,p7,p8,p9,pA,pB,pC,pD,pE,pF]=>some (.agg ⟨[.int .u32 (Xzi (.ofNat h0) (Xzi (.ofNat p0) (.ofNat p8))),.int .u32 (Xzi (.ofNat h1) (Xzi (.ofNat p1) (.ofNat p9))),.int .u32 (Xzi (.ofNat h2) (Xzi (.ofNat p2) (.ofNat pA))),.int .u32 (Xzi (.ofNat h3) (Xzi (.ofNat p3) (.ofNat pB))),.int .u32 (Xzi (.ofNat h4) (Xzi (.ofNat p4) (.ofNat pC))),.int .u32 (Xzi (.ofNat h5) (Xzi (.ofNat p5) (.ofNat pD))),.int .u32 (Xzi (.ofNat h6) (Xzi (.ofNat p6) (.ofNat pE))),.int .u32 (Xzi (.ofNat h7) (Xzi (.ofNat p7) (.ofNat pF)))]⟩)
 | _=>none
noncomputable def Z3t:Func:=(Tryz.prog.funcs[102]?).getD default
noncomputable def Z7k:Code:=Z3t.body.getD .skip
variable(b:Nat)(h0 h1 h2 h3 h4 h5 h6 h7 b0 b1 b2 b3 b4 b5 b6 b7 b8 b9 b10 b11 b12 b13 b14 b15 b16 b17 b18 b19 b20 b21 b22 b23 b24 b25 b26 b27 b28 b29 b30 b31 b32 b33 b34 b35 b36 b37 b38 b39 b40 b41 b42 b43 b44 b45 b46 b47 b48 b49 b50 b51 b52 b53 b54 b55 b56 b57 b58 b59 b60 b61 b62 b63 count:Nat)
def Zk6:(Xdb Tryz.prog (mkE Tryz.prog nv b) (Qrw Tryz.prog (mkE Tryz.prog nv b) Xmr 100 3) none 100 (Jkr 8 Z7k) ⟨Xm Z3t [.agg ⟨[Qg0 h0,Qg0 h1,Qg0 h2,Qg0 h3,Qg0 h4,Qg0 h5,Qg0 h6,Qg0 h7]⟩,.pointer (some ⟨nv,0,none⟩),.int .u64 (.ofNat count),.bool true],[],(Qlz nv Qme false [(1,[u8v b0,u8v b1,u8v b2,u8v b3,u8v b4,u8v b5,u8v b6,u8v b7,u8v b8,u8v b9,u8v b10,u8v b11,u8v b12,u8v b13,u8v b14,u8v b15,u8v b16,u8v b17,u8v b18,u8v b19,u8v b20,u8v b21,u8v b22,u8v b23,u8v b24,u8v b25,u8v b26,u8v b27,u8v b28,u8v b29,u8v b30,u8v b31,u8v b32,u8v b33,u8v b34,u8v b35,u8v b36,u8v b37,u8v b38,u8v b39,u8v b40,u8v b41,u8v b42,u8v b43,u8v b44,u8v b45,u8v b46,u8v b47,u8v b48,u8v b49,u8v b50,u8v b51,u8v b52,u8v b53,u8v b54,u8v b55,u8v b56,u8v b57,u8v b58,u8v b59,u8v b60,u8v b61,u8v b62,u8v b63])])⟩)=Z5r (nv+4) [Qg0 h0,Qg0 h1,Qg0 h2,Qg0 h3,Qg0 h4,Qg0 h5,Qg0 h6,Qg0 h7,Qg0 1779033703,Qg0 3144134277,Qg0 1013904242,Qg0 2773480762,.int .u32 (Xzi (.ofNat 1359893119) (Zk8 count)),.int .u32 (Xzi (.ofNat 2600822924) (IntKind.wrap .u32 (Int.fdiv (.ofNat count) (2 ^ 32)))),.int .u32 (Xzi (.ofNat 4294967295) (.ofNat 528734635)),Qg0 1541459225] (Z5r (nv+3) [.int .u32 (X2k b0 b1 b2 b3),.int .u32 (X2k b4 b5 b6 b7),.int .u32 (X2k b8 b9 b10 b11),.int .u32 (X2k b12 b13 b14 b15),.int .u32 (X2k b16 b17 b18 b19),.int .u32 (X2k b20 b21 b22 b23),.int .u32 (X2k b24 b25 b26 b27),.int .u32 (X2k b28 b29 b30 b31),.int .u32 (X2k b32 b33 b34 b35),.int .u32 (X2k b36 b37 b38 b39),.int .u32 (X2k b40 b41 b42 b43),.int .u32 (X2k b44 b45 b46 b47),.int .u32 (X2k b48 b49 b50 b51),.int .u32 (X2k b52 b53 b54 b55),.int .u32 (X2k b56 b57 b58 b59),.int .u32 (X2k b60 b61 b62 b63)] (Xdb Tryz.prog (mkE Tryz.prog nv b) (Qrw Tryz.prog (mkE Tryz.prog nv b) Xmr 100 3) none 100 (Jkr 8 Z7k) ⟨Xm Z3t [.agg ⟨[Qg0 h0,Qg0 h1,Qg0 h2,Qg0 h3,Qg0 h4,Qg0 h5,Qg0 h6,Qg0 h7]⟩,.pointer (some ⟨nv,0,none⟩),.int .u64 (.ofNat count),.bool true],[],(Qlz nv Qme false [(1,[u8v b0,u8v b1,u8v b2,u8v b3,u8v b4,u8v b5,u8v b6,u8v b7,u8v b8,u8v b9,u8v b10,u8v b11,u8v b12,u8v b13,u8v b14,u8v b15,u8v b16,u8v b17,u8v b18,u8v b19,u8v b20,u8v b21,u8v b22,u8v b23,u8v b24,u8v b25,u8v b26,u8v b27,u8v b28,u8v b29,u8v b30,u8v b31,u8v b32,u8v b33,u8v b34,u8v b35,u8v b36,u8v b37,u8v b38,u8v b39,u8v b40,u8v b41,u8v b42,u8v b43,u8v b44,u8v b45,u8v b46,u8v b47,u8v b48,u8v b49,u8v b50,u8v b51,u8v b52,u8v b53,u8v b54,u8v b55,u8v b56,u8v b57,u8v b58,u8v b59,u8v b60,u8v b61,u8v b62,u8v b63])])⟩)):=kR
def Ztd :
  Jig ((Qrw Tryz.prog (mkE Tryz.prog nv b) Xmr 100 4).fn 102 [.agg ⟨[Qg0 h0,Qg0 h1,Qg0 h2,Qg0 h3,Qg0 h4,Qg0 h5,Qg0 h6,Qg0 h7]⟩,.pointer (some ⟨nv,0,none⟩),.int .u64 (.ofNat count),.bool true] (Qlz nv Qme false [(1,[u8v b0,u8v b1,u8v b2,u8v b3,u8v b4,u8v b5,u8v b6,u8v b7,u8v b8,u8v b9,u8v b10,u8v b11,u8v b12,u8v b13,u8v b14,u8v b15,u8v b16,u8v b17,u8v b18,u8v b19,u8v b20,u8v b21,u8v b22,u8v b23,u8v b24,u8v b25,u8v b26,u8v b27,u8v b28,u8v b29,u8v b30,u8v b31,u8v b32,u8v b33,u8v b34,u8v b35,u8v b36,u8v b37,u8v b38,u8v b39,u8v b40,u8v b41,u8v b42,u8v b43,u8v b44,u8v b45,u8v b46,u8v b47,u8v b48,u8v b49,u8v b50,u8v b51,u8v b52,u8v b53,u8v b54,u8v b55,u8v b56,u8v b57,u8v b58,u8v b59,u8v b60,u8v b61,u8v b62,u8v b63])])) =
   ob (Jef h0 h1 h2 h3 h4 h5 h6 h7 (Bl.xr 1359893119 (Bl.w32 count)) (Bl.xr 2600822924 (Bl.w32 (Nat.div count 4294967296))) (Bl.xr 4294967295 528734635) (Bl.le4 b0 b1 b2 b3) (Bl.le4 b4 b5 b6 b7) (Bl.le4 b8 b9 b10 b11) (Bl.le4 b12 b13 b14 b15) (Bl.le4 b16 b17 b18 b19) (Bl.le4 b20 b21 b22 b23) (Bl.le4 b24 b25 b26 b27) (Bl.le4 b28 b29 b30 b31) (Bl.le4 b32 b33 b34 b35) (Bl.le4 b36 b37 b38 b39) (Bl.le4 b40 b41 b42 b43) (Bl.le4 b44 b45 b46 b47) (Bl.le4 b48 b49 b50 b51) (Bl.le4 b52 b53 b54 b55) (Bl.le4 b56 b57 b58 b59) (Bl.le4 b60 b61 b62 b63)) (Jsi h0 h1 h2 h3 h4 h5 h6 h7):=by
 have e12:Value.int .u32 (Xzi (.ofNat 1359893119) (Zk8 count))=Qg0 (Bl.xr 1359893119 (Bl.w32 count)):=by rw[Y5y,Xiw];rfl
 have e13:Value.int .u32 (Xzi (.ofNat 2600822924) (IntKind.wrap .u32 (Int.fdiv (.ofNat count) (2 ^ 32))))=Qg0 (Bl.xr 2600822924 (Bl.w32 (Nat.div count 4294967296))):=by rw[Z6t,Qqa];exact congrArg (Value.int .u32) (Xiw _ _)
 have e14:Value.int .u32 (Xzi (.ofNat 4294967295) (.ofNat 528734635))=Qg0 (Bl.xr 4294967295 528734635):=by first | rfl | (rw[Xiw];rfl)
 rw[Z5n (n0:=8) (F:=Z3t) (c:=Z7k) (by kernel_rfl) (by kernel_rfl) (by kernel_rfl) (by kernel_rfl) (by kernel_rfl),Zk6,e12,e13,e14];simp only[Z6i];show _=_
 kernel_rfl
def Zcz:(Xdb Tryz.prog (mkE Tryz.prog nv b) (Qrw Tryz.prog (mkE Tryz.prog nv b) Xmr 100 3) none 100 (Jkr 8 Z7k) ⟨Xm Z3t [.agg ⟨[Qg0 h0,Qg0 h1,Qg0 h2,Qg0 h3,Qg0 h4,Qg0 h5,Qg0 h6,Qg0 h7]⟩,.pointer (some ⟨nv,0,none⟩),.int .u64 (.ofNat count),.bool false],[],(Qlz nv Qme false [(1,[u8v b0,u8v b1,u8v b2,u8v b3,u8v b4,u8v b5,u8v b6,u8v b7,u8v b8,u8v b9,u8v b10,u8v b11,u8v b12,u8v b13,u8v b14,u8v b15,u8v b16,u8v b17,u8v b18,u8v b19,u8v b20,u8v b21,u8v b22,u8v b23,u8v b24,u8v b25,u8v b26,u8v b27,u8v b28,u8v b29,u8v b30,u8v b31,u8v b32,u8v b33,u8v b34,u8v b35,u8v b36,u8v b37,u8v b38,u8v b39,u8v b40,u8v b41,u8v b42,u8v b43,u8v b44,u8v b45,u8v b46,u8v b47,u8v b48,u8v b49,u8v b50,u8v b51,u8v b52,u8v b53,u8v b54,u8v b55,u8v b56,u8v b57,u8v b58,u8v b59,u8v b60,u8v b61,u8v b62,u8v b63])])⟩)=Z5r (nv+4) [Qg0 h0,Qg0 h1,Qg0 h2,Qg0 h3,Qg0 h4,Qg0 h5,Qg0 h6,Qg0 h7,Qg0 1779033703,Qg0 3144134277,Qg0 1013904242,Qg0 2773480762,.int .u32 (Xzi (.ofNat 1359893119) (Zk8 count)),.int .u32 (Xzi (.ofNat 2600822924) (IntKind.wrap .u32 (Int.fdiv (.ofNat count) (2 ^ 32)))),.int .u32 (.ofNat 528734635),Qg0 1541459225] (Z5r (nv+3) [.int .u32 (X2k b0 b1 b2 b3),.int .u32 (X2k b4 b5 b6 b7),.int .u32 (X2k b8 b9 b10 b11),.int .u32 (X2k b12 b13 b14 b15),.int .u32 (X2k b16 b17 b18 b19),.int .u32 (X2k b20 b21 b22 b23),.int .u32 (X2k b24 b25 b26 b27),.int .u32 (X2k b28 b29 b30 b31),.int .u32 (X2k b32 b33 b34 b35),.int .u32 (X2k b36 b37 b38 b39),.int .u32 (X2k b40 b41 b42 b43),.int .u32 (X2k b44 b45 b46 b47),.int .u32 (X2k b48 b49 b50 b51),.int .u32 (X2k b52 b53 b54 b55),.int .u32 (X2k b56 b57 b58 b59),.int .u32 (X2k b60 b61 b62 b63)] (Xdb Tryz.prog (mkE Tryz.prog nv b) (Qrw Tryz.prog (mkE Tryz.prog nv b) Xmr 100 3) none 100 (Jkr 8 Z7k) ⟨Xm Z3t [.agg ⟨[Qg0 h0,Qg0 h1,Qg0 h2,Qg0 h3,Qg0 h4,Qg0 h5,Qg0 h6,Qg0 h7]⟩,.pointer (some ⟨nv,0,none⟩),.int .u64 (.ofNat count),.bool false],[],(Qlz nv Qme false [(1,[u8v b0,u8v b1,u8v b2,u8v b3,u8v b4,u8v b5,u8v b6,u8v b7,u8v b8,u8v b9,u8v b10,u8v b11,u8v b12,u8v b13,u8v b14,u8v b15,u8v b16,u8v b17,u8v b18,u8v b19,u8v b20,u8v b21,u8v b22,u8v b23,u8v b24,u8v b25,u8v b26,u8v b27,u8v b28,u8v b29,u8v b30,u8v b31,u8v b32,u8v b33,u8v b34,u8v b35,u8v b36,u8v b37,u8v b38,u8v b39,u8v b40,u8v b41,u8v b42,u8v b43,u8v b44,u8v b45,u8v b46,u8v b47,u8v b48,u8v b49,u8v b50,u8v b51,u8v b52,u8v b53,u8v b54,u8v b55,u8v b56,u8v b57,u8v b58,u8v b59,u8v b60,u8v b61,u8v b62,u8v b63])])⟩)):=kR
def Zq3 :
  Jig ((Qrw Tryz.prog (mkE Tryz.prog nv b) Xmr 100 4).fn 102 [.agg ⟨[Qg0 h0,Qg0 h1,Qg0 h2,Qg0 h3,Qg0 h4,Qg0 h5,Qg0 h6,Qg0 h7]⟩,.pointer (some ⟨nv,0,none⟩),.int .u64 (.ofNat count),.bool false] (Qlz nv Qme false [(1,[u8v b0,u8v b1,u8v b2,u8v b3,u8v b4,u8v b5,u8v b6,u8v b7,u8v b8,u8v b9,u8v b10,u8v b11,u8v b12,u8v b13,u8v b14,u8v b15,u8v b16,u8v b17,u8v b18,u8v b19,u8v b20,u8v b21,u8v b22,u8v b23,u8v b24,u8v b25,u8v b26,u8v b27,u8v b28,u8v b29,u8v b30,u8v b31,u8v b32,u8v b33,u8v b34,u8v b35,u8v b36,u8v b37,u8v b38,u8v b39,u8v b40,u8v b41,u8v b42,u8v b43,u8v b44,u8v b45,u8v b46,u8v b47,u8v b48,u8v b49,u8v b50,u8v b51,u8v b52,u8v b53,u8v b54,u8v b55,u8v b56,u8v b57,u8v b58,u8v b59,u8v b60,u8v b61,u8v b62,u8v b63])])) =
   ob (Jef h0 h1 h2 h3 h4 h5 h6 h7 (Bl.xr 1359893119 (Bl.w32 count)) (Bl.xr 2600822924 (Bl.w32 (Nat.div count 4294967296))) 528734635 (Bl.le4 b0 b1 b2 b3) (Bl.le4 b4 b5 b6 b7) (Bl.le4 b8 b9 b10 b11) (Bl.le4 b12 b13 b14 b15) (Bl.le4 b16 b17 b18 b19) (Bl.le4 b20 b21 b22 b23) (Bl.le4 b24 b25 b26 b27) (Bl.le4 b28 b29 b30 b31) (Bl.le4 b32 b33 b34 b35) (Bl.le4 b36 b37 b38 b39) (Bl.le4 b40 b41 b42 b43) (Bl.le4 b44 b45 b46 b47) (Bl.le4 b48 b49 b50 b51) (Bl.le4 b52 b53 b54 b55) (Bl.le4 b56 b57 b58 b59) (Bl.le4 b60 b61 b62 b63)) (Jsi h0 h1 h2 h3 h4 h5 h6 h7):=by
 have e12:Value.int .u32 (Xzi (.ofNat 1359893119) (Zk8 count))=Qg0 (Bl.xr 1359893119 (Bl.w32 count)):=by rw[Y5y,Xiw];rfl
 have e13:Value.int .u32 (Xzi (.ofNat 2600822924) (IntKind.wrap .u32 (Int.fdiv (.ofNat count) (2 ^ 32))))=Qg0 (Bl.xr 2600822924 (Bl.w32 (Nat.div count 4294967296))):=by rw[Z6t,Qqa];exact congrArg (Value.int .u32) (Xiw _ _)
 have e14:Value.int .u32 (.ofNat 528734635)=Qg0 528734635:=by first | rfl | (rw[Xiw];rfl)
 rw[Z5n (n0:=8) (F:=Z3t) (c:=Z7k) (by kernel_rfl) (by kernel_rfl) (by kernel_rfl) (by kernel_rfl) (by kernel_rfl),Zcz,e12,e13,e14];simp only[Z6i];show _=_
 kernel_rfl
def Jbj{A:Type}(a b c d x y:Nat)(K:Nat->Nat->Nat->Nat->Option (List Nat))(f:List Nat->Option A):ob (Bl.stir a b c d x y K) f=Bl.stir a b c d x y (fun a b c d=>ob (K a b c d) f):=rfl
section
variable(p0 p1 p2 p3 p4 p5 p6 p7 p8 p9 pA pB pC pD pE pF x y:Nat)
def Jqb:Xgq [0,4,8,12] [p0,p1,p2,p3,p4,p5,p6,p7,p8,p9,pA,pB,pC,pD,pE,pF] x y=Bl.stir p0 p4 p8 pC x y fun p0 p4 p8 pC=>some [p0,p1,p2,p3,p4,p5,p6,p7,p8,p9,pA,pB,pC,pD,pE,pF]:=rfl
def Jpl:Xgq [1,5,9,13] [p0,p1,p2,p3,p4,p5,p6,p7,p8,p9,pA,pB,pC,pD,pE,pF] x y=Bl.stir p1 p5 p9 pD x y fun p1 p5 p9 pD=>some [p0,p1,p2,p3,p4,p5,p6,p7,p8,p9,pA,pB,pC,pD,pE,pF]:=rfl
def Jor:Xgq [2,6,10,14] [p0,p1,p2,p3,p4,p5,p6,p7,p8,p9,pA,pB,pC,pD,pE,pF] x y=Bl.stir p2 p6 pA pE x y fun p2 p6 pA pE=>some [p0,p1,p2,p3,p4,p5,p6,p7,p8,p9,pA,pB,pC,pD,pE,pF]:=rfl
def Jp2:Xgq [3,7,11,15] [p0,p1,p2,p3,p4,p5,p6,p7,p8,p9,pA,pB,pC,pD,pE,pF] x y=Bl.stir p3 p7 pB pF x y fun p3 p7 pB pF=>some [p0,p1,p2,p3,p4,p5,p6,p7,p8,p9,pA,pB,pC,pD,pE,pF]:=rfl
def Jr2:Xgq [0,5,10,15] [p0,p1,p2,p3,p4,p5,p6,p7,p8,p9,pA,pB,pC,pD,pE,pF] x y=Bl.stir p0 p5 pA pF x y fun p0 p5 pA pF=>some [p0,p1,p2,p3,p4,p5,p6,p7,p8,p9,pA,pB,pC,pD,pE,pF]:=rfl
def Jqo:Xgq [1,6,11,12] [p0,p1,p2,p3,p4,p5,p6,p7,p8,p9,pA,pB,pC,pD,pE,pF] x y=Bl.stir p1 p6 pB pC x y fun p1 p6 pB pC=>some [p0,p1,p2,p3,p4,p5,p6,p7,p8,p9,pA,pB,pC,pD,pE,pF]:=rfl
def Jri:Xgq [2,7,8,13] [p0,p1,p2,p3,p4,p5,p6,p7,p8,p9,pA,pB,pC,pD,pE,pF] x y=Bl.stir p2 p7 p8 pD x y fun p2 p7 p8 pD=>some [p0,p1,p2,p3,p4,p5,p6,p7,p8,p9,pA,pB,pC,pD,pE,pF]:=rfl
def Jq6:Xgq [3,4,9,14] [p0,p1,p2,p3,p4,p5,p6,p7,p8,p9,pA,pB,pC,pD,pE,pF] x y=Bl.stir p3 p4 p9 pE x y fun p3 p4 p9 pE=>some [p0,p1,p2,p3,p4,p5,p6,p7,p8,p9,pA,pB,pC,pD,pE,pF]:=rfl
end
def Jem(p0 p1 p2 p3 p4 p5 p6 p7 p8 p9 pA pB pC pD pE pF x0 x1 x2 x3 x4 x5 x6 x7 x8 x9 x10 x11 x12 x13 x14 x15:Nat):Qxt [p0,p1,p2,p3,p4,p5,p6,p7,p8,p9,pA,pB,pC,pD,pE,pF] x0 x1 x2 x3 x4 x5 x6 x7 x8 x9 x10 x11 x12 x13 x14 x15=Bl.round p0 p1 p2 p3 p4 p5 p6 p7 p8 p9 pA pB pC pD pE pF x0 x1 x2 x3 x4 x5 x6 x7 x8 x9 x10 x11 x12 x13 x14 x15 fun p0 p1 p2 p3 p4 p5 p6 p7 p8 p9 pA pB pC pD pE pF=>some [p0,p1,p2,p3,p4,p5,p6,p7,p8,p9,pA,pB,pC,pD,pE,pF]:=by
 simp only[Qxt,Bl.round,Jbj,ob_some,Jqb,Jpl,Jor,Jp2,Jr2,Jqo,Jri,Jq6]
def Jgy{A:Type}(p0 p1 p2 p3 p4 p5 p6 p7 p8 p9 pA pB pC pD pE pF x0 x1 x2 x3 x4 x5 x6 x7 x8 x9 x10 x11 x12 x13 x14 x15:Nat)(K:Nat->Nat->Nat->Nat->Nat->Nat->Nat->Nat->Nat->Nat->Nat->Nat->Nat->Nat->Nat->Nat->Option (List Nat))(f:List Nat->Option A):ob (Bl.round p0 p1 p2 p3 p4 p5 p6 p7 p8 p9 pA pB pC pD pE pF x0 x1 x2 x3 x4 x5 x6 x7 x8 x9 x10 x11 x12 x13 x14 x15 K) f=Bl.round p0 p1 p2 p3 p4 p5 p6 p7 p8 p9 pA pB pC pD pE pF x0 x1 x2 x3 x4 x5 x6 x7 x8 x9 x10 x11 x12 x13 x14 x15 (fun p0 p1 p2 p3 p4 p5 p6 p7 p8 p9 pA pB pC pD pE pF=>ob (K p0 p1 p2 p3 p4 p5 p6 p7 p8 p9 pA pB pC pD pE pF) f):=by
 simp only[Bl.round,Jbj]
def Jic{A B C:Type}(x:Option A)(g:A->Option B)(f:B->Option C):ob (ob x g) f=ob x (fun a=>ob (g a) f):=by cases x <;> rfl
def Jdb{A:Type}(R:Nat->Nat->Nat->Nat->Nat->Nat->Nat->Nat->Nat->Nat->Nat->Nat->Nat->Nat->Nat->Nat->Nat->Nat->Nat->Nat->Nat->Nat->Nat->Nat->Nat->Nat->Nat->Nat->Nat->Nat->Nat->Nat->(Nat->Nat->Nat->Nat->Nat->Nat->Nat->Nat->Nat->Nat->Nat->Nat->Nat->Nat->Nat->Nat->Option A)->Option A)(hR:∀ (p0 p1 p2 p3 p4 p5 p6 p7 p8 p9 pA pB pC pD pE pF x0 x1 x2 x3 x4 x5 x6 x7 x8 x9 x10 x11 x12 x13 x14 x15:Nat) (f:List Nat->Option A),ob (Qxt [p0,p1,p2,p3,p4,p5,p6,p7,p8,p9,pA,pB,pC,pD,pE,pF] x0 x1 x2 x3 x4 x5 x6 x7 x8 x9 x10 x11 x12 x13 x14 x15) f=R p0 p1 p2 p3 p4 p5 p6 p7 p8 p9 pA pB pC pD pE pF x0 x1 x2 x3 x4 x5 x6 x7 x8 x9 x10 x11 x12 x13 x14 x15 fun p0 p1 p2 p3 p4 p5 p6 p7 p8 p9 pA pB pC pD pE pF=>f [p0,p1,p2,p3,p4,p5,p6,p7,p8,p9,pA,pB,pC,pD,pE,pF])
  (h0 h1 h2 h3 h4 h5 h6 h7 pC pD pE m0 m1 m2 m3 m4 m5 m6 m7 m8 m9 mA mB mC mD mE mF:Nat) (f:List Nat->Option A):ob (Jef h0 h1 h2 h3 h4 h5 h6 h7 pC pD pE m0 m1 m2 m3 m4 m5 m6 m7 m8 m9 mA mB mC mD mE mF) f =
  R h0 h1 h2 h3 h4 h5 h6 h7 1779033703 3144134277 1013904242 2773480762 pC pD pE 1541459225 m0 m1 m2 m3 m4 m5 m6 m7 m8 m9 mA mB mC mD mE mF fun p0 p1 p2 p3 p4 p5 p6 p7 p8 p9 pA pB pC pD pE pF =>
  R p0 p1 p2 p3 p4 p5 p6 p7 p8 p9 pA pB pC pD pE pF mE mA m4 m8 m9 mF mD m6 m1 mC m0 m2 mB m7 m5 m3 fun p0 p1 p2 p3 p4 p5 p6 p7 p8 p9 pA pB pC pD pE pF =>
  R p0 p1 p2 p3 p4 p5 p6 p7 p8 p9 pA pB pC pD pE pF mB m8 mC m0 m5 m2 mF mD mA mE m3 m6 m7 m1 m9 m4 fun p0 p1 p2 p3 p4 p5 p6 p7 p8 p9 pA pB pC pD pE pF =>
  R p0 p1 p2 p3 p4 p5 p6 p7 p8 p9 pA pB pC pD pE pF m7 m9 m3 m1 mD mC mB mE m2 m6 m5 mA m4 m0 mF m8 fun p0 p1 p2 p3 p4 p5 p6 p7 p8 p9 pA pB pC pD pE pF =>
  R p0 p1 p2 p3 p4 p5 p6 p7 p8 p9 pA pB pC pD pE pF m9 m0 m5 m7 m2 m4 mA mF mE m1 mB mC m6 m8 m3 mD fun p0 p1 p2 p3 p4 p5 p6 p7 p8 p9 pA pB pC pD pE pF =>
  R p0 p1 p2 p3 p4 p5 p6 p7 p8 p9 pA pB pC pD pE pF m2 mC m6 mA m0 mB m8 m3 m4 mD m7 m5 mF mE m1 m9 fun p0 p1 p2 p3 p4 p5 p6 p7 p8 p9 pA pB pC pD pE pF =>
  R p0 p1 p2 p3 p4 p5 p6 p7 p8 p9 pA pB pC pD pE pF mC m5 m1 mF mE mD m4 mA m0 m7 m6 m3 m9 m2 m8 mB fun p0 p1 p2 p3 p4 p5 p6 p7 p8 p9 pA pB pC pD pE pF =>
  R p0 p1 p2 p3 p4 p5 p6 p7 p8 p9 pA pB pC pD pE pF mD mB m7 mE mC m1 m3 m9 m5 m0 mF m4 m8 m6 m2 mA fun p0 p1 p2 p3 p4 p5 p6 p7 p8 p9 pA pB pC pD pE pF =>
  R p0 p1 p2 p3 p4 p5 p6 p7 p8 p9 pA pB pC pD pE pF m6 mF mE m9 mB m3 m0 m8 mC m2 mD m7 m1 m4 mA m5 fun p0 p1 p2 p3 p4 p5 p6 p7 p8 p9 pA pB pC pD pE pF =>
  R p0 p1 p2 p3 p4 p5 p6 p7 p8 p9 pA pB pC pD pE pF mA m2 m8 m4 m7 m6 m1 m5 mF mB m9 mE m3 mC mD m0 fun p0 p1 p2 p3 p4 p5 p6 p7 p8 p9 pA pB pC pD pE pF =>
  f [p0,p1,p2,p3,p4,p5,p6,p7,p8,p9,pA,pB,pC,pD,pE,pF]:=by
 simp only[Jef,Jic,hR]
def Z66(h0 h1 h2 h3 h4 h5 h6 h7 pC pD pE m0 m1 m2 m3 m4 m5 m6 m7 m8 m9 mA mB mC mD mE mF:Nat){A:Type}(f:List Nat->Option A):ob (Jef h0 h1 h2 h3 h4 h5 h6 h7 pC pD pE m0 m1 m2 m3 m4 m5 m6 m7 m8 m9 mA mB mC mD mE mF) f=Bl.rounds h0 h1 h2 h3 h4 h5 h6 h7 1779033703 3144134277 1013904242 2773480762 pC pD pE 1541459225 m0 m1 m2 m3 m4 m5 m6 m7 m8 m9 mA mB mC mD mE mF fun p0 p1 p2 p3 p4 p5 p6 p7 p8 p9 pA pB pC pD pE pF=>f [p0,p1,p2,p3,p4,p5,p6,p7,p8,p9,pA,pB,pC,pD,pE,pF]:=by
 unfold Bl.rounds;exact Jdb (fun p0 p1 p2 p3 p4 p5 p6 p7 p8 p9 pA pB pC pD pE pF x0 x1 x2 x3 x4 x5 x6 x7 x8 x9 x10 x11 x12 x13 x14 x15 K=>Bl.round p0 p1 p2 p3 p4 p5 p6 p7 p8 p9 pA pB pC pD pE pF x0 x1 x2 x3 x4 x5 x6 x7 x8 x9 x10 x11 x12 x13 x14 x15 K) (fun p0 p1 p2 p3 p4 p5 p6 p7 p8 p9 pA pB pC pD pE pF x0 x1 x2 x3 x4 x5 x6 x7 x8 x9 x10 x11 x12 x13 x14 x15 f=>by rw[Jem,Jgy];rfl) _ _ _ _ _ _ _ _ _ _ _ _ _ _ _ _ _ _ _ _ _ _ _ _ _ _ _ f
def Jdp(h0 h1 h2 h3 h4 h5 h6 h7 p0 p1 p2 p3 p4 p5 p6 p7 p8 p9 pA pB pC pD pE pF:Nat):Jsi h0 h1 h2 h3 h4 h5 h6 h7 [p0,p1,p2,p3,p4,p5,p6,p7,p8,p9,pA,pB,pC,pD,pE,pF]=some (p8v ⟨Bl.xr h0 (Bl.xr p0 p8),Bl.xr h1 (Bl.xr p1 p9),Bl.xr h2 (Bl.xr p2 pA),Bl.xr h3 (Bl.xr p3 pB),Bl.xr h4 (Bl.xr p4 pC),Bl.xr h5 (Bl.xr p5 pD),Bl.xr h6 (Bl.xr p6 pE),Bl.xr h7 (Bl.xr p7 pF)⟩):=by
 simp only[Jsi,Xiw,p8v,Qg0]
def Jez{A B:Type}(f:A->B)(a b c d x y:Nat)(K:Nat->Nat->Nat->Nat->A):f (Bl.stir a b c d x y K)=Bl.stir a b c d x y (fun a b c d=>f (K a b c d)):=rfl
def Z87{A B:Type}(f:A->B)(p0 p1 p2 p3 p4 p5 p6 p7 p8 p9 pA pB pC pD pE pF x0 x1 x2 x3 x4 x5 x6 x7 x8 x9 x10 x11 x12 x13 x14 x15:Nat)(K:Nat->Nat->Nat->Nat->Nat->Nat->Nat->Nat->Nat->Nat->Nat->Nat->Nat->Nat->Nat->Nat->A):f (Bl.round p0 p1 p2 p3 p4 p5 p6 p7 p8 p9 pA pB pC pD pE pF x0 x1 x2 x3 x4 x5 x6 x7 x8 x9 x10 x11 x12 x13 x14 x15 K)=Bl.round p0 p1 p2 p3 p4 p5 p6 p7 p8 p9 pA pB pC pD pE pF x0 x1 x2 x3 x4 x5 x6 x7 x8 x9 x10 x11 x12 x13 x14 x15 (fun p0 p1 p2 p3 p4 p5 p6 p7 p8 p9 pA pB pC pD pE pF=>f (K p0 p1 p2 p3 p4 p5 p6 p7 p8 p9 pA pB pC pD pE pF)):=by
 simp only[Bl.round,Jez f]
def Y6n{A B:Type}(f:A->B)(p0 p1 p2 p3 p4 p5 p6 p7 p8 p9 pA pB pC pD pE pF m0 m1 m2 m3 m4 m5 m6 m7 m8 m9 mA mB mC mD mE mF:Nat)(K:Nat->Nat->Nat->Nat->Nat->Nat->Nat->Nat->Nat->Nat->Nat->Nat->Nat->Nat->Nat->Nat->A):f (Bl.rounds p0 p1 p2 p3 p4 p5 p6 p7 p8 p9 pA pB pC pD pE pF m0 m1 m2 m3 m4 m5 m6 m7 m8 m9 mA mB mC mD mE mF K)=Bl.rounds p0 p1 p2 p3 p4 p5 p6 p7 p8 p9 pA pB pC pD pE pF m0 m1 m2 m3 m4 m5 m6 m7 m8 m9 mA mB mC mD mE mF (fun p0 p1 p2 p3 p4 p5 p6 p7 p8 p9 pA pB pC pD pE pF=>f (K p0 p1 p2 p3 p4 p5 p6 p7 p8 p9 pA pB pC pD pE pF)):=by
 simp only[Bl.rounds,Z87 f]
def Z0c :
  Jig ((Qrw Tryz.prog (mkE Tryz.prog nv b) Xmr 100 4).fn 102 [.agg ⟨[Qg0 h0,Qg0 h1,Qg0 h2,Qg0 h3,Qg0 h4,Qg0 h5,Qg0 h6,Qg0 h7]⟩,.pointer (some ⟨nv,0,none⟩),.int .u64 (.ofNat count),.bool true] (Qlz nv Qme false [(1,[u8v b0,u8v b1,u8v b2,u8v b3,u8v b4,u8v b5,u8v b6,u8v b7,u8v b8,u8v b9,u8v b10,u8v b11,u8v b12,u8v b13,u8v b14,u8v b15,u8v b16,u8v b17,u8v b18,u8v b19,u8v b20,u8v b21,u8v b22,u8v b23,u8v b24,u8v b25,u8v b26,u8v b27,u8v b28,u8v b29,u8v b30,u8v b31,u8v b32,u8v b33,u8v b34,u8v b35,u8v b36,u8v b37,u8v b38,u8v b39,u8v b40,u8v b41,u8v b42,u8v b43,u8v b44,u8v b45,u8v b46,u8v b47,u8v b48,u8v b49,u8v b50,u8v b51,u8v b52,u8v b53,u8v b54,u8v b55,u8v b56,u8v b57,u8v b58,u8v b59,u8v b60,u8v b61,u8v b62,u8v b63])])) =
   some (p8v (Bl.take ⟨h0,h1,h2,h3,h4,h5,h6,h7⟩ [b0,b1,b2,b3,b4,b5,b6,b7,b8,b9,b10,b11,b12,b13,b14,b15,b16,b17,b18,b19,b20,b21,b22,b23,b24,b25,b26,b27,b28,b29,b30,b31,b32,b33,b34,b35,b36,b37,b38,b39,b40,b41,b42,b43,b44,b45,b46,b47,b48,b49,b50,b51,b52,b53,b54,b55,b56,b57,b58,b59,b60,b61,b62,b63] count true)):=by
 rw[Ztd,Z66];simp only[Jdp,Bl.take,Bl.words,Bl.nx];exact(Y6n (fun x=>some (p8v x)) _ _ _ _ _ _ _ _ _ _ _ _ _ _ _ _ _ _ _ _ _ _ _ _ _ _ _ _ _ _ _ _ _).symm
def Zwb :
  Jig ((Qrw Tryz.prog (mkE Tryz.prog nv b) Xmr 100 4).fn 102 [.agg ⟨[Qg0 h0,Qg0 h1,Qg0 h2,Qg0 h3,Qg0 h4,Qg0 h5,Qg0 h6,Qg0 h7]⟩,.pointer (some ⟨nv,0,none⟩),.int .u64 (.ofNat count),.bool false] (Qlz nv Qme false [(1,[u8v b0,u8v b1,u8v b2,u8v b3,u8v b4,u8v b5,u8v b6,u8v b7,u8v b8,u8v b9,u8v b10,u8v b11,u8v b12,u8v b13,u8v b14,u8v b15,u8v b16,u8v b17,u8v b18,u8v b19,u8v b20,u8v b21,u8v b22,u8v b23,u8v b24,u8v b25,u8v b26,u8v b27,u8v b28,u8v b29,u8v b30,u8v b31,u8v b32,u8v b33,u8v b34,u8v b35,u8v b36,u8v b37,u8v b38,u8v b39,u8v b40,u8v b41,u8v b42,u8v b43,u8v b44,u8v b45,u8v b46,u8v b47,u8v b48,u8v b49,u8v b50,u8v b51,u8v b52,u8v b53,u8v b54,u8v b55,u8v b56,u8v b57,u8v b58,u8v b59,u8v b60,u8v b61,u8v b62,u8v b63])])) =
   some (p8v (Bl.take ⟨h0,h1,h2,h3,h4,h5,h6,h7⟩ [b0,b1,b2,b3,b4,b5,b6,b7,b8,b9,b10,b11,b12,b13,b14,b15,b16,b17,b18,b19,b20,b21,b22,b23,b24,b25,b26,b27,b28,b29,b30,b31,b32,b33,b34,b35,b36,b37,b38,b39,b40,b41,b42,b43,b44,b45,b46,b47,b48,b49,b50,b51,b52,b53,b54,b55,b56,b57,b58,b59,b60,b61,b62,b63] count false)):=by
 rw[Zq3,Z66];simp only[Jdp,Bl.take,Bl.words,Bl.nx];exact(Y6n (fun x=>some (p8v x)) _ _ _ _ _ _ _ _ _ _ _ _ _ _ _ _ _ _ _ _ _ _ _ _ _ _ _ _ _ _ _ _ _).symm
def Jtm{l0:List Nat}(h0:l0.length=64):∃ b0 b1 b2 b3 b4 b5 b6 b7 b8 b9 b10 b11 b12 b13 b14 b15 b16 b17 b18 b19 b20 b21 b22 b23 b24 b25 b26 b27 b28 b29 b30 b31 b32 b33 b34 b35 b36 b37 b38 b39 b40 b41 b42 b43 b44 b45 b46 b47 b48 b49 b50 b51 b52 b53 b54 b55 b56 b57 b58 b59 b60 b61 b62 b63,l0=[b0,b1,b2,b3,b4,b5,b6,b7,b8,b9,b10,b11,b12,b13,b14,b15,b16,b17,b18,b19,b20,b21,b22,b23,b24,b25,b26,b27,b28,b29,b30,b31,b32,b33,b34,b35,b36,b37,b38,b39,b40,b41,b42,b43,b44,b45,b46,b47,b48,b49,b50,b51,b52,b53,b54,b55,b56,b57,b58,b59,b60,b61,b62,b63]:=by
 obtain⟨b0,l1,rfl,h1⟩:=Vr h0;obtain⟨b1,l2,rfl,h2⟩:=Vr h1;obtain⟨b2,l3,rfl,h3⟩:=Vr h2;obtain⟨b3,l4,rfl,h4⟩:=Vr h3;obtain⟨b4,l5,rfl,h5⟩:=Vr h4;obtain⟨b5,l6,rfl,h6⟩:=Vr h5;obtain⟨b6,l7,rfl,h7⟩:=Vr h6;obtain⟨b7,l8,rfl,h8⟩:=Vr h7;obtain⟨b8,l9,rfl,h9⟩:=Vr h8;obtain⟨b9,l10,rfl,h10⟩:=Vr h9;obtain⟨b10,l11,rfl,h11⟩:=Vr h10;obtain⟨b11,l12,rfl,h12⟩:=Vr h11;obtain⟨b12,l13,rfl,h13⟩:=Vr h12;obtain⟨b13,l14,rfl,h14⟩:=Vr h13;obtain⟨b14,l15,rfl,h15⟩:=Vr h14;obtain⟨b15,l16,rfl,h16⟩:=Vr h15;obtain⟨b16,l17,rfl,h17⟩:=Vr h16;obtain⟨b17,l18,rfl,h18⟩:=Vr h17;obtain⟨b18,l19,rfl,h19⟩:=Vr h18;obtain⟨b19,l20,rfl,h20⟩:=Vr h19;obtain⟨b20,l21,rfl,h21⟩:=Vr h20;obtain⟨b21,l22,rfl,h22⟩:=Vr h21;obtain⟨b22,l23,rfl,h23⟩:=Vr h22;obtain⟨b23,l24,rfl,h24⟩:=Vr h23;obtain⟨b24,l25,rfl,h25⟩:=Vr h24;obtain⟨b25,l26,rfl,h26⟩:=Vr h25;obtain⟨b26,l27,rfl,h27⟩:=Vr h26;obtain⟨b27,l28,rfl,h28⟩:=Vr h27;obtain⟨b28,l29,rfl,h29⟩:=Vr h28;obtain⟨b29,l30,rfl,h30⟩:=Vr h29;obtain⟨b30,l31,rfl,h31⟩:=Vr h30;obtain⟨b31,l32,rfl,h32⟩:=Vr h31;obtain⟨b32,l33,rfl,h33⟩:=Vr h32;obtain⟨b33,l34,rfl,h34⟩:=Vr h33;obtain⟨b34,l35,rfl,h35⟩:=Vr h34;obtain⟨b35,l36,rfl,h36⟩:=Vr h35;obtain⟨b36,l37,rfl,h37⟩:=Vr h36;obtain⟨b37,l38,rfl,h38⟩:=Vr h37;obtain⟨b38,l39,rfl,h39⟩:=Vr h38;obtain⟨b39,l40,rfl,h40⟩:=Vr h39;obtain⟨b40,l41,rfl,h41⟩:=Vr h40;obtain⟨b41,l42,rfl,h42⟩:=Vr h41;obtain⟨b42,l43,rfl,h43⟩:=Vr h42;obtain⟨b43,l44,rfl,h44⟩:=Vr h43;obtain⟨b44,l45,rfl,h45⟩:=Vr h44;obtain⟨b45,l46,rfl,h46⟩:=Vr h45;obtain⟨b46,l47,rfl,h47⟩:=Vr h46;obtain⟨b47,l48,rfl,h48⟩:=Vr h47;obtain⟨b48,l49,rfl,h49⟩:=Vr h48;obtain⟨b49,l50,rfl,h50⟩:=Vr h49;obtain⟨b50,l51,rfl,h51⟩:=Vr h50;obtain⟨b51,l52,rfl,h52⟩:=Vr h51;obtain⟨b52,l53,rfl,h53⟩:=Vr h52;obtain⟨b53,l54,rfl,h54⟩:=Vr h53;obtain⟨b54,l55,rfl,h55⟩:=Vr h54;obtain⟨b55,l56,rfl,h56⟩:=Vr h55;obtain⟨b56,l57,rfl,h57⟩:=Vr h56;obtain⟨b57,l58,rfl,h58⟩:=Vr h57;obtain⟨b58,l59,rfl,h59⟩:=Vr h58;obtain⟨b59,l60,rfl,h60⟩:=Vr h59;obtain⟨b60,l61,rfl,h61⟩:=Vr h60;obtain⟨b61,l62,rfl,h62⟩:=Vr h61;obtain⟨b62,l63,rfl,h63⟩:=Vr h62;obtain⟨b63,l64,rfl,h64⟩:=Vr h63;have e:=aY h64;subst e;exact⟨_,_,_,_,_,_,_,_,_,_,_,_,_,_,_,_,_,_,_,_,_,_,_,_,_,_,_,_,_,_,_,_,_,_,_,_,_,_,_,_,_,_,_,_,_,_,_,_,_,_,_,_,_,_,_,_,_,_,_,_,_,_,_,_,rfl⟩
def Jk6(b:Nat)(h0 h1 h2 h3 h4 h5 h6 h7 count:Nat)(l:List Nat)(hl:l.length=64)(last:Bool) :
  Jig ((Qrw Tryz.prog (mkE Tryz.prog nv b) Xmr 100 4).fn 102 [.agg ⟨[Qg0 h0,Qg0 h1,Qg0 h2,Qg0 h3,Qg0 h4,Qg0 h5,Qg0 h6,Qg0 h7]⟩,.pointer (some ⟨nv,0,none⟩),.int .u64 (.ofNat count),.bool last] (Qlz nv Qme false [(1,l.map u8v)])) =
   some (p8v (Bl.take ⟨h0,h1,h2,h3,h4,h5,h6,h7⟩ l count last)):=by
 obtain⟨b0,b1,b2,b3,b4,b5,b6,b7,b8,b9,b10,b11,b12,b13,b14,b15,b16,b17,b18,b19,b20,b21,b22,b23,b24,b25,b26,b27,b28,b29,b30,b31,b32,b33,b34,b35,b36,b37,b38,b39,b40,b41,b42,b43,b44,b45,b46,b47,b48,b49,b50,b51,b52,b53,b54,b55,b56,b57,b58,b59,b60,b61,b62,b63,rfl⟩:=Jtm hl;cases last with
 | true=>exact Z0c b h0 h1 h2 h3 h4 h5 h6 h7 b0 b1 b2 b3 b4 b5 b6 b7 b8 b9 b10 b11 b12 b13 b14 b15 b16 b17 b18 b19 b20 b21 b22 b23 b24 b25 b26 b27 b28 b29 b30 b31 b32 b33 b34 b35 b36 b37 b38 b39 b40 b41 b42 b43 b44 b45 b46 b47 b48 b49 b50 b51 b52 b53 b54 b55 b56 b57 b58 b59 b60 b61 b62 b63 count
 | false=>exact Zwb b h0 h1 h2 h3 h4 h5 h6 h7 b0 b1 b2 b3 b4 b5 b6 b7 b8 b9 b10 b11 b12 b13 b14 b15 b16 b17 b18 b19 b20 b21 b22 b23 b24 b25 b26 b27 b28 b29 b30 b31 b32 b33 b34 b35 b36 b37 b38 b39 b40 b41 b42 b43 b44 b45 b46 b47 b48 b49 b50 b51 b52 b53 b54 b55 b56 b57 b58 b59 b60 b61 b62 b63 count
def Zqh:Xhm:=fun f args h=>bq (Nat.beq f 102) (match args with
 | [.agg ⟨hv⟩,p,.int .u64 (.ofNat count),.bool last]=>ob (Jo1 hv) fun hl=>ob (Y4l h p) fun q=>ob (u8s q.2) fun bl=>bq (Nat.beq bl.length 64) (bq (Jed h Qme) (ob (Jtn hl) fun h8=>some (.ret (p8v (Bl.take h8 bl count last)),h)) none) none
 | _=>none) none
def Zqc:∀ x ∈ Qme,x.2 ≠ []/\Xnm x.2:=by
 intro x hx;rcases ap.1 hx with rfl | hx
 ·exact⟨by simp[Qiu],Q3r (by kernel_rfl)⟩
 ·rcases ap.1 hx with rfl | hx
  ·exact⟨by simp[Q69],Q3r (by kernel_rfl)⟩
  ·cases hx
def Yxk(b:Nat):Qst Tryz.prog ⟨nv,b⟩ Zqh:=by
 intro f args h r h' hx;unfold Zqh at hx;obtain⟨hf,hx⟩:=Qpg hx;have hf:=aK hf;subst hf;split at hx
 ·rename_i hv p count last hq;obtain⟨hl,h1,hx⟩:=Qa7 hx;obtain⟨⟨blk,cs⟩,h2,hx⟩:=Qa7 hx;obtain⟨bl,h3,hx⟩:=Qa7 hx;obtain⟨h4,hx⟩:=Qpg hx;obtain⟨h5,hx⟩:=Qpg hx;obtain⟨h8,h6,hx⟩:=Qa7 hx;cases hx;have e1:=Yzf h1;subst e1;have e0:Value.agg {toList:=List.map Qg0 hl}=p8v h8:=Jmc h6;obtain⟨rfl,hg⟩:=Xds h2;have e2:=Jbs h3;simp only at e2 hg;subst e2;rw[e0];refine Yqo (k:=100) (m:=4) mixed Zvk Zgs (fun b=>Jk6 b h8.h0 h8.h1 h8.h2 h8.h3 h8.h4 h8.h5 h8.h6 h8.h7 count bl (aK h4) last) rfl (Yxw h5) Zqc (bs:=[blk]) rfl (by simp) (fun k d r hd hr => ?_)
   (Qcr (Qm4 rfl) (Qcr (Zjt _ _) (Qcr (Qm4 rfl) (Qcr (Qm4 rfl) Q6d))))
  cases k with
  | zero=>simp at hd hr;subst hd;subst hr;exact⟨hg,Yxt _⟩
  | succ k=>simp at hd
 ·cases hx
def Yg9:Q0y Zqh:=by
 intro f args h r h' hx;unfold Zqh at hx;obtain⟨hf,hx⟩:=Qpg hx;split at hx
 ·obtain⟨hl,h1,hx⟩:=Qa7 hx;obtain⟨⟨blk,cs⟩,h2,hx⟩:=Qa7 hx;obtain⟨bl,h3,hx⟩:=Qa7 hx;obtain⟨h4,hx⟩:=Qpg hx;obtain⟨h5,hx⟩:=Qpg hx;obtain⟨h8,h6,hx⟩:=Qa7 hx;cases hx;exact LowOK.refl _
 ·cases hx
def Qzw:List Value:=[.int .u8 253,.int .i64 2,.int .u64 253,.int .u8 254,.int .i64 4,.int .u64 65536,.int .u8 255,.int .i64 8,.int .u64 4294967296]
def laidAll:List (Nat × List Value):=[(0,Qiu),(1,Qzw),(3,Q69)]
def Qsd(seed:List Nat):Nat->Nat->List Nat
 | 0,_=>[]
 | n+1,i=>Bl.keyed seed [i]++Qsd seed n (Nat.succ i)
def Zgo:∀ x ∈ laidAll,x.2 ≠ []/\Xnm x.2:=by
 intro x hx;rcases ap.1 hx with rfl | hx
 ·exact⟨by simp[Qiu],Q3r (by kernel_rfl)⟩
 ·rcases ap.1 hx with rfl | hx
  ·exact⟨by simp[Qzw],Q3r (by kernel_rfl)⟩
  ·rcases ap.1 hx with rfl | hx
   ·exact⟨by simp[Q69],Q3r (by kernel_rfl)⟩
   ·cases hx
def X29:List Nat:=[107,101,121,115]
def Zi9:List Nat:=Qsd X29 32 1
def Z7g(b:Nat):Z5j (nv+([(1,X29.map u8v)]:List (Nat × List Value)).length) ((Qrw Tryz.prog (mkE Tryz.prog nv b) Zqh 10000 8).fn 34 [.slice (some ⟨nv,0,none⟩) 4 4] (Qlz nv laidAll false [(1,X29.map u8v)]))=some (Zi9.map u8v):=kR
def Ygi:Xhm:=fun f args h=>bq (Nat.beq f 34) (match args with
 | [.slice (some ⟨blk,0,none⟩) 4 4]=>ob (Y4l h (.pointer (some ⟨blk,0,none⟩))) fun q=>ob (u8s q.2) fun bl=>bq (eqN bl X29) (bq (Jed h laidAll) (some (.ret (.pointer (some ⟨h.next,0,none⟩)),h.push (.cells true 1 (Zi9.map u8v)))) none) (Zqh f args h)
 | _=>Zqh f args h) (Zqh f args h)
def Z1c(b:Nat):Qst Tryz.prog ⟨nv,b⟩ Ygi:=by
 intro f args h r h' hx;unfold Ygi at hx;cases hf:Nat.beq f 34 with
 | false=>rw[hf]at hx;exact Yxk b f args h r h' hx
 | true =>
  rw[hf,bq_true]at hx;have hf:=aK hf;subst hf;split at hx
  ·rename_i blk;obtain⟨⟨blk',cs⟩,h2,hx⟩:=Qa7 hx;obtain⟨bl,h3,hx⟩:=Qa7 hx;cases h4:eqN bl X29 with
   | false=>rw[h4,bq_false]at hx;exact Yxk b _ _ h r h' hx
   | true =>
    rw[h4,bq_true]at hx;obtain⟨h1,hx⟩:=Qpg hx;cases hx;obtain⟨e0,hg⟩:=Xds h2;cases e0;have e2:=Jbs h3;simp only at e2 hg;have e3:=Xuu h4;subst e3;subst e2;refine Jd9 (k:=10000) (m:=8) mixed Yxk Yg9 Z7g (Yxt _) (Yxw h1) Zgo (bs:=[blk]) rfl (by simp) (fun k d r hd hr => ?_) (Qcr (Zv1 (by simp[emb])) Q6d);cases k with
    | zero=>simp at hd hr;subst hd;subst hr;exact⟨hg,Yxt _⟩
    | succ k=>simp at hd
  ·exact Yxk b _ _ h r h' hx
def Zvg:Q0y Ygi:=by
 intro f args h r h' hx;unfold Ygi at hx;cases hf:Nat.beq f 34 with
 | false=>rw[hf]at hx;exact Yg9 f args h r h' hx
 | true =>
  rw[hf,bq_true]at hx;split at hx
  ·obtain⟨q,h2,hx⟩:=Qa7 hx;obtain⟨bl,h3,hx⟩:=Qa7 hx;cases h4:eqN bl X29 with
   | false=>rw[h4,bq_false]at hx;exact Yg9 _ _ h r h' hx
   | true =>
    rw[h4,bq_true]at hx;obtain⟨h1,hx⟩:=Qpg hx;cases hx;exact LowOK.push _ _
  ·exact Yg9 _ _ h r h' hx
end Go.Proofs.YtapodfgjkmddlaaGreatDoor
end
