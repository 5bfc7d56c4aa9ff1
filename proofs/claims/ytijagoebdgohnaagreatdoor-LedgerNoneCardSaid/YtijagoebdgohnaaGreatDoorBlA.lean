import Derived.Test.YtijagoebdgohnaaGreatDoorAbG
import Derived.Test.YtijagoebdgohnaaGreatDoorProg
import Derived.Test.YtijagoebdgohnaaGreatDoorAbF
set_option linter.all false
noncomputable section
namespace Go.Proofs.YtijagoebdgohnaaGreatDoor
open Go Go.Ab
set_option maxRecDepth 100000
def nv:Nat:=4
abbrev E(b:Nat):Env2 Tryz.prog:=mkE Tryz.prog nv b
noncomputable def Y3(f:Nat):Code:=((Tryz.prog.funcs[f]?).bind (·.body)).getD .skip
def mixed:Tryz.prog.follows .mixedOrders=true:=kR
def D0(b:Nat):CallF:=Y2i (E b) Z95 100 0
def Ue(b:Nat):CallsSound Tryz.prog (E b).G (D0 b):=Zcw (E b) (Zwi _) Yuj mixed 100 0
def Ji(b:Nat):CallsLow (D0 b):=Yvl (E b) Yuj 100 0
def DD(b:Nat):Qup:=Xt0 (E b) (D0 b) 100
def Uk(b:Nat):Qzu Tryz.prog (E b).G (DD b):=Zjz (E b) (Ue b) (Ji b) mixed
def U6(b:Nat):Xx7 (DD b):=Y94 (Ji b)
def Q5u(h:Heap)(l:List Value):∃ hA,hA=h.push (.cells true 1 l)/\Old h hA/\hA.get h.next=some (.cells true 1 l):=⟨_,rfl,Old.push _ _,by rw[Heap.get_push,if_pos rfl]⟩
def Q0e{h hA:Heap}{l:List Value}(e:hA=h.push (.cells true 1 l)):Zqi (.agg ⟨l⟩) h=some (.pointer (some ⟨h.next,0,none⟩),hA):=by rw[e];rfl
def Qpm{h hA:Heap}{x:Blk}(e:hA=h.push x):Old h hA:=by rw[e];exact Old.push _ _
def Q8z{h hA:Heap}{x:Blk}(e:hA=h.push x):hA.next=h.next+1:=by rw[e];rfl
abbrev FF(b:Nat):=@U4 _ (E b) _ (Ue b) (Ji b) mixed _ (Uk b) (U6 b)
abbrev KP:=AEnd->Heap->Prop
abbrev FK(b:Nat):=FnK Tryz.prog (E b).G
def agW{h:Heap}{bk z k:Nat}{ow:Bool}{c:List Value}(hg:h.get bk=some (.cells ow z c))(hl:0+k<=c.length)(h2:c.length<=k):Qb9 h bk 0 k=some (.agg ⟨c⟩):=by rw[Vf hg hl,bX,aJ h2]
def zk1{P:KE->Prop}{a:KE}(h:P a):∀ e∈[a],P e:=by simpa using h
def zk2{P:KE->Prop}{a c:KE}(h:P a)(h2:P c):∀ e∈[a,c],P e:=by simpa using ⟨h,h2⟩
def zk3{P:KE->Prop}{a c d:KE}(h:P a)(h2:P c)(h3:P d):∀ e∈[a,c,d],P e:=by simpa using ⟨h,h2,h3⟩
def zk4{P:KE->Prop}{a c d f:KE}(h:P a)(h2:P c)(h3:P d)(h4:P f):∀ e∈[a,c,d,f],P e:=by simpa using ⟨h,h2,h3,h4⟩
end Go.Proofs.YtijagoebdgohnaaGreatDoor
end
noncomputable section
namespace Go.Ab
variable{P:Program}{E:Env2 P}{C:CallP}{rd:Option Nat}{D0:CallF}
def kNN(F:St->Prop)(K:Exit->St->Prop)(s:St):Zg7 F K .normal s=F s:=Eq.trans rfl rfl
def kNP(F:St->Prop)(K:Exit->St->Prop)(ch:List PanicEntry)(s:St):Zg7 F K (.panic ch) s=K (.panic ch) s:=Eq.trans rfl rfl
def kRR(d:Option Tmp)(s:St)(K:Exit->St->Prop)(v:Value)(h:Heap):Je1 d s K (.ret v) h=K .normal (s.put d v h):=Eq.trans rfl rfl
def kRP(d:Option Tmp)(s:St)(K:Exit->St->Prop)(ch:List PanicEntry)(h:Heap):Je1 d s K (.panic ch) h=K (.panic ch) {s with h:=h}:=Eq.trans rfl rfl
def kTN(F:St->Prop)(K:Exit->St->Prop)(s:St):X2s F K .normal s=F s:=Eq.trans rfl rfl
def kTR(F:St->Prop)(K:Exit->St->Prop)(s:St):X2s F K .ret s=K .ret s:=Eq.trans rfl rfl
def kTX(F:St->Prop)(K:Exit->St->Prop)(id:Nat)(s:St):X2s F K (.exit id) s=K (.exit id) s:=Eq.trans rfl rfl
def kTP(F:St->Prop)(K:Exit->St->Prop)(ch:List PanicEntry)(s:St):X2s F K (.panic ch) s=K (.panic ch) s:=Eq.trans rfl rfl
def kBN(id:Nat)(K:Exit->St->Prop)(s:St):Q66 id K .normal s=K .normal s:=Eq.trans rfl rfl
def kBR(id:Nat)(K:Exit->St->Prop)(s:St):Q66 id K .ret s=K .ret s:=Eq.trans rfl rfl
def kBP(id:Nat)(K:Exit->St->Prop)(ch:List PanicEntry)(s:St):Q66 id K (.panic ch) s=K (.panic ch) s:=Eq.trans rfl rfl
def kBX(id id':Nat)(K:Exit->St->Prop)(s:St):Q66 id K (.exit id') s=if id'=id then K .normal s else K (.exit id') s:=Eq.trans rfl rfl
def kAM(y:Code)(K:Exit->St->Prop)(t:Tm)(ds:List Deferred)(h:Heap):Jhd E C D0 rd y K ⟨t,ds,h⟩=Wr E C D0 rd y ⟨t,ds,h⟩ K:=Eq.trans rfl rfl
def kEN(D:Qup)(fn:Func)(K:AEnd->Heap->Prop)(s:St):Y0x E D fn K .normal s=Xcb E D fn K .returning s:=Eq.trans rfl rfl
def kER(D:Qup)(fn:Func)(K:AEnd->Heap->Prop)(s:St):Y0x E D fn K .ret s=Xcb E D fn K .returning s:=Eq.trans rfl rfl
def kON(ops:List Oper)(K:Exit->St->Prop)(t:Tm)(ds:List Deferred)(h:Heap):Yip E C rd ops K [] ⟨t,ds,h⟩=K .normal ⟨t,ds,h⟩:=Eq.trans rfl rfl
def kOC(ops:List Oper)(K:Exit->St->Prop)(o:Oper)(r:List Oper)(t:Tm)(ds:List Deferred)(h:Heap):Yip E C rd ops K (o::r) ⟨t,ds,h⟩ =
 (match Qe ops t o with
  | some true=>Xp E C rd o ⟨t,ds,h⟩ (Zg7 (Yip E C rd ops K r) K)
  | some false=>if Qm7 ⟨t,ds,h⟩ o.dst then Yip E C rd ops K r (St.put ⟨t,ds,h⟩ o.dst Qr h)else False
  | none=>False):=Eq.trans rfl rfl
def kCS(s:St)(K:Exit->St->Prop):Wr E C D0 rd .skip s K=K .normal s:=Eq.trans rfl rfl
def kCR(s:St)(K:Exit->St->Prop):Wr E C D0 rd .ret s K=K .ret s:=Eq.trans rfl rfl
def kCE(id:Nat)(s:St)(K:Exit->St->Prop):Wr E C D0 rd (.exit id) s K=K (.exit id) s:=Eq.trans rfl rfl
end Go.Ab
end
noncomputable section
namespace Go.Proofs.YtijagoebdgohnaaGreatDoor
open Go Go.Ab
set_option maxRecDepth 1000000
def Xe7(ix l:List Nat)(x y:Nat):Option (List Nat):=match l with
 | [p0,p1,p2,p3,p4,p5,p6,p7,p8,p9,pA,pB,pC,pD,pE,pF] =>
  bq (eqN ix [0,4,8,12]) (some (Bl.stir p0 p4 p8 pC x y fun p0 p4 p8 pC=>[p0,p1,p2,p3,p4,p5,p6,p7,p8,p9,pA,pB,pC,pD,pE,pF])) <|
  bq (eqN ix [1,5,9,13]) (some (Bl.stir p1 p5 p9 pD x y fun p1 p5 p9 pD=>[p0,p1,p2,p3,p4,p5,p6,p7,p8,p9,pA,pB,pC,pD,pE,pF])) <|
  bq (eqN ix [2,6,10,14]) (some (Bl.stir p2 p6 pA pE x y fun p2 p6 pA pE=>[p0,p1,p2,p3,p4,p5,p6,p7,p8,p9,pA,pB,pC,pD,pE,pF])) <|
  bq (eqN ix [3,7,11,15]) (some (Bl.stir p3 p7 pB pF x y fun p3 p7 pB pF=>[p0,p1,p2,p3,p4,p5,p6,p7,p8,p9,pA,pB,pC,pD,pE,pF])) <|
  bq (eqN ix [0,5,10,15]) (some (Bl.stir p0 p5 pA pF x y fun p0 p5 pA pF=>[p0,p1,p2,p3,p4,p5,p6,p7,p8,p9,pA,pB,pC,pD,pE,pF])) <|
  bq (eqN ix [1,6,11,12]) (some (Bl.stir p1 p6 pB pC x y fun p1 p6 pB pC=>[p0,p1,p2,p3,p4,p5,p6,p7,p8,p9,pA,pB,pC,pD,pE,pF])) <|
  bq (eqN ix [2,7,8,13]) (some (Bl.stir p2 p7 p8 pD x y fun p2 p7 p8 pD=>[p0,p1,p2,p3,p4,p5,p6,p7,p8,p9,pA,pB,pC,pD,pE,pF])) <|
  bq (eqN ix [3,4,9,14]) (some (Bl.stir p3 p4 p9 pE x y fun p3 p4 p9 pE=>[p0,p1,p2,p3,p4,p5,p6,p7,p8,p9,pA,pB,pC,pD,pE,pF])) <|
  none
 | _=>none
def Z3x:Xf8:=fun f args h=>bq (Nat.beq f 134) (match args with
 | [p,a,b,c,d,.agg ⟨[.int .u32 (.ofNat x),.int .u32 (.ofNat y)]⟩]=>ob (Yxs h p) fun q=>ob (Jdi q.2) fun l=>ob (Jg7 [a,b,c,d]) fun ix=>ob (Xe7 ix l x y) fun l'=>some (.ret (.tuple #[]),h.set q.1 (some (.cells true 1 (l'.map Qg9))))
 | _=>none) none
def Z3e{a b c d:Value}{ix:List Nat}(h:Jg7 [a,b,c,d]=some ix):∃ i j k l,ix=[i,j,k,l]/\a=Z5r i/\b=Z5r j/\c=Z5r k/\d=Z5r l:=by
 have:=Z2k h
 match ix,this with
 | [i,j,k,l],e=>simp only[aR,df,cu,and_true]at e;exact⟨i,j,k,l,rfl,e.1,e.2.1,e.2.2.1,e.2.2.2⟩
def Zbf(n blk:Nat):Yuv (emb n [blk]) (.pointer (some ⟨n,0,none⟩)) (.pointer (some ⟨blk,0,none⟩)):=Yhm (by simp[emb])
def L1(l:List Nat):Prop:=∃ p0 p1 p2 p3 p4 p5 p6 p7 p8 p9 pA pB pC pD pE pF,l=[p0,p1,p2,p3,p4,p5,p6,p7,p8,p9,pA,pB,pC,pD,pE,pF]
def L1.all{l:List Nat}(h:L1 l){P:List Nat->Prop}(k:∀ p0 p1 p2 p3 p4 p5 p6 p7 p8 p9 pA pB pC pD pE pF,P [p0,p1,p2,p3,p4,p5,p6,p7,p8,p9,pA,pB,pC,pD,pE,pF]):P l:=by
 obtain⟨p0,p1,p2,p3,p4,p5,p6,p7,p8,p9,pA,pB,pC,pD,pE,pF,rfl⟩:=h;exact k _ _ _ _ _ _ _ _ _ _ _ _ _ _ _ _
def Z2u{ix l l':List Nat}{x y:Nat}(h:Xe7 ix l x y=some l'):L1 l:=by
 unfold Xe7 at h;split at h
 ·exact⟨_,_,_,_,_,_,_,_,_,_,_,_,_,_,_,_,rfl⟩
 ·cases h
def stI(i j k q:Nat)(P:List Nat)(x y:Nat):List Value:=Z7v (.ofNat (P.getD i 0)) (.ofNat (P.getD j 0)) (.ofNat (P.getD k 0)) (.ofNat (P.getD q 0)) (.ofNat x) 16 20 fun a b c d=>Z7v a b c d (.ofNat y) 24 25 fun a b c d=>((((P.map Qg9).set i (.int .u32 a)).set j (.int .u32 b)).set k (.int .u32 c)).set q (.int .u32 d)
def stS(i j k q:Nat)(P:List Nat)(x y:Nat):List Nat:=Bl.stir (P.getD i 0) (P.getD j 0) (P.getD k 0) (P.getD q 0) x y fun a b c d=>(((P.set i a).set j b).set k c).set q d
def Jaj(i j k q:Nat)(P:List Nat)(x y:Nat):stI i j k q P x y=(stS i j k q P x y).map Qg9:=by
 unfold stI stS;rw[Zlo _ _ _ _ _ 16 20 (by decide) (by decide)];simp only[Bl.half,Zlo _ _ _ _ _ 24 25 (by decide) (by decide),Bl.stir,List.map_set];rfl
def ST(b i j k q:Nat)(x y:Nat)(l:List Nat):Prop :=
 Zvn nv ((Qqj Tryz.prog (mkE Tryz.prog nv b) Z95 100 4).fn 134 [.pointer (some ⟨nv,0,none⟩),Z5r i,Z5r j,Z5r k,Z5r q,.agg #[Qg9 x,Qg9 y]] (Qmj nv [] true [(1,l.map Qg9)]))=some (.tuple #[],stI i j k q l x y)
def SE(i j k q:Nat)(x y:Nat)(l:List Nat):Prop:=Xe7 [i,j,k,q] l x y=some (stS i j k q l x y)
def st0(b x y:Nat){l:List Nat}(h:L1 l):ST b 0 4 8 12 x y l/\SE 0 4 8 12 x y l:=⟨h.all (P:=ST b 0 4 8 12 x y) (by intros;show _=_;kernel_rfl),h.all (P:=SE 0 4 8 12 x y) (by intros;show _=_;kernel_rfl)⟩
def st1(b x y:Nat){l:List Nat}(h:L1 l):ST b 1 5 9 13 x y l/\SE 1 5 9 13 x y l:=⟨h.all (P:=ST b 1 5 9 13 x y) (by intros;show _=_;kernel_rfl),h.all (P:=SE 1 5 9 13 x y) (by intros;show _=_;kernel_rfl)⟩
def st2(b x y:Nat){l:List Nat}(h:L1 l):ST b 2 6 10 14 x y l/\SE 2 6 10 14 x y l:=⟨h.all (P:=ST b 2 6 10 14 x y) (by intros;show _=_;kernel_rfl),h.all (P:=SE 2 6 10 14 x y) (by intros;show _=_;kernel_rfl)⟩
def st3(b x y:Nat){l:List Nat}(h:L1 l):ST b 3 7 11 15 x y l/\SE 3 7 11 15 x y l:=⟨h.all (P:=ST b 3 7 11 15 x y) (by intros;show _=_;kernel_rfl),h.all (P:=SE 3 7 11 15 x y) (by intros;show _=_;kernel_rfl)⟩
def st4(b x y:Nat){l:List Nat}(h:L1 l):ST b 0 5 10 15 x y l/\SE 0 5 10 15 x y l:=⟨h.all (P:=ST b 0 5 10 15 x y) (by intros;show _=_;kernel_rfl),h.all (P:=SE 0 5 10 15 x y) (by intros;show _=_;kernel_rfl)⟩
def st5(b x y:Nat){l:List Nat}(h:L1 l):ST b 1 6 11 12 x y l/\SE 1 6 11 12 x y l:=⟨h.all (P:=ST b 1 6 11 12 x y) (by intros;show _=_;kernel_rfl),h.all (P:=SE 1 6 11 12 x y) (by intros;show _=_;kernel_rfl)⟩
def st6(b x y:Nat){l:List Nat}(h:L1 l):ST b 2 7 8 13 x y l/\SE 2 7 8 13 x y l:=⟨h.all (P:=ST b 2 7 8 13 x y) (by intros;show _=_;kernel_rfl),h.all (P:=SE 2 7 8 13 x y) (by intros;show _=_;kernel_rfl)⟩
def st7(b x y:Nat){l:List Nat}(h:L1 l):ST b 3 4 9 14 x y l/\SE 3 4 9 14 x y l:=⟨h.all (P:=ST b 3 4 9 14 x y) (by intros;show _=_;kernel_rfl),h.all (P:=SE 3 4 9 14 x y) (by intros;show _=_;kernel_rfl)⟩
def Xy9{A:Type}{c:Bool}{v:A}{y:Option A}{z:A}(h:bq c (some v) y=some z):c=true∨y=some z:=by
 cases c with
 | true=>exact .inl rfl
 | false=>exact .inr h
def Jgk{i j k q x y:Nat}{l l':List Nat}(h:Xe7 [i,j,k,q] l x y=some l'):(∀ b,ST b i j k q x y l)/\SE i j k q x y l:=by
 have hL:=Z2u h;obtain⟨p0,p1,p2,p3,p4,p5,p6,p7,p8,p9,pA,pB,pC,pD,pE,pF,rfl⟩:=id hL;unfold Xe7 at h;simp only at h;rcases Xy9 h with e | h
 ·have:=Xti e;simp only[cu,and_true]at this;obtain⟨rfl,rfl,rfl,rfl⟩:=this;exact⟨fun b=>(st0 b x y hL).1,(st0 0 x y hL).2⟩
 rcases Xy9 h with e | h
 ·have:=Xti e;simp only[cu,and_true]at this;obtain⟨rfl,rfl,rfl,rfl⟩:=this;exact⟨fun b=>(st1 b x y hL).1,(st1 0 x y hL).2⟩
 rcases Xy9 h with e | h
 ·have:=Xti e;simp only[cu,and_true]at this;obtain⟨rfl,rfl,rfl,rfl⟩:=this;exact⟨fun b=>(st2 b x y hL).1,(st2 0 x y hL).2⟩
 rcases Xy9 h with e | h
 ·have:=Xti e;simp only[cu,and_true]at this;obtain⟨rfl,rfl,rfl,rfl⟩:=this;exact⟨fun b=>(st3 b x y hL).1,(st3 0 x y hL).2⟩
 rcases Xy9 h with e | h
 ·have:=Xti e;simp only[cu,and_true]at this;obtain⟨rfl,rfl,rfl,rfl⟩:=this;exact⟨fun b=>(st4 b x y hL).1,(st4 0 x y hL).2⟩
 rcases Xy9 h with e | h
 ·have:=Xti e;simp only[cu,and_true]at this;obtain⟨rfl,rfl,rfl,rfl⟩:=this;exact⟨fun b=>(st5 b x y hL).1,(st5 0 x y hL).2⟩
 rcases Xy9 h with e | h
 ·have:=Xti e;simp only[cu,and_true]at this;obtain⟨rfl,rfl,rfl,rfl⟩:=this;exact⟨fun b=>(st6 b x y hL).1,(st6 0 x y hL).2⟩
 rcases Xy9 h with e | h
 ·have:=Xti e;simp only[cu,and_true]at this;obtain⟨rfl,rfl,rfl,rfl⟩:=this;exact⟨fun b=>(st7 b x y hL).1,(st7 0 x y hL).2⟩
 cases h
def Z74(b:Nat):Qr8 Tryz.prog ⟨nv,b⟩ Z3x:=by
 intro f args h r h' hx;unfold Z3x at hx;obtain⟨hf,hx⟩:=Qpi hx;have hf:=aY hf;subst hf;split at hx
 ·rename_i p a b' c d x y hq;obtain⟨⟨blk,cs⟩,h1,hx⟩:=Ws hx;obtain⟨l,h2,hx⟩:=Ws hx;obtain⟨ix,h3,hx⟩:=Ws hx;obtain⟨l',h4,hx⟩:=Ws hx;cases hx;obtain⟨rfl,hg⟩:=Xba h1;have:=Ysz h2;subst this;obtain⟨i,j,k,q,rfl,rfl,rfl,rfl,rfl⟩:=Z3e h3;obtain⟨s1,s2⟩:=Jgk h4;unfold SE at s2;rw[h4]at s2;cases s2;exact Z40 (k:=100) (m:=4) mixed (fun b=>Zwi _) Yuj (fun b=>(s1 b).trans (by rw[Jaj])) rfl (Xyy _) (Xyy _) hg (Qcc (Zbf _ _) (Qcc (Qmn rfl) (Qcc (Qmn rfl) (Qcc (Qmn rfl) (Qcc (Qmn rfl) (Qcc (Qmn rfl) Q4c))))))
 ·cases hx
def Z3h:Qyy Z3x:=by
 intro f args h r h' hx;unfold Z3x at hx;obtain⟨hf,hx⟩:=Qpi hx;split at hx
 ·obtain⟨⟨blk,cs⟩,h1,hx⟩:=Ws hx;obtain⟨l,h2,hx⟩:=Ws hx;obtain⟨ix,h3,hx⟩:=Ws hx;obtain⟨l',h4,hx⟩:=Ws hx;cases hx;obtain⟨_,hg⟩:=Xba h1;exact LowOK.set _ _ _ (Heap.get_lt hg)
 ·cases hx
def Jhg:ByteArray:=⟨#[48,49,50,51,52,53,54,55,56,57,97,98,99,100,101,102]⟩
def Jhi:ByteArray:=⟨#[101,97,52,56,57,102,100,54,49,99,48,50,98,55,53,51]⟩
def Jhp:ByteArray:=⟨#[98,56,99,48,53,50,102,100,97,101,51,54,55,49,57,52]⟩
def Ji0:ByteArray:=⟨#[55,57,51,49,100,99,98,101,50,54,53,97,52,48,102,56]⟩
def Jhy:ByteArray:=⟨#[57,48,53,55,50,52,97,102,101,49,98,99,54,56,51,100]⟩
def Jhz:ByteArray:=⟨#[50,99,54,97,48,98,56,51,52,100,55,53,102,101,49,57]⟩
def Jhm:ByteArray:=⟨#[99,53,49,102,101,100,52,97,48,55,54,51,57,50,56,98]⟩
def Jhs:ByteArray:=⟨#[100,98,55,101,99,49,51,57,53,48,102,52,56,54,50,97]⟩
def Jhe:ByteArray:=⟨#[54,102,101,57,98,51,48,56,99,50,100,55,49,52,97,53]⟩
def Ji1:ByteArray:=⟨#[97,50,56,52,55,54,49,53,102,98,57,101,51,99,100,48]⟩
def Qvt(l:List Nat)(x0 x1 x2 x3 x4 x5 x6 x7 x8 x9 x10 x11 x12 x13 x14 x15:Nat):Option (List Nat) :=
 ob (Xe7 [0,4,8,12] l x0 x1) fun l =>
 ob (Xe7 [1,5,9,13] l x2 x3) fun l =>
 ob (Xe7 [2,6,10,14] l x4 x5) fun l =>
 ob (Xe7 [3,7,11,15] l x6 x7) fun l =>
 ob (Xe7 [0,5,10,15] l x8 x9) fun l =>
 ob (Xe7 [1,6,11,12] l x10 x11) fun l =>
 ob (Xe7 [2,7,8,13] l x12 x13) fun l =>
 Xe7 [3,4,9,14] l x14 x15
def Y9n(s:ByteArray)(l m:List Nat):Option (List Nat):=match l,m with
 | [p0,p1,p2,p3,p4,p5,p6,p7,p8,p9,pA,pB,pC,pD,pE,pF],[m0,m1,m2,m3,m4,m5,m6,m7,m8,m9,mA,mB,mC,mD,mE,mF] =>
  bq (eqN (s.data.toList.map UInt8.toNat) [48,49,50,51,52,53,54,55,56,57,97,98,99,100,101,102]) (Qvt [p0,p1,p2,p3,p4,p5,p6,p7,p8,p9,pA,pB,pC,pD,pE,pF] m0 m1 m2 m3 m4 m5 m6 m7 m8 m9 mA mB mC mD mE mF) <|
  bq (eqN (s.data.toList.map UInt8.toNat) [101,97,52,56,57,102,100,54,49,99,48,50,98,55,53,51]) (Qvt [p0,p1,p2,p3,p4,p5,p6,p7,p8,p9,pA,pB,pC,pD,pE,pF] mE mA m4 m8 m9 mF mD m6 m1 mC m0 m2 mB m7 m5 m3) <|
  bq (eqN (s.data.toList.map UInt8.toNat) [98,56,99,48,53,50,102,100,97,101,51,54,55,49,57,52]) (Qvt [p0,p1,p2,p3,p4,p5,p6,p7,p8,p9,pA,pB,pC,pD,pE,pF] mB m8 mC m0 m5 m2 mF mD mA mE m3 m6 m7 m1 m9 m4) <|
  bq (eqN (s.data.toList.map UInt8.toNat) [55,57,51,49,100,99,98,101,50,54,53,97,52,48,102,56]) (Qvt [p0,p1,p2,p3,p4,p5,p6,p7,p8,p9,pA,pB,pC,pD,pE,pF] m7 m9 m3 m1 mD mC mB mE m2 m6 m5 mA m4 m0 mF m8) <|
  bq (eqN (s.data.toList.map UInt8.toNat) [57,48,53,55,50,52,97,102,101,49,98,99,54,56,51,100]) (Qvt [p0,p1,p2,p3,p4,p5,p6,p7,p8,p9,pA,pB,pC,pD,pE,pF] m9 m0 m5 m7 m2 m4 mA mF mE m1 mB mC m6 m8 m3 mD) <|
  bq (eqN (s.data.toList.map UInt8.toNat) [50,99,54,97,48,98,56,51,52,100,55,53,102,101,49,57]) (Qvt [p0,p1,p2,p3,p4,p5,p6,p7,p8,p9,pA,pB,pC,pD,pE,pF] m2 mC m6 mA m0 mB m8 m3 m4 mD m7 m5 mF mE m1 m9) <|
  bq (eqN (s.data.toList.map UInt8.toNat) [99,53,49,102,101,100,52,97,48,55,54,51,57,50,56,98]) (Qvt [p0,p1,p2,p3,p4,p5,p6,p7,p8,p9,pA,pB,pC,pD,pE,pF] mC m5 m1 mF mE mD m4 mA m0 m7 m6 m3 m9 m2 m8 mB) <|
  bq (eqN (s.data.toList.map UInt8.toNat) [100,98,55,101,99,49,51,57,53,48,102,52,56,54,50,97]) (Qvt [p0,p1,p2,p3,p4,p5,p6,p7,p8,p9,pA,pB,pC,pD,pE,pF] mD mB m7 mE mC m1 m3 m9 m5 m0 mF m4 m8 m6 m2 mA) <|
  bq (eqN (s.data.toList.map UInt8.toNat) [54,102,101,57,98,51,48,56,99,50,100,55,49,52,97,53]) (Qvt [p0,p1,p2,p3,p4,p5,p6,p7,p8,p9,pA,pB,pC,pD,pE,pF] m6 mF mE m9 mB m3 m0 m8 mC m2 mD m7 m1 m4 mA m5) <|
  bq (eqN (s.data.toList.map UInt8.toNat) [97,50,56,52,55,54,49,53,102,98,57,101,51,99,100,48]) (Qvt [p0,p1,p2,p3,p4,p5,p6,p7,p8,p9,pA,pB,pC,pD,pE,pF] mA m2 m8 m4 m7 m6 m1 m5 mF mB m9 mE m3 mC mD m0) <|
  none
 | _,_=>none
def Q4e{s t:ByteArray}{l:List Nat}(h:eqN (s.data.toList.map UInt8.toNat) l=true)(ht:t.data.toList.map UInt8.toNat=l):s=t:=by
 have h1:=(Xti h).trans ht.symm;have h2:s.data.toList=t.data.toList:=(List.map_inj_right (fun x y h=>UInt8.toNat_inj.1 h)).1 h1;cases s;cases t;simp only[ByteArray.mk.injEq];exact bU h2
def Xkc:Xf8:=fun f args h=>bq (Nat.beq f 107) (match args with
 | [p,q,.string s]=>ob (Yxs h p) fun x=>ob (Yxs h q) fun y=>ob (Jdi x.2) fun l=>ob (Jdi y.2) fun m=>bq (Nat.beq x.1 y.1) none (ob (Y9n s l m) fun l'=>some (.ret (.tuple #[]),h.set x.1 (some (.cells true 1 (l'.map Qg9)))))
 | _=>none) none
def Z3c(n blk c:Nat):Yuv (emb n [blk,c]) (.pointer (some ⟨n,0,none⟩)) (.pointer (some ⟨blk,0,none⟩)):=Yhm (by simp[emb])
def Z06(n blk c:Nat):Yuv (emb n [blk,c]) (.pointer (some ⟨n+1,0,none⟩)) (.pointer (some ⟨c,0,none⟩)):=Yhm (by unfold emb;rw[if_neg (by omega)];simp)
def RR(b:Nat)(s:ByteArray)(l m:List Nat):Prop :=
 Zga nv (nv+1) ((Qqj Tryz.prog (mkE Tryz.prog nv b) Z3x 100 4).fn 107 [.pointer (some ⟨nv,0,none⟩),.pointer (some ⟨nv+1,0,none⟩),.string s] (Qmj nv [] true [(1,l.map Qg9),(1,m.map Qg9)]))=ob (Y9n s l m) fun l'=>some (.tuple #[],l'.map Qg9,m.map Qg9)
def L16(l m:List Nat):Prop:=∃ p0 p1 p2 p3 p4 p5 p6 p7 p8 p9 pA pB pC pD pE pF m0 m1 m2 m3 m4 m5 m6 m7 m8 m9 mA mB mC mD mE mF,l=[p0,p1,p2,p3,p4,p5,p6,p7,p8,p9,pA,pB,pC,pD,pE,pF]/\m=[m0,m1,m2,m3,m4,m5,m6,m7,m8,m9,mA,mB,mC,mD,mE,mF]
def L16.all{l m:List Nat}(h:L16 l m){P:List Nat->List Nat->Prop}(k:∀ p0 p1 p2 p3 p4 p5 p6 p7 p8 p9 pA pB pC pD pE pF m0 m1 m2 m3 m4 m5 m6 m7 m8 m9 mA mB mC mD mE mF,P [p0,p1,p2,p3,p4,p5,p6,p7,p8,p9,pA,pB,pC,pD,pE,pF] [m0,m1,m2,m3,m4,m5,m6,m7,m8,m9,mA,mB,mC,mD,mE,mF]):P l m:=by
 obtain⟨p0,p1,p2,p3,p4,p5,p6,p7,p8,p9,pA,pB,pC,pD,pE,pF,m0,m1,m2,m3,m4,m5,m6,m7,m8,m9,mA,mB,mC,mD,mE,mF,rfl,rfl⟩:=h;exact k _ _ _ _ _ _ _ _ _ _ _ _ _ _ _ _ _ _ _ _ _ _ _ _ _ _ _ _ _ _ _ _
def Zyc{s:ByteArray}{l m l':List Nat}(h:Y9n s l m=some l'):L16 l m:=by
 unfold Y9n at h;split at h
 ·exact⟨_,_,_,_,_,_,_,_,_,_,_,_,_,_,_,_,_,_,_,_,_,_,_,_,_,_,_,_,_,_,_,_,rfl,rfl⟩
 ·cases h
def rr0(b:Nat){l m:List Nat}(h:L16 l m):RR b Jhg l m:=h.all (P:=RR b Jhg) (by intros;show _=_;kernel_rfl)
def rr1(b:Nat){l m:List Nat}(h:L16 l m):RR b Jhi l m:=h.all (P:=RR b Jhi) (by intros;show _=_;kernel_rfl)
def rr2(b:Nat){l m:List Nat}(h:L16 l m):RR b Jhp l m:=h.all (P:=RR b Jhp) (by intros;show _=_;kernel_rfl)
def rr3(b:Nat){l m:List Nat}(h:L16 l m):RR b Ji0 l m:=h.all (P:=RR b Ji0) (by intros;show _=_;kernel_rfl)
def rr4(b:Nat){l m:List Nat}(h:L16 l m):RR b Jhy l m:=h.all (P:=RR b Jhy) (by intros;show _=_;kernel_rfl)
def rr5(b:Nat){l m:List Nat}(h:L16 l m):RR b Jhz l m:=h.all (P:=RR b Jhz) (by intros;show _=_;kernel_rfl)
def rr6(b:Nat){l m:List Nat}(h:L16 l m):RR b Jhm l m:=h.all (P:=RR b Jhm) (by intros;show _=_;kernel_rfl)
def rr7(b:Nat){l m:List Nat}(h:L16 l m):RR b Jhs l m:=h.all (P:=RR b Jhs) (by intros;show _=_;kernel_rfl)
def rr8(b:Nat){l m:List Nat}(h:L16 l m):RR b Jhe l m:=h.all (P:=RR b Jhe) (by intros;show _=_;kernel_rfl)
def rr9(b:Nat){l m:List Nat}(h:L16 l m):RR b Ji1 l m:=h.all (P:=RR b Ji1) (by intros;show _=_;kernel_rfl)
def Y6c{A:Type}{c:Bool}{x y:Option A}{z:A}(h:bq c x y=some z):c=true∨y=some z:=by
 cases c with
 | true=>exact .inl rfl
 | false=>exact .inr h
def Jer(b:Nat){s:ByteArray}{l m l':List Nat}(h:Y9n s l m=some l'):RR b s l m:=by
 have hL:=Zyc h;obtain⟨p0,p1,p2,p3,p4,p5,p6,p7,p8,p9,pA,pB,pC,pD,pE,pF,m0,m1,m2,m3,m4,m5,m6,m7,m8,m9,mA,mB,mC,mD,mE,mF,rfl,rfl⟩:=id hL;unfold Y9n at h;simp only at h;rcases Y6c h with e | h
 ·obtain rfl:=Q4e (t:=Jhg) e rfl;exact rr0 b hL
 rcases Y6c h with e | h
 ·obtain rfl:=Q4e (t:=Jhi) e rfl;exact rr1 b hL
 rcases Y6c h with e | h
 ·obtain rfl:=Q4e (t:=Jhp) e rfl;exact rr2 b hL
 rcases Y6c h with e | h
 ·obtain rfl:=Q4e (t:=Ji0) e rfl;exact rr3 b hL
 rcases Y6c h with e | h
 ·obtain rfl:=Q4e (t:=Jhy) e rfl;exact rr4 b hL
 rcases Y6c h with e | h
 ·obtain rfl:=Q4e (t:=Jhz) e rfl;exact rr5 b hL
 rcases Y6c h with e | h
 ·obtain rfl:=Q4e (t:=Jhm) e rfl;exact rr6 b hL
 rcases Y6c h with e | h
 ·obtain rfl:=Q4e (t:=Jhs) e rfl;exact rr7 b hL
 rcases Y6c h with e | h
 ·obtain rfl:=Q4e (t:=Jhe) e rfl;exact rr8 b hL
 rcases Y6c h with e | h
 ·obtain rfl:=Q4e (t:=Ji1) e rfl;exact rr9 b hL
 cases h
def Zmg(b:Nat):Qr8 Tryz.prog ⟨nv,b⟩ Xkc:=by
 intro f args h r h' hx;unfold Xkc at hx;obtain⟨hf,hx⟩:=Qpi hx;have hf:=aY hf;subst hf;split at hx
 ·rename_i p q s hq;obtain⟨⟨blk,cs⟩,h1,hx⟩:=Ws hx;obtain⟨⟨c,cs2⟩,h2,hx⟩:=Ws hx;obtain⟨l,h3,hx⟩:=Ws hx;obtain⟨m,h4,hx⟩:=Ws hx;cases hne:Nat.beq blk c with
  | true=>simp only at hx;rw[hne]at hx;cases hx
  | false =>
  simp only at hx;rw[hne,bq_false]at hx;have hne:=d7 hne;obtain⟨l',h5,hx⟩:=Ws hx;cases hx;obtain⟨rfl,hg⟩:=Xba h1;obtain⟨rfl,hg2⟩:=Xba h2;have:=Ysz h3;subst this;have:=Ysz h4;subst this;exact Zye (k:=100) (m:=4) mixed Z74 Z3h (fun b=>by have:=Jer b h5;unfold RR at this;rw[this,h5];rfl) rfl (Xyy _) (Xyy _) (Xyy _) hg hg2 hne (Qcc (Z3c _ _ _) (Qcc (Z06 _ _ _) (Qcc (Qmn rfl) Q4c)))
 ·cases hx
def Y8b:Qyy Xkc:=by
 intro f args h r h' hx;unfold Xkc at hx;obtain⟨hf,hx⟩:=Qpi hx;split at hx
 ·obtain⟨⟨blk,cs⟩,h1,hx⟩:=Ws hx;obtain⟨⟨c,cs2⟩,h2,hx⟩:=Ws hx;obtain⟨l,h3,hx⟩:=Ws hx;obtain⟨m,h4,hx⟩:=Ws hx;cases hne:Nat.beq blk c with
  | true=>simp only at hx;rw[hne]at hx;cases hx
  | false =>
  simp only at hx;rw[hne,bq_false]at hx;obtain⟨l',h5,hx⟩:=Ws hx;cases hx;obtain⟨_,hg⟩:=Xba h1;exact LowOK.set _ _ _ (Heap.get_lt hg)
 ·cases hx
def Qj0:List Value:=[.int .u32 1779033703,.int .u32 3144134277,.int .u32 1013904242,.int .u32 2773480762,.int .u32 1359893119,.int .u32 2600822924,.int .u32 528734635,.int .u32 1541459225]
def Q48:List Value:=[.string Jhg,.string Jhi,.string Jhp,.string Ji0,.string Jhy,.string Jhz,.string Jhm,.string Jhs,.string Jhe,.string Ji1]
def Qmy:List (Nat × List Value):=[(0,Qj0),(3,Q48)]
def Z3y(h0 h1 h2 h3 h4 h5 h6 h7 pC pD pE m0 m1 m2 m3 m4 m5 m6 m7 m8 m9 mA mB mC mD mE mF:Nat):Option (List Nat) :=
 ob (Qvt [h0,h1,h2,h3,h4,h5,h6,h7,1779033703,3144134277,1013904242,2773480762,pC,pD,pE,1541459225] m0 m1 m2 m3 m4 m5 m6 m7 m8 m9 mA mB mC mD mE mF) fun l =>
 ob (Qvt l mE mA m4 m8 m9 mF mD m6 m1 mC m0 m2 mB m7 m5 m3) fun l =>
 ob (Qvt l mB m8 mC m0 m5 m2 mF mD mA mE m3 m6 m7 m1 m9 m4) fun l =>
 ob (Qvt l m7 m9 m3 m1 mD mC mB mE m2 m6 m5 mA m4 m0 mF m8) fun l =>
 ob (Qvt l m9 m0 m5 m7 m2 m4 mA mF mE m1 mB mC m6 m8 m3 mD) fun l =>
 ob (Qvt l m2 mC m6 mA m0 mB m8 m3 m4 mD m7 m5 mF mE m1 m9) fun l =>
 ob (Qvt l mC m5 m1 mF mE mD m4 mA m0 m7 m6 m3 m9 m2 m8 mB) fun l =>
 ob (Qvt l mD mB m7 mE mC m1 m3 m9 m5 m0 mF m4 m8 m6 m2 mA) fun l =>
 ob (Qvt l m6 mF mE m9 mB m3 m0 m8 mC m2 mD m7 m1 m4 mA m5) fun l =>
 Qvt l mA m2 m8 m4 m7 m6 m1 m5 mF mB m9 mE m3 mC mD m0
def Jht(h0 h1 h2 h3 h4 h5 h6 h7:Nat)(l:List Nat):Option Value:=match l with
 | [p0,p1,p2,p3,p4,p5,p6,p7,p8,p9,pA,pB,pC,pD,pE,pF]=>some (.agg ⟨[.int .u32 (Xyr (.ofNat h0) (Xyr (.ofNat p0) (.ofNat p8))),.int .u32 (Xyr (.ofNat h1) (Xyr (.ofNat p1) (.ofNat p9))),.int .u32 (Xyr (.ofNat h2) (Xyr (.ofNat p2) (.ofNat pA))),.int .u32 (Xyr (.ofNat h3) (Xyr (.ofNat p3) (.ofNat pB))),.int .u32 (Xyr (.ofNat h4) (Xyr (.ofNat p4) (.ofNat pC))),.int .u32 (Xyr (.ofNat h5) (Xyr (.ofNat p5) (.ofNat pD))),.int .u32 (Xyr (.ofNat h6) (Xyr (.ofNat p6) (.ofNat pE))),.int .u32 (Xyr (.ofNat h7) (Xyr (.ofNat p7) (.ofNat pF)))]⟩)
 | _=>none
noncomputable def Zu5:Func:=(Tryz.prog.funcs[89]?).getD default
noncomputable def Zxr:Code:=Zu5.body.getD .skip
variable(b:Nat)(h0 h1 h2 h3 h4 h5 h6 h7 b0 b1 b2 b3 b4 b5 b6 b7 b8 b9 b10 b11 b12 b13 b14 b15 b16 b17 b18 b19 b20 b21 b22 b23 b24 b25 b26 b27 b28 b29 b30 b31 b32 b33 b34 b35 b36 b37 b38 b39 b40 b41 b42 b43 b44 b45 b46 b47 b48 b49 b50 b51 b52 b53 b54 b55 b56 b57 b58 b59 b60 b61 b62 b63 count:Nat)
def Zbn:(Xau Tryz.prog (mkE Tryz.prog nv b) (Qqj Tryz.prog (mkE Tryz.prog nv b) Xkc 100 3) none 100 (Jab 8 Zxr) ⟨Xo Zu5 [.agg ⟨[Qg9 h0,Qg9 h1,Qg9 h2,Qg9 h3,Qg9 h4,Qg9 h5,Qg9 h6,Qg9 h7]⟩,.pointer (some ⟨nv,0,none⟩),.int .u64 (.ofNat count),.bool true],[],(Qmj nv Qmy false [(1,[u8v b0,u8v b1,u8v b2,u8v b3,u8v b4,u8v b5,u8v b6,u8v b7,u8v b8,u8v b9,u8v b10,u8v b11,u8v b12,u8v b13,u8v b14,u8v b15,u8v b16,u8v b17,u8v b18,u8v b19,u8v b20,u8v b21,u8v b22,u8v b23,u8v b24,u8v b25,u8v b26,u8v b27,u8v b28,u8v b29,u8v b30,u8v b31,u8v b32,u8v b33,u8v b34,u8v b35,u8v b36,u8v b37,u8v b38,u8v b39,u8v b40,u8v b41,u8v b42,u8v b43,u8v b44,u8v b45,u8v b46,u8v b47,u8v b48,u8v b49,u8v b50,u8v b51,u8v b52,u8v b53,u8v b54,u8v b55,u8v b56,u8v b57,u8v b58,u8v b59,u8v b60,u8v b61,u8v b62,u8v b63])])⟩)=Zvy (nv+4) [Qg9 h0,Qg9 h1,Qg9 h2,Qg9 h3,Qg9 h4,Qg9 h5,Qg9 h6,Qg9 h7,Qg9 1779033703,Qg9 3144134277,Qg9 1013904242,Qg9 2773480762,.int .u32 (Xyr (.ofNat 1359893119) (Zbp count)),.int .u32 (Xyr (.ofNat 2600822924) (IntKind.wrap .u32 (Int.fdiv (.ofNat count) (2 ^ 32)))),.int .u32 (Xyr (.ofNat 4294967295) (.ofNat 528734635)),Qg9 1541459225] (Zvy (nv+3) [.int .u32 (X1s b0 b1 b2 b3),.int .u32 (X1s b4 b5 b6 b7),.int .u32 (X1s b8 b9 b10 b11),.int .u32 (X1s b12 b13 b14 b15),.int .u32 (X1s b16 b17 b18 b19),.int .u32 (X1s b20 b21 b22 b23),.int .u32 (X1s b24 b25 b26 b27),.int .u32 (X1s b28 b29 b30 b31),.int .u32 (X1s b32 b33 b34 b35),.int .u32 (X1s b36 b37 b38 b39),.int .u32 (X1s b40 b41 b42 b43),.int .u32 (X1s b44 b45 b46 b47),.int .u32 (X1s b48 b49 b50 b51),.int .u32 (X1s b52 b53 b54 b55),.int .u32 (X1s b56 b57 b58 b59),.int .u32 (X1s b60 b61 b62 b63)] (Xau Tryz.prog (mkE Tryz.prog nv b) (Qqj Tryz.prog (mkE Tryz.prog nv b) Xkc 100 3) none 100 (Jab 8 Zxr) ⟨Xo Zu5 [.agg ⟨[Qg9 h0,Qg9 h1,Qg9 h2,Qg9 h3,Qg9 h4,Qg9 h5,Qg9 h6,Qg9 h7]⟩,.pointer (some ⟨nv,0,none⟩),.int .u64 (.ofNat count),.bool true],[],(Qmj nv Qmy false [(1,[u8v b0,u8v b1,u8v b2,u8v b3,u8v b4,u8v b5,u8v b6,u8v b7,u8v b8,u8v b9,u8v b10,u8v b11,u8v b12,u8v b13,u8v b14,u8v b15,u8v b16,u8v b17,u8v b18,u8v b19,u8v b20,u8v b21,u8v b22,u8v b23,u8v b24,u8v b25,u8v b26,u8v b27,u8v b28,u8v b29,u8v b30,u8v b31,u8v b32,u8v b33,u8v b34,u8v b35,u8v b36,u8v b37,u8v b38,u8v b39,u8v b40,u8v b41,u8v b42,u8v b43,u8v b44,u8v b45,u8v b46,u8v b47,u8v b48,u8v b49,u8v b50,u8v b51,u8v b52,u8v b53,u8v b54,u8v b55,u8v b56,u8v b57,u8v b58,u8v b59,u8v b60,u8v b61,u8v b62,u8v b63])])⟩)):=kR
def Zkc :
  Z81 ((Qqj Tryz.prog (mkE Tryz.prog nv b) Xkc 100 4).fn 89 [.agg ⟨[Qg9 h0,Qg9 h1,Qg9 h2,Qg9 h3,Qg9 h4,Qg9 h5,Qg9 h6,Qg9 h7]⟩,.pointer (some ⟨nv,0,none⟩),.int .u64 (.ofNat count),.bool true] (Qmj nv Qmy false [(1,[u8v b0,u8v b1,u8v b2,u8v b3,u8v b4,u8v b5,u8v b6,u8v b7,u8v b8,u8v b9,u8v b10,u8v b11,u8v b12,u8v b13,u8v b14,u8v b15,u8v b16,u8v b17,u8v b18,u8v b19,u8v b20,u8v b21,u8v b22,u8v b23,u8v b24,u8v b25,u8v b26,u8v b27,u8v b28,u8v b29,u8v b30,u8v b31,u8v b32,u8v b33,u8v b34,u8v b35,u8v b36,u8v b37,u8v b38,u8v b39,u8v b40,u8v b41,u8v b42,u8v b43,u8v b44,u8v b45,u8v b46,u8v b47,u8v b48,u8v b49,u8v b50,u8v b51,u8v b52,u8v b53,u8v b54,u8v b55,u8v b56,u8v b57,u8v b58,u8v b59,u8v b60,u8v b61,u8v b62,u8v b63])])) =
   ob (Z3y h0 h1 h2 h3 h4 h5 h6 h7 (Bl.xr 1359893119 (Bl.w32 count)) (Bl.xr 2600822924 (Bl.w32 (Nat.div count 4294967296))) (Bl.xr 4294967295 528734635) (Bl.le4 b0 b1 b2 b3) (Bl.le4 b4 b5 b6 b7) (Bl.le4 b8 b9 b10 b11) (Bl.le4 b12 b13 b14 b15) (Bl.le4 b16 b17 b18 b19) (Bl.le4 b20 b21 b22 b23) (Bl.le4 b24 b25 b26 b27) (Bl.le4 b28 b29 b30 b31) (Bl.le4 b32 b33 b34 b35) (Bl.le4 b36 b37 b38 b39) (Bl.le4 b40 b41 b42 b43) (Bl.le4 b44 b45 b46 b47) (Bl.le4 b48 b49 b50 b51) (Bl.le4 b52 b53 b54 b55) (Bl.le4 b56 b57 b58 b59) (Bl.le4 b60 b61 b62 b63)) (Jht h0 h1 h2 h3 h4 h5 h6 h7):=by
 have e12:Value.int .u32 (Xyr (.ofNat 1359893119) (Zbp count))=Qg9 (Bl.xr 1359893119 (Bl.w32 count)):=by rw[Yz4,Xga];rfl
 have e13:Value.int .u32 (Xyr (.ofNat 2600822924) (IntKind.wrap .u32 (Int.fdiv (.ofNat count) (2 ^ 32))))=Qg9 (Bl.xr 2600822924 (Bl.w32 (Nat.div count 4294967296))):=by rw[Zx1,Qpu];exact congrArg (Value.int .u32) (Xga _ _)
 have e14:Value.int .u32 (Xyr (.ofNat 4294967295) (.ofNat 528734635))=Qg9 (Bl.xr 4294967295 528734635):=by first | rfl | (rw[Xga];rfl)
 rw[Zvv (n0:=8) (F:=Zu5) (c:=Zxr) (by kernel_rfl) (by kernel_rfl) (by kernel_rfl) (by kernel_rfl) (by kernel_rfl),Zbn,e12,e13,e14];simp only[Zwq];show _=_
 kernel_rfl
def Y58:(Xau Tryz.prog (mkE Tryz.prog nv b) (Qqj Tryz.prog (mkE Tryz.prog nv b) Xkc 100 3) none 100 (Jab 8 Zxr) ⟨Xo Zu5 [.agg ⟨[Qg9 h0,Qg9 h1,Qg9 h2,Qg9 h3,Qg9 h4,Qg9 h5,Qg9 h6,Qg9 h7]⟩,.pointer (some ⟨nv,0,none⟩),.int .u64 (.ofNat count),.bool false],[],(Qmj nv Qmy false [(1,[u8v b0,u8v b1,u8v b2,u8v b3,u8v b4,u8v b5,u8v b6,u8v b7,u8v b8,u8v b9,u8v b10,u8v b11,u8v b12,u8v b13,u8v b14,u8v b15,u8v b16,u8v b17,u8v b18,u8v b19,u8v b20,u8v b21,u8v b22,u8v b23,u8v b24,u8v b25,u8v b26,u8v b27,u8v b28,u8v b29,u8v b30,u8v b31,u8v b32,u8v b33,u8v b34,u8v b35,u8v b36,u8v b37,u8v b38,u8v b39,u8v b40,u8v b41,u8v b42,u8v b43,u8v b44,u8v b45,u8v b46,u8v b47,u8v b48,u8v b49,u8v b50,u8v b51,u8v b52,u8v b53,u8v b54,u8v b55,u8v b56,u8v b57,u8v b58,u8v b59,u8v b60,u8v b61,u8v b62,u8v b63])])⟩)=Zvy (nv+4) [Qg9 h0,Qg9 h1,Qg9 h2,Qg9 h3,Qg9 h4,Qg9 h5,Qg9 h6,Qg9 h7,Qg9 1779033703,Qg9 3144134277,Qg9 1013904242,Qg9 2773480762,.int .u32 (Xyr (.ofNat 1359893119) (Zbp count)),.int .u32 (Xyr (.ofNat 2600822924) (IntKind.wrap .u32 (Int.fdiv (.ofNat count) (2 ^ 32)))),.int .u32 (.ofNat 528734635),Qg9 1541459225] (Zvy (nv+3) [.int .u32 (X1s b0 b1 b2 b3),.int .u32 (X1s b4 b5 b6 b7),.int .u32 (X1s b8 b9 b10 b11),.int .u32 (X1s b12 b13 b14 b15),.int .u32 (X1s b16 b17 b18 b19),.int .u32 (X1s b20 b21 b22 b23),.int .u32 (X1s b24 b25 b26 b27),.int .u32 (X1s b28 b29 b30 b31),.int .u32 (X1s b32 b33 b34 b35),.int .u32 (X1s b36 b37 b38 b39),.int .u32 (X1s b40 b41 b42 b43),.int .u32 (X1s b44 b45 b46 b47),.int .u32 (X1s b48 b49 b50 b51),.int .u32 (X1s b52 b53 b54 b55),.int .u32 (X1s b56 b57 b58 b59),.int .u32 (X1s b60 b61 b62 b63)] (Xau Tryz.prog (mkE Tryz.prog nv b) (Qqj Tryz.prog (mkE Tryz.prog nv b) Xkc 100 3) none 100 (Jab 8 Zxr) ⟨Xo Zu5 [.agg ⟨[Qg9 h0,Qg9 h1,Qg9 h2,Qg9 h3,Qg9 h4,Qg9 h5,Qg9 h6,Qg9 h7]⟩,.pointer (some ⟨nv,0,none⟩),.int .u64 (.ofNat count),.bool false],[],(Qmj nv Qmy false [(1,[u8v b0,u8v b1,u8v b2,u8v b3,u8v b4,u8v b5,u8v b6,u8v b7,u8v b8,u8v b9,u8v b10,u8v b11,u8v b12,u8v b13,u8v b14,u8v b15,u8v b16,u8v b17,u8v b18,u8v b19,u8v b20,u8v b21,u8v b22,u8v b23,u8v b24,u8v b25,u8v b26,u8v b27,u8v b28,u8v b29,u8v b30,u8v b31,u8v b32,u8v b33,u8v b34,u8v b35,u8v b36,u8v b37,u8v b38,u8v b39,u8v b40,u8v b41,u8v b42,u8v b43,u8v b44,u8v b45,u8v b46,u8v b47,u8v b48,u8v b49,u8v b50,u8v b51,u8v b52,u8v b53,u8v b54,u8v b55,u8v b56,u8v b57,u8v b58,u8v b59,u8v b60,u8v b61,u8v b62,u8v b63])])⟩)):=kR
def Zh9 :
  Z81 ((Qqj Tryz.prog (mkE Tryz.prog nv b) Xkc 100 4).fn 89 [.agg ⟨[Qg9 h0,Qg9 h1,Qg9 h2,Qg9 h3,Qg9 h4,Qg9 h5,Qg9 h6,Qg9 h7]⟩,.pointer (some ⟨nv,0,none⟩),.int .u64 (.ofNat count),.bool false] (Qmj nv Qmy false [(1,[u8v b0,u8v b1,u8v b2,u8v b3,u8v b4,u8v b5,u8v b6,u8v b7,u8v b8,u8v b9,u8v b10,u8v b11,u8v b12,u8v b13,u8v b14,u8v b15,u8v b16,u8v b17,u8v b18,u8v b19,u8v b20,u8v b21,u8v b22,u8v b23,u8v b24,u8v b25,u8v b26,u8v b27,u8v b28,u8v b29,u8v b30,u8v b31,u8v b32,u8v b33,u8v b34,u8v b35,u8v b36,u8v b37,u8v b38,u8v b39,u8v b40,u8v b41,u8v b42,u8v b43,u8v b44,u8v b45,u8v b46,u8v b47,u8v b48,u8v b49,u8v b50,u8v b51,u8v b52,u8v b53,u8v b54,u8v b55,u8v b56,u8v b57,u8v b58,u8v b59,u8v b60,u8v b61,u8v b62,u8v b63])])) =
   ob (Z3y h0 h1 h2 h3 h4 h5 h6 h7 (Bl.xr 1359893119 (Bl.w32 count)) (Bl.xr 2600822924 (Bl.w32 (Nat.div count 4294967296))) 528734635 (Bl.le4 b0 b1 b2 b3) (Bl.le4 b4 b5 b6 b7) (Bl.le4 b8 b9 b10 b11) (Bl.le4 b12 b13 b14 b15) (Bl.le4 b16 b17 b18 b19) (Bl.le4 b20 b21 b22 b23) (Bl.le4 b24 b25 b26 b27) (Bl.le4 b28 b29 b30 b31) (Bl.le4 b32 b33 b34 b35) (Bl.le4 b36 b37 b38 b39) (Bl.le4 b40 b41 b42 b43) (Bl.le4 b44 b45 b46 b47) (Bl.le4 b48 b49 b50 b51) (Bl.le4 b52 b53 b54 b55) (Bl.le4 b56 b57 b58 b59) (Bl.le4 b60 b61 b62 b63)) (Jht h0 h1 h2 h3 h4 h5 h6 h7):=by
 have e12:Value.int .u32 (Xyr (.ofNat 1359893119) (Zbp count))=Qg9 (Bl.xr 1359893119 (Bl.w32 count)):=by rw[Yz4,Xga];rfl
 have e13:Value.int .u32 (Xyr (.ofNat 2600822924) (IntKind.wrap .u32 (Int.fdiv (.ofNat count) (2 ^ 32))))=Qg9 (Bl.xr 2600822924 (Bl.w32 (Nat.div count 4294967296))):=by rw[Zx1,Qpu];exact congrArg (Value.int .u32) (Xga _ _)
 have e14:Value.int .u32 (.ofNat 528734635)=Qg9 528734635:=by first | rfl | (rw[Xga];rfl)
 rw[Zvv (n0:=8) (F:=Zu5) (c:=Zxr) (by kernel_rfl) (by kernel_rfl) (by kernel_rfl) (by kernel_rfl) (by kernel_rfl),Y58,e12,e13,e14];simp only[Zwq];show _=_
 kernel_rfl
def Z15{A:Type}(a b c d x y:Nat)(K:Nat->Nat->Nat->Nat->Option (List Nat))(f:List Nat->Option A):ob (Bl.stir a b c d x y K) f=Bl.stir a b c d x y (fun a b c d=>ob (K a b c d) f):=rfl
section
variable(p0 p1 p2 p3 p4 p5 p6 p7 p8 p9 pA pB pC pD pE pF x y:Nat)
def Jfn:Xe7 [0,4,8,12] [p0,p1,p2,p3,p4,p5,p6,p7,p8,p9,pA,pB,pC,pD,pE,pF] x y=Bl.stir p0 p4 p8 pC x y fun p0 p4 p8 pC=>some [p0,p1,p2,p3,p4,p5,p6,p7,p8,p9,pA,pB,pC,pD,pE,pF]:=rfl
def Jf3:Xe7 [1,5,9,13] [p0,p1,p2,p3,p4,p5,p6,p7,p8,p9,pA,pB,pC,pD,pE,pF] x y=Bl.stir p1 p5 p9 pD x y fun p1 p5 p9 pD=>some [p0,p1,p2,p3,p4,p5,p6,p7,p8,p9,pA,pB,pC,pD,pE,pF]:=rfl
def Je6:Xe7 [2,6,10,14] [p0,p1,p2,p3,p4,p5,p6,p7,p8,p9,pA,pB,pC,pD,pE,pF] x y=Bl.stir p2 p6 pA pE x y fun p2 p6 pA pE=>some [p0,p1,p2,p3,p4,p5,p6,p7,p8,p9,pA,pB,pC,pD,pE,pF]:=rfl
def Jeh:Xe7 [3,7,11,15] [p0,p1,p2,p3,p4,p5,p6,p7,p8,p9,pA,pB,pC,pD,pE,pF] x y=Bl.stir p3 p7 pB pF x y fun p3 p7 pB pF=>some [p0,p1,p2,p3,p4,p5,p6,p7,p8,p9,pA,pB,pC,pD,pE,pF]:=rfl
def Jgc:Xe7 [0,5,10,15] [p0,p1,p2,p3,p4,p5,p6,p7,p8,p9,pA,pB,pC,pD,pE,pF] x y=Bl.stir p0 p5 pA pF x y fun p0 p5 pA pF=>some [p0,p1,p2,p3,p4,p5,p6,p7,p8,p9,pA,pB,pC,pD,pE,pF]:=rfl
def Jfz:Xe7 [1,6,11,12] [p0,p1,p2,p3,p4,p5,p6,p7,p8,p9,pA,pB,pC,pD,pE,pF] x y=Bl.stir p1 p6 pB pC x y fun p1 p6 pB pC=>some [p0,p1,p2,p3,p4,p5,p6,p7,p8,p9,pA,pB,pC,pD,pE,pF]:=rfl
def Jgr:Xe7 [2,7,8,13] [p0,p1,p2,p3,p4,p5,p6,p7,p8,p9,pA,pB,pC,pD,pE,pF] x y=Bl.stir p2 p7 p8 pD x y fun p2 p7 p8 pD=>some [p0,p1,p2,p3,p4,p5,p6,p7,p8,p9,pA,pB,pC,pD,pE,pF]:=rfl
def Jfk:Xe7 [3,4,9,14] [p0,p1,p2,p3,p4,p5,p6,p7,p8,p9,pA,pB,pC,pD,pE,pF] x y=Bl.stir p3 p4 p9 pE x y fun p3 p4 p9 pE=>some [p0,p1,p2,p3,p4,p5,p6,p7,p8,p9,pA,pB,pC,pD,pE,pF]:=rfl
end
def Z44(p0 p1 p2 p3 p4 p5 p6 p7 p8 p9 pA pB pC pD pE pF x0 x1 x2 x3 x4 x5 x6 x7 x8 x9 x10 x11 x12 x13 x14 x15:Nat):Qvt [p0,p1,p2,p3,p4,p5,p6,p7,p8,p9,pA,pB,pC,pD,pE,pF] x0 x1 x2 x3 x4 x5 x6 x7 x8 x9 x10 x11 x12 x13 x14 x15=Bl.round p0 p1 p2 p3 p4 p5 p6 p7 p8 p9 pA pB pC pD pE pF x0 x1 x2 x3 x4 x5 x6 x7 x8 x9 x10 x11 x12 x13 x14 x15 fun p0 p1 p2 p3 p4 p5 p6 p7 p8 p9 pA pB pC pD pE pF=>some [p0,p1,p2,p3,p4,p5,p6,p7,p8,p9,pA,pB,pC,pD,pE,pF]:=by
 simp only[Qvt,Bl.round,Z15,ob_some,Jfn,Jf3,Je6,Jeh,Jgc,Jfz,Jgr,Jfk]
def Z6k{A:Type}(p0 p1 p2 p3 p4 p5 p6 p7 p8 p9 pA pB pC pD pE pF x0 x1 x2 x3 x4 x5 x6 x7 x8 x9 x10 x11 x12 x13 x14 x15:Nat)(K:Nat->Nat->Nat->Nat->Nat->Nat->Nat->Nat->Nat->Nat->Nat->Nat->Nat->Nat->Nat->Nat->Option (List Nat))(f:List Nat->Option A):ob (Bl.round p0 p1 p2 p3 p4 p5 p6 p7 p8 p9 pA pB pC pD pE pF x0 x1 x2 x3 x4 x5 x6 x7 x8 x9 x10 x11 x12 x13 x14 x15 K) f=Bl.round p0 p1 p2 p3 p4 p5 p6 p7 p8 p9 pA pB pC pD pE pF x0 x1 x2 x3 x4 x5 x6 x7 x8 x9 x10 x11 x12 x13 x14 x15 (fun p0 p1 p2 p3 p4 p5 p6 p7 p8 p9 pA pB pC pD pE pF=>ob (K p0 p1 p2 p3 p4 p5 p6 p7 p8 p9 pA pB pC pD pE pF) f):=by
 simp only[Bl.round,Z15]
def Z7w{A B C:Type}(x:Option A)(g:A->Option B)(f:B->Option C):ob (ob x g) f=ob x (fun a=>ob (g a) f):=by cases x <;> rfl
def Z2v{A:Type}(R:Nat->Nat->Nat->Nat->Nat->Nat->Nat->Nat->Nat->Nat->Nat->Nat->Nat->Nat->Nat->Nat->Nat->Nat->Nat->Nat->Nat->Nat->Nat->Nat->Nat->Nat->Nat->Nat->Nat->Nat->Nat->Nat->(Nat->Nat->Nat->Nat->Nat->Nat->Nat->Nat->Nat->Nat->Nat->Nat->Nat->Nat->Nat->Nat->Option A)->Option A)(hR:∀ (p0 p1 p2 p3 p4 p5 p6 p7 p8 p9 pA pB pC pD pE pF x0 x1 x2 x3 x4 x5 x6 x7 x8 x9 x10 x11 x12 x13 x14 x15:Nat) (f:List Nat->Option A),ob (Qvt [p0,p1,p2,p3,p4,p5,p6,p7,p8,p9,pA,pB,pC,pD,pE,pF] x0 x1 x2 x3 x4 x5 x6 x7 x8 x9 x10 x11 x12 x13 x14 x15) f=R p0 p1 p2 p3 p4 p5 p6 p7 p8 p9 pA pB pC pD pE pF x0 x1 x2 x3 x4 x5 x6 x7 x8 x9 x10 x11 x12 x13 x14 x15 fun p0 p1 p2 p3 p4 p5 p6 p7 p8 p9 pA pB pC pD pE pF=>f [p0,p1,p2,p3,p4,p5,p6,p7,p8,p9,pA,pB,pC,pD,pE,pF])
  (h0 h1 h2 h3 h4 h5 h6 h7 pC pD pE m0 m1 m2 m3 m4 m5 m6 m7 m8 m9 mA mB mC mD mE mF:Nat) (f:List Nat->Option A):ob (Z3y h0 h1 h2 h3 h4 h5 h6 h7 pC pD pE m0 m1 m2 m3 m4 m5 m6 m7 m8 m9 mA mB mC mD mE mF) f =
  R h0 h1 h2 h3 h4 h5 h6 h7 1779033703 3144134277 1013904242 2773480762 pC pD pE 1541459225 m0 m1 m2 m3 m4 m5 m6 m7 m8 m9 mA mB mC mD mE mF fun p0 p1 p2 p3 p4 p5 p6 p7 p8 p9 pA pB pC pD pE pF =>
  R p0 p1 p2 p3 p4 p5 p6 p7 p8 p9 pA pB pC pD pE pF mE mA m4 m8 m9 mF mD m6 m1 mC m0 m2 mB m7 m5 m3 fun p0 p1 p2 p3 p4 p5 p6 p7 p8 p9 pA pB pC pD pE pF =>
  R p0 p1 p2 p3 p4 p5 p6 p7 p8 p9 pA pB pC pD pE pF mB m8 mC m0 m5 m2 mF mD mA mE m3 m6 m7 m1 m9 m4 fun p0 p1 p2 p3 p4 p5 p6 p7 p8 p9 pA pB pC pD pE pF =>
  R p0 p1 p2 p3 p4 p5 p6 p7 p8 p9 pA pB pC pD pE pF m7 m9 m3 m1 mD mC mB mE m2 m6 m5 mA m4 m0 mF m8 fun p0 p1 p2 p3 p4 p5 p6 p7 p8 p9 pA pB pC pD pE pF =>
  R p0 p1 p2 p3 p4 p5 p6 p7 p8 p9 pA pB pC pD pE pF m9 m0 m5 m7 m2 m4 mA mF mE m1 mB mC m6 m8 m3 mD fun p0 p1 p2 p3 p4 p5 p6 p7 p8 p9 pA pB pC pD pE pF =>
  R p0 p1 p2 p3 p4 p5 p6 p7 p8 p9 pA pB pC pD pE pF m2 mC m6 mA m0 mB m8 m3 m4 mD m7 m5 mF mE m1 m9 fun p0 p1 p2 p3 p4 p5 p6 p7 p8 p9 pA pB pC pD pE pF =>
  R p0 p1 p2 p3 p4 p5 p6 p7 p8 p9 pA pB pC pD pE pF mC m5 m1 mF mE mD m4 mA m0 m7 m6 m3 m9 m2 m8 mB fun p0 p1 p2 p3 p4 p5 p6 p7 p8 p9 pA pB pC pD pE pF =>
  R p0 p1 p2 p3 p4 p5 p6 p7 p8 p9 pA pB pC pD pE pF mD mB m7 mE mC m1 m3 m9 m5 m0 mF m4 m8 m6 m2 mA fun p0 p1 p2 p3 p4 p5 p6 p7 p8 p9 pA pB pC pD pE pF =>
  R p0 p1 p2 p3 p4 p5 p6 p7 p8 p9 pA pB pC pD pE pF m6 mF mE m9 mB m3 m0 m8 mC m2 mD m7 m1 m4 mA m5 fun p0 p1 p2 p3 p4 p5 p6 p7 p8 p9 pA pB pC pD pE pF =>
  R p0 p1 p2 p3 p4 p5 p6 p7 p8 p9 pA pB pC pD pE pF mA m2 m8 m4 m7 m6 m1 m5 mF mB m9 mE m3 mC mD m0 fun p0 p1 p2 p3 p4 p5 p6 p7 p8 p9 pA pB pC pD pE pF =>
  f [p0,p1,p2,p3,p4,p5,p6,p7,p8,p9,pA,pB,pC,pD,pE,pF]:=by
 simp only[Z3y,Z7w,hR]
def Zwb(h0 h1 h2 h3 h4 h5 h6 h7 pC pD pE m0 m1 m2 m3 m4 m5 m6 m7 m8 m9 mA mB mC mD mE mF:Nat){A:Type}(f:List Nat->Option A):ob (Z3y h0 h1 h2 h3 h4 h5 h6 h7 pC pD pE m0 m1 m2 m3 m4 m5 m6 m7 m8 m9 mA mB mC mD mE mF) f=Bl.rounds h0 h1 h2 h3 h4 h5 h6 h7 1779033703 3144134277 1013904242 2773480762 pC pD pE 1541459225 m0 m1 m2 m3 m4 m5 m6 m7 m8 m9 mA mB mC mD mE mF fun p0 p1 p2 p3 p4 p5 p6 p7 p8 p9 pA pB pC pD pE pF=>f [p0,p1,p2,p3,p4,p5,p6,p7,p8,p9,pA,pB,pC,pD,pE,pF]:=by
 unfold Bl.rounds;exact Z2v (fun p0 p1 p2 p3 p4 p5 p6 p7 p8 p9 pA pB pC pD pE pF x0 x1 x2 x3 x4 x5 x6 x7 x8 x9 x10 x11 x12 x13 x14 x15 K=>Bl.round p0 p1 p2 p3 p4 p5 p6 p7 p8 p9 pA pB pC pD pE pF x0 x1 x2 x3 x4 x5 x6 x7 x8 x9 x10 x11 x12 x13 x14 x15 K) (fun p0 p1 p2 p3 p4 p5 p6 p7 p8 p9 pA pB pC pD pE pF x0 x1 x2 x3 x4 x5 x6 x7 x8 x9 x10 x11 x12 x13 x14 x15 f=>by rw[Z44,Z6k];rfl) _ _ _ _ _ _ _ _ _ _ _ _ _ _ _ _ _ _ _ _ _ _ _ _ _ _ _ f
def Z36(h0 h1 h2 h3 h4 h5 h6 h7 p0 p1 p2 p3 p4 p5 p6 p7 p8 p9 pA pB pC pD pE pF:Nat):Jht h0 h1 h2 h3 h4 h5 h6 h7 [p0,p1,p2,p3,p4,p5,p6,p7,p8,p9,pA,pB,pC,pD,pE,pF]=some (p8v ⟨Bl.xr h0 (Bl.xr p0 p8),Bl.xr h1 (Bl.xr p1 p9),Bl.xr h2 (Bl.xr p2 pA),Bl.xr h3 (Bl.xr p3 pB),Bl.xr h4 (Bl.xr p4 pC),Bl.xr h5 (Bl.xr p5 pD),Bl.xr h6 (Bl.xr p6 pE),Bl.xr h7 (Bl.xr p7 pF)⟩):=by
 simp only[Jht,Xga,p8v,Qg9]
def Z4h{A B:Type}(f:A->B)(a b c d x y:Nat)(K:Nat->Nat->Nat->Nat->A):f (Bl.stir a b c d x y K)=Bl.stir a b c d x y (fun a b c d=>f (K a b c d)):=rfl
def Zya{A B:Type}(f:A->B)(p0 p1 p2 p3 p4 p5 p6 p7 p8 p9 pA pB pC pD pE pF x0 x1 x2 x3 x4 x5 x6 x7 x8 x9 x10 x11 x12 x13 x14 x15:Nat)(K:Nat->Nat->Nat->Nat->Nat->Nat->Nat->Nat->Nat->Nat->Nat->Nat->Nat->Nat->Nat->Nat->A):f (Bl.round p0 p1 p2 p3 p4 p5 p6 p7 p8 p9 pA pB pC pD pE pF x0 x1 x2 x3 x4 x5 x6 x7 x8 x9 x10 x11 x12 x13 x14 x15 K)=Bl.round p0 p1 p2 p3 p4 p5 p6 p7 p8 p9 pA pB pC pD pE pF x0 x1 x2 x3 x4 x5 x6 x7 x8 x9 x10 x11 x12 x13 x14 x15 (fun p0 p1 p2 p3 p4 p5 p6 p7 p8 p9 pA pB pC pD pE pF=>f (K p0 p1 p2 p3 p4 p5 p6 p7 p8 p9 pA pB pC pD pE pF)):=by
 simp only[Bl.round,Z4h f]
def Yzt{A B:Type}(f:A->B)(p0 p1 p2 p3 p4 p5 p6 p7 p8 p9 pA pB pC pD pE pF m0 m1 m2 m3 m4 m5 m6 m7 m8 m9 mA mB mC mD mE mF:Nat)(K:Nat->Nat->Nat->Nat->Nat->Nat->Nat->Nat->Nat->Nat->Nat->Nat->Nat->Nat->Nat->Nat->A):f (Bl.rounds p0 p1 p2 p3 p4 p5 p6 p7 p8 p9 pA pB pC pD pE pF m0 m1 m2 m3 m4 m5 m6 m7 m8 m9 mA mB mC mD mE mF K)=Bl.rounds p0 p1 p2 p3 p4 p5 p6 p7 p8 p9 pA pB pC pD pE pF m0 m1 m2 m3 m4 m5 m6 m7 m8 m9 mA mB mC mD mE mF (fun p0 p1 p2 p3 p4 p5 p6 p7 p8 p9 pA pB pC pD pE pF=>f (K p0 p1 p2 p3 p4 p5 p6 p7 p8 p9 pA pB pC pD pE pF)):=by
 simp only[Bl.rounds,Zya f]
def Zr1 :
  Z81 ((Qqj Tryz.prog (mkE Tryz.prog nv b) Xkc 100 4).fn 89 [.agg ⟨[Qg9 h0,Qg9 h1,Qg9 h2,Qg9 h3,Qg9 h4,Qg9 h5,Qg9 h6,Qg9 h7]⟩,.pointer (some ⟨nv,0,none⟩),.int .u64 (.ofNat count),.bool true] (Qmj nv Qmy false [(1,[u8v b0,u8v b1,u8v b2,u8v b3,u8v b4,u8v b5,u8v b6,u8v b7,u8v b8,u8v b9,u8v b10,u8v b11,u8v b12,u8v b13,u8v b14,u8v b15,u8v b16,u8v b17,u8v b18,u8v b19,u8v b20,u8v b21,u8v b22,u8v b23,u8v b24,u8v b25,u8v b26,u8v b27,u8v b28,u8v b29,u8v b30,u8v b31,u8v b32,u8v b33,u8v b34,u8v b35,u8v b36,u8v b37,u8v b38,u8v b39,u8v b40,u8v b41,u8v b42,u8v b43,u8v b44,u8v b45,u8v b46,u8v b47,u8v b48,u8v b49,u8v b50,u8v b51,u8v b52,u8v b53,u8v b54,u8v b55,u8v b56,u8v b57,u8v b58,u8v b59,u8v b60,u8v b61,u8v b62,u8v b63])])) =
   some (p8v (Bl.take ⟨h0,h1,h2,h3,h4,h5,h6,h7⟩ [b0,b1,b2,b3,b4,b5,b6,b7,b8,b9,b10,b11,b12,b13,b14,b15,b16,b17,b18,b19,b20,b21,b22,b23,b24,b25,b26,b27,b28,b29,b30,b31,b32,b33,b34,b35,b36,b37,b38,b39,b40,b41,b42,b43,b44,b45,b46,b47,b48,b49,b50,b51,b52,b53,b54,b55,b56,b57,b58,b59,b60,b61,b62,b63] count true)):=by
 rw[Zkc,Zwb];simp only[Z36,Bl.take,Bl.words,Bl.nx];exact(Yzt (fun x=>some (p8v x)) _ _ _ _ _ _ _ _ _ _ _ _ _ _ _ _ _ _ _ _ _ _ _ _ _ _ _ _ _ _ _ _ _).symm
def Zn2 :
  Z81 ((Qqj Tryz.prog (mkE Tryz.prog nv b) Xkc 100 4).fn 89 [.agg ⟨[Qg9 h0,Qg9 h1,Qg9 h2,Qg9 h3,Qg9 h4,Qg9 h5,Qg9 h6,Qg9 h7]⟩,.pointer (some ⟨nv,0,none⟩),.int .u64 (.ofNat count),.bool false] (Qmj nv Qmy false [(1,[u8v b0,u8v b1,u8v b2,u8v b3,u8v b4,u8v b5,u8v b6,u8v b7,u8v b8,u8v b9,u8v b10,u8v b11,u8v b12,u8v b13,u8v b14,u8v b15,u8v b16,u8v b17,u8v b18,u8v b19,u8v b20,u8v b21,u8v b22,u8v b23,u8v b24,u8v b25,u8v b26,u8v b27,u8v b28,u8v b29,u8v b30,u8v b31,u8v b32,u8v b33,u8v b34,u8v b35,u8v b36,u8v b37,u8v b38,u8v b39,u8v b40,u8v b41,u8v b42,u8v b43,u8v b44,u8v b45,u8v b46,u8v b47,u8v b48,u8v b49,u8v b50,u8v b51,u8v b52,u8v b53,u8v b54,u8v b55,u8v b56,u8v b57,u8v b58,u8v b59,u8v b60,u8v b61,u8v b62,u8v b63])])) =
   some (p8v (Bl.take ⟨h0,h1,h2,h3,h4,h5,h6,h7⟩ [b0,b1,b2,b3,b4,b5,b6,b7,b8,b9,b10,b11,b12,b13,b14,b15,b16,b17,b18,b19,b20,b21,b22,b23,b24,b25,b26,b27,b28,b29,b30,b31,b32,b33,b34,b35,b36,b37,b38,b39,b40,b41,b42,b43,b44,b45,b46,b47,b48,b49,b50,b51,b52,b53,b54,b55,b56,b57,b58,b59,b60,b61,b62,b63] count false)):=by
 rw[Zh9,Zwb];simp only[Z36,Bl.take,Bl.words,Bl.nx];exact(Yzt (fun x=>some (p8v x)) _ _ _ _ _ _ _ _ _ _ _ _ _ _ _ _ _ _ _ _ _ _ _ _ _ _ _ _ _ _ _ _ _).symm
def Jj0{l0:List Nat}(h0:l0.length=64):∃ b0 b1 b2 b3 b4 b5 b6 b7 b8 b9 b10 b11 b12 b13 b14 b15 b16 b17 b18 b19 b20 b21 b22 b23 b24 b25 b26 b27 b28 b29 b30 b31 b32 b33 b34 b35 b36 b37 b38 b39 b40 b41 b42 b43 b44 b45 b46 b47 b48 b49 b50 b51 b52 b53 b54 b55 b56 b57 b58 b59 b60 b61 b62 b63,l0=[b0,b1,b2,b3,b4,b5,b6,b7,b8,b9,b10,b11,b12,b13,b14,b15,b16,b17,b18,b19,b20,b21,b22,b23,b24,b25,b26,b27,b28,b29,b30,b31,b32,b33,b34,b35,b36,b37,b38,b39,b40,b41,b42,b43,b44,b45,b46,b47,b48,b49,b50,b51,b52,b53,b54,b55,b56,b57,b58,b59,b60,b61,b62,b63]:=by
 obtain⟨b0,l1,rfl,h1⟩:=Vg h0;obtain⟨b1,l2,rfl,h2⟩:=Vg h1;obtain⟨b2,l3,rfl,h3⟩:=Vg h2;obtain⟨b3,l4,rfl,h4⟩:=Vg h3;obtain⟨b4,l5,rfl,h5⟩:=Vg h4;obtain⟨b5,l6,rfl,h6⟩:=Vg h5;obtain⟨b6,l7,rfl,h7⟩:=Vg h6;obtain⟨b7,l8,rfl,h8⟩:=Vg h7;obtain⟨b8,l9,rfl,h9⟩:=Vg h8;obtain⟨b9,l10,rfl,h10⟩:=Vg h9;obtain⟨b10,l11,rfl,h11⟩:=Vg h10;obtain⟨b11,l12,rfl,h12⟩:=Vg h11;obtain⟨b12,l13,rfl,h13⟩:=Vg h12;obtain⟨b13,l14,rfl,h14⟩:=Vg h13;obtain⟨b14,l15,rfl,h15⟩:=Vg h14;obtain⟨b15,l16,rfl,h16⟩:=Vg h15;obtain⟨b16,l17,rfl,h17⟩:=Vg h16;obtain⟨b17,l18,rfl,h18⟩:=Vg h17;obtain⟨b18,l19,rfl,h19⟩:=Vg h18;obtain⟨b19,l20,rfl,h20⟩:=Vg h19;obtain⟨b20,l21,rfl,h21⟩:=Vg h20;obtain⟨b21,l22,rfl,h22⟩:=Vg h21;obtain⟨b22,l23,rfl,h23⟩:=Vg h22;obtain⟨b23,l24,rfl,h24⟩:=Vg h23;obtain⟨b24,l25,rfl,h25⟩:=Vg h24;obtain⟨b25,l26,rfl,h26⟩:=Vg h25;obtain⟨b26,l27,rfl,h27⟩:=Vg h26;obtain⟨b27,l28,rfl,h28⟩:=Vg h27;obtain⟨b28,l29,rfl,h29⟩:=Vg h28;obtain⟨b29,l30,rfl,h30⟩:=Vg h29;obtain⟨b30,l31,rfl,h31⟩:=Vg h30;obtain⟨b31,l32,rfl,h32⟩:=Vg h31;obtain⟨b32,l33,rfl,h33⟩:=Vg h32;obtain⟨b33,l34,rfl,h34⟩:=Vg h33;obtain⟨b34,l35,rfl,h35⟩:=Vg h34;obtain⟨b35,l36,rfl,h36⟩:=Vg h35;obtain⟨b36,l37,rfl,h37⟩:=Vg h36;obtain⟨b37,l38,rfl,h38⟩:=Vg h37;obtain⟨b38,l39,rfl,h39⟩:=Vg h38;obtain⟨b39,l40,rfl,h40⟩:=Vg h39;obtain⟨b40,l41,rfl,h41⟩:=Vg h40;obtain⟨b41,l42,rfl,h42⟩:=Vg h41;obtain⟨b42,l43,rfl,h43⟩:=Vg h42;obtain⟨b43,l44,rfl,h44⟩:=Vg h43;obtain⟨b44,l45,rfl,h45⟩:=Vg h44;obtain⟨b45,l46,rfl,h46⟩:=Vg h45;obtain⟨b46,l47,rfl,h47⟩:=Vg h46;obtain⟨b47,l48,rfl,h48⟩:=Vg h47;obtain⟨b48,l49,rfl,h49⟩:=Vg h48;obtain⟨b49,l50,rfl,h50⟩:=Vg h49;obtain⟨b50,l51,rfl,h51⟩:=Vg h50;obtain⟨b51,l52,rfl,h52⟩:=Vg h51;obtain⟨b52,l53,rfl,h53⟩:=Vg h52;obtain⟨b53,l54,rfl,h54⟩:=Vg h53;obtain⟨b54,l55,rfl,h55⟩:=Vg h54;obtain⟨b55,l56,rfl,h56⟩:=Vg h55;obtain⟨b56,l57,rfl,h57⟩:=Vg h56;obtain⟨b57,l58,rfl,h58⟩:=Vg h57;obtain⟨b58,l59,rfl,h59⟩:=Vg h58;obtain⟨b59,l60,rfl,h60⟩:=Vg h59;obtain⟨b60,l61,rfl,h61⟩:=Vg h60;obtain⟨b61,l62,rfl,h62⟩:=Vg h61;obtain⟨b62,l63,rfl,h63⟩:=Vg h62;obtain⟨b63,l64,rfl,h64⟩:=Vg h63;have e:=aU h64;subst e;exact⟨_,_,_,_,_,_,_,_,_,_,_,_,_,_,_,_,_,_,_,_,_,_,_,_,_,_,_,_,_,_,_,_,_,_,_,_,_,_,_,_,_,_,_,_,_,_,_,_,_,_,_,_,_,_,_,_,_,_,_,_,_,_,_,_,rfl⟩
def Z9q(b:Nat)(h0 h1 h2 h3 h4 h5 h6 h7 count:Nat)(l:List Nat)(hl:l.length=64)(last:Bool) :
  Z81 ((Qqj Tryz.prog (mkE Tryz.prog nv b) Xkc 100 4).fn 89 [.agg ⟨[Qg9 h0,Qg9 h1,Qg9 h2,Qg9 h3,Qg9 h4,Qg9 h5,Qg9 h6,Qg9 h7]⟩,.pointer (some ⟨nv,0,none⟩),.int .u64 (.ofNat count),.bool last] (Qmj nv Qmy false [(1,l.map u8v)])) =
   some (p8v (Bl.take ⟨h0,h1,h2,h3,h4,h5,h6,h7⟩ l count last)):=by
 obtain⟨b0,b1,b2,b3,b4,b5,b6,b7,b8,b9,b10,b11,b12,b13,b14,b15,b16,b17,b18,b19,b20,b21,b22,b23,b24,b25,b26,b27,b28,b29,b30,b31,b32,b33,b34,b35,b36,b37,b38,b39,b40,b41,b42,b43,b44,b45,b46,b47,b48,b49,b50,b51,b52,b53,b54,b55,b56,b57,b58,b59,b60,b61,b62,b63,rfl⟩:=Jj0 hl;cases last with
 | true=>exact Zr1 b h0 h1 h2 h3 h4 h5 h6 h7 b0 b1 b2 b3 b4 b5 b6 b7 b8 b9 b10 b11 b12 b13 b14 b15 b16 b17 b18 b19 b20 b21 b22 b23 b24 b25 b26 b27 b28 b29 b30 b31 b32 b33 b34 b35 b36 b37 b38 b39 b40 b41 b42 b43 b44 b45 b46 b47 b48 b49 b50 b51 b52 b53 b54 b55 b56 b57 b58 b59 b60 b61 b62 b63 count
 | false=>exact Zn2 b h0 h1 h2 h3 h4 h5 h6 h7 b0 b1 b2 b3 b4 b5 b6 b7 b8 b9 b10 b11 b12 b13 b14 b15 b16 b17 b18 b19 b20 b21 b22 b23 b24 b25 b26 b27 b28 b29 b30 b31 b32 b33 b34 b35 b36 b37 b38 b39 b40 b41 b42 b43 b44 b45 b46 b47 b48 b49 b50 b51 b52 b53 b54 b55 b56 b57 b58 b59 b60 b61 b62 b63 count
def Zhl:Xf8:=fun f args h=>bq (Nat.beq f 89) (match args with
 | [.agg ⟨hv⟩,p,.int .u64 (.ofNat count),.bool last]=>ob (Jdi hv) fun hl=>ob (Yxs h p) fun q=>ob (u8s q.2) fun bl=>bq (Nat.beq bl.length 64) (bq (Z3w h Qmy) (ob (Jj2 hl) fun h8=>some (.ret (p8v (Bl.take h8 bl count last)),h)) none) none
 | _=>none) none
def Zhg:∀ x ∈ Qmy,x.2 ≠ []/\Xl8 x.2:=by
 intro x hx;rcases ax.1 hx with rfl | hx
 ·exact⟨by simp[Qj0],Q1k (by kernel_rfl)⟩
 ·rcases ax.1 hx with rfl | hx
  ·exact⟨by simp[Q48],Q1k (by kernel_rfl)⟩
  ·cases hx
def Yr6(b:Nat):Qr8 Tryz.prog ⟨nv,b⟩ Zhl:=by
 intro f args h r h' hx;unfold Zhl at hx;obtain⟨hf,hx⟩:=Qpi hx;have hf:=aY hf;subst hf;split at hx
 ·rename_i hv p count last hq;obtain⟨hl,h1,hx⟩:=Ws hx;obtain⟨⟨blk,cs⟩,h2,hx⟩:=Ws hx;obtain⟨bl,h3,hx⟩:=Ws hx;obtain⟨h4,hx⟩:=Qpi hx;obtain⟨h5,hx⟩:=Qpi hx;obtain⟨h8,h6,hx⟩:=Ws hx;cases hx;have e1:=Ysz h1;subst e1;have e0:Value.agg {toList:=List.map Qg9 hl}=p8v h8:=Jbx h6;obtain⟨rfl,hg⟩:=Xba h2;have e2:=Z1c h3;simp only at e2 hg;subst e2;rw[e0];refine Ykp (k:=100) (m:=4) mixed Zmg Y8b (fun b=>Z9q b h8.h0 h8.h1 h8.h2 h8.h3 h8.h4 h8.h5 h8.h6 h8.h7 count bl (aY h4) last) rfl (Yrl h5) Zhg (bs:=[blk]) rfl (by simp) (fun k d r hd hr => ?_)
   (Qcc (Qmn rfl) (Qcc (Zbf _ _) (Qcc (Qmn rfl) (Qcc (Qmn rfl) Q4c))))
  cases k with
  | zero=>simp at hd hr;subst hd;subst hr;exact⟨hg,Yri _⟩
  | succ k=>simp at hd
 ·cases hx
def Ydb:Qyy Zhl:=by
 intro f args h r h' hx;unfold Zhl at hx;obtain⟨hf,hx⟩:=Qpi hx;split at hx
 ·obtain⟨hl,h1,hx⟩:=Ws hx;obtain⟨⟨blk,cs⟩,h2,hx⟩:=Ws hx;obtain⟨bl,h3,hx⟩:=Ws hx;obtain⟨h4,hx⟩:=Qpi hx;obtain⟨h5,hx⟩:=Qpi hx;obtain⟨h8,h6,hx⟩:=Ws hx;cases hx;exact LowOK.refl _
 ·cases hx
def Qxu:List Value:=[.int .u8 253,.int .i64 2,.int .u64 253,.int .u8 254,.int .i64 4,.int .u64 65536,.int .u8 255,.int .i64 8,.int .u64 4294967296]
def laidAll:List (Nat × List Value):=[(0,Qj0),(1,Qxu),(3,Q48)]
def Qqq(seed:List Nat):Nat->Nat->List Nat
 | 0,_=>[]
 | n+1,i=>Bl.keyed seed [i]++Qqq seed n (Nat.succ i)
def Y88:∀ x ∈ laidAll,x.2 ≠ []/\Xl8 x.2:=by
 intro x hx;rcases ax.1 hx with rfl | hx
 ·exact⟨by simp[Qj0],Q1k (by kernel_rfl)⟩
 ·rcases ax.1 hx with rfl | hx
  ·exact⟨by simp[Qxu],Q1k (by kernel_rfl)⟩
  ·rcases ax.1 hx with rfl | hx
   ·exact⟨by simp[Q48],Q1k (by kernel_rfl)⟩
   ·cases hx
def X1j:List Nat:=[107,101,121,115]
def Y9x:List Nat:=Qqq X1j 32 1
def Zxm(b:Nat):Zvq (nv+([(1,X1j.map u8v)]:List (Nat × List Value)).length) ((Qqj Tryz.prog (mkE Tryz.prog nv b) Zhl 10000 8).fn 37 [.slice (some ⟨nv,0,none⟩) 4 4] (Qmj nv laidAll false [(1,X1j.map u8v)]))=some (Y9x.map u8v):=kR
def Ydj:Xf8:=fun f args h=>bq (Nat.beq f 37) (match args with
 | [.slice (some ⟨blk,0,none⟩) 4 4]=>ob (Yxs h (.pointer (some ⟨blk,0,none⟩))) fun q=>ob (u8s q.2) fun bl=>bq (eqN bl X1j) (bq (Z3w h laidAll) (some (.ret (.pointer (some ⟨h.next,0,none⟩)),h.push (.cells true 1 (Y9x.map u8v)))) none) (Zhl f args h)
 | _=>Zhl f args h) (Zhl f args h)
def Zs0(b:Nat):Qr8 Tryz.prog ⟨nv,b⟩ Ydj:=by
 intro f args h r h' hx;unfold Ydj at hx;cases hf:Nat.beq f 37 with
 | false=>rw[hf]at hx;exact Yr6 b f args h r h' hx
 | true =>
  rw[hf,bq_true]at hx;have hf:=aY hf;subst hf;split at hx
  ·rename_i blk;obtain⟨⟨blk',cs⟩,h2,hx⟩:=Ws hx;obtain⟨bl,h3,hx⟩:=Ws hx;cases h4:eqN bl X1j with
   | false=>rw[h4,bq_false]at hx;exact Yr6 b _ _ h r h' hx
   | true =>
    rw[h4,bq_true]at hx;obtain⟨h1,hx⟩:=Qpi hx;cases hx;obtain⟨e0,hg⟩:=Xba h2;cases e0;have e2:=Z1c h3;simp only at e2 hg;have e3:=Xti h4;subst e3;subst e2;refine Z2t (k:=10000) (m:=8) mixed Yr6 Ydb Zxm (Yri _) (Yrl h1) Y88 (bs:=[blk]) rfl (by simp) (fun k d r hd hr => ?_) (Qcc (Zlx (by simp[emb])) Q4c);cases k with
    | zero=>simp at hd hr;subst hd;subst hr;exact⟨hg,Yri _⟩
    | succ k=>simp at hd
  ·exact Yr6 b _ _ h r h' hx
def Zmb:Qyy Ydj:=by
 intro f args h r h' hx;unfold Ydj at hx;cases hf:Nat.beq f 37 with
 | false=>rw[hf]at hx;exact Ydb f args h r h' hx
 | true =>
  rw[hf,bq_true]at hx;split at hx
  ·obtain⟨q,h2,hx⟩:=Ws hx;obtain⟨bl,h3,hx⟩:=Ws hx;cases h4:eqN bl X1j with
   | false=>rw[h4,bq_false]at hx;exact Ydb _ _ h r h' hx
   | true =>
    rw[h4,bq_true]at hx;obtain⟨h1,hx⟩:=Qpi hx;cases hx;exact LowOK.push _ _
  ·exact Ydb _ _ h r h' hx
def Y7p(b:Nat):Z81 ((Qqj Tryz.prog (mkE Tryz.prog nv b) Ydj 10000 30).fn 15 [] (Qmj nv laidAll false []))=some (.bool true):=kR
def Jbt(b:Nat){h:Heap}(hl:Ab.LaidIn h laidAll)(K:AEnd->Heap->Prop)(hk:K (.ret (.bool true)) h):FnK Tryz.prog (E b).G 15 [] h K :=
 ⟨_,_,Ykp (k:=10000) (m:=30) mixed Zs0 Zmb Y7p rfl hl Y88 (bs:=[]) rfl (by simp) (fun k d r hd _=>by simp at hd) Q4c,ae _,hk⟩
end Go.Proofs.YtijagoebdgohnaaGreatDoor
end
