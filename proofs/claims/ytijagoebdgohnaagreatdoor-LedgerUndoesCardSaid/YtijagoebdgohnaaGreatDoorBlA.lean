import Derived.Test.YtijagoebdgohnaaGreatDoorAbG
import Derived.Test.YtijagoebdgohnaaGreatDoorProg
import Derived.Test.YtijagoebdgohnaaGreatDoorAbF
set_option linter.all false
noncomputable section
namespace Go.Proofs.YtijagoebdgohnaaGreatDoor
open Go Go.Ab
set_option maxRecDepth 100000
def nv:Nat:=4
abbrev E(b:Nat):Env2 Tryz.prog:=mkE Tryz.prog nv b
noncomputable def Y7(f:Nat):Code:=((Tryz.prog.funcs[f]?).bind (·.body)).getD .skip
def mixed:Tryz.prog.follows .mixedOrders=true:=by kernel_rfl
def D0(b:Nat):CallF:=Y16 (E b) Z7c 100 0
def Ui(b:Nat):CallsSound Tryz.prog (E b).G (D0 b):=Zb6 (E b) (Zuo _) Ytj mixed 100 0
def Jl(b:Nat):CallsLow (D0 b):=Yuk (E b) Ytj 100 0
def DD(b:Nat):Qug:=Xsv (E b) (D0 b) 100
def Un(b:Nat):Qz8 Tryz.prog (E b).G (DD b):=Zi1 (E b) (Ui b) (Jl b) mixed
def Ue(b:Nat):Xy8 (DD b):=Y7h (Jl b)
def Xcl(h:Heap)(l:List Value):∃ hA,hA=h.push (.cells true 1 l)/\Old h hA/\hA.get h.next=some (.cells true 1 l):=⟨_,rfl,Old.push _ _,by rw[Heap.get_push,if_pos rfl]⟩
def Q1v{h hA:Heap}{l:List Value}(e:hA=h.push (.cells true 1 l)):Zol (.agg ⟨l⟩) h=some (.pointer (some ⟨h.next,0,none⟩),hA):=by rw[e];rfl
def Qqr{h hA:Heap}{x:Blk}(e:hA=h.push x):Old h hA:=by rw[e];exact Old.push _ _
def Xbt{h hA:Heap}{x:Blk}(e:hA=h.push x):hA.next=h.next+1:=by rw[e];rfl
abbrev FF(b:Nat):=@Ud _ (E b) _ (Ui b) (Jl b) mixed _ (Un b) (Ue b)
abbrev KP:=AEnd->Heap->Prop
abbrev FK(b:Nat):=FnK Tryz.prog (E b).G
def agW{h:Heap}{bk z k:Nat}{ow:Bool}{c:List Value}(hg:h.get bk=some (.cells ow z c))(hl:0+k<=c.length)(h2:c.length<=k):Qbn h bk 0 k=some (.agg ⟨c⟩):=by rw[Vm hg hl,bY,aJ h2]
def zk1{P:KE->Prop}{a:KE}(h:P a):∀ e∈[a],P e:=by simpa using h
def zk2{P:KE->Prop}{a c:KE}(h:P a)(h2:P c):∀ e∈[a,c],P e:=by simpa using ⟨h,h2⟩
def zk3{P:KE->Prop}{a c d:KE}(h:P a)(h2:P c)(h3:P d):∀ e∈[a,c,d],P e:=by simpa using ⟨h,h2,h3⟩
end Go.Proofs.YtijagoebdgohnaaGreatDoor
end
noncomputable section
namespace Go.Ab
variable{P:Program}{E:Env2 P}{C:CallP}{rd:Option Nat}{D0:CallF}
def kNN(F:St->Prop)(K:Exit->St->Prop)(s:St):Zed F K .normal s=F s:=Eq.trans rfl rfl
def kNP(F:St->Prop)(K:Exit->St->Prop)(ch:List PanicEntry)(s:St):Zed F K (.panic ch) s=K (.panic ch) s:=Eq.trans rfl rfl
def kRR(d:Option Tmp)(s:St)(K:Exit->St->Prop)(v:Value)(h:Heap):Jc7 d s K (.ret v) h=K .normal (s.put d v h):=Eq.trans rfl rfl
def kRP(d:Option Tmp)(s:St)(K:Exit->St->Prop)(ch:List PanicEntry)(h:Heap):Jc7 d s K (.panic ch) h=K (.panic ch) {s with h:=h}:=Eq.trans rfl rfl
def kTN(F:St->Prop)(K:Exit->St->Prop)(s:St):X3r F K .normal s=F s:=Eq.trans rfl rfl
def kTR(F:St->Prop)(K:Exit->St->Prop)(s:St):X3r F K .ret s=K .ret s:=Eq.trans rfl rfl
def kTX(F:St->Prop)(K:Exit->St->Prop)(id:Nat)(s:St):X3r F K (.exit id) s=K (.exit id) s:=Eq.trans rfl rfl
def kTP(F:St->Prop)(K:Exit->St->Prop)(ch:List PanicEntry)(s:St):X3r F K (.panic ch) s=K (.panic ch) s:=Eq.trans rfl rfl
def kBN(id:Nat)(K:Exit->St->Prop)(s:St):Q6e id K .normal s=K .normal s:=Eq.trans rfl rfl
def kBR(id:Nat)(K:Exit->St->Prop)(s:St):Q6e id K .ret s=K .ret s:=Eq.trans rfl rfl
def kBP(id:Nat)(K:Exit->St->Prop)(ch:List PanicEntry)(s:St):Q6e id K (.panic ch) s=K (.panic ch) s:=Eq.trans rfl rfl
def kBX(id id':Nat)(K:Exit->St->Prop)(s:St):Q6e id K (.exit id') s=if id'=id then K .normal s else K (.exit id') s:=Eq.trans rfl rfl
def kAM(y:Code)(K:Exit->St->Prop)(t:Tm)(ds:List Deferred)(h:Heap):Jfi E C D0 rd y K ⟨t,ds,h⟩=Wu E C D0 rd y ⟨t,ds,h⟩ K:=Eq.trans rfl rfl
def kEN(D:Qug)(fn:Func)(K:AEnd->Heap->Prop)(s:St):Yzm E D fn K .normal s=Xc5 E D fn K .returning s:=Eq.trans rfl rfl
def kER(D:Qug)(fn:Func)(K:AEnd->Heap->Prop)(s:St):Yzm E D fn K .ret s=Xc5 E D fn K .returning s:=Eq.trans rfl rfl
def kON(ops:List Oper)(K:Exit->St->Prop)(t:Tm)(ds:List Deferred)(h:Heap):Yhw E C rd ops K [] ⟨t,ds,h⟩=K .normal ⟨t,ds,h⟩:=Eq.trans rfl rfl
def kOC(ops:List Oper)(K:Exit->St->Prop)(o:Oper)(r:List Oper)(t:Tm)(ds:List Deferred)(h:Heap):Yhw E C rd ops K (o::r) ⟨t,ds,h⟩ =
 (match Qe ops t o with
  | some true=>Xp E C rd o ⟨t,ds,h⟩ (Zed (Yhw E C rd ops K r) K)
  | some false=>if Qly ⟨t,ds,h⟩ o.dst then Yhw E C rd ops K r (St.put ⟨t,ds,h⟩ o.dst Qr h)else False
  | none=>False):=Eq.trans rfl rfl
def kCS(s:St)(K:Exit->St->Prop):Wu E C D0 rd .skip s K=K .normal s:=Eq.trans rfl rfl
def kCR(s:St)(K:Exit->St->Prop):Wu E C D0 rd .ret s K=K .ret s:=Eq.trans rfl rfl
def kCE(id:Nat)(s:St)(K:Exit->St->Prop):Wu E C D0 rd (.exit id) s K=K (.exit id) s:=Eq.trans rfl rfl
end Go.Ab
end
noncomputable section
namespace Go.Proofs.YtijagoebdgohnaaGreatDoor
open Go Go.Ab
set_option maxRecDepth 1000000
def Xdz(ix l:List Nat)(x y:Nat):Option (List Nat):=match l with
 | [p0,p1,p2,p3,p4,p5,p6,p7,p8,p9,p10,p11,p12,p13,p14,p15] =>
  bq (eqN ix [0,4,8,12]) (some (Bl.stir p0 p4 p8 p12 x y fun p0 p4 p8 p12=>[p0,p1,p2,p3,p4,p5,p6,p7,p8,p9,p10,p11,p12,p13,p14,p15])) <|
  bq (eqN ix [1,5,9,13]) (some (Bl.stir p1 p5 p9 p13 x y fun p1 p5 p9 p13=>[p0,p1,p2,p3,p4,p5,p6,p7,p8,p9,p10,p11,p12,p13,p14,p15])) <|
  bq (eqN ix [2,6,10,14]) (some (Bl.stir p2 p6 p10 p14 x y fun p2 p6 p10 p14=>[p0,p1,p2,p3,p4,p5,p6,p7,p8,p9,p10,p11,p12,p13,p14,p15])) <|
  bq (eqN ix [3,7,11,15]) (some (Bl.stir p3 p7 p11 p15 x y fun p3 p7 p11 p15=>[p0,p1,p2,p3,p4,p5,p6,p7,p8,p9,p10,p11,p12,p13,p14,p15])) <|
  bq (eqN ix [0,5,10,15]) (some (Bl.stir p0 p5 p10 p15 x y fun p0 p5 p10 p15=>[p0,p1,p2,p3,p4,p5,p6,p7,p8,p9,p10,p11,p12,p13,p14,p15])) <|
  bq (eqN ix [1,6,11,12]) (some (Bl.stir p1 p6 p11 p12 x y fun p1 p6 p11 p12=>[p0,p1,p2,p3,p4,p5,p6,p7,p8,p9,p10,p11,p12,p13,p14,p15])) <|
  bq (eqN ix [2,7,8,13]) (some (Bl.stir p2 p7 p8 p13 x y fun p2 p7 p8 p13=>[p0,p1,p2,p3,p4,p5,p6,p7,p8,p9,p10,p11,p12,p13,p14,p15])) <|
  bq (eqN ix [3,4,9,14]) (some (Bl.stir p3 p4 p9 p14 x y fun p3 p4 p9 p14=>[p0,p1,p2,p3,p4,p5,p6,p7,p8,p9,p10,p11,p12,p13,p14,p15])) <|
  none
 | _=>none
def Z22:Xey:=fun f args h=>bq (Nat.beq f 134) (match args with
 | [p,a,b,c,d,.agg ⟨[.int .u32 (.ofNat x),.int .u32 (.ofNat y)]⟩]=>ob (Ywm h p) fun q=>ob (Jbp q.2) fun l=>ob (Jec [a,b,c,d]) fun ix=>ob (Xdz ix l x y) fun l'=>some (.ret (.tuple #[]),h.set q.1 (some (.cells true 1 (l'.map Qge))))
 | _=>none) none
def Z1k{a b c d:Value}{ix:List Nat}(h:Jec [a,b,c,d]=some ix):∃ i j k l,ix=[i,j,k,l]/\a=Z3y i/\b=Z3y j/\c=Z3y k/\d=Z3y l:=by
 have:=Z0p h
 match ix,this with
 | [i,j,k,l],e=>simp only[aR,dq,cx,and_true]at e;exact⟨i,j,k,l,rfl,e.1,e.2.1,e.2.2.1,e.2.2.2⟩
def Y9r(n blk:Nat):Ytv (emb n [blk]) (.pointer (some ⟨n,0,none⟩)) (.pointer (some ⟨blk,0,none⟩)):=Ygt (by simp[emb])
def L1(l:List Nat):Prop:=∃ p0 p1 p2 p3 p4 p5 p6 p7 p8 p9 p10 p11 p12 p13 p14 p15,l=[p0,p1,p2,p3,p4,p5,p6,p7,p8,p9,p10,p11,p12,p13,p14,p15]
def L1.all{l:List Nat}(h:L1 l){P:List Nat->Prop}(k:∀ p0 p1 p2 p3 p4 p5 p6 p7 p8 p9 p10 p11 p12 p13 p14 p15,P [p0,p1,p2,p3,p4,p5,p6,p7,p8,p9,p10,p11,p12,p13,p14,p15]):P l:=by
 obtain⟨p0,p1,p2,p3,p4,p5,p6,p7,p8,p9,p10,p11,p12,p13,p14,p15,rfl⟩:=h;exact k _ _ _ _ _ _ _ _ _ _ _ _ _ _ _ _
def Z0z{ix l l':List Nat}{x y:Nat}(h:Xdz ix l x y=some l'):L1 l:=by
 unfold Xdz at h;split at h
 ·exact⟨_,_,_,_,_,_,_,_,_,_,_,_,_,_,_,_,rfl⟩
 ·cases h
def stI(i j k q:Nat)(P:List Nat)(x y:Nat):List Value:=Z5z (.ofNat (P.getD i 0)) (.ofNat (P.getD j 0)) (.ofNat (P.getD k 0)) (.ofNat (P.getD q 0)) (.ofNat x) 16 20 fun a b c d=>Z5z a b c d (.ofNat y) 24 25 fun a b c d=>((((P.map Qge).set i (.int .u32 a)).set j (.int .u32 b)).set k (.int .u32 c)).set q (.int .u32 d)
def stS(i j k q:Nat)(P:List Nat)(x y:Nat):List Nat:=Bl.stir (P.getD i 0) (P.getD j 0) (P.getD k 0) (P.getD q 0) x y fun a b c d=>(((P.set i a).set j b).set k c).set q d
def Z8m(i j k q:Nat)(P:List Nat)(x y:Nat):stI i j k q P x y=(stS i j k q P x y).map Qge:=by
 unfold stI stS;rw[Zjp _ _ _ _ _ 16 20 (by decide) (by decide)];simp only[Bl.half,Zjp _ _ _ _ _ 24 25 (by decide) (by decide),Bl.stir,List.map_set];rfl
def ST(b i j k q:Nat)(x y:Nat)(l:List Nat):Prop :=
 Zts nv ((Qq8 Tryz.prog (mkE Tryz.prog nv b) Z7c 100 4).fn 134 [.pointer (some ⟨nv,0,none⟩),Z3y i,Z3y j,Z3y k,Z3y q,.agg #[Qge x,Qge y]] (Qm8 nv [] true [(1,l.map Qge)]))=some (.tuple #[],stI i j k q l x y)
def SE(i j k q:Nat)(x y:Nat)(l:List Nat):Prop:=Xdz [i,j,k,q] l x y=some (stS i j k q l x y)
def st0(b x y:Nat){l:List Nat}(h:L1 l):ST b 0 4 8 12 x y l/\SE 0 4 8 12 x y l:=⟨h.all (P:=ST b 0 4 8 12 x y) fun _ _ _ _ _ _ _ _ _ _ _ _ _ _ _ _=>(by kernel_rfl:_=_),h.all (P:=SE 0 4 8 12 x y) fun _ _ _ _ _ _ _ _ _ _ _ _ _ _ _ _=>(by kernel_rfl:_=_)⟩
def st1(b x y:Nat){l:List Nat}(h:L1 l):ST b 1 5 9 13 x y l/\SE 1 5 9 13 x y l:=⟨h.all (P:=ST b 1 5 9 13 x y) fun _ _ _ _ _ _ _ _ _ _ _ _ _ _ _ _=>(by kernel_rfl:_=_),h.all (P:=SE 1 5 9 13 x y) fun _ _ _ _ _ _ _ _ _ _ _ _ _ _ _ _=>(by kernel_rfl:_=_)⟩
def st2(b x y:Nat){l:List Nat}(h:L1 l):ST b 2 6 10 14 x y l/\SE 2 6 10 14 x y l:=⟨h.all (P:=ST b 2 6 10 14 x y) fun _ _ _ _ _ _ _ _ _ _ _ _ _ _ _ _=>(by kernel_rfl:_=_),h.all (P:=SE 2 6 10 14 x y) fun _ _ _ _ _ _ _ _ _ _ _ _ _ _ _ _=>(by kernel_rfl:_=_)⟩
def st3(b x y:Nat){l:List Nat}(h:L1 l):ST b 3 7 11 15 x y l/\SE 3 7 11 15 x y l:=⟨h.all (P:=ST b 3 7 11 15 x y) fun _ _ _ _ _ _ _ _ _ _ _ _ _ _ _ _=>(by kernel_rfl:_=_),h.all (P:=SE 3 7 11 15 x y) fun _ _ _ _ _ _ _ _ _ _ _ _ _ _ _ _=>(by kernel_rfl:_=_)⟩
def st4(b x y:Nat){l:List Nat}(h:L1 l):ST b 0 5 10 15 x y l/\SE 0 5 10 15 x y l:=⟨h.all (P:=ST b 0 5 10 15 x y) fun _ _ _ _ _ _ _ _ _ _ _ _ _ _ _ _=>(by kernel_rfl:_=_),h.all (P:=SE 0 5 10 15 x y) fun _ _ _ _ _ _ _ _ _ _ _ _ _ _ _ _=>(by kernel_rfl:_=_)⟩
def st5(b x y:Nat){l:List Nat}(h:L1 l):ST b 1 6 11 12 x y l/\SE 1 6 11 12 x y l:=⟨h.all (P:=ST b 1 6 11 12 x y) fun _ _ _ _ _ _ _ _ _ _ _ _ _ _ _ _=>(by kernel_rfl:_=_),h.all (P:=SE 1 6 11 12 x y) fun _ _ _ _ _ _ _ _ _ _ _ _ _ _ _ _=>(by kernel_rfl:_=_)⟩
def st6(b x y:Nat){l:List Nat}(h:L1 l):ST b 2 7 8 13 x y l/\SE 2 7 8 13 x y l:=⟨h.all (P:=ST b 2 7 8 13 x y) fun _ _ _ _ _ _ _ _ _ _ _ _ _ _ _ _=>(by kernel_rfl:_=_),h.all (P:=SE 2 7 8 13 x y) fun _ _ _ _ _ _ _ _ _ _ _ _ _ _ _ _=>(by kernel_rfl:_=_)⟩
def st7(b x y:Nat){l:List Nat}(h:L1 l):ST b 3 4 9 14 x y l/\SE 3 4 9 14 x y l:=⟨h.all (P:=ST b 3 4 9 14 x y) fun _ _ _ _ _ _ _ _ _ _ _ _ _ _ _ _=>(by kernel_rfl:_=_),h.all (P:=SE 3 4 9 14 x y) fun _ _ _ _ _ _ _ _ _ _ _ _ _ _ _ _=>(by kernel_rfl:_=_)⟩
def Xzc{A:Type}{c:Bool}{v:A}{y:Option A}{z:A}(h:bq c (some v) y=some z):c=true∨y=some z:=by
 cases c with
 | true=>exact .inl rfl
 | false=>exact .inr h
def Jep{i j k q x y:Nat}{l l':List Nat}(h:Xdz [i,j,k,q] l x y=some l'):(∀ b,ST b i j k q x y l)/\SE i j k q x y l:=by
 have hL:=Z0z h;obtain⟨p0,p1,p2,p3,p4,p5,p6,p7,p8,p9,p10,p11,p12,p13,p14,p15,rfl⟩:=id hL;unfold Xdz at h;simp only at h;rcases Xzc h with e | h
 ·have:=Xtd e;simp only[cx,and_true]at this;obtain⟨rfl,rfl,rfl,rfl⟩:=this;exact⟨fun b=>(st0 b x y hL).1,(st0 0 x y hL).2⟩
 rcases Xzc h with e | h
 ·have:=Xtd e;simp only[cx,and_true]at this;obtain⟨rfl,rfl,rfl,rfl⟩:=this;exact⟨fun b=>(st1 b x y hL).1,(st1 0 x y hL).2⟩
 rcases Xzc h with e | h
 ·have:=Xtd e;simp only[cx,and_true]at this;obtain⟨rfl,rfl,rfl,rfl⟩:=this;exact⟨fun b=>(st2 b x y hL).1,(st2 0 x y hL).2⟩
 rcases Xzc h with e | h
 ·have:=Xtd e;simp only[cx,and_true]at this;obtain⟨rfl,rfl,rfl,rfl⟩:=this;exact⟨fun b=>(st3 b x y hL).1,(st3 0 x y hL).2⟩
 rcases Xzc h with e | h
 ·have:=Xtd e;simp only[cx,and_true]at this;obtain⟨rfl,rfl,rfl,rfl⟩:=this;exact⟨fun b=>(st4 b x y hL).1,(st4 0 x y hL).2⟩
 rcases Xzc h with e | h
 ·have:=Xtd e;simp only[cx,and_true]at this;obtain⟨rfl,rfl,rfl,rfl⟩:=this;exact⟨fun b=>(st5 b x y hL).1,(st5 0 x y hL).2⟩
 rcases Xzc h with e | h
 ·have:=Xtd e;simp only[cx,and_true]at this;obtain⟨rfl,rfl,rfl,rfl⟩:=this;exact⟨fun b=>(st6 b x y hL).1,(st6 0 x y hL).2⟩
 rcases Xzc h with e | h
 ·have:=Xtd e;simp only[cx,and_true]at this;obtain⟨rfl,rfl,rfl,rfl⟩:=this;exact⟨fun b=>(st7 b x y hL).1,(st7 0 x y hL).2⟩
 cases h
def Z5a(b:Nat):Qqx Tryz.prog ⟨nv,b⟩ Z22:=by
 intro f args h r h' hx;unfold Z22 at hx;obtain⟨hf,hx⟩:=Qpa hx;have hf:=aT hf;subst hf;split at hx
 ·rename_i p a b' c d x y hq;obtain⟨⟨blk,cs⟩,h1,hx⟩:=Wv hx;obtain⟨l,h2,hx⟩:=Wv hx;obtain⟨ix,h3,hx⟩:=Wv hx;obtain⟨l',h4,hx⟩:=Wv hx;cases hx;obtain⟨rfl,hg⟩:=Xb5 h1;have:=Ys0 h2;subst this;obtain⟨i,j,k,q,rfl,rfl,rfl,rfl,rfl⟩:=Z1k h3;obtain⟨s1,s2⟩:=Jep h4;unfold SE at s2;rw[h4]at s2;cases s2;exact Z25 (k:=100) (m:=4) mixed (fun b=>Zuo _) Ytj (fun b=>(s1 b).trans (by rw[Z8m])) rfl (X00 _) (X00 _) hg (Qcg (Y9r _ _) (Qcg (Qmc rfl) (Qcg (Qmc rfl) (Qcg (Qmc rfl) (Qcg (Qmc rfl) (Qcg (Qmc rfl) Q4g))))))
 ·cases hx
def Z1n:Qyd Z22:=by
 intro f args h r h' hx;unfold Z22 at hx;obtain⟨hf,hx⟩:=Qpa hx;split at hx
 ·obtain⟨⟨blk,cs⟩,h1,hx⟩:=Wv hx;obtain⟨l,h2,hx⟩:=Wv hx;obtain⟨ix,h3,hx⟩:=Wv hx;obtain⟨l',h4,hx⟩:=Wv hx;cases hx;obtain⟨_,hg⟩:=Xb5 h1;exact LowOK.set _ _ _ (Heap.get_lt hg)
 ·cases hx
def Jfl:ByteArray:=⟨#[48,49,50,51,52,53,54,55,56,57,97,98,99,100,101,102]⟩
def Jfn:ByteArray:=⟨#[101,97,52,56,57,102,100,54,49,99,48,50,98,55,53,51]⟩
def Jfv:ByteArray:=⟨#[98,56,99,48,53,50,102,100,97,101,51,54,55,49,57,52]⟩
def Jg5:ByteArray:=⟨#[55,57,51,49,100,99,98,101,50,54,53,97,52,48,102,56]⟩
def Jg3:ByteArray:=⟨#[57,48,53,55,50,52,97,102,101,49,98,99,54,56,51,100]⟩
def Jg4:ByteArray:=⟨#[50,99,54,97,48,98,56,51,52,100,55,53,102,101,49,57]⟩
def Jfs:ByteArray:=⟨#[99,53,49,102,101,100,52,97,48,55,54,51,57,50,56,98]⟩
def Jfy:ByteArray:=⟨#[100,98,55,101,99,49,51,57,53,48,102,52,56,54,50,97]⟩
def Jfj:ByteArray:=⟨#[54,102,101,57,98,51,48,56,99,50,100,55,49,52,97,53]⟩
def Jg6:ByteArray:=⟨#[97,50,56,52,55,54,49,53,102,98,57,101,51,99,100,48]⟩
def Qvj(l:List Nat)(x0 x1 x2 x3 x4 x5 x6 x7 x8 x9 x10 x11 x12 x13 x14 x15:Nat):Option (List Nat) :=
 ob (Xdz [0,4,8,12] l x0 x1) fun l =>
 ob (Xdz [1,5,9,13] l x2 x3) fun l =>
 ob (Xdz [2,6,10,14] l x4 x5) fun l =>
 ob (Xdz [3,7,11,15] l x6 x7) fun l =>
 ob (Xdz [0,5,10,15] l x8 x9) fun l =>
 ob (Xdz [1,6,11,12] l x10 x11) fun l =>
 ob (Xdz [2,7,8,13] l x12 x13) fun l =>
 Xdz [3,4,9,14] l x14 x15
def Y7z(s:ByteArray)(l m:List Nat):Option (List Nat):=match l,m with
 | [p0,p1,p2,p3,p4,p5,p6,p7,p8,p9,p10,p11,p12,p13,p14,p15],[m0,m1,m2,m3,m4,m5,m6,m7,m8,m9,m10,m11,m12,m13,m14,m15] =>
  bq (eqN (s.data.toList.map UInt8.toNat) [48,49,50,51,52,53,54,55,56,57,97,98,99,100,101,102]) (Qvj [p0,p1,p2,p3,p4,p5,p6,p7,p8,p9,p10,p11,p12,p13,p14,p15] m0 m1 m2 m3 m4 m5 m6 m7 m8 m9 m10 m11 m12 m13 m14 m15) <|
  bq (eqN (s.data.toList.map UInt8.toNat) [101,97,52,56,57,102,100,54,49,99,48,50,98,55,53,51]) (Qvj [p0,p1,p2,p3,p4,p5,p6,p7,p8,p9,p10,p11,p12,p13,p14,p15] m14 m10 m4 m8 m9 m15 m13 m6 m1 m12 m0 m2 m11 m7 m5 m3) <|
  bq (eqN (s.data.toList.map UInt8.toNat) [98,56,99,48,53,50,102,100,97,101,51,54,55,49,57,52]) (Qvj [p0,p1,p2,p3,p4,p5,p6,p7,p8,p9,p10,p11,p12,p13,p14,p15] m11 m8 m12 m0 m5 m2 m15 m13 m10 m14 m3 m6 m7 m1 m9 m4) <|
  bq (eqN (s.data.toList.map UInt8.toNat) [55,57,51,49,100,99,98,101,50,54,53,97,52,48,102,56]) (Qvj [p0,p1,p2,p3,p4,p5,p6,p7,p8,p9,p10,p11,p12,p13,p14,p15] m7 m9 m3 m1 m13 m12 m11 m14 m2 m6 m5 m10 m4 m0 m15 m8) <|
  bq (eqN (s.data.toList.map UInt8.toNat) [57,48,53,55,50,52,97,102,101,49,98,99,54,56,51,100]) (Qvj [p0,p1,p2,p3,p4,p5,p6,p7,p8,p9,p10,p11,p12,p13,p14,p15] m9 m0 m5 m7 m2 m4 m10 m15 m14 m1 m11 m12 m6 m8 m3 m13) <|
  bq (eqN (s.data.toList.map UInt8.toNat) [50,99,54,97,48,98,56,51,52,100,55,53,102,101,49,57]) (Qvj [p0,p1,p2,p3,p4,p5,p6,p7,p8,p9,p10,p11,p12,p13,p14,p15] m2 m12 m6 m10 m0 m11 m8 m3 m4 m13 m7 m5 m15 m14 m1 m9) <|
  bq (eqN (s.data.toList.map UInt8.toNat) [99,53,49,102,101,100,52,97,48,55,54,51,57,50,56,98]) (Qvj [p0,p1,p2,p3,p4,p5,p6,p7,p8,p9,p10,p11,p12,p13,p14,p15] m12 m5 m1 m15 m14 m13 m4 m10 m0 m7 m6 m3 m9 m2 m8 m11) <|
  bq (eqN (s.data.toList.map UInt8.toNat) [100,98,55,101,99,49,51,57,53,48,102,52,56,54,50,97]) (Qvj [p0,p1,p2,p3,p4,p5,p6,p7,p8,p9,p10,p11,p12,p13,p14,p15] m13 m11 m7 m14 m12 m1 m3 m9 m5 m0 m15 m4 m8 m6 m2 m10) <|
  bq (eqN (s.data.toList.map UInt8.toNat) [54,102,101,57,98,51,48,56,99,50,100,55,49,52,97,53]) (Qvj [p0,p1,p2,p3,p4,p5,p6,p7,p8,p9,p10,p11,p12,p13,p14,p15] m6 m15 m14 m9 m11 m3 m0 m8 m12 m2 m13 m7 m1 m4 m10 m5) <|
  bq (eqN (s.data.toList.map UInt8.toNat) [97,50,56,52,55,54,49,53,102,98,57,101,51,99,100,48]) (Qvj [p0,p1,p2,p3,p4,p5,p6,p7,p8,p9,p10,p11,p12,p13,p14,p15] m10 m2 m8 m4 m7 m6 m1 m5 m15 m11 m9 m14 m3 m12 m13 m0) <|
  none
 | _,_=>none
def Q4i{s t:ByteArray}{l:List Nat}(h:eqN (s.data.toList.map UInt8.toNat) l=true)(ht:t.data.toList.map UInt8.toNat=l):s=t:=by
 have h1:=(Xtd h).trans ht.symm;have h2:s.data.toList=t.data.toList:=(List.map_inj_right (fun x y h=>UInt8.toNat_inj.1 h)).1 h1;cases s;cases t;simp only[ByteArray.mk.injEq];exact bU h2
def Xjx:Xey:=fun f args h=>bq (Nat.beq f 107) (match args with
 | [p,q,.string s]=>ob (Ywm h p) fun x=>ob (Ywm h q) fun y=>ob (Jbp x.2) fun l=>ob (Jbp y.2) fun m=>bq (Nat.beq x.1 y.1) none (ob (Y7z s l m) fun l'=>some (.ret (.tuple #[]),h.set x.1 (some (.cells true 1 (l'.map Qge)))))
 | _=>none) none
def Z1i(n blk c:Nat):Ytv (emb n [blk,c]) (.pointer (some ⟨n,0,none⟩)) (.pointer (some ⟨blk,0,none⟩)):=Ygt (by simp[emb])
def Zy9(n blk c:Nat):Ytv (emb n [blk,c]) (.pointer (some ⟨n+1,0,none⟩)) (.pointer (some ⟨c,0,none⟩)):=Ygt (by unfold emb;rw[if_neg (by omega)];simp)
def RR(b:Nat)(s:ByteArray)(l m:List Nat):Prop :=
 Zeg nv (nv+1) ((Qq8 Tryz.prog (mkE Tryz.prog nv b) Z22 100 4).fn 107 [.pointer (some ⟨nv,0,none⟩),.pointer (some ⟨nv+1,0,none⟩),.string s] (Qm8 nv [] true [(1,l.map Qge),(1,m.map Qge)]))=ob (Y7z s l m) fun l'=>some (.tuple #[],l'.map Qge,m.map Qge)
def L16(l m:List Nat):Prop:=∃ p0 p1 p2 p3 p4 p5 p6 p7 p8 p9 p10 p11 p12 p13 p14 p15 m0 m1 m2 m3 m4 m5 m6 m7 m8 m9 m10 m11 m12 m13 m14 m15,l=[p0,p1,p2,p3,p4,p5,p6,p7,p8,p9,p10,p11,p12,p13,p14,p15]/\m=[m0,m1,m2,m3,m4,m5,m6,m7,m8,m9,m10,m11,m12,m13,m14,m15]
def L16.all{l m:List Nat}(h:L16 l m){P:List Nat->List Nat->Prop}(k:∀ p0 p1 p2 p3 p4 p5 p6 p7 p8 p9 p10 p11 p12 p13 p14 p15 m0 m1 m2 m3 m4 m5 m6 m7 m8 m9 m10 m11 m12 m13 m14 m15,P [p0,p1,p2,p3,p4,p5,p6,p7,p8,p9,p10,p11,p12,p13,p14,p15] [m0,m1,m2,m3,m4,m5,m6,m7,m8,m9,m10,m11,m12,m13,m14,m15]):P l m:=by
 obtain⟨p0,p1,p2,p3,p4,p5,p6,p7,p8,p9,p10,p11,p12,p13,p14,p15,m0,m1,m2,m3,m4,m5,m6,m7,m8,m9,m10,m11,m12,m13,m14,m15,rfl,rfl⟩:=h;exact k _ _ _ _ _ _ _ _ _ _ _ _ _ _ _ _ _ _ _ _ _ _ _ _ _ _ _ _ _ _ _ _
def Zwi{s:ByteArray}{l m l':List Nat}(h:Y7z s l m=some l'):L16 l m:=by
 unfold Y7z at h;split at h
 ·exact⟨_,_,_,_,_,_,_,_,_,_,_,_,_,_,_,_,_,_,_,_,_,_,_,_,_,_,_,_,_,_,_,_,rfl,rfl⟩
 ·cases h
def rr0(b:Nat){l m:List Nat}(h:L16 l m):RR b Jfl l m:=h.all (P:=RR b Jfl) fun _ _ _ _ _ _ _ _ _ _ _ _ _ _ _ _ _ _ _ _ _ _ _ _ _ _ _ _ _ _ _ _=>(by kernel_rfl:_=_)
def rr1(b:Nat){l m:List Nat}(h:L16 l m):RR b Jfn l m:=h.all (P:=RR b Jfn) fun _ _ _ _ _ _ _ _ _ _ _ _ _ _ _ _ _ _ _ _ _ _ _ _ _ _ _ _ _ _ _ _=>(by kernel_rfl:_=_)
def rr2(b:Nat){l m:List Nat}(h:L16 l m):RR b Jfv l m:=h.all (P:=RR b Jfv) fun _ _ _ _ _ _ _ _ _ _ _ _ _ _ _ _ _ _ _ _ _ _ _ _ _ _ _ _ _ _ _ _=>(by kernel_rfl:_=_)
def rr3(b:Nat){l m:List Nat}(h:L16 l m):RR b Jg5 l m:=h.all (P:=RR b Jg5) fun _ _ _ _ _ _ _ _ _ _ _ _ _ _ _ _ _ _ _ _ _ _ _ _ _ _ _ _ _ _ _ _=>(by kernel_rfl:_=_)
def rr4(b:Nat){l m:List Nat}(h:L16 l m):RR b Jg3 l m:=h.all (P:=RR b Jg3) fun _ _ _ _ _ _ _ _ _ _ _ _ _ _ _ _ _ _ _ _ _ _ _ _ _ _ _ _ _ _ _ _=>(by kernel_rfl:_=_)
def rr5(b:Nat){l m:List Nat}(h:L16 l m):RR b Jg4 l m:=h.all (P:=RR b Jg4) fun _ _ _ _ _ _ _ _ _ _ _ _ _ _ _ _ _ _ _ _ _ _ _ _ _ _ _ _ _ _ _ _=>(by kernel_rfl:_=_)
def rr6(b:Nat){l m:List Nat}(h:L16 l m):RR b Jfs l m:=h.all (P:=RR b Jfs) fun _ _ _ _ _ _ _ _ _ _ _ _ _ _ _ _ _ _ _ _ _ _ _ _ _ _ _ _ _ _ _ _=>(by kernel_rfl:_=_)
def rr7(b:Nat){l m:List Nat}(h:L16 l m):RR b Jfy l m:=h.all (P:=RR b Jfy) fun _ _ _ _ _ _ _ _ _ _ _ _ _ _ _ _ _ _ _ _ _ _ _ _ _ _ _ _ _ _ _ _=>(by kernel_rfl:_=_)
def rr8(b:Nat){l m:List Nat}(h:L16 l m):RR b Jfj l m:=h.all (P:=RR b Jfj) fun _ _ _ _ _ _ _ _ _ _ _ _ _ _ _ _ _ _ _ _ _ _ _ _ _ _ _ _ _ _ _ _=>(by kernel_rfl:_=_)
def rr9(b:Nat){l m:List Nat}(h:L16 l m):RR b Jg6 l m:=h.all (P:=RR b Jg6) fun _ _ _ _ _ _ _ _ _ _ _ _ _ _ _ _ _ _ _ _ _ _ _ _ _ _ _ _ _ _ _ _=>(by kernel_rfl:_=_)
def Y4r{A:Type}{c:Bool}{x y:Option A}{z:A}(h:bq c x y=some z):c=true∨y=some z:=by
 cases c with
 | true=>exact .inl rfl
 | false=>exact .inr h
def Jcw(b:Nat){s:ByteArray}{l m l':List Nat}(h:Y7z s l m=some l'):RR b s l m:=by
 have hL:=Zwi h;obtain⟨p0,p1,p2,p3,p4,p5,p6,p7,p8,p9,p10,p11,p12,p13,p14,p15,m0,m1,m2,m3,m4,m5,m6,m7,m8,m9,m10,m11,m12,m13,m14,m15,rfl,rfl⟩:=id hL;unfold Y7z at h;simp only at h;rcases Y4r h with e | h
 ·obtain rfl:=Q4i (t:=Jfl) e rfl;exact rr0 b hL
 rcases Y4r h with e | h
 ·obtain rfl:=Q4i (t:=Jfn) e rfl;exact rr1 b hL
 rcases Y4r h with e | h
 ·obtain rfl:=Q4i (t:=Jfv) e rfl;exact rr2 b hL
 rcases Y4r h with e | h
 ·obtain rfl:=Q4i (t:=Jg5) e rfl;exact rr3 b hL
 rcases Y4r h with e | h
 ·obtain rfl:=Q4i (t:=Jg3) e rfl;exact rr4 b hL
 rcases Y4r h with e | h
 ·obtain rfl:=Q4i (t:=Jg4) e rfl;exact rr5 b hL
 rcases Y4r h with e | h
 ·obtain rfl:=Q4i (t:=Jfs) e rfl;exact rr6 b hL
 rcases Y4r h with e | h
 ·obtain rfl:=Q4i (t:=Jfy) e rfl;exact rr7 b hL
 rcases Y4r h with e | h
 ·obtain rfl:=Q4i (t:=Jfj) e rfl;exact rr8 b hL
 rcases Y4r h with e | h
 ·obtain rfl:=Q4i (t:=Jg6) e rfl;exact rr9 b hL
 cases h
def Zkk(b:Nat):Qqx Tryz.prog ⟨nv,b⟩ Xjx:=by
 intro f args h r h' hx;unfold Xjx at hx;obtain⟨hf,hx⟩:=Qpa hx;have hf:=aT hf;subst hf;split at hx
 ·rename_i p q s hq;obtain⟨⟨blk,cs⟩,h1,hx⟩:=Wv hx;obtain⟨⟨c,cs2⟩,h2,hx⟩:=Wv hx;obtain⟨l,h3,hx⟩:=Wv hx;obtain⟨m,h4,hx⟩:=Wv hx;cases hne:Nat.beq blk c with
  | true=>simp only at hx;rw[hne]at hx;cases hx
  | false =>
  simp only at hx;rw[hne,bq_false]at hx;have hne:=d7 hne;obtain⟨l',h5,hx⟩:=Wv hx;cases hx;obtain⟨rfl,hg⟩:=Xb5 h1;obtain⟨rfl,hg2⟩:=Xb5 h2;have:=Ys0 h3;subst this;have:=Ys0 h4;subst this;exact Zwk (k:=100) (m:=4) mixed Z5a Z1n (fun b=>by have:=Jcw b h5;unfold RR at this;rw[this,h5];rfl) rfl (X00 _) (X00 _) (X00 _) hg hg2 hne (Qcg (Z1i _ _ _) (Qcg (Zy9 _ _ _) (Qcg (Qmc rfl) Q4g)))
 ·cases hx
def Y6p:Qyd Xjx:=by
 intro f args h r h' hx;unfold Xjx at hx;obtain⟨hf,hx⟩:=Qpa hx;split at hx
 ·obtain⟨⟨blk,cs⟩,h1,hx⟩:=Wv hx;obtain⟨⟨c,cs2⟩,h2,hx⟩:=Wv hx;obtain⟨l,h3,hx⟩:=Wv hx;obtain⟨m,h4,hx⟩:=Wv hx;cases hne:Nat.beq blk c with
  | true=>simp only at hx;rw[hne]at hx;cases hx
  | false =>
  simp only at hx;rw[hne,bq_false]at hx;obtain⟨l',h5,hx⟩:=Wv hx;cases hx;obtain⟨_,hg⟩:=Xb5 h1;exact LowOK.set _ _ _ (Heap.get_lt hg)
 ·cases hx
def Qj0:List Value:=[.int .u32 1779033703,.int .u32 3144134277,.int .u32 1013904242,.int .u32 2773480762,.int .u32 1359893119,.int .u32 2600822924,.int .u32 528734635,.int .u32 1541459225]
def Q4c:List Value:=[.string Jfl,.string Jfn,.string Jfv,.string Jg5,.string Jg3,.string Jg4,.string Jfs,.string Jfy,.string Jfj,.string Jg6]
def Qmo:List (Nat × List Value):=[(0,Qj0),(3,Q4c)]
def Z23(h0 h1 h2 h3 h4 h5 h6 h7 p12 p13 p14 m0 m1 m2 m3 m4 m5 m6 m7 m8 m9 m10 m11 m12 m13 m14 m15:Nat):Option (List Nat) :=
 ob (Qvj [h0,h1,h2,h3,h4,h5,h6,h7,1779033703,3144134277,1013904242,2773480762,p12,p13,p14,1541459225] m0 m1 m2 m3 m4 m5 m6 m7 m8 m9 m10 m11 m12 m13 m14 m15) fun l =>
 ob (Qvj l m14 m10 m4 m8 m9 m15 m13 m6 m1 m12 m0 m2 m11 m7 m5 m3) fun l =>
 ob (Qvj l m11 m8 m12 m0 m5 m2 m15 m13 m10 m14 m3 m6 m7 m1 m9 m4) fun l =>
 ob (Qvj l m7 m9 m3 m1 m13 m12 m11 m14 m2 m6 m5 m10 m4 m0 m15 m8) fun l =>
 ob (Qvj l m9 m0 m5 m7 m2 m4 m10 m15 m14 m1 m11 m12 m6 m8 m3 m13) fun l =>
 ob (Qvj l m2 m12 m6 m10 m0 m11 m8 m3 m4 m13 m7 m5 m15 m14 m1 m9) fun l =>
 ob (Qvj l m12 m5 m1 m15 m14 m13 m4 m10 m0 m7 m6 m3 m9 m2 m8 m11) fun l =>
 ob (Qvj l m13 m11 m7 m14 m12 m1 m3 m9 m5 m0 m15 m4 m8 m6 m2 m10) fun l =>
 ob (Qvj l m6 m15 m14 m9 m11 m3 m0 m8 m12 m2 m13 m7 m1 m4 m10 m5) fun l =>
 Qvj l m10 m2 m8 m4 m7 m6 m1 m5 m15 m11 m9 m14 m3 m12 m13 m0
def Jfz(h0 h1 h2 h3 h4 h5 h6 h7:Nat)(l:List Nat):Option Value:=match l with
 | [p0,p1,p2,p3,p4,p5,p6,p7,p8,p9,p10,p11,p12,p13,p14,p15]=>some (.agg ⟨[.int .u32 (Xzu (.ofNat h0) (Xzu (.ofNat p0) (.ofNat p8))),.int .u32 (Xzu (.ofNat h1) (Xzu (.ofNat p1) (.ofNat p9))),.int .u32 (Xzu (.ofNat h2) (Xzu (.ofNat p2) (.ofNat p10))),.int .u32 (Xzu (.ofNat h3) (Xzu (.ofNat p3) (.ofNat p11))),.int .u32 (Xzu (.ofNat h4) (Xzu (.ofNat p4) (.ofNat p12))),.int .u32 (Xzu (.ofNat h5) (Xzu (.ofNat p5) (.ofNat p13))),.int .u32 (Xzu (.ofNat h6) (Xzu (.ofNat p6) (.ofNat p14))),.int .u32 (Xzu (.ofNat h7) (Xzu (.ofNat p7) (.ofNat p15)))]⟩)
 | _=>none
noncomputable def Zsb:Func:=(Tryz.prog.funcs[89]?).getD default
noncomputable def Zvx:Code:=Zsb.body.getD .skip
variable(b:Nat)(h0 h1 h2 h3 h4 h5 h6 h7 b0 b1 b2 b3 b4 b5 b6 b7 b8 b9 b10 b11 b12 b13 b14 b15 b16 b17 b18 b19 b20 b21 b22 b23 b24 b25 b26 b27 b28 b29 b30 b31 b32 b33 b34 b35 b36 b37 b38 b39 b40 b41 b42 b43 b44 b45 b46 b47 b48 b49 b50 b51 b52 b53 b54 b55 b56 b57 b58 b59 b60 b61 b62 b63 count:Nat)
def Y9z:(Xap Tryz.prog (mkE Tryz.prog nv b) (Qq8 Tryz.prog (mkE Tryz.prog nv b) Xjx 100 3) none 100 (Z8e 8 Zvx) ⟨Xo Zsb [.agg ⟨[Qge h0,Qge h1,Qge h2,Qge h3,Qge h4,Qge h5,Qge h6,Qge h7]⟩,.pointer (some ⟨nv,0,none⟩),.int .u64 (.ofNat count),.bool true],[],(Qm8 nv Qmo false [(1,[u8v b0,u8v b1,u8v b2,u8v b3,u8v b4,u8v b5,u8v b6,u8v b7,u8v b8,u8v b9,u8v b10,u8v b11,u8v b12,u8v b13,u8v b14,u8v b15,u8v b16,u8v b17,u8v b18,u8v b19,u8v b20,u8v b21,u8v b22,u8v b23,u8v b24,u8v b25,u8v b26,u8v b27,u8v b28,u8v b29,u8v b30,u8v b31,u8v b32,u8v b33,u8v b34,u8v b35,u8v b36,u8v b37,u8v b38,u8v b39,u8v b40,u8v b41,u8v b42,u8v b43,u8v b44,u8v b45,u8v b46,u8v b47,u8v b48,u8v b49,u8v b50,u8v b51,u8v b52,u8v b53,u8v b54,u8v b55,u8v b56,u8v b57,u8v b58,u8v b59,u8v b60,u8v b61,u8v b62,u8v b63])])⟩)=Zu4 (nv+4) [Qge h0,Qge h1,Qge h2,Qge h3,Qge h4,Qge h5,Qge h6,Qge h7,Qge 1779033703,Qge 3144134277,Qge 1013904242,Qge 2773480762,.int .u32 (Xzu (.ofNat 1359893119) (Za1 count)),.int .u32 (Xzu (.ofNat 2600822924) (IntKind.wrap .u32 (Int.fdiv (.ofNat count) (2 ^ 32)))),.int .u32 (Xzu (.ofNat 4294967295) (.ofNat 528734635)),Qge 1541459225] (Zu4 (nv+3) [.int .u32 (X2w b0 b1 b2 b3),.int .u32 (X2w b4 b5 b6 b7),.int .u32 (X2w b8 b9 b10 b11),.int .u32 (X2w b12 b13 b14 b15),.int .u32 (X2w b16 b17 b18 b19),.int .u32 (X2w b20 b21 b22 b23),.int .u32 (X2w b24 b25 b26 b27),.int .u32 (X2w b28 b29 b30 b31),.int .u32 (X2w b32 b33 b34 b35),.int .u32 (X2w b36 b37 b38 b39),.int .u32 (X2w b40 b41 b42 b43),.int .u32 (X2w b44 b45 b46 b47),.int .u32 (X2w b48 b49 b50 b51),.int .u32 (X2w b52 b53 b54 b55),.int .u32 (X2w b56 b57 b58 b59),.int .u32 (X2w b60 b61 b62 b63)] (Xap Tryz.prog (mkE Tryz.prog nv b) (Qq8 Tryz.prog (mkE Tryz.prog nv b) Xjx 100 3) none 100 (Z8e 8 Zvx) ⟨Xo Zsb [.agg ⟨[Qge h0,Qge h1,Qge h2,Qge h3,Qge h4,Qge h5,Qge h6,Qge h7]⟩,.pointer (some ⟨nv,0,none⟩),.int .u64 (.ofNat count),.bool true],[],(Qm8 nv Qmo false [(1,[u8v b0,u8v b1,u8v b2,u8v b3,u8v b4,u8v b5,u8v b6,u8v b7,u8v b8,u8v b9,u8v b10,u8v b11,u8v b12,u8v b13,u8v b14,u8v b15,u8v b16,u8v b17,u8v b18,u8v b19,u8v b20,u8v b21,u8v b22,u8v b23,u8v b24,u8v b25,u8v b26,u8v b27,u8v b28,u8v b29,u8v b30,u8v b31,u8v b32,u8v b33,u8v b34,u8v b35,u8v b36,u8v b37,u8v b38,u8v b39,u8v b40,u8v b41,u8v b42,u8v b43,u8v b44,u8v b45,u8v b46,u8v b47,u8v b48,u8v b49,u8v b50,u8v b51,u8v b52,u8v b53,u8v b54,u8v b55,u8v b56,u8v b57,u8v b58,u8v b59,u8v b60,u8v b61,u8v b62,u8v b63])])⟩)):=by kernel_rfl
def Zie :
  Z65 ((Qq8 Tryz.prog (mkE Tryz.prog nv b) Xjx 100 4).fn 89 [.agg ⟨[Qge h0,Qge h1,Qge h2,Qge h3,Qge h4,Qge h5,Qge h6,Qge h7]⟩,.pointer (some ⟨nv,0,none⟩),.int .u64 (.ofNat count),.bool true] (Qm8 nv Qmo false [(1,[u8v b0,u8v b1,u8v b2,u8v b3,u8v b4,u8v b5,u8v b6,u8v b7,u8v b8,u8v b9,u8v b10,u8v b11,u8v b12,u8v b13,u8v b14,u8v b15,u8v b16,u8v b17,u8v b18,u8v b19,u8v b20,u8v b21,u8v b22,u8v b23,u8v b24,u8v b25,u8v b26,u8v b27,u8v b28,u8v b29,u8v b30,u8v b31,u8v b32,u8v b33,u8v b34,u8v b35,u8v b36,u8v b37,u8v b38,u8v b39,u8v b40,u8v b41,u8v b42,u8v b43,u8v b44,u8v b45,u8v b46,u8v b47,u8v b48,u8v b49,u8v b50,u8v b51,u8v b52,u8v b53,u8v b54,u8v b55,u8v b56,u8v b57,u8v b58,u8v b59,u8v b60,u8v b61,u8v b62,u8v b63])])) =
   ob (Z23 h0 h1 h2 h3 h4 h5 h6 h7 (Bl.xr 1359893119 (Bl.w32 count)) (Bl.xr 2600822924 (Bl.w32 (Nat.div count 4294967296))) (Bl.xr 4294967295 528734635) (Bl.le4 b0 b1 b2 b3) (Bl.le4 b4 b5 b6 b7) (Bl.le4 b8 b9 b10 b11) (Bl.le4 b12 b13 b14 b15) (Bl.le4 b16 b17 b18 b19) (Bl.le4 b20 b21 b22 b23) (Bl.le4 b24 b25 b26 b27) (Bl.le4 b28 b29 b30 b31) (Bl.le4 b32 b33 b34 b35) (Bl.le4 b36 b37 b38 b39) (Bl.le4 b40 b41 b42 b43) (Bl.le4 b44 b45 b46 b47) (Bl.le4 b48 b49 b50 b51) (Bl.le4 b52 b53 b54 b55) (Bl.le4 b56 b57 b58 b59) (Bl.le4 b60 b61 b62 b63)) (Jfz h0 h1 h2 h3 h4 h5 h6 h7):=by
 have e12:Value.int .u32 (Xzu (.ofNat 1359893119) (Za1 count))=Qge (Bl.xr 1359893119 (Bl.w32 count)):=by rw[Yxx,Xfx];rfl
 have e13:Value.int .u32 (Xzu (.ofNat 2600822924) (IntKind.wrap .u32 (Int.fdiv (.ofNat count) (2 ^ 32))))=Qge (Bl.xr 2600822924 (Bl.w32 (Nat.div count 4294967296))):=by rw[Zv9,Qpm];exact congrArg (Value.int .u32) (Xfx _ _)
 have e14:Value.int .u32 (Xzu (.ofNat 4294967295) (.ofNat 528734635))=Qge (Bl.xr 4294967295 528734635):=by first | rfl | (rw[Xfx];rfl)
 rw[Zu0 (n0:=8) (F:=Zsb) (c:=Zvx) (by kernel_rfl) (by kernel_rfl) (by kernel_rfl) (by kernel_rfl) (by kernel_rfl),Y9z,e12,e13,e14];simp only[Zuy];show _=_
 kernel_rfl
def Y3q:(Xap Tryz.prog (mkE Tryz.prog nv b) (Qq8 Tryz.prog (mkE Tryz.prog nv b) Xjx 100 3) none 100 (Z8e 8 Zvx) ⟨Xo Zsb [.agg ⟨[Qge h0,Qge h1,Qge h2,Qge h3,Qge h4,Qge h5,Qge h6,Qge h7]⟩,.pointer (some ⟨nv,0,none⟩),.int .u64 (.ofNat count),.bool false],[],(Qm8 nv Qmo false [(1,[u8v b0,u8v b1,u8v b2,u8v b3,u8v b4,u8v b5,u8v b6,u8v b7,u8v b8,u8v b9,u8v b10,u8v b11,u8v b12,u8v b13,u8v b14,u8v b15,u8v b16,u8v b17,u8v b18,u8v b19,u8v b20,u8v b21,u8v b22,u8v b23,u8v b24,u8v b25,u8v b26,u8v b27,u8v b28,u8v b29,u8v b30,u8v b31,u8v b32,u8v b33,u8v b34,u8v b35,u8v b36,u8v b37,u8v b38,u8v b39,u8v b40,u8v b41,u8v b42,u8v b43,u8v b44,u8v b45,u8v b46,u8v b47,u8v b48,u8v b49,u8v b50,u8v b51,u8v b52,u8v b53,u8v b54,u8v b55,u8v b56,u8v b57,u8v b58,u8v b59,u8v b60,u8v b61,u8v b62,u8v b63])])⟩)=Zu4 (nv+4) [Qge h0,Qge h1,Qge h2,Qge h3,Qge h4,Qge h5,Qge h6,Qge h7,Qge 1779033703,Qge 3144134277,Qge 1013904242,Qge 2773480762,.int .u32 (Xzu (.ofNat 1359893119) (Za1 count)),.int .u32 (Xzu (.ofNat 2600822924) (IntKind.wrap .u32 (Int.fdiv (.ofNat count) (2 ^ 32)))),.int .u32 (.ofNat 528734635),Qge 1541459225] (Zu4 (nv+3) [.int .u32 (X2w b0 b1 b2 b3),.int .u32 (X2w b4 b5 b6 b7),.int .u32 (X2w b8 b9 b10 b11),.int .u32 (X2w b12 b13 b14 b15),.int .u32 (X2w b16 b17 b18 b19),.int .u32 (X2w b20 b21 b22 b23),.int .u32 (X2w b24 b25 b26 b27),.int .u32 (X2w b28 b29 b30 b31),.int .u32 (X2w b32 b33 b34 b35),.int .u32 (X2w b36 b37 b38 b39),.int .u32 (X2w b40 b41 b42 b43),.int .u32 (X2w b44 b45 b46 b47),.int .u32 (X2w b48 b49 b50 b51),.int .u32 (X2w b52 b53 b54 b55),.int .u32 (X2w b56 b57 b58 b59),.int .u32 (X2w b60 b61 b62 b63)] (Xap Tryz.prog (mkE Tryz.prog nv b) (Qq8 Tryz.prog (mkE Tryz.prog nv b) Xjx 100 3) none 100 (Z8e 8 Zvx) ⟨Xo Zsb [.agg ⟨[Qge h0,Qge h1,Qge h2,Qge h3,Qge h4,Qge h5,Qge h6,Qge h7]⟩,.pointer (some ⟨nv,0,none⟩),.int .u64 (.ofNat count),.bool false],[],(Qm8 nv Qmo false [(1,[u8v b0,u8v b1,u8v b2,u8v b3,u8v b4,u8v b5,u8v b6,u8v b7,u8v b8,u8v b9,u8v b10,u8v b11,u8v b12,u8v b13,u8v b14,u8v b15,u8v b16,u8v b17,u8v b18,u8v b19,u8v b20,u8v b21,u8v b22,u8v b23,u8v b24,u8v b25,u8v b26,u8v b27,u8v b28,u8v b29,u8v b30,u8v b31,u8v b32,u8v b33,u8v b34,u8v b35,u8v b36,u8v b37,u8v b38,u8v b39,u8v b40,u8v b41,u8v b42,u8v b43,u8v b44,u8v b45,u8v b46,u8v b47,u8v b48,u8v b49,u8v b50,u8v b51,u8v b52,u8v b53,u8v b54,u8v b55,u8v b56,u8v b57,u8v b58,u8v b59,u8v b60,u8v b61,u8v b62,u8v b63])])⟩)):=by kernel_rfl
def Zfc :
  Z65 ((Qq8 Tryz.prog (mkE Tryz.prog nv b) Xjx 100 4).fn 89 [.agg ⟨[Qge h0,Qge h1,Qge h2,Qge h3,Qge h4,Qge h5,Qge h6,Qge h7]⟩,.pointer (some ⟨nv,0,none⟩),.int .u64 (.ofNat count),.bool false] (Qm8 nv Qmo false [(1,[u8v b0,u8v b1,u8v b2,u8v b3,u8v b4,u8v b5,u8v b6,u8v b7,u8v b8,u8v b9,u8v b10,u8v b11,u8v b12,u8v b13,u8v b14,u8v b15,u8v b16,u8v b17,u8v b18,u8v b19,u8v b20,u8v b21,u8v b22,u8v b23,u8v b24,u8v b25,u8v b26,u8v b27,u8v b28,u8v b29,u8v b30,u8v b31,u8v b32,u8v b33,u8v b34,u8v b35,u8v b36,u8v b37,u8v b38,u8v b39,u8v b40,u8v b41,u8v b42,u8v b43,u8v b44,u8v b45,u8v b46,u8v b47,u8v b48,u8v b49,u8v b50,u8v b51,u8v b52,u8v b53,u8v b54,u8v b55,u8v b56,u8v b57,u8v b58,u8v b59,u8v b60,u8v b61,u8v b62,u8v b63])])) =
   ob (Z23 h0 h1 h2 h3 h4 h5 h6 h7 (Bl.xr 1359893119 (Bl.w32 count)) (Bl.xr 2600822924 (Bl.w32 (Nat.div count 4294967296))) 528734635 (Bl.le4 b0 b1 b2 b3) (Bl.le4 b4 b5 b6 b7) (Bl.le4 b8 b9 b10 b11) (Bl.le4 b12 b13 b14 b15) (Bl.le4 b16 b17 b18 b19) (Bl.le4 b20 b21 b22 b23) (Bl.le4 b24 b25 b26 b27) (Bl.le4 b28 b29 b30 b31) (Bl.le4 b32 b33 b34 b35) (Bl.le4 b36 b37 b38 b39) (Bl.le4 b40 b41 b42 b43) (Bl.le4 b44 b45 b46 b47) (Bl.le4 b48 b49 b50 b51) (Bl.le4 b52 b53 b54 b55) (Bl.le4 b56 b57 b58 b59) (Bl.le4 b60 b61 b62 b63)) (Jfz h0 h1 h2 h3 h4 h5 h6 h7):=by
 have e12:Value.int .u32 (Xzu (.ofNat 1359893119) (Za1 count))=Qge (Bl.xr 1359893119 (Bl.w32 count)):=by rw[Yxx,Xfx];rfl
 have e13:Value.int .u32 (Xzu (.ofNat 2600822924) (IntKind.wrap .u32 (Int.fdiv (.ofNat count) (2 ^ 32))))=Qge (Bl.xr 2600822924 (Bl.w32 (Nat.div count 4294967296))):=by rw[Zv9,Qpm];exact congrArg (Value.int .u32) (Xfx _ _)
 have e14:Value.int .u32 (.ofNat 528734635)=Qge 528734635:=by first | rfl | (rw[Xfx];rfl)
 rw[Zu0 (n0:=8) (F:=Zsb) (c:=Zvx) (by kernel_rfl) (by kernel_rfl) (by kernel_rfl) (by kernel_rfl) (by kernel_rfl),Y3q,e12,e13,e14];simp only[Zuy];show _=_
 kernel_rfl
def Zza{A:Type}(a b c d x y:Nat)(K:Nat->Nat->Nat->Nat->Option (List Nat))(f:List Nat->Option A):ob (Bl.stir a b c d x y K) f=Bl.stir a b c d x y (fun a b c d=>ob (K a b c d) f):=rfl
section
variable(p0 p1 p2 p3 p4 p5 p6 p7 p8 p9 p10 p11 p12 p13 p14 p15 x y:Nat)
def Jdt:Xdz [0,4,8,12] [p0,p1,p2,p3,p4,p5,p6,p7,p8,p9,p10,p11,p12,p13,p14,p15] x y=Bl.stir p0 p4 p8 p12 x y fun p0 p4 p8 p12=>some [p0,p1,p2,p3,p4,p5,p6,p7,p8,p9,p10,p11,p12,p13,p14,p15]:=rfl
def Jd7:Xdz [1,5,9,13] [p0,p1,p2,p3,p4,p5,p6,p7,p8,p9,p10,p11,p12,p13,p14,p15] x y=Bl.stir p1 p5 p9 p13 x y fun p1 p5 p9 p13=>some [p0,p1,p2,p3,p4,p5,p6,p7,p8,p9,p10,p11,p12,p13,p14,p15]:=rfl
def Jcc:Xdz [2,6,10,14] [p0,p1,p2,p3,p4,p5,p6,p7,p8,p9,p10,p11,p12,p13,p14,p15] x y=Bl.stir p2 p6 p10 p14 x y fun p2 p6 p10 p14=>some [p0,p1,p2,p3,p4,p5,p6,p7,p8,p9,p10,p11,p12,p13,p14,p15]:=rfl
def Jcn:Xdz [3,7,11,15] [p0,p1,p2,p3,p4,p5,p6,p7,p8,p9,p10,p11,p12,p13,p14,p15] x y=Bl.stir p3 p7 p11 p15 x y fun p3 p7 p11 p15=>some [p0,p1,p2,p3,p4,p5,p6,p7,p8,p9,p10,p11,p12,p13,p14,p15]:=rfl
def Jeh:Xdz [0,5,10,15] [p0,p1,p2,p3,p4,p5,p6,p7,p8,p9,p10,p11,p12,p13,p14,p15] x y=Bl.stir p0 p5 p10 p15 x y fun p0 p5 p10 p15=>some [p0,p1,p2,p3,p4,p5,p6,p7,p8,p9,p10,p11,p12,p13,p14,p15]:=rfl
def Je6:Xdz [1,6,11,12] [p0,p1,p2,p3,p4,p5,p6,p7,p8,p9,p10,p11,p12,p13,p14,p15] x y=Bl.stir p1 p6 p11 p12 x y fun p1 p6 p11 p12=>some [p0,p1,p2,p3,p4,p5,p6,p7,p8,p9,p10,p11,p12,p13,p14,p15]:=rfl
def Jew:Xdz [2,7,8,13] [p0,p1,p2,p3,p4,p5,p6,p7,p8,p9,p10,p11,p12,p13,p14,p15] x y=Bl.stir p2 p7 p8 p13 x y fun p2 p7 p8 p13=>some [p0,p1,p2,p3,p4,p5,p6,p7,p8,p9,p10,p11,p12,p13,p14,p15]:=rfl
def Jdp:Xdz [3,4,9,14] [p0,p1,p2,p3,p4,p5,p6,p7,p8,p9,p10,p11,p12,p13,p14,p15] x y=Bl.stir p3 p4 p9 p14 x y fun p3 p4 p9 p14=>some [p0,p1,p2,p3,p4,p5,p6,p7,p8,p9,p10,p11,p12,p13,p14,p15]:=rfl
end
def Z29(p0 p1 p2 p3 p4 p5 p6 p7 p8 p9 p10 p11 p12 p13 p14 p15 x0 x1 x2 x3 x4 x5 x6 x7 x8 x9 x10 x11 x12 x13 x14 x15:Nat):Qvj [p0,p1,p2,p3,p4,p5,p6,p7,p8,p9,p10,p11,p12,p13,p14,p15] x0 x1 x2 x3 x4 x5 x6 x7 x8 x9 x10 x11 x12 x13 x14 x15=Bl.round p0 p1 p2 p3 p4 p5 p6 p7 p8 p9 p10 p11 p12 p13 p14 p15 x0 x1 x2 x3 x4 x5 x6 x7 x8 x9 x10 x11 x12 x13 x14 x15 fun p0 p1 p2 p3 p4 p5 p6 p7 p8 p9 p10 p11 p12 p13 p14 p15=>some [p0,p1,p2,p3,p4,p5,p6,p7,p8,p9,p10,p11,p12,p13,p14,p15]:=by
 simp only[Qvj,Bl.round,Zza,ob_some,Jdt,Jd7,Jcc,Jcn,Jeh,Je6,Jew,Jdp]
def Z4q{A:Type}(p0 p1 p2 p3 p4 p5 p6 p7 p8 p9 p10 p11 p12 p13 p14 p15 x0 x1 x2 x3 x4 x5 x6 x7 x8 x9 x10 x11 x12 x13 x14 x15:Nat)(K:Nat->Nat->Nat->Nat->Nat->Nat->Nat->Nat->Nat->Nat->Nat->Nat->Nat->Nat->Nat->Nat->Option (List Nat))(f:List Nat->Option A):ob (Bl.round p0 p1 p2 p3 p4 p5 p6 p7 p8 p9 p10 p11 p12 p13 p14 p15 x0 x1 x2 x3 x4 x5 x6 x7 x8 x9 x10 x11 x12 x13 x14 x15 K) f=Bl.round p0 p1 p2 p3 p4 p5 p6 p7 p8 p9 p10 p11 p12 p13 p14 p15 x0 x1 x2 x3 x4 x5 x6 x7 x8 x9 x10 x11 x12 x13 x14 x15 (fun p0 p1 p2 p3 p4 p5 p6 p7 p8 p9 p10 p11 p12 p13 p14 p15=>ob (K p0 p1 p2 p3 p4 p5 p6 p7 p8 p9 p10 p11 p12 p13 p14 p15) f):=by
 simp only[Bl.round,Zza]
def Z61{A B C:Type}(x:Option A)(g:A->Option B)(f:B->Option C):ob (ob x g) f=ob x (fun a=>ob (g a) f):=by cases x <;> rfl
def Z10{A:Type}(R:Nat->Nat->Nat->Nat->Nat->Nat->Nat->Nat->Nat->Nat->Nat->Nat->Nat->Nat->Nat->Nat->Nat->Nat->Nat->Nat->Nat->Nat->Nat->Nat->Nat->Nat->Nat->Nat->Nat->Nat->Nat->Nat->(Nat->Nat->Nat->Nat->Nat->Nat->Nat->Nat->Nat->Nat->Nat->Nat->Nat->Nat->Nat->Nat->Option A)->Option A)(hR:∀ (p0 p1 p2 p3 p4 p5 p6 p7 p8 p9 p10 p11 p12 p13 p14 p15 x0 x1 x2 x3 x4 x5 x6 x7 x8 x9 x10 x11 x12 x13 x14 x15:Nat) (f:List Nat->Option A),ob (Qvj [p0,p1,p2,p3,p4,p5,p6,p7,p8,p9,p10,p11,p12,p13,p14,p15] x0 x1 x2 x3 x4 x5 x6 x7 x8 x9 x10 x11 x12 x13 x14 x15) f=R p0 p1 p2 p3 p4 p5 p6 p7 p8 p9 p10 p11 p12 p13 p14 p15 x0 x1 x2 x3 x4 x5 x6 x7 x8 x9 x10 x11 x12 x13 x14 x15 fun p0 p1 p2 p3 p4 p5 p6 p7 p8 p9 p10 p11 p12 p13 p14 p15=>f [p0,p1,p2,p3,p4,p5,p6,p7,p8,p9,p10,p11,p12,p13,p14,p15])
  (h0 h1 h2 h3 h4 h5 h6 h7 p12 p13 p14 m0 m1 m2 m3 m4 m5 m6 m7 m8 m9 m10 m11 m12 m13 m14 m15:Nat) (f:List Nat->Option A):ob (Z23 h0 h1 h2 h3 h4 h5 h6 h7 p12 p13 p14 m0 m1 m2 m3 m4 m5 m6 m7 m8 m9 m10 m11 m12 m13 m14 m15) f =
  R h0 h1 h2 h3 h4 h5 h6 h7 1779033703 3144134277 1013904242 2773480762 p12 p13 p14 1541459225 m0 m1 m2 m3 m4 m5 m6 m7 m8 m9 m10 m11 m12 m13 m14 m15 fun p0 p1 p2 p3 p4 p5 p6 p7 p8 p9 p10 p11 p12 p13 p14 p15 =>
  R p0 p1 p2 p3 p4 p5 p6 p7 p8 p9 p10 p11 p12 p13 p14 p15 m14 m10 m4 m8 m9 m15 m13 m6 m1 m12 m0 m2 m11 m7 m5 m3 fun p0 p1 p2 p3 p4 p5 p6 p7 p8 p9 p10 p11 p12 p13 p14 p15 =>
  R p0 p1 p2 p3 p4 p5 p6 p7 p8 p9 p10 p11 p12 p13 p14 p15 m11 m8 m12 m0 m5 m2 m15 m13 m10 m14 m3 m6 m7 m1 m9 m4 fun p0 p1 p2 p3 p4 p5 p6 p7 p8 p9 p10 p11 p12 p13 p14 p15 =>
  R p0 p1 p2 p3 p4 p5 p6 p7 p8 p9 p10 p11 p12 p13 p14 p15 m7 m9 m3 m1 m13 m12 m11 m14 m2 m6 m5 m10 m4 m0 m15 m8 fun p0 p1 p2 p3 p4 p5 p6 p7 p8 p9 p10 p11 p12 p13 p14 p15 =>
  R p0 p1 p2 p3 p4 p5 p6 p7 p8 p9 p10 p11 p12 p13 p14 p15 m9 m0 m5 m7 m2 m4 m10 m15 m14 m1 m11 m12 m6 m8 m3 m13 fun p0 p1 p2 p3 p4 p5 p6 p7 p8 p9 p10 p11 p12 p13 p14 p15 =>
  R p0 p1 p2 p3 p4 p5 p6 p7 p8 p9 p10 p11 p12 p13 p14 p15 m2 m12 m6 m10 m0 m11 m8 m3 m4 m13 m7 m5 m15 m14 m1 m9 fun p0 p1 p2 p3 p4 p5 p6 p7 p8 p9 p10 p11 p12 p13 p14 p15 =>
  R p0 p1 p2 p3 p4 p5 p6 p7 p8 p9 p10 p11 p12 p13 p14 p15 m12 m5 m1 m15 m14 m13 m4 m10 m0 m7 m6 m3 m9 m2 m8 m11 fun p0 p1 p2 p3 p4 p5 p6 p7 p8 p9 p10 p11 p12 p13 p14 p15 =>
  R p0 p1 p2 p3 p4 p5 p6 p7 p8 p9 p10 p11 p12 p13 p14 p15 m13 m11 m7 m14 m12 m1 m3 m9 m5 m0 m15 m4 m8 m6 m2 m10 fun p0 p1 p2 p3 p4 p5 p6 p7 p8 p9 p10 p11 p12 p13 p14 p15 =>
  R p0 p1 p2 p3 p4 p5 p6 p7 p8 p9 p10 p11 p12 p13 p14 p15 m6 m15 m14 m9 m11 m3 m0 m8 m12 m2 m13 m7 m1 m4 m10 m5 fun p0 p1 p2 p3 p4 p5 p6 p7 p8 p9 p10 p11 p12 p13 p14 p15 =>
  R p0 p1 p2 p3 p4 p5 p6 p7 p8 p9 p10 p11 p12 p13 p14 p15 m10 m2 m8 m4 m7 m6 m1 m5 m15 m11 m9 m14 m3 m12 m13 m0 fun p0 p1 p2 p3 p4 p5 p6 p7 p8 p9 p10 p11 p12 p13 p14 p15 =>
  f [p0,p1,p2,p3,p4,p5,p6,p7,p8,p9,p10,p11,p12,p13,p14,p15]:=by
 simp only[Z23,Z61,hR]
def Zui(h0 h1 h2 h3 h4 h5 h6 h7 p12 p13 p14 m0 m1 m2 m3 m4 m5 m6 m7 m8 m9 m10 m11 m12 m13 m14 m15:Nat){A:Type}(f:List Nat->Option A):ob (Z23 h0 h1 h2 h3 h4 h5 h6 h7 p12 p13 p14 m0 m1 m2 m3 m4 m5 m6 m7 m8 m9 m10 m11 m12 m13 m14 m15) f=Bl.rounds h0 h1 h2 h3 h4 h5 h6 h7 1779033703 3144134277 1013904242 2773480762 p12 p13 p14 1541459225 m0 m1 m2 m3 m4 m5 m6 m7 m8 m9 m10 m11 m12 m13 m14 m15 fun p0 p1 p2 p3 p4 p5 p6 p7 p8 p9 p10 p11 p12 p13 p14 p15=>f [p0,p1,p2,p3,p4,p5,p6,p7,p8,p9,p10,p11,p12,p13,p14,p15]:=by
 unfold Bl.rounds;exact Z10 (fun p0 p1 p2 p3 p4 p5 p6 p7 p8 p9 p10 p11 p12 p13 p14 p15 x0 x1 x2 x3 x4 x5 x6 x7 x8 x9 x10 x11 x12 x13 x14 x15 K=>Bl.round p0 p1 p2 p3 p4 p5 p6 p7 p8 p9 p10 p11 p12 p13 p14 p15 x0 x1 x2 x3 x4 x5 x6 x7 x8 x9 x10 x11 x12 x13 x14 x15 K) (fun p0 p1 p2 p3 p4 p5 p6 p7 p8 p9 p10 p11 p12 p13 p14 p15 x0 x1 x2 x3 x4 x5 x6 x7 x8 x9 x10 x11 x12 x13 x14 x15 f=>by rw[Z29,Z4q];rfl) _ _ _ _ _ _ _ _ _ _ _ _ _ _ _ _ _ _ _ _ _ _ _ _ _ _ _ f
def Z1c(h0 h1 h2 h3 h4 h5 h6 h7 p0 p1 p2 p3 p4 p5 p6 p7 p8 p9 p10 p11 p12 p13 p14 p15:Nat):Jfz h0 h1 h2 h3 h4 h5 h6 h7 [p0,p1,p2,p3,p4,p5,p6,p7,p8,p9,p10,p11,p12,p13,p14,p15]=some (p8v ⟨Bl.xr h0 (Bl.xr p0 p8),Bl.xr h1 (Bl.xr p1 p9),Bl.xr h2 (Bl.xr p2 p10),Bl.xr h3 (Bl.xr p3 p11),Bl.xr h4 (Bl.xr p4 p12),Bl.xr h5 (Bl.xr p5 p13),Bl.xr h6 (Bl.xr p6 p14),Bl.xr h7 (Bl.xr p7 p15)⟩):=by
 simp only[Jfz,Xfx,p8v,Qge]
def Z2l{A B:Type}(f:A->B)(a b c d x y:Nat)(K:Nat->Nat->Nat->Nat->A):f (Bl.stir a b c d x y K)=Bl.stir a b c d x y (fun a b c d=>f (K a b c d)):=rfl
def Zwg{A B:Type}(f:A->B)(p0 p1 p2 p3 p4 p5 p6 p7 p8 p9 p10 p11 p12 p13 p14 p15 x0 x1 x2 x3 x4 x5 x6 x7 x8 x9 x10 x11 x12 x13 x14 x15:Nat)(K:Nat->Nat->Nat->Nat->Nat->Nat->Nat->Nat->Nat->Nat->Nat->Nat->Nat->Nat->Nat->Nat->A):f (Bl.round p0 p1 p2 p3 p4 p5 p6 p7 p8 p9 p10 p11 p12 p13 p14 p15 x0 x1 x2 x3 x4 x5 x6 x7 x8 x9 x10 x11 x12 x13 x14 x15 K)=Bl.round p0 p1 p2 p3 p4 p5 p6 p7 p8 p9 p10 p11 p12 p13 p14 p15 x0 x1 x2 x3 x4 x5 x6 x7 x8 x9 x10 x11 x12 x13 x14 x15 (fun p0 p1 p2 p3 p4 p5 p6 p7 p8 p9 p10 p11 p12 p13 p14 p15=>f (K p0 p1 p2 p3 p4 p5 p6 p7 p8 p9 p10 p11 p12 p13 p14 p15)):=by
 simp only[Bl.round,Z2l f]
def Yyj{A B:Type}(f:A->B)(p0 p1 p2 p3 p4 p5 p6 p7 p8 p9 p10 p11 p12 p13 p14 p15 m0 m1 m2 m3 m4 m5 m6 m7 m8 m9 m10 m11 m12 m13 m14 m15:Nat)(K:Nat->Nat->Nat->Nat->Nat->Nat->Nat->Nat->Nat->Nat->Nat->Nat->Nat->Nat->Nat->Nat->A):f (Bl.rounds p0 p1 p2 p3 p4 p5 p6 p7 p8 p9 p10 p11 p12 p13 p14 p15 m0 m1 m2 m3 m4 m5 m6 m7 m8 m9 m10 m11 m12 m13 m14 m15 K)=Bl.rounds p0 p1 p2 p3 p4 p5 p6 p7 p8 p9 p10 p11 p12 p13 p14 p15 m0 m1 m2 m3 m4 m5 m6 m7 m8 m9 m10 m11 m12 m13 m14 m15 (fun p0 p1 p2 p3 p4 p5 p6 p7 p8 p9 p10 p11 p12 p13 p14 p15=>f (K p0 p1 p2 p3 p4 p5 p6 p7 p8 p9 p10 p11 p12 p13 p14 p15)):=by
 simp only[Bl.rounds,Zwg f]
def Zp4 :
  Z65 ((Qq8 Tryz.prog (mkE Tryz.prog nv b) Xjx 100 4).fn 89 [.agg ⟨[Qge h0,Qge h1,Qge h2,Qge h3,Qge h4,Qge h5,Qge h6,Qge h7]⟩,.pointer (some ⟨nv,0,none⟩),.int .u64 (.ofNat count),.bool true] (Qm8 nv Qmo false [(1,[u8v b0,u8v b1,u8v b2,u8v b3,u8v b4,u8v b5,u8v b6,u8v b7,u8v b8,u8v b9,u8v b10,u8v b11,u8v b12,u8v b13,u8v b14,u8v b15,u8v b16,u8v b17,u8v b18,u8v b19,u8v b20,u8v b21,u8v b22,u8v b23,u8v b24,u8v b25,u8v b26,u8v b27,u8v b28,u8v b29,u8v b30,u8v b31,u8v b32,u8v b33,u8v b34,u8v b35,u8v b36,u8v b37,u8v b38,u8v b39,u8v b40,u8v b41,u8v b42,u8v b43,u8v b44,u8v b45,u8v b46,u8v b47,u8v b48,u8v b49,u8v b50,u8v b51,u8v b52,u8v b53,u8v b54,u8v b55,u8v b56,u8v b57,u8v b58,u8v b59,u8v b60,u8v b61,u8v b62,u8v b63])])) =
   some (p8v (Bl.take ⟨h0,h1,h2,h3,h4,h5,h6,h7⟩ [b0,b1,b2,b3,b4,b5,b6,b7,b8,b9,b10,b11,b12,b13,b14,b15,b16,b17,b18,b19,b20,b21,b22,b23,b24,b25,b26,b27,b28,b29,b30,b31,b32,b33,b34,b35,b36,b37,b38,b39,b40,b41,b42,b43,b44,b45,b46,b47,b48,b49,b50,b51,b52,b53,b54,b55,b56,b57,b58,b59,b60,b61,b62,b63] count true)):=by
 rw[Zie,Zui];simp only[Z1c,Bl.take,Bl.words,Bl.nx];exact(Yyj (fun x=>some (p8v x)) _ _ _ _ _ _ _ _ _ _ _ _ _ _ _ _ _ _ _ _ _ _ _ _ _ _ _ _ _ _ _ _ _).symm
def Zl5 :
  Z65 ((Qq8 Tryz.prog (mkE Tryz.prog nv b) Xjx 100 4).fn 89 [.agg ⟨[Qge h0,Qge h1,Qge h2,Qge h3,Qge h4,Qge h5,Qge h6,Qge h7]⟩,.pointer (some ⟨nv,0,none⟩),.int .u64 (.ofNat count),.bool false] (Qm8 nv Qmo false [(1,[u8v b0,u8v b1,u8v b2,u8v b3,u8v b4,u8v b5,u8v b6,u8v b7,u8v b8,u8v b9,u8v b10,u8v b11,u8v b12,u8v b13,u8v b14,u8v b15,u8v b16,u8v b17,u8v b18,u8v b19,u8v b20,u8v b21,u8v b22,u8v b23,u8v b24,u8v b25,u8v b26,u8v b27,u8v b28,u8v b29,u8v b30,u8v b31,u8v b32,u8v b33,u8v b34,u8v b35,u8v b36,u8v b37,u8v b38,u8v b39,u8v b40,u8v b41,u8v b42,u8v b43,u8v b44,u8v b45,u8v b46,u8v b47,u8v b48,u8v b49,u8v b50,u8v b51,u8v b52,u8v b53,u8v b54,u8v b55,u8v b56,u8v b57,u8v b58,u8v b59,u8v b60,u8v b61,u8v b62,u8v b63])])) =
   some (p8v (Bl.take ⟨h0,h1,h2,h3,h4,h5,h6,h7⟩ [b0,b1,b2,b3,b4,b5,b6,b7,b8,b9,b10,b11,b12,b13,b14,b15,b16,b17,b18,b19,b20,b21,b22,b23,b24,b25,b26,b27,b28,b29,b30,b31,b32,b33,b34,b35,b36,b37,b38,b39,b40,b41,b42,b43,b44,b45,b46,b47,b48,b49,b50,b51,b52,b53,b54,b55,b56,b57,b58,b59,b60,b61,b62,b63] count false)):=by
 rw[Zfc,Zui];simp only[Z1c,Bl.take,Bl.words,Bl.nx];exact(Yyj (fun x=>some (p8v x)) _ _ _ _ _ _ _ _ _ _ _ _ _ _ _ _ _ _ _ _ _ _ _ _ _ _ _ _ _ _ _ _ _).symm
def Jh4{l0:List Nat}(h0:l0.length=64):∃ b0 b1 b2 b3 b4 b5 b6 b7 b8 b9 b10 b11 b12 b13 b14 b15 b16 b17 b18 b19 b20 b21 b22 b23 b24 b25 b26 b27 b28 b29 b30 b31 b32 b33 b34 b35 b36 b37 b38 b39 b40 b41 b42 b43 b44 b45 b46 b47 b48 b49 b50 b51 b52 b53 b54 b55 b56 b57 b58 b59 b60 b61 b62 b63,l0=[b0,b1,b2,b3,b4,b5,b6,b7,b8,b9,b10,b11,b12,b13,b14,b15,b16,b17,b18,b19,b20,b21,b22,b23,b24,b25,b26,b27,b28,b29,b30,b31,b32,b33,b34,b35,b36,b37,b38,b39,b40,b41,b42,b43,b44,b45,b46,b47,b48,b49,b50,b51,b52,b53,b54,b55,b56,b57,b58,b59,b60,b61,b62,b63]:=by
 obtain⟨b0,l1,rfl,h1⟩:=Vj h0;obtain⟨b1,l2,rfl,h2⟩:=Vj h1;obtain⟨b2,l3,rfl,h3⟩:=Vj h2;obtain⟨b3,l4,rfl,h4⟩:=Vj h3;obtain⟨b4,l5,rfl,h5⟩:=Vj h4;obtain⟨b5,l6,rfl,h6⟩:=Vj h5;obtain⟨b6,l7,rfl,h7⟩:=Vj h6;obtain⟨b7,l8,rfl,h8⟩:=Vj h7;obtain⟨b8,l9,rfl,h9⟩:=Vj h8;obtain⟨b9,l10,rfl,h10⟩:=Vj h9;obtain⟨b10,l11,rfl,h11⟩:=Vj h10;obtain⟨b11,l12,rfl,h12⟩:=Vj h11;obtain⟨b12,l13,rfl,h13⟩:=Vj h12;obtain⟨b13,l14,rfl,h14⟩:=Vj h13;obtain⟨b14,l15,rfl,h15⟩:=Vj h14;obtain⟨b15,l16,rfl,h16⟩:=Vj h15;obtain⟨b16,l17,rfl,h17⟩:=Vj h16;obtain⟨b17,l18,rfl,h18⟩:=Vj h17;obtain⟨b18,l19,rfl,h19⟩:=Vj h18;obtain⟨b19,l20,rfl,h20⟩:=Vj h19;obtain⟨b20,l21,rfl,h21⟩:=Vj h20;obtain⟨b21,l22,rfl,h22⟩:=Vj h21;obtain⟨b22,l23,rfl,h23⟩:=Vj h22;obtain⟨b23,l24,rfl,h24⟩:=Vj h23;obtain⟨b24,l25,rfl,h25⟩:=Vj h24;obtain⟨b25,l26,rfl,h26⟩:=Vj h25;obtain⟨b26,l27,rfl,h27⟩:=Vj h26;obtain⟨b27,l28,rfl,h28⟩:=Vj h27;obtain⟨b28,l29,rfl,h29⟩:=Vj h28;obtain⟨b29,l30,rfl,h30⟩:=Vj h29;obtain⟨b30,l31,rfl,h31⟩:=Vj h30;obtain⟨b31,l32,rfl,h32⟩:=Vj h31;obtain⟨b32,l33,rfl,h33⟩:=Vj h32;obtain⟨b33,l34,rfl,h34⟩:=Vj h33;obtain⟨b34,l35,rfl,h35⟩:=Vj h34;obtain⟨b35,l36,rfl,h36⟩:=Vj h35;obtain⟨b36,l37,rfl,h37⟩:=Vj h36;obtain⟨b37,l38,rfl,h38⟩:=Vj h37;obtain⟨b38,l39,rfl,h39⟩:=Vj h38;obtain⟨b39,l40,rfl,h40⟩:=Vj h39;obtain⟨b40,l41,rfl,h41⟩:=Vj h40;obtain⟨b41,l42,rfl,h42⟩:=Vj h41;obtain⟨b42,l43,rfl,h43⟩:=Vj h42;obtain⟨b43,l44,rfl,h44⟩:=Vj h43;obtain⟨b44,l45,rfl,h45⟩:=Vj h44;obtain⟨b45,l46,rfl,h46⟩:=Vj h45;obtain⟨b46,l47,rfl,h47⟩:=Vj h46;obtain⟨b47,l48,rfl,h48⟩:=Vj h47;obtain⟨b48,l49,rfl,h49⟩:=Vj h48;obtain⟨b49,l50,rfl,h50⟩:=Vj h49;obtain⟨b50,l51,rfl,h51⟩:=Vj h50;obtain⟨b51,l52,rfl,h52⟩:=Vj h51;obtain⟨b52,l53,rfl,h53⟩:=Vj h52;obtain⟨b53,l54,rfl,h54⟩:=Vj h53;obtain⟨b54,l55,rfl,h55⟩:=Vj h54;obtain⟨b55,l56,rfl,h56⟩:=Vj h55;obtain⟨b56,l57,rfl,h57⟩:=Vj h56;obtain⟨b57,l58,rfl,h58⟩:=Vj h57;obtain⟨b58,l59,rfl,h59⟩:=Vj h58;obtain⟨b59,l60,rfl,h60⟩:=Vj h59;obtain⟨b60,l61,rfl,h61⟩:=Vj h60;obtain⟨b61,l62,rfl,h62⟩:=Vj h61;obtain⟨b62,l63,rfl,h63⟩:=Vj h62;obtain⟨b63,l64,rfl,h64⟩:=Vj h63;have e:=ba h64;subst e;exact⟨_,_,_,_,_,_,_,_,_,_,_,_,_,_,_,_,_,_,_,_,_,_,_,_,_,_,_,_,_,_,_,_,_,_,_,_,_,_,_,_,_,_,_,_,_,_,_,_,_,_,_,_,_,_,_,_,_,_,_,_,_,_,_,_,rfl⟩
def Z7w(b:Nat)(h0 h1 h2 h3 h4 h5 h6 h7 count:Nat)(l:List Nat)(hl:l.length=64)(last:Bool) :
  Z65 ((Qq8 Tryz.prog (mkE Tryz.prog nv b) Xjx 100 4).fn 89 [.agg ⟨[Qge h0,Qge h1,Qge h2,Qge h3,Qge h4,Qge h5,Qge h6,Qge h7]⟩,.pointer (some ⟨nv,0,none⟩),.int .u64 (.ofNat count),.bool last] (Qm8 nv Qmo false [(1,l.map u8v)])) =
   some (p8v (Bl.take ⟨h0,h1,h2,h3,h4,h5,h6,h7⟩ l count last)):=by
 obtain⟨b0,b1,b2,b3,b4,b5,b6,b7,b8,b9,b10,b11,b12,b13,b14,b15,b16,b17,b18,b19,b20,b21,b22,b23,b24,b25,b26,b27,b28,b29,b30,b31,b32,b33,b34,b35,b36,b37,b38,b39,b40,b41,b42,b43,b44,b45,b46,b47,b48,b49,b50,b51,b52,b53,b54,b55,b56,b57,b58,b59,b60,b61,b62,b63,rfl⟩:=Jh4 hl;cases last with
 | true=>exact Zp4 b h0 h1 h2 h3 h4 h5 h6 h7 b0 b1 b2 b3 b4 b5 b6 b7 b8 b9 b10 b11 b12 b13 b14 b15 b16 b17 b18 b19 b20 b21 b22 b23 b24 b25 b26 b27 b28 b29 b30 b31 b32 b33 b34 b35 b36 b37 b38 b39 b40 b41 b42 b43 b44 b45 b46 b47 b48 b49 b50 b51 b52 b53 b54 b55 b56 b57 b58 b59 b60 b61 b62 b63 count
 | false=>exact Zl5 b h0 h1 h2 h3 h4 h5 h6 h7 b0 b1 b2 b3 b4 b5 b6 b7 b8 b9 b10 b11 b12 b13 b14 b15 b16 b17 b18 b19 b20 b21 b22 b23 b24 b25 b26 b27 b28 b29 b30 b31 b32 b33 b34 b35 b36 b37 b38 b39 b40 b41 b42 b43 b44 b45 b46 b47 b48 b49 b50 b51 b52 b53 b54 b55 b56 b57 b58 b59 b60 b61 b62 b63 count
def Zfp:Xey:=fun f args h=>bq (Nat.beq f 89) (match args with
 | [.agg ⟨hv⟩,p,.int .u64 (.ofNat count),.bool last]=>ob (Jbp hv) fun hl=>ob (Ywm h p) fun q=>ob (u8s q.2) fun bl=>bq (Nat.beq bl.length 64) (bq (Z21 h Qmo) (ob (Jh5 hl) fun h8=>some (.ret (p8v (Bl.take h8 bl count last)),h)) none) none
 | _=>none) none
def Zfk:∀ x ∈ Qmo,x.2 ≠ []/\Xkr x.2:=by
 intro x hx;rcases ax.1 hx with rfl | hx
 ·exact⟨by simp[Qj0],Q14 (by kernel_rfl)⟩
 ·rcases ax.1 hx with rfl | hx
  ·exact⟨by simp[Q4c],Q14 (by kernel_rfl)⟩
  ·cases hx
def Yq9(b:Nat):Qqx Tryz.prog ⟨nv,b⟩ Zfp:=by
 intro f args h r h' hx;unfold Zfp at hx;obtain⟨hf,hx⟩:=Qpa hx;have hf:=aT hf;subst hf;split at hx
 ·rename_i hv p count last hq;obtain⟨hl,h1,hx⟩:=Wv hx;obtain⟨⟨blk,cs⟩,h2,hx⟩:=Wv hx;obtain⟨bl,h3,hx⟩:=Wv hx;obtain⟨h4,hx⟩:=Qpa hx;obtain⟨h5,hx⟩:=Qpa hx;obtain⟨h8,h6,hx⟩:=Wv hx;cases hx;have e1:=Ys0 h1;subst e1;have e0:Value.agg {toList:=List.map Qge hl}=p8v h8:=Ja4 h6;obtain⟨rfl,hg⟩:=Xb5 h2;have e2:=Zzh h3;simp only at e2 hg;subst e2;rw[e0];refine Yjv (k:=100) (m:=4) mixed Zkk Y6p (fun b=>Z7w b h8.h0 h8.h1 h8.h2 h8.h3 h8.h4 h8.h5 h8.h6 h8.h7 count bl (aT h4) last) rfl (Yqm h5) Zfk (bs:=[blk]) rfl (by simp) (fun k d r hd hr => ?_)
   (Qcg (Qmc rfl) (Qcg (Y9r _ _) (Qcg (Qmc rfl) (Qcg (Qmc rfl) Q4g))))
  cases k with
  | zero=>simp at hd hr;subst hd;subst hr;exact⟨hg,Yqk _⟩
  | succ k=>simp at hd
 ·cases hx
def Ycj:Qyd Zfp:=by
 intro f args h r h' hx;unfold Zfp at hx;obtain⟨hf,hx⟩:=Qpa hx;split at hx
 ·obtain⟨hl,h1,hx⟩:=Wv hx;obtain⟨⟨blk,cs⟩,h2,hx⟩:=Wv hx;obtain⟨bl,h3,hx⟩:=Wv hx;obtain⟨h4,hx⟩:=Qpa hx;obtain⟨h5,hx⟩:=Qpa hx;obtain⟨h8,h6,hx⟩:=Wv hx;cases hx;exact LowOK.refl _
 ·cases hx
def Qxb:List Value:=[.int .u8 253,.int .i64 2,.int .u64 253,.int .u8 254,.int .i64 4,.int .u64 65536,.int .u8 255,.int .i64 8,.int .u64 4294967296]
def laidAll:List (Nat × List Value):=[(0,Qj0),(1,Qxb),(3,Q4c)]
def Qqe(seed:List Nat):Nat->Nat->List Nat
 | 0,_=>[]
 | n+1,i=>Bl.keyed seed [i]++Qqe seed n (Nat.succ i)
def Y6m:∀ x ∈ laidAll,x.2 ≠ []/\Xkr x.2:=by
 intro x hx;rcases ax.1 hx with rfl | hx
 ·exact⟨by simp[Qj0],Q14 (by kernel_rfl)⟩
 ·rcases ax.1 hx with rfl | hx
  ·exact⟨by simp[Qxb],Q14 (by kernel_rfl)⟩
  ·rcases ax.1 hx with rfl | hx
   ·exact⟨by simp[Q4c],Q14 (by kernel_rfl)⟩
   ·cases hx
def X2l:List Nat:=[107,101,121,115]
def Y88:List Nat:=Qqe X2l 32 1
def Zvs(b:Nat):Ztv (nv+([(1,X2l.map u8v)]:List (Nat × List Value)).length) ((Qq8 Tryz.prog (mkE Tryz.prog nv b) Zfp 10000 8).fn 37 [.slice (some ⟨nv,0,none⟩) 4 4] (Qm8 nv laidAll false [(1,X2l.map u8v)]))=some (Y88.map u8v):=by kernel_rfl
def Ycq:Xey:=fun f args h=>bq (Nat.beq f 37) (match args with
 | [.slice (some ⟨blk,0,none⟩) 4 4]=>ob (Ywm h (.pointer (some ⟨blk,0,none⟩))) fun q=>ob (u8s q.2) fun bl=>bq (eqN bl X2l) (bq (Z21 h laidAll) (some (.ret (.pointer (some ⟨h.next,0,none⟩)),h.push (.cells true 1 (Y88.map u8v)))) none) (Zfp f args h)
 | _=>Zfp f args h) (Zfp f args h)
def Zq6(b:Nat):Qqx Tryz.prog ⟨nv,b⟩ Ycq:=by
 intro f args h r h' hx;unfold Ycq at hx;cases hf:Nat.beq f 37 with
 | false=>rw[hf]at hx;exact Yq9 b f args h r h' hx
 | true =>
  rw[hf,bq_true]at hx;have hf:=aT hf;subst hf;split at hx
  ·rename_i blk;obtain⟨⟨blk',cs⟩,h2,hx⟩:=Wv hx;obtain⟨bl,h3,hx⟩:=Wv hx;cases h4:eqN bl X2l with
   | false=>rw[h4,bq_false]at hx;exact Yq9 b _ _ h r h' hx
   | true =>
    rw[h4,bq_true]at hx;obtain⟨h1,hx⟩:=Qpa hx;cases hx;obtain⟨e0,hg⟩:=Xb5 h2;cases e0;have e2:=Zzh h3;simp only at e2 hg;have e3:=Xtd h4;subst e3;subst e2;refine Z0y (k:=10000) (m:=8) mixed Yq9 Ycj Zvs (Yqk _) (Yqm h1) Y6m (bs:=[blk]) rfl (by simp) (fun k d r hd hr => ?_) (Qcg (Zk0 (by simp[emb])) Q4g);cases k with
    | zero=>simp at hd hr;subst hd;subst hr;exact⟨hg,Yqk _⟩
    | succ k=>simp at hd
  ·exact Yq9 b _ _ h r h' hx
def Zkf:Qyd Ycq:=by
 intro f args h r h' hx;unfold Ycq at hx;cases hf:Nat.beq f 37 with
 | false=>rw[hf]at hx;exact Ycj f args h r h' hx
 | true =>
  rw[hf,bq_true]at hx;split at hx
  ·obtain⟨q,h2,hx⟩:=Wv hx;obtain⟨bl,h3,hx⟩:=Wv hx;cases h4:eqN bl X2l with
   | false=>rw[h4,bq_false]at hx;exact Ycj _ _ h r h' hx
   | true =>
    rw[h4,bq_true]at hx;obtain⟨h1,hx⟩:=Qpa hx;cases hx;exact LowOK.push _ _
  ·exact Ycj _ _ h r h' hx
def Y63(b:Nat):Z65 ((Qq8 Tryz.prog (mkE Tryz.prog nv b) Ycq 10000 30).fn 15 [] (Qm8 nv laidAll false []))=some (.bool true):=by kernel_rfl
def Ja0(b:Nat){h:Heap}(hl:Ab.LaidIn h laidAll)(K:AEnd->Heap->Prop)(hk:K (.ret (.bool true)) h):FnK Tryz.prog (E b).G 15 [] h K :=
 ⟨_,_,Yjv (k:=10000) (m:=30) mixed Zq6 Zkf Y63 rfl hl Y6m (bs:=[]) rfl (by simp) (fun k d r hd _=>by simp at hd) Q4g,ae _,hk⟩
end Go.Proofs.YtijagoebdgohnaaGreatDoor
end
