import Derived.Test.YtgmelhgoiepoaaaGreatDoorAbG
import Derived.Test.YtgmelhgoiepoaaaGreatDoorProg
import Derived.Test.YtgmelhgoiepoaaaGreatDoorAbF
set_option linter.all false
noncomputable section
namespace Go.Proofs.YtgmelhgoiepoaaaGreatDoor
open Go Go.Ab
set_option maxRecDepth 100000
def nv:Nat:=3
abbrev E(b:Nat):Env2 Tryz.prog:=mkE Tryz.prog nv b
noncomputable def X2(f:Nat):Code:=((Tryz.prog.funcs[f]?).bind (·.body)).getD .skip
theorem Vv:Tryz.prog.follows .mixedOrders=true:=by kernel_rfl
def D0(b:Nat):CallF:=Ytk (E b) Z59 100 0
theorem Um(b:Nat):CallsSound Tryz.prog (E b).G (D0 b):=Y81 (E b) (Zu6 _) Ygs Vv 100 0
theorem Zm(b:Nat):CallsLow (D0 b):=Yiu (E b) Ygs 100 0
def DD(b:Nat):Qnw:=Xjo (E b) (D0 b) 100
theorem Un(b:Nat):Qs1 Tryz.prog (E b).G (DD b):=Zgm (E b) (Um b) (Zm b) Vv
theorem Zs(b:Nat):Xbq (DD b):=Y3t (Zm b)
theorem Qdu(h:Heap)(l:List Value):∃ hA,hA=h.push (.cells true 1 l)/\Old h hA/\hA.get h.next=some (.cells true 1 l):=⟨_,rfl,Old.push _ _,by rw[Heap.get_push,if_pos rfl]⟩
theorem Qjl{h hA:Heap}{l:List Value}(e:hA=h.push (.cells true 1 l)):Zxc (.agg ⟨l⟩) h=some (.pointer (some ⟨h.next,0,none⟩),hA):=by rw[e];rfl
theorem Qk4{h hA:Heap}{x:Blk}(e:hA=h.push x):Old h hA:=by rw[e];exact Old.push _ _
theorem Q2z{h hA:Heap}{x:Blk}(e:hA=h.push x):hA.next=h.next+1:=by rw[e];rfl
abbrev FF(b:Nat):=@Zr _ (E b) _ (Um b) (Zm b) Vv _ (Un b) (Zs b)
abbrev KP:=AEnd->Heap->Prop
abbrev FK(b:Nat):=FnK Tryz.prog (E b).G
theorem agW{h:Heap}{bk z k:Nat}{ow:Bool}{c:List Value}(hg:h.get bk=some (.cells ow z c))(hl:0+k<=c.length)(h2:c.length<=k):U8 h bk 0 k=some (.agg ⟨c⟩):=by rw[Yq hg hl,List.drop_zero,List.take_of_length_le h2]
theorem zk1{P:KE->Prop}{a:KE}(h:P a):∀ e∈[a],P e:=by simpa using h
theorem zk2{P:KE->Prop}{a c:KE}(h:P a)(h2:P c):∀ e∈[a,c],P e:=by simpa using ⟨h,h2⟩
theorem zk3{P:KE->Prop}{a c d:KE}(h:P a)(h2:P c)(h3:P d):∀ e∈[a,c,d],P e:=by simpa using ⟨h,h2,h3⟩
theorem zk4{P:KE->Prop}{a c d f:KE}(h:P a)(h2:P c)(h3:P d)(h4:P f):∀ e∈[a,c,d,f],P e:=by simpa using ⟨h,h2,h3,h4⟩
end Go.Proofs.YtgmelhgoiepoaaaGreatDoor
end
noncomputable section
namespace Go.Ab
variable{P:Program}{E:Env2 P}{C:CallP}{rd:Option Nat}{D0:CallF}
theorem kNN(F:St->Prop)(K:Exit->St->Prop)(s:St):Zcj F K .normal s=F s:=Eq.trans rfl rfl
theorem kNP(F:St->Prop)(K:Exit->St->Prop)(ch:List PanicEntry)(s:St):Zcj F K (.panic ch) s=K (.panic ch) s:=Eq.trans rfl rfl
theorem kRR(d:Option Tmp)(s:St)(K:Exit->St->Prop)(v:Value)(h:Heap):Z9v d s K (.ret v) h=K .normal (s.put d v h):=Eq.trans rfl rfl
theorem kRP(d:Option Tmp)(s:St)(K:Exit->St->Prop)(ch:List PanicEntry)(h:Heap):Z9v d s K (.panic ch) h=K (.panic ch) {s with h:=h}:=Eq.trans rfl rfl
theorem kTN(F:St->Prop)(K:Exit->St->Prop)(s:St):Xmi F K .normal s=F s:=Eq.trans rfl rfl
theorem kTR(F:St->Prop)(K:Exit->St->Prop)(s:St):Xmi F K .ret s=K .ret s:=Eq.trans rfl rfl
theorem kTX(F:St->Prop)(K:Exit->St->Prop)(id:Nat)(s:St):Xmi F K (.exit id) s=K (.exit id) s:=Eq.trans rfl rfl
theorem kTP(F:St->Prop)(K:Exit->St->Prop)(ch:List PanicEntry)(s:St):Xmi F K (.panic ch) s=K (.panic ch) s:=Eq.trans rfl rfl
theorem kBN(id:Nat)(K:Exit->St->Prop)(s:St):Q2r id K .normal s=K .normal s:=Eq.trans rfl rfl
theorem kBR(id:Nat)(K:Exit->St->Prop)(s:St):Q2r id K .ret s=K .ret s:=Eq.trans rfl rfl
theorem kBP(id:Nat)(K:Exit->St->Prop)(ch:List PanicEntry)(s:St):Q2r id K (.panic ch) s=K (.panic ch) s:=Eq.trans rfl rfl
theorem kBX(id id':Nat)(K:Exit->St->Prop)(s:St):Q2r id K (.exit id') s=if id'=id then K .normal s else K (.exit id') s:=Eq.trans rfl rfl
theorem kAM(y:Code)(K:Exit->St->Prop)(t:Tm)(ds:List Deferred)(h:Heap):Jd4 E C D0 rd y K ⟨t,ds,h⟩=Wy E C D0 rd y ⟨t,ds,h⟩ K:=Eq.trans rfl rfl
theorem kEN(D:Qnw)(fn:Func)(K:AEnd->Heap->Prop)(s:St):Y3k E D fn K .normal s=Q7d E D fn K .returning s:=Eq.trans rfl rfl
theorem kER(D:Qnw)(fn:Func)(K:AEnd->Heap->Prop)(s:St):Y3k E D fn K .ret s=Q7d E D fn K .returning s:=Eq.trans rfl rfl
theorem kON(ops:List Oper)(K:Exit->St->Prop)(t:Tm)(ds:List Deferred)(h:Heap):X0n E C rd ops K [] ⟨t,ds,h⟩=K .normal ⟨t,ds,h⟩:=Eq.trans rfl rfl
theorem kOC(ops:List Oper)(K:Exit->St->Prop)(o:Oper)(r:List Oper)(t:Tm)(ds:List Deferred)(h:Heap):X0n E C rd ops K (o::r) ⟨t,ds,h⟩ =
 (match Qe ops t o with
  | some true=>Qw E C rd o ⟨t,ds,h⟩ (Zcj (X0n E C rd ops K r) K)
  | some false=>if Qgq ⟨t,ds,h⟩ o.dst then X0n E C rd ops K r (St.put ⟨t,ds,h⟩ o.dst Qo h)else False
  | none=>False):=Eq.trans rfl rfl
theorem kCS(s:St)(K:Exit->St->Prop):Wy E C D0 rd .skip s K=K .normal s:=Eq.trans rfl rfl
theorem kCR(s:St)(K:Exit->St->Prop):Wy E C D0 rd .ret s K=K .ret s:=Eq.trans rfl rfl
theorem kCE(id:Nat)(s:St)(K:Exit->St->Prop):Wy E C D0 rd (.exit id) s K=K (.exit id) s:=Eq.trans rfl rfl
end Go.Ab
end
noncomputable section
namespace Go.Proofs.YtgmelhgoiepoaaaGreatDoor
open Go Go.Ab
set_option maxRecDepth 1000000
def Q2w(ix l:List Nat)(x y:Nat):Option (List Nat):=match l with
 | [p0,p1,p2,p3,p4,p5,p6,p7,p8,p9,p10,p11,p12,p13,p14,p15] =>
  bq (eqN ix [0,4,8,12]) (some (Bl.stir p0 p4 p8 p12 x y fun p0 p4 p8 p12=>[p0,p1,p2,p3,p4,p5,p6,p7,p8,p9,p10,p11,p12,p13,p14,p15])) <|
  bq (eqN ix [1,5,9,13]) (some (Bl.stir p1 p5 p9 p13 x y fun p1 p5 p9 p13=>[p0,p1,p2,p3,p4,p5,p6,p7,p8,p9,p10,p11,p12,p13,p14,p15])) <|
  bq (eqN ix [2,6,10,14]) (some (Bl.stir p2 p6 p10 p14 x y fun p2 p6 p10 p14=>[p0,p1,p2,p3,p4,p5,p6,p7,p8,p9,p10,p11,p12,p13,p14,p15])) <|
  bq (eqN ix [3,7,11,15]) (some (Bl.stir p3 p7 p11 p15 x y fun p3 p7 p11 p15=>[p0,p1,p2,p3,p4,p5,p6,p7,p8,p9,p10,p11,p12,p13,p14,p15])) <|
  bq (eqN ix [0,5,10,15]) (some (Bl.stir p0 p5 p10 p15 x y fun p0 p5 p10 p15=>[p0,p1,p2,p3,p4,p5,p6,p7,p8,p9,p10,p11,p12,p13,p14,p15])) <|
  bq (eqN ix [1,6,11,12]) (some (Bl.stir p1 p6 p11 p12 x y fun p1 p6 p11 p12=>[p0,p1,p2,p3,p4,p5,p6,p7,p8,p9,p10,p11,p12,p13,p14,p15])) <|
  bq (eqN ix [2,7,8,13]) (some (Bl.stir p2 p7 p8 p13 x y fun p2 p7 p8 p13=>[p0,p1,p2,p3,p4,p5,p6,p7,p8,p9,p10,p11,p12,p13,p14,p15])) <|
  bq (eqN ix [3,4,9,14]) (some (Bl.stir p3 p4 p9 p14 x y fun p3 p4 p9 p14=>[p0,p1,p2,p3,p4,p5,p6,p7,p8,p9,p10,p11,p12,p13,p14,p15])) <|
  none
 | _=>none
def Z0r:Q39:=fun f args h=>bq (Nat.beq f 93) (match args with
 | [p,a,b,c,d,.agg ⟨[.int .u32 (.ofNat x),.int .u32 (.ofNat y)]⟩]=>ob (Ymb h p) fun q=>ob (Z99 q.2) fun l=>ob (Jbm [a,b,c,d]) fun ix=>ob (Q2w ix l x y) fun l'=>some (.ret (.tuple #[]),h.set q.1 (some (.cells true 1 (l'.map Qa7))))
 | _=>none) none
theorem Z0b{a b c d:Value}{ix:List Nat}(h:Jbm [a,b,c,d]=some ix):∃ i j k l,ix=[i,j,k,l]/\a=Qu7 i/\b=Qu7 j/\c=Qu7 k/\d=Qu7 l:=by
 have:=Zzm h
 match ix,this with
 | [i,j,k,l],e=>simp only[List.map_cons,List.map_nil,List.cons.injEq,and_true]at e;exact⟨i,j,k,l,rfl,e.1,e.2.1,e.2.2.1,e.2.2.2⟩
theorem Y6d(n blk:Nat):Yhg (emb n [blk]) (.pointer (some ⟨n,0,none⟩)) (.pointer (some ⟨blk,0,none⟩)):=Xyy (by simp[emb])
def L1(l:List Nat):Prop:=∃ p0 p1 p2 p3 p4 p5 p6 p7 p8 p9 p10 p11 p12 p13 p14 p15,l=[p0,p1,p2,p3,p4,p5,p6,p7,p8,p9,p10,p11,p12,p13,p14,p15]
theorem L1.all{l:List Nat}(h:L1 l){P:List Nat->Prop}(k:∀ p0 p1 p2 p3 p4 p5 p6 p7 p8 p9 p10 p11 p12 p13 p14 p15,P [p0,p1,p2,p3,p4,p5,p6,p7,p8,p9,p10,p11,p12,p13,p14,p15]):P l:=by
 obtain⟨p0,p1,p2,p3,p4,p5,p6,p7,p8,p9,p10,p11,p12,p13,p14,p15,rfl⟩:=h
 exact k _ _ _ _ _ _ _ _ _ _ _ _ _ _ _ _
theorem Zzt{ix l l':List Nat}{x y:Nat}(h:Q2w ix l x y=some l'):L1 l:=by
 unfold Q2w at h
 split at h
 ·exact⟨_,_,_,_,_,_,_,_,_,_,_,_,_,_,_,_,rfl⟩
 ·cases h
def stI(i j k q:Nat)(P:List Nat)(x y:Nat):List Value:=Z44 (.ofNat (P.getD i 0)) (.ofNat (P.getD j 0)) (.ofNat (P.getD k 0)) (.ofNat (P.getD q 0)) (.ofNat x) 16 20 fun a b c d=>Z44 a b c d (.ofNat y) 24 25 fun a b c d=>((((P.map Qa7).set i (.int .u32 a)).set j (.int .u32 b)).set k (.int .u32 c)).set q (.int .u32 d)
def stS(i j k q:Nat)(P:List Nat)(x y:Nat):List Nat:=Bl.stir (P.getD i 0) (P.getD j 0) (P.getD k 0) (P.getD q 0) x y fun a b c d=>(((P.set i a).set j b).set k c).set q d
theorem Z6k(i j k q:Nat)(P:List Nat)(x y:Nat):stI i j k q P x y=(stS i j k q P x y).map Qa7:=by
 unfold stI stS
 rw[Zid _ _ _ _ _ 16 20 (by decide) (by decide)]
 simp only[Bl.half,Zid _ _ _ _ _ 24 25 (by decide) (by decide),Bl.stir,List.map_set]
 rfl
def ST(b i j k q:Nat)(x y:Nat)(l:List Nat):Prop :=
 Ztd nv ((Qkx Tryz.prog (mkE Tryz.prog nv b) Z59 100 4).fn 93 [.pointer (some ⟨nv,0,none⟩),Qu7 i,Qu7 j,Qu7 k,Qu7 q,.agg #[Qa7 x,Qa7 y]] (Qhf nv [] true [(1,l.map Qa7)]))=some (.tuple #[],stI i j k q l x y)
def SE(i j k q:Nat)(x y:Nat)(l:List Nat):Prop:=Q2w [i,j,k,q] l x y=some (stS i j k q l x y)
theorem st0(b x y:Nat){l:List Nat}(h:L1 l):ST b 0 4 8 12 x y l/\SE 0 4 8 12 x y l:=⟨h.all (P:=ST b 0 4 8 12 x y) fun _ _ _ _ _ _ _ _ _ _ _ _ _ _ _ _=>(by kernel_rfl:_=_),h.all (P:=SE 0 4 8 12 x y) fun _ _ _ _ _ _ _ _ _ _ _ _ _ _ _ _=>(by kernel_rfl:_=_)⟩
theorem st1(b x y:Nat){l:List Nat}(h:L1 l):ST b 1 5 9 13 x y l/\SE 1 5 9 13 x y l:=⟨h.all (P:=ST b 1 5 9 13 x y) fun _ _ _ _ _ _ _ _ _ _ _ _ _ _ _ _=>(by kernel_rfl:_=_),h.all (P:=SE 1 5 9 13 x y) fun _ _ _ _ _ _ _ _ _ _ _ _ _ _ _ _=>(by kernel_rfl:_=_)⟩
theorem st2(b x y:Nat){l:List Nat}(h:L1 l):ST b 2 6 10 14 x y l/\SE 2 6 10 14 x y l:=⟨h.all (P:=ST b 2 6 10 14 x y) fun _ _ _ _ _ _ _ _ _ _ _ _ _ _ _ _=>(by kernel_rfl:_=_),h.all (P:=SE 2 6 10 14 x y) fun _ _ _ _ _ _ _ _ _ _ _ _ _ _ _ _=>(by kernel_rfl:_=_)⟩
theorem st3(b x y:Nat){l:List Nat}(h:L1 l):ST b 3 7 11 15 x y l/\SE 3 7 11 15 x y l:=⟨h.all (P:=ST b 3 7 11 15 x y) fun _ _ _ _ _ _ _ _ _ _ _ _ _ _ _ _=>(by kernel_rfl:_=_),h.all (P:=SE 3 7 11 15 x y) fun _ _ _ _ _ _ _ _ _ _ _ _ _ _ _ _=>(by kernel_rfl:_=_)⟩
theorem st4(b x y:Nat){l:List Nat}(h:L1 l):ST b 0 5 10 15 x y l/\SE 0 5 10 15 x y l:=⟨h.all (P:=ST b 0 5 10 15 x y) fun _ _ _ _ _ _ _ _ _ _ _ _ _ _ _ _=>(by kernel_rfl:_=_),h.all (P:=SE 0 5 10 15 x y) fun _ _ _ _ _ _ _ _ _ _ _ _ _ _ _ _=>(by kernel_rfl:_=_)⟩
theorem st5(b x y:Nat){l:List Nat}(h:L1 l):ST b 1 6 11 12 x y l/\SE 1 6 11 12 x y l:=⟨h.all (P:=ST b 1 6 11 12 x y) fun _ _ _ _ _ _ _ _ _ _ _ _ _ _ _ _=>(by kernel_rfl:_=_),h.all (P:=SE 1 6 11 12 x y) fun _ _ _ _ _ _ _ _ _ _ _ _ _ _ _ _=>(by kernel_rfl:_=_)⟩
theorem st6(b x y:Nat){l:List Nat}(h:L1 l):ST b 2 7 8 13 x y l/\SE 2 7 8 13 x y l:=⟨h.all (P:=ST b 2 7 8 13 x y) fun _ _ _ _ _ _ _ _ _ _ _ _ _ _ _ _=>(by kernel_rfl:_=_),h.all (P:=SE 2 7 8 13 x y) fun _ _ _ _ _ _ _ _ _ _ _ _ _ _ _ _=>(by kernel_rfl:_=_)⟩
theorem st7(b x y:Nat){l:List Nat}(h:L1 l):ST b 3 4 9 14 x y l/\SE 3 4 9 14 x y l:=⟨h.all (P:=ST b 3 4 9 14 x y) fun _ _ _ _ _ _ _ _ _ _ _ _ _ _ _ _=>(by kernel_rfl:_=_),h.all (P:=SE 3 4 9 14 x y) fun _ _ _ _ _ _ _ _ _ _ _ _ _ _ _ _=>(by kernel_rfl:_=_)⟩
theorem Xcq{A:Type}{c:Bool}{v:A}{y:Option A}{z:A}(h:bq c (some v) y=some z):c=true∨y=some z:=by
 cases c with
 | true=>exact .inl rfl
 | false=>exact .inr h
theorem Jbz{i j k q x y:Nat}{l l':List Nat}(h:Q2w [i,j,k,q] l x y=some l'):(∀ b,ST b i j k q x y l)/\SE i j k q x y l:=by
 have hL:=Zzt h
 obtain⟨p0,p1,p2,p3,p4,p5,p6,p7,p8,p9,p10,p11,p12,p13,p14,p15,rfl⟩:=id hL
 unfold Q2w at h
 simp only at h
 rcases Xcq h with e | h
 ·have:=Xa9 e
  simp only[List.cons.injEq,and_true]at this
  obtain⟨rfl,rfl,rfl,rfl⟩:=this
  exact⟨fun b=>(st0 b x y hL).1,(st0 0 x y hL).2⟩
 rcases Xcq h with e | h
 ·have:=Xa9 e
  simp only[List.cons.injEq,and_true]at this
  obtain⟨rfl,rfl,rfl,rfl⟩:=this
  exact⟨fun b=>(st1 b x y hL).1,(st1 0 x y hL).2⟩
 rcases Xcq h with e | h
 ·have:=Xa9 e
  simp only[List.cons.injEq,and_true]at this
  obtain⟨rfl,rfl,rfl,rfl⟩:=this
  exact⟨fun b=>(st2 b x y hL).1,(st2 0 x y hL).2⟩
 rcases Xcq h with e | h
 ·have:=Xa9 e
  simp only[List.cons.injEq,and_true]at this
  obtain⟨rfl,rfl,rfl,rfl⟩:=this
  exact⟨fun b=>(st3 b x y hL).1,(st3 0 x y hL).2⟩
 rcases Xcq h with e | h
 ·have:=Xa9 e
  simp only[List.cons.injEq,and_true]at this
  obtain⟨rfl,rfl,rfl,rfl⟩:=this
  exact⟨fun b=>(st4 b x y hL).1,(st4 0 x y hL).2⟩
 rcases Xcq h with e | h
 ·have:=Xa9 e
  simp only[List.cons.injEq,and_true]at this
  obtain⟨rfl,rfl,rfl,rfl⟩:=this
  exact⟨fun b=>(st5 b x y hL).1,(st5 0 x y hL).2⟩
 rcases Xcq h with e | h
 ·have:=Xa9 e
  simp only[List.cons.injEq,and_true]at this
  obtain⟨rfl,rfl,rfl,rfl⟩:=this
  exact⟨fun b=>(st6 b x y hL).1,(st6 0 x y hL).2⟩
 rcases Xcq h with e | h
 ·have:=Xa9 e
  simp only[List.cons.injEq,and_true]at this
  obtain⟨rfl,rfl,rfl,rfl⟩:=this
  exact⟨fun b=>(st7 b x y hL).1,(st7 0 x y hL).2⟩
 cases h
theorem Z3g(b:Nat):Qlb Tryz.prog ⟨nv,b⟩ Z0r:=by
 intro f args h r h' hx
 unfold Z0r at hx
 obtain⟨hf,hx⟩:=Qk1 hx
 have hf:=Nat.eq_of_beq_eq_true hf
 subst hf
 split at hx
 ·rename_i p a b' c d x y hq
  obtain⟨⟨blk,cs⟩,h1,hx⟩:=Ua hx
  obtain⟨l,h2,hx⟩:=Ua hx
  obtain⟨ix,h3,hx⟩:=Ua hx
  obtain⟨l',h4,hx⟩:=Ua hx
  cases hx
  obtain⟨rfl,hg⟩:=Q17 h1
  have:=Ydw h2
  subst this
  obtain⟨i,j,k,q,rfl,rfl,rfl,rfl,rfl⟩:=Z0b h3
  obtain⟨s1,s2⟩:=Jbz h4
  unfold SE at s2
  rw[h4]at s2
  cases s2
  exact Z0u (k:=100) (m:=4) Vv (fun b=>Zu6 _) Ygs (fun b=>(s1 b).trans (by rw[Z6k])) rfl (Xdg _) (Xdg _) hg (Qb5 (Y6d _ _) (Qb5 (Qhh rfl) (Qb5 (Qhh rfl) (Qb5 (Qhh rfl) (Qb5 (Qhh rfl) (Qb5 (Qhh rfl) Qvg))))))
 ·cases hx
theorem Z0e:Qr8 Z0r:=by
 intro f args h r h' hx
 unfold Z0r at hx
 obtain⟨hf,hx⟩:=Qk1 hx
 split at hx
 ·obtain⟨⟨blk,cs⟩,h1,hx⟩:=Ua hx
  obtain⟨l,h2,hx⟩:=Ua hx
  obtain⟨ix,h3,hx⟩:=Ua hx
  obtain⟨l',h4,hx⟩:=Ua hx
  cases hx
  obtain⟨_,hg⟩:=Q17 h1
  exact LowOK.set _ _ _ (Heap.get_lt hg)
 ·cases hx
def Jcj:ByteArray:=⟨#[48,49,50,51,52,53,54,55,56,57,97,98,99,100,101,102]⟩
def Jcn:ByteArray:=⟨#[101,97,52,56,57,102,100,54,49,99,48,50,98,55,53,51]⟩
def Jct:ByteArray:=⟨#[98,56,99,48,53,50,102,100,97,101,51,54,55,49,57,52]⟩
def Jd3:ByteArray:=⟨#[55,57,51,49,100,99,98,101,50,54,53,97,52,48,102,56]⟩
def Jd0:ByteArray:=⟨#[57,48,53,55,50,52,97,102,101,49,98,99,54,56,51,100]⟩
def Jd1:ByteArray:=⟨#[50,99,54,97,48,98,56,51,52,100,55,53,102,101,49,57]⟩
def Jcp:ByteArray:=⟨#[99,53,49,102,101,100,52,97,48,55,54,51,57,50,56,98]⟩
def Jcw:ByteArray:=⟨#[100,98,55,101,99,49,51,57,53,48,102,52,56,54,50,97]⟩
def Jch:ByteArray:=⟨#[54,102,101,57,98,51,48,56,99,50,100,55,49,52,97,53]⟩
def Jd5:ByteArray:=⟨#[97,50,56,52,55,54,49,53,102,98,57,101,51,99,100,48]⟩
def Qoq(l:List Nat)(x0 x1 x2 x3 x4 x5 x6 x7 x8 x9 x10 x11 x12 x13 x14 x15:Nat):Option (List Nat) :=
 ob (Q2w [0,4,8,12] l x0 x1) fun l =>
 ob (Q2w [1,5,9,13] l x2 x3) fun l =>
 ob (Q2w [2,6,10,14] l x4 x5) fun l =>
 ob (Q2w [3,7,11,15] l x6 x7) fun l =>
 ob (Q2w [0,5,10,15] l x8 x9) fun l =>
 ob (Q2w [1,6,11,12] l x10 x11) fun l =>
 ob (Q2w [2,7,8,13] l x12 x13) fun l =>
 Q2w [3,4,9,14] l x14 x15
def Y49(s:ByteArray)(l m:List Nat):Option (List Nat):=match l,m with
 | [p0,p1,p2,p3,p4,p5,p6,p7,p8,p9,p10,p11,p12,p13,p14,p15],[m0,m1,m2,m3,m4,m5,m6,m7,m8,m9,m10,m11,m12,m13,m14,m15] =>
  bq (eqN (s.data.toList.map UInt8.toNat) [48,49,50,51,52,53,54,55,56,57,97,98,99,100,101,102]) (Qoq [p0,p1,p2,p3,p4,p5,p6,p7,p8,p9,p10,p11,p12,p13,p14,p15] m0 m1 m2 m3 m4 m5 m6 m7 m8 m9 m10 m11 m12 m13 m14 m15) <|
  bq (eqN (s.data.toList.map UInt8.toNat) [101,97,52,56,57,102,100,54,49,99,48,50,98,55,53,51]) (Qoq [p0,p1,p2,p3,p4,p5,p6,p7,p8,p9,p10,p11,p12,p13,p14,p15] m14 m10 m4 m8 m9 m15 m13 m6 m1 m12 m0 m2 m11 m7 m5 m3) <|
  bq (eqN (s.data.toList.map UInt8.toNat) [98,56,99,48,53,50,102,100,97,101,51,54,55,49,57,52]) (Qoq [p0,p1,p2,p3,p4,p5,p6,p7,p8,p9,p10,p11,p12,p13,p14,p15] m11 m8 m12 m0 m5 m2 m15 m13 m10 m14 m3 m6 m7 m1 m9 m4) <|
  bq (eqN (s.data.toList.map UInt8.toNat) [55,57,51,49,100,99,98,101,50,54,53,97,52,48,102,56]) (Qoq [p0,p1,p2,p3,p4,p5,p6,p7,p8,p9,p10,p11,p12,p13,p14,p15] m7 m9 m3 m1 m13 m12 m11 m14 m2 m6 m5 m10 m4 m0 m15 m8) <|
  bq (eqN (s.data.toList.map UInt8.toNat) [57,48,53,55,50,52,97,102,101,49,98,99,54,56,51,100]) (Qoq [p0,p1,p2,p3,p4,p5,p6,p7,p8,p9,p10,p11,p12,p13,p14,p15] m9 m0 m5 m7 m2 m4 m10 m15 m14 m1 m11 m12 m6 m8 m3 m13) <|
  bq (eqN (s.data.toList.map UInt8.toNat) [50,99,54,97,48,98,56,51,52,100,55,53,102,101,49,57]) (Qoq [p0,p1,p2,p3,p4,p5,p6,p7,p8,p9,p10,p11,p12,p13,p14,p15] m2 m12 m6 m10 m0 m11 m8 m3 m4 m13 m7 m5 m15 m14 m1 m9) <|
  bq (eqN (s.data.toList.map UInt8.toNat) [99,53,49,102,101,100,52,97,48,55,54,51,57,50,56,98]) (Qoq [p0,p1,p2,p3,p4,p5,p6,p7,p8,p9,p10,p11,p12,p13,p14,p15] m12 m5 m1 m15 m14 m13 m4 m10 m0 m7 m6 m3 m9 m2 m8 m11) <|
  bq (eqN (s.data.toList.map UInt8.toNat) [100,98,55,101,99,49,51,57,53,48,102,52,56,54,50,97]) (Qoq [p0,p1,p2,p3,p4,p5,p6,p7,p8,p9,p10,p11,p12,p13,p14,p15] m13 m11 m7 m14 m12 m1 m3 m9 m5 m0 m15 m4 m8 m6 m2 m10) <|
  bq (eqN (s.data.toList.map UInt8.toNat) [54,102,101,57,98,51,48,56,99,50,100,55,49,52,97,53]) (Qoq [p0,p1,p2,p3,p4,p5,p6,p7,p8,p9,p10,p11,p12,p13,p14,p15] m6 m15 m14 m9 m11 m3 m0 m8 m12 m2 m13 m7 m1 m4 m10 m5) <|
  bq (eqN (s.data.toList.map UInt8.toNat) [97,50,56,52,55,54,49,53,102,98,57,101,51,99,100,48]) (Qoq [p0,p1,p2,p3,p4,p5,p6,p7,p8,p9,p10,p11,p12,p13,p14,p15] m10 m2 m8 m4 m7 m6 m1 m5 m15 m11 m9 m14 m3 m12 m13 m0) <|
  none
 | _,_=>none
theorem Qvk{s t:ByteArray}{l:List Nat}(h:eqN (s.data.toList.map UInt8.toNat) l=true)(ht:t.data.toList.map UInt8.toNat=l):s=t:=by
 have h1:=(Xa9 h).trans ht.symm
 have h2:s.data.toList=t.data.toList:=(List.map_inj_right (fun x y h=>UInt8.toNat_inj.1 h)).1 h1
 cases s;cases t
 simp only[ByteArray.mk.injEq]
 exact Array.ext' h2
def Q6z:Q39:=fun f args h=>bq (Nat.beq f 69) (match args with
 | [p,q,.string s]=>ob (Ymb h p) fun x=>ob (Ymb h q) fun y=>ob (Z99 x.2) fun l=>ob (Z99 y.2) fun m=>bq (Nat.beq x.1 y.1) none (ob (Y49 s l m) fun l'=>some (.ret (.tuple #[]),h.set x.1 (some (.cells true 1 (l'.map Qa7)))))
 | _=>none) none
theorem Z09(n blk c:Nat):Yhg (emb n [blk,c]) (.pointer (some ⟨n,0,none⟩)) (.pointer (some ⟨blk,0,none⟩)):=Xyy (by simp[emb])
theorem Zxr(n blk c:Nat):Yhg (emb n [blk,c]) (.pointer (some ⟨n+1,0,none⟩)) (.pointer (some ⟨c,0,none⟩)):=Xyy (by unfold emb;rw[if_neg (by omega)];simp)
def RR(b:Nat)(s:ByteArray)(l m:List Nat):Prop :=
 Zco nv (nv+1) ((Qkx Tryz.prog (mkE Tryz.prog nv b) Z0r 100 4).fn 69 [.pointer (some ⟨nv,0,none⟩),.pointer (some ⟨nv+1,0,none⟩),.string s] (Qhf nv [] true [(1,l.map Qa7),(1,m.map Qa7)]))=ob (Y49 s l m) fun l'=>some (.tuple #[],l'.map Qa7,m.map Qa7)
def L16(l m:List Nat):Prop:=∃ p0 p1 p2 p3 p4 p5 p6 p7 p8 p9 p10 p11 p12 p13 p14 p15 m0 m1 m2 m3 m4 m5 m6 m7 m8 m9 m10 m11 m12 m13 m14 m15,l=[p0,p1,p2,p3,p4,p5,p6,p7,p8,p9,p10,p11,p12,p13,p14,p15]/\m=[m0,m1,m2,m3,m4,m5,m6,m7,m8,m9,m10,m11,m12,m13,m14,m15]
theorem L16.all{l m:List Nat}(h:L16 l m){P:List Nat->List Nat->Prop}(k:∀ p0 p1 p2 p3 p4 p5 p6 p7 p8 p9 p10 p11 p12 p13 p14 p15 m0 m1 m2 m3 m4 m5 m6 m7 m8 m9 m10 m11 m12 m13 m14 m15,P [p0,p1,p2,p3,p4,p5,p6,p7,p8,p9,p10,p11,p12,p13,p14,p15] [m0,m1,m2,m3,m4,m5,m6,m7,m8,m9,m10,m11,m12,m13,m14,m15]):P l m:=by
 obtain⟨p0,p1,p2,p3,p4,p5,p6,p7,p8,p9,p10,p11,p12,p13,p14,p15,m0,m1,m2,m3,m4,m5,m6,m7,m8,m9,m10,m11,m12,m13,m14,m15,rfl,rfl⟩:=h
 exact k _ _ _ _ _ _ _ _ _ _ _ _ _ _ _ _ _ _ _ _ _ _ _ _ _ _ _ _ _ _ _ _
theorem Zvy{s:ByteArray}{l m l':List Nat}(h:Y49 s l m=some l'):L16 l m:=by
 unfold Y49 at h
 split at h
 ·exact⟨_,_,_,_,_,_,_,_,_,_,_,_,_,_,_,_,_,_,_,_,_,_,_,_,_,_,_,_,_,_,_,_,rfl,rfl⟩
 ·cases h
theorem rr0(b:Nat){l m:List Nat}(h:L16 l m):RR b Jcj l m:=h.all (P:=RR b Jcj) fun _ _ _ _ _ _ _ _ _ _ _ _ _ _ _ _ _ _ _ _ _ _ _ _ _ _ _ _ _ _ _ _=>(by kernel_rfl:_=_)
theorem rr1(b:Nat){l m:List Nat}(h:L16 l m):RR b Jcn l m:=h.all (P:=RR b Jcn) fun _ _ _ _ _ _ _ _ _ _ _ _ _ _ _ _ _ _ _ _ _ _ _ _ _ _ _ _ _ _ _ _=>(by kernel_rfl:_=_)
theorem rr2(b:Nat){l m:List Nat}(h:L16 l m):RR b Jct l m:=h.all (P:=RR b Jct) fun _ _ _ _ _ _ _ _ _ _ _ _ _ _ _ _ _ _ _ _ _ _ _ _ _ _ _ _ _ _ _ _=>(by kernel_rfl:_=_)
theorem rr3(b:Nat){l m:List Nat}(h:L16 l m):RR b Jd3 l m:=h.all (P:=RR b Jd3) fun _ _ _ _ _ _ _ _ _ _ _ _ _ _ _ _ _ _ _ _ _ _ _ _ _ _ _ _ _ _ _ _=>(by kernel_rfl:_=_)
theorem rr4(b:Nat){l m:List Nat}(h:L16 l m):RR b Jd0 l m:=h.all (P:=RR b Jd0) fun _ _ _ _ _ _ _ _ _ _ _ _ _ _ _ _ _ _ _ _ _ _ _ _ _ _ _ _ _ _ _ _=>(by kernel_rfl:_=_)
theorem rr5(b:Nat){l m:List Nat}(h:L16 l m):RR b Jd1 l m:=h.all (P:=RR b Jd1) fun _ _ _ _ _ _ _ _ _ _ _ _ _ _ _ _ _ _ _ _ _ _ _ _ _ _ _ _ _ _ _ _=>(by kernel_rfl:_=_)
theorem rr6(b:Nat){l m:List Nat}(h:L16 l m):RR b Jcp l m:=h.all (P:=RR b Jcp) fun _ _ _ _ _ _ _ _ _ _ _ _ _ _ _ _ _ _ _ _ _ _ _ _ _ _ _ _ _ _ _ _=>(by kernel_rfl:_=_)
theorem rr7(b:Nat){l m:List Nat}(h:L16 l m):RR b Jcw l m:=h.all (P:=RR b Jcw) fun _ _ _ _ _ _ _ _ _ _ _ _ _ _ _ _ _ _ _ _ _ _ _ _ _ _ _ _ _ _ _ _=>(by kernel_rfl:_=_)
theorem rr8(b:Nat){l m:List Nat}(h:L16 l m):RR b Jch l m:=h.all (P:=RR b Jch) fun _ _ _ _ _ _ _ _ _ _ _ _ _ _ _ _ _ _ _ _ _ _ _ _ _ _ _ _ _ _ _ _=>(by kernel_rfl:_=_)
theorem rr9(b:Nat){l m:List Nat}(h:L16 l m):RR b Jd5 l m:=h.all (P:=RR b Jd5) fun _ _ _ _ _ _ _ _ _ _ _ _ _ _ _ _ _ _ _ _ _ _ _ _ _ _ _ _ _ _ _ _=>(by kernel_rfl:_=_)
theorem Y04{A:Type}{c:Bool}{x y:Option A}{z:A}(h:bq c x y=some z):c=true∨y=some z:=by
 cases c with
 | true=>exact .inl rfl
 | false=>exact .inr h
theorem Jaj(b:Nat){s:ByteArray}{l m l':List Nat}(h:Y49 s l m=some l'):RR b s l m:=by
 have hL:=Zvy h
 obtain⟨p0,p1,p2,p3,p4,p5,p6,p7,p8,p9,p10,p11,p12,p13,p14,p15,m0,m1,m2,m3,m4,m5,m6,m7,m8,m9,m10,m11,m12,m13,m14,m15,rfl,rfl⟩:=id hL
 unfold Y49 at h
 simp only at h
 rcases Y04 h with e | h
 ·obtain rfl:=Qvk (t:=Jcj) e rfl
  exact rr0 b hL
 rcases Y04 h with e | h
 ·obtain rfl:=Qvk (t:=Jcn) e rfl
  exact rr1 b hL
 rcases Y04 h with e | h
 ·obtain rfl:=Qvk (t:=Jct) e rfl
  exact rr2 b hL
 rcases Y04 h with e | h
 ·obtain rfl:=Qvk (t:=Jd3) e rfl
  exact rr3 b hL
 rcases Y04 h with e | h
 ·obtain rfl:=Qvk (t:=Jd0) e rfl
  exact rr4 b hL
 rcases Y04 h with e | h
 ·obtain rfl:=Qvk (t:=Jd1) e rfl
  exact rr5 b hL
 rcases Y04 h with e | h
 ·obtain rfl:=Qvk (t:=Jcp) e rfl
  exact rr6 b hL
 rcases Y04 h with e | h
 ·obtain rfl:=Qvk (t:=Jcw) e rfl
  exact rr7 b hL
 rcases Y04 h with e | h
 ·obtain rfl:=Qvk (t:=Jch) e rfl
  exact rr8 b hL
 rcases Y04 h with e | h
 ·obtain rfl:=Qvk (t:=Jd5) e rfl
  exact rr9 b hL
 cases h
theorem Zjf(b:Nat):Qlb Tryz.prog ⟨nv,b⟩ Q6z:=by
 intro f args h r h' hx
 unfold Q6z at hx
 obtain⟨hf,hx⟩:=Qk1 hx
 have hf:=Nat.eq_of_beq_eq_true hf
 subst hf
 split at hx
 ·rename_i p q s hq
  obtain⟨⟨blk,cs⟩,h1,hx⟩:=Ua hx
  obtain⟨⟨c,cs2⟩,h2,hx⟩:=Ua hx
  obtain⟨l,h3,hx⟩:=Ua hx
  obtain⟨m,h4,hx⟩:=Ua hx
  cases hne:Nat.beq blk c with
  | true=>simp only at hx;rw[hne]at hx;cases hx
  | false =>
  simp only at hx
  rw[hne,bq_false]at hx
  have hne:=Nat.ne_of_beq_eq_false hne
  obtain⟨l',h5,hx⟩:=Ua hx
  cases hx
  obtain⟨rfl,hg⟩:=Q17 h1
  obtain⟨rfl,hg2⟩:=Q17 h2
  have:=Ydw h3
  subst this
  have:=Ydw h4
  subst this
  exact Zw0 (k:=100) (m:=4) Vv Z3g Z0e (fun b=>by have:=Jaj b h5;unfold RR at this;rw[this,h5];rfl) rfl (Xdg _) (Xdg _) (Xdg _) hg hg2 hne (Qb5 (Z09 _ _ _) (Qb5 (Zxr _ _ _) (Qb5 (Qhh rfl) Qvg)))
 ·cases hx
theorem Y32:Qr8 Q6z:=by
 intro f args h r h' hx
 unfold Q6z at hx
 obtain⟨hf,hx⟩:=Qk1 hx
 split at hx
 ·obtain⟨⟨blk,cs⟩,h1,hx⟩:=Ua hx
  obtain⟨⟨c,cs2⟩,h2,hx⟩:=Ua hx
  obtain⟨l,h3,hx⟩:=Ua hx
  obtain⟨m,h4,hx⟩:=Ua hx
  cases hne:Nat.beq blk c with
  | true=>simp only at hx;rw[hne]at hx;cases hx
  | false =>
  simp only at hx
  rw[hne,bq_false]at hx
  obtain⟨l',h5,hx⟩:=Ua hx
  cases hx
  obtain⟨_,hg⟩:=Q17 h1
  exact LowOK.set _ _ _ (Heap.get_lt hg)
 ·cases hx
def Qfv:List Value:=[.int .u32 1779033703,.int .u32 3144134277,.int .u32 1013904242,.int .u32 2773480762,.int .u32 1359893119,.int .u32 2600822924,.int .u32 528734635,.int .u32 1541459225]
def Q7x:List Value:=[.string Jcj,.string Jcn,.string Jct,.string Jd3,.string Jd0,.string Jd1,.string Jcp,.string Jcw,.string Jch,.string Jd5]
def Qjp:List (Nat × List Value):=[(0,Qfv),(2,Q7x)]
def Z0s(h0 h1 h2 h3 h4 h5 h6 h7 p12 p13 p14 m0 m1 m2 m3 m4 m5 m6 m7 m8 m9 m10 m11 m12 m13 m14 m15:Nat):Option (List Nat) :=
 ob (Qoq [h0,h1,h2,h3,h4,h5,h6,h7,1779033703,3144134277,1013904242,2773480762,p12,p13,p14,1541459225] m0 m1 m2 m3 m4 m5 m6 m7 m8 m9 m10 m11 m12 m13 m14 m15) fun l =>
 ob (Qoq l m14 m10 m4 m8 m9 m15 m13 m6 m1 m12 m0 m2 m11 m7 m5 m3) fun l =>
 ob (Qoq l m11 m8 m12 m0 m5 m2 m15 m13 m10 m14 m3 m6 m7 m1 m9 m4) fun l =>
 ob (Qoq l m7 m9 m3 m1 m13 m12 m11 m14 m2 m6 m5 m10 m4 m0 m15 m8) fun l =>
 ob (Qoq l m9 m0 m5 m7 m2 m4 m10 m15 m14 m1 m11 m12 m6 m8 m3 m13) fun l =>
 ob (Qoq l m2 m12 m6 m10 m0 m11 m8 m3 m4 m13 m7 m5 m15 m14 m1 m9) fun l =>
 ob (Qoq l m12 m5 m1 m15 m14 m13 m4 m10 m0 m7 m6 m3 m9 m2 m8 m11) fun l =>
 ob (Qoq l m13 m11 m7 m14 m12 m1 m3 m9 m5 m0 m15 m4 m8 m6 m2 m10) fun l =>
 ob (Qoq l m6 m15 m14 m9 m11 m3 m0 m8 m12 m2 m13 m7 m1 m4 m10 m5) fun l =>
 Qoq l m10 m2 m8 m4 m7 m6 m1 m5 m15 m11 m9 m14 m3 m12 m13 m0
def Jcx(h0 h1 h2 h3 h4 h5 h6 h7:Nat)(l:List Nat):Option Value:=match l with
 | [p0,p1,p2,p3,p4,p5,p6,p7,p8,p9,p10,p11,p12,p13,p14,p15]=>some (.agg ⟨[.int .u32 (Q6y (.ofNat h0) (Q6y (.ofNat p0) (.ofNat p8))),.int .u32 (Q6y (.ofNat h1) (Q6y (.ofNat p1) (.ofNat p9))),.int .u32 (Q6y (.ofNat h2) (Q6y (.ofNat p2) (.ofNat p10))),.int .u32 (Q6y (.ofNat h3) (Q6y (.ofNat p3) (.ofNat p11))),.int .u32 (Q6y (.ofNat h4) (Q6y (.ofNat p4) (.ofNat p12))),.int .u32 (Q6y (.ofNat h5) (Q6y (.ofNat p5) (.ofNat p13))),.int .u32 (Q6y (.ofNat h6) (Q6y (.ofNat p6) (.ofNat p14))),.int .u32 (Q6y (.ofNat h7) (Q6y (.ofNat p7) (.ofNat p15)))]⟩)
 | _=>none
noncomputable def Zs6:Func:=(Tryz.prog.funcs[50]?).getD default
noncomputable def Zvf:Code:=Zs6.body.getD .skip
variable(b:Nat)(h0 h1 h2 h3 h4 h5 h6 h7 b0 b1 b2 b3 b4 b5 b6 b7 b8 b9 b10 b11 b12 b13 b14 b15 b16 b17 b18 b19 b20 b21 b22 b23 b24 b25 b26 b27 b28 b29 b30 b31 b32 b33 b34 b35 b36 b37 b38 b39 b40 b41 b42 b43 b44 b45 b46 b47 b48 b49 b50 b51 b52 b53 b54 b55 b56 b57 b58 b59 b60 b61 b62 b63 count:Nat)
theorem Y6p:(Q0z Tryz.prog (mkE Tryz.prog nv b) (Qkx Tryz.prog (mkE Tryz.prog nv b) Q6z 100 3) none 100 (Z6d 8 Zvf) ⟨Qv Zs6 [.agg ⟨[Qa7 h0,Qa7 h1,Qa7 h2,Qa7 h3,Qa7 h4,Qa7 h5,Qa7 h6,Qa7 h7]⟩,.pointer (some ⟨nv,0,none⟩),.int .u64 (.ofNat count),.bool true],[],(Qhf nv Qjp false [(1,[u8v b0,u8v b1,u8v b2,u8v b3,u8v b4,u8v b5,u8v b6,u8v b7,u8v b8,u8v b9,u8v b10,u8v b11,u8v b12,u8v b13,u8v b14,u8v b15,u8v b16,u8v b17,u8v b18,u8v b19,u8v b20,u8v b21,u8v b22,u8v b23,u8v b24,u8v b25,u8v b26,u8v b27,u8v b28,u8v b29,u8v b30,u8v b31,u8v b32,u8v b33,u8v b34,u8v b35,u8v b36,u8v b37,u8v b38,u8v b39,u8v b40,u8v b41,u8v b42,u8v b43,u8v b44,u8v b45,u8v b46,u8v b47,u8v b48,u8v b49,u8v b50,u8v b51,u8v b52,u8v b53,u8v b54,u8v b55,u8v b56,u8v b57,u8v b58,u8v b59,u8v b60,u8v b61,u8v b62,u8v b63])])⟩)=Ztq (nv+4) [Qa7 h0,Qa7 h1,Qa7 h2,Qa7 h3,Qa7 h4,Qa7 h5,Qa7 h6,Qa7 h7,Qa7 1779033703,Qa7 3144134277,Qa7 1013904242,Qa7 2773480762,.int .u32 (Q6y (.ofNat 1359893119) (Y6t count)),.int .u32 (Q6y (.ofNat 2600822924) (IntKind.wrap .u32 (Int.fdiv (.ofNat count) (2 ^ 32)))),.int .u32 (Q6y (.ofNat 4294967295) (.ofNat 528734635)),Qa7 1541459225] (Ztq (nv+3) [.int .u32 (Xgl b0 b1 b2 b3),.int .u32 (Xgl b4 b5 b6 b7),.int .u32 (Xgl b8 b9 b10 b11),.int .u32 (Xgl b12 b13 b14 b15),.int .u32 (Xgl b16 b17 b18 b19),.int .u32 (Xgl b20 b21 b22 b23),.int .u32 (Xgl b24 b25 b26 b27),.int .u32 (Xgl b28 b29 b30 b31),.int .u32 (Xgl b32 b33 b34 b35),.int .u32 (Xgl b36 b37 b38 b39),.int .u32 (Xgl b40 b41 b42 b43),.int .u32 (Xgl b44 b45 b46 b47),.int .u32 (Xgl b48 b49 b50 b51),.int .u32 (Xgl b52 b53 b54 b55),.int .u32 (Xgl b56 b57 b58 b59),.int .u32 (Xgl b60 b61 b62 b63)] (Q0z Tryz.prog (mkE Tryz.prog nv b) (Qkx Tryz.prog (mkE Tryz.prog nv b) Q6z 100 3) none 100 (Z6d 8 Zvf) ⟨Qv Zs6 [.agg ⟨[Qa7 h0,Qa7 h1,Qa7 h2,Qa7 h3,Qa7 h4,Qa7 h5,Qa7 h6,Qa7 h7]⟩,.pointer (some ⟨nv,0,none⟩),.int .u64 (.ofNat count),.bool true],[],(Qhf nv Qjp false [(1,[u8v b0,u8v b1,u8v b2,u8v b3,u8v b4,u8v b5,u8v b6,u8v b7,u8v b8,u8v b9,u8v b10,u8v b11,u8v b12,u8v b13,u8v b14,u8v b15,u8v b16,u8v b17,u8v b18,u8v b19,u8v b20,u8v b21,u8v b22,u8v b23,u8v b24,u8v b25,u8v b26,u8v b27,u8v b28,u8v b29,u8v b30,u8v b31,u8v b32,u8v b33,u8v b34,u8v b35,u8v b36,u8v b37,u8v b38,u8v b39,u8v b40,u8v b41,u8v b42,u8v b43,u8v b44,u8v b45,u8v b46,u8v b47,u8v b48,u8v b49,u8v b50,u8v b51,u8v b52,u8v b53,u8v b54,u8v b55,u8v b56,u8v b57,u8v b58,u8v b59,u8v b60,u8v b61,u8v b62,u8v b63])])⟩)):=by kernel_rfl
theorem Zh2 :
  Z4e ((Qkx Tryz.prog (mkE Tryz.prog nv b) Q6z 100 4).fn 50 [.agg ⟨[Qa7 h0,Qa7 h1,Qa7 h2,Qa7 h3,Qa7 h4,Qa7 h5,Qa7 h6,Qa7 h7]⟩,.pointer (some ⟨nv,0,none⟩),.int .u64 (.ofNat count),.bool true] (Qhf nv Qjp false [(1,[u8v b0,u8v b1,u8v b2,u8v b3,u8v b4,u8v b5,u8v b6,u8v b7,u8v b8,u8v b9,u8v b10,u8v b11,u8v b12,u8v b13,u8v b14,u8v b15,u8v b16,u8v b17,u8v b18,u8v b19,u8v b20,u8v b21,u8v b22,u8v b23,u8v b24,u8v b25,u8v b26,u8v b27,u8v b28,u8v b29,u8v b30,u8v b31,u8v b32,u8v b33,u8v b34,u8v b35,u8v b36,u8v b37,u8v b38,u8v b39,u8v b40,u8v b41,u8v b42,u8v b43,u8v b44,u8v b45,u8v b46,u8v b47,u8v b48,u8v b49,u8v b50,u8v b51,u8v b52,u8v b53,u8v b54,u8v b55,u8v b56,u8v b57,u8v b58,u8v b59,u8v b60,u8v b61,u8v b62,u8v b63])])) =
   ob (Z0s h0 h1 h2 h3 h4 h5 h6 h7 (Bl.xr 1359893119 (Bl.w32 count)) (Bl.xr 2600822924 (Bl.w32 (Nat.div count 4294967296))) (Bl.xr 4294967295 528734635) (Bl.le4 b0 b1 b2 b3) (Bl.le4 b4 b5 b6 b7) (Bl.le4 b8 b9 b10 b11) (Bl.le4 b12 b13 b14 b15) (Bl.le4 b16 b17 b18 b19) (Bl.le4 b20 b21 b22 b23) (Bl.le4 b24 b25 b26 b27) (Bl.le4 b28 b29 b30 b31) (Bl.le4 b32 b33 b34 b35) (Bl.le4 b36 b37 b38 b39) (Bl.le4 b40 b41 b42 b43) (Bl.le4 b44 b45 b46 b47) (Bl.le4 b48 b49 b50 b51) (Bl.le4 b52 b53 b54 b55) (Bl.le4 b56 b57 b58 b59) (Bl.le4 b60 b61 b62 b63)) (Jcx h0 h1 h2 h3 h4 h5 h6 h7):=by
 have e12:Value.int .u32 (Q6y (.ofNat 1359893119) (Y6t count))=Qa7 (Bl.xr 1359893119 (Bl.w32 count)):=by rw[Yoj,Qw2];rfl
 have e13:Value.int .u32 (Q6y (.ofNat 2600822924) (IntKind.wrap .u32 (Int.fdiv (.ofNat count) (2 ^ 32))))=Qa7 (Bl.xr 2600822924 (Bl.w32 (Nat.div count 4294967296))):=by rw[Zum,Qh0];exact congrArg (Value.int .u32) (Qw2 _ _)
 have e14:Value.int .u32 (Q6y (.ofNat 4294967295) (.ofNat 528734635))=Qa7 (Bl.xr 4294967295 528734635):=by first | rfl | (rw[Qw2];rfl)
 rw[Ztj (n0:=8) (F:=Zs6) (c:=Zvf) (by kernel_rfl) (by kernel_rfl) (by kernel_rfl) (by kernel_rfl) (by kernel_rfl),Y6p,e12,e13,e14]
 simp only[Zuc]
 show _=_
 kernel_rfl
theorem Yyh:(Q0z Tryz.prog (mkE Tryz.prog nv b) (Qkx Tryz.prog (mkE Tryz.prog nv b) Q6z 100 3) none 100 (Z6d 8 Zvf) ⟨Qv Zs6 [.agg ⟨[Qa7 h0,Qa7 h1,Qa7 h2,Qa7 h3,Qa7 h4,Qa7 h5,Qa7 h6,Qa7 h7]⟩,.pointer (some ⟨nv,0,none⟩),.int .u64 (.ofNat count),.bool false],[],(Qhf nv Qjp false [(1,[u8v b0,u8v b1,u8v b2,u8v b3,u8v b4,u8v b5,u8v b6,u8v b7,u8v b8,u8v b9,u8v b10,u8v b11,u8v b12,u8v b13,u8v b14,u8v b15,u8v b16,u8v b17,u8v b18,u8v b19,u8v b20,u8v b21,u8v b22,u8v b23,u8v b24,u8v b25,u8v b26,u8v b27,u8v b28,u8v b29,u8v b30,u8v b31,u8v b32,u8v b33,u8v b34,u8v b35,u8v b36,u8v b37,u8v b38,u8v b39,u8v b40,u8v b41,u8v b42,u8v b43,u8v b44,u8v b45,u8v b46,u8v b47,u8v b48,u8v b49,u8v b50,u8v b51,u8v b52,u8v b53,u8v b54,u8v b55,u8v b56,u8v b57,u8v b58,u8v b59,u8v b60,u8v b61,u8v b62,u8v b63])])⟩)=Ztq (nv+4) [Qa7 h0,Qa7 h1,Qa7 h2,Qa7 h3,Qa7 h4,Qa7 h5,Qa7 h6,Qa7 h7,Qa7 1779033703,Qa7 3144134277,Qa7 1013904242,Qa7 2773480762,.int .u32 (Q6y (.ofNat 1359893119) (Y6t count)),.int .u32 (Q6y (.ofNat 2600822924) (IntKind.wrap .u32 (Int.fdiv (.ofNat count) (2 ^ 32)))),.int .u32 (.ofNat 528734635),Qa7 1541459225] (Ztq (nv+3) [.int .u32 (Xgl b0 b1 b2 b3),.int .u32 (Xgl b4 b5 b6 b7),.int .u32 (Xgl b8 b9 b10 b11),.int .u32 (Xgl b12 b13 b14 b15),.int .u32 (Xgl b16 b17 b18 b19),.int .u32 (Xgl b20 b21 b22 b23),.int .u32 (Xgl b24 b25 b26 b27),.int .u32 (Xgl b28 b29 b30 b31),.int .u32 (Xgl b32 b33 b34 b35),.int .u32 (Xgl b36 b37 b38 b39),.int .u32 (Xgl b40 b41 b42 b43),.int .u32 (Xgl b44 b45 b46 b47),.int .u32 (Xgl b48 b49 b50 b51),.int .u32 (Xgl b52 b53 b54 b55),.int .u32 (Xgl b56 b57 b58 b59),.int .u32 (Xgl b60 b61 b62 b63)] (Q0z Tryz.prog (mkE Tryz.prog nv b) (Qkx Tryz.prog (mkE Tryz.prog nv b) Q6z 100 3) none 100 (Z6d 8 Zvf) ⟨Qv Zs6 [.agg ⟨[Qa7 h0,Qa7 h1,Qa7 h2,Qa7 h3,Qa7 h4,Qa7 h5,Qa7 h6,Qa7 h7]⟩,.pointer (some ⟨nv,0,none⟩),.int .u64 (.ofNat count),.bool false],[],(Qhf nv Qjp false [(1,[u8v b0,u8v b1,u8v b2,u8v b3,u8v b4,u8v b5,u8v b6,u8v b7,u8v b8,u8v b9,u8v b10,u8v b11,u8v b12,u8v b13,u8v b14,u8v b15,u8v b16,u8v b17,u8v b18,u8v b19,u8v b20,u8v b21,u8v b22,u8v b23,u8v b24,u8v b25,u8v b26,u8v b27,u8v b28,u8v b29,u8v b30,u8v b31,u8v b32,u8v b33,u8v b34,u8v b35,u8v b36,u8v b37,u8v b38,u8v b39,u8v b40,u8v b41,u8v b42,u8v b43,u8v b44,u8v b45,u8v b46,u8v b47,u8v b48,u8v b49,u8v b50,u8v b51,u8v b52,u8v b53,u8v b54,u8v b55,u8v b56,u8v b57,u8v b58,u8v b59,u8v b60,u8v b61,u8v b62,u8v b63])])⟩)):=by kernel_rfl
theorem Zdp :
  Z4e ((Qkx Tryz.prog (mkE Tryz.prog nv b) Q6z 100 4).fn 50 [.agg ⟨[Qa7 h0,Qa7 h1,Qa7 h2,Qa7 h3,Qa7 h4,Qa7 h5,Qa7 h6,Qa7 h7]⟩,.pointer (some ⟨nv,0,none⟩),.int .u64 (.ofNat count),.bool false] (Qhf nv Qjp false [(1,[u8v b0,u8v b1,u8v b2,u8v b3,u8v b4,u8v b5,u8v b6,u8v b7,u8v b8,u8v b9,u8v b10,u8v b11,u8v b12,u8v b13,u8v b14,u8v b15,u8v b16,u8v b17,u8v b18,u8v b19,u8v b20,u8v b21,u8v b22,u8v b23,u8v b24,u8v b25,u8v b26,u8v b27,u8v b28,u8v b29,u8v b30,u8v b31,u8v b32,u8v b33,u8v b34,u8v b35,u8v b36,u8v b37,u8v b38,u8v b39,u8v b40,u8v b41,u8v b42,u8v b43,u8v b44,u8v b45,u8v b46,u8v b47,u8v b48,u8v b49,u8v b50,u8v b51,u8v b52,u8v b53,u8v b54,u8v b55,u8v b56,u8v b57,u8v b58,u8v b59,u8v b60,u8v b61,u8v b62,u8v b63])])) =
   ob (Z0s h0 h1 h2 h3 h4 h5 h6 h7 (Bl.xr 1359893119 (Bl.w32 count)) (Bl.xr 2600822924 (Bl.w32 (Nat.div count 4294967296))) 528734635 (Bl.le4 b0 b1 b2 b3) (Bl.le4 b4 b5 b6 b7) (Bl.le4 b8 b9 b10 b11) (Bl.le4 b12 b13 b14 b15) (Bl.le4 b16 b17 b18 b19) (Bl.le4 b20 b21 b22 b23) (Bl.le4 b24 b25 b26 b27) (Bl.le4 b28 b29 b30 b31) (Bl.le4 b32 b33 b34 b35) (Bl.le4 b36 b37 b38 b39) (Bl.le4 b40 b41 b42 b43) (Bl.le4 b44 b45 b46 b47) (Bl.le4 b48 b49 b50 b51) (Bl.le4 b52 b53 b54 b55) (Bl.le4 b56 b57 b58 b59) (Bl.le4 b60 b61 b62 b63)) (Jcx h0 h1 h2 h3 h4 h5 h6 h7):=by
 have e12:Value.int .u32 (Q6y (.ofNat 1359893119) (Y6t count))=Qa7 (Bl.xr 1359893119 (Bl.w32 count)):=by rw[Yoj,Qw2];rfl
 have e13:Value.int .u32 (Q6y (.ofNat 2600822924) (IntKind.wrap .u32 (Int.fdiv (.ofNat count) (2 ^ 32))))=Qa7 (Bl.xr 2600822924 (Bl.w32 (Nat.div count 4294967296))):=by rw[Zum,Qh0];exact congrArg (Value.int .u32) (Qw2 _ _)
 have e14:Value.int .u32 (.ofNat 528734635)=Qa7 528734635:=by first | rfl | (rw[Qw2];rfl)
 rw[Ztj (n0:=8) (F:=Zs6) (c:=Zvf) (by kernel_rfl) (by kernel_rfl) (by kernel_rfl) (by kernel_rfl) (by kernel_rfl),Yyh,e12,e13,e14]
 simp only[Zuc]
 show _=_
 kernel_rfl
theorem Zyj{A:Type}(a b c d x y:Nat)(K:Nat->Nat->Nat->Nat->Option (List Nat))(f:List Nat->Option A):ob (Bl.stir a b c d x y K) f=Bl.stir a b c d x y (fun a b c d=>ob (K a b c d) f):=rfl
section
variable(p0 p1 p2 p3 p4 p5 p6 p7 p8 p9 p10 p11 p12 p13 p14 p15 x y:Nat)
theorem Jb4:Q2w [0,4,8,12] [p0,p1,p2,p3,p4,p5,p6,p7,p8,p9,p10,p11,p12,p13,p14,p15] x y=Bl.stir p0 p4 p8 p12 x y fun p0 p4 p8 p12=>some [p0,p1,p2,p3,p4,p5,p6,p7,p8,p9,p10,p11,p12,p13,p14,p15]:=rfl
theorem Jap:Q2w [1,5,9,13] [p0,p1,p2,p3,p4,p5,p6,p7,p8,p9,p10,p11,p12,p13,p14,p15] x y=Bl.stir p1 p5 p9 p13 x y fun p1 p5 p9 p13=>some [p0,p1,p2,p3,p4,p5,p6,p7,p8,p9,p10,p11,p12,p13,p14,p15]:=rfl
theorem Ja1:Q2w [2,6,10,14] [p0,p1,p2,p3,p4,p5,p6,p7,p8,p9,p10,p11,p12,p13,p14,p15] x y=Bl.stir p2 p6 p10 p14 x y fun p2 p6 p10 p14=>some [p0,p1,p2,p3,p4,p5,p6,p7,p8,p9,p10,p11,p12,p13,p14,p15]:=rfl
theorem Jad:Q2w [3,7,11,15] [p0,p1,p2,p3,p4,p5,p6,p7,p8,p9,p10,p11,p12,p13,p14,p15] x y=Bl.stir p3 p7 p11 p15 x y fun p3 p7 p11 p15=>some [p0,p1,p2,p3,p4,p5,p6,p7,p8,p9,p10,p11,p12,p13,p14,p15]:=rfl
theorem Jbs:Q2w [0,5,10,15] [p0,p1,p2,p3,p4,p5,p6,p7,p8,p9,p10,p11,p12,p13,p14,p15] x y=Bl.stir p0 p5 p10 p15 x y fun p0 p5 p10 p15=>some [p0,p1,p2,p3,p4,p5,p6,p7,p8,p9,p10,p11,p12,p13,p14,p15]:=rfl
theorem Jbi:Q2w [1,6,11,12] [p0,p1,p2,p3,p4,p5,p6,p7,p8,p9,p10,p11,p12,p13,p14,p15] x y=Bl.stir p1 p6 p11 p12 x y fun p1 p6 p11 p12=>some [p0,p1,p2,p3,p4,p5,p6,p7,p8,p9,p10,p11,p12,p13,p14,p15]:=rfl
theorem Jc7:Q2w [2,7,8,13] [p0,p1,p2,p3,p4,p5,p6,p7,p8,p9,p10,p11,p12,p13,p14,p15] x y=Bl.stir p2 p7 p8 p13 x y fun p2 p7 p8 p13=>some [p0,p1,p2,p3,p4,p5,p6,p7,p8,p9,p10,p11,p12,p13,p14,p15]:=rfl
theorem Jaz:Q2w [3,4,9,14] [p0,p1,p2,p3,p4,p5,p6,p7,p8,p9,p10,p11,p12,p13,p14,p15] x y=Bl.stir p3 p4 p9 p14 x y fun p3 p4 p9 p14=>some [p0,p1,p2,p3,p4,p5,p6,p7,p8,p9,p10,p11,p12,p13,p14,p15]:=rfl
end
theorem Z0y(p0 p1 p2 p3 p4 p5 p6 p7 p8 p9 p10 p11 p12 p13 p14 p15 x0 x1 x2 x3 x4 x5 x6 x7 x8 x9 x10 x11 x12 x13 x14 x15:Nat):Qoq [p0,p1,p2,p3,p4,p5,p6,p7,p8,p9,p10,p11,p12,p13,p14,p15] x0 x1 x2 x3 x4 x5 x6 x7 x8 x9 x10 x11 x12 x13 x14 x15=Bl.round p0 p1 p2 p3 p4 p5 p6 p7 p8 p9 p10 p11 p12 p13 p14 p15 x0 x1 x2 x3 x4 x5 x6 x7 x8 x9 x10 x11 x12 x13 x14 x15 fun p0 p1 p2 p3 p4 p5 p6 p7 p8 p9 p10 p11 p12 p13 p14 p15=>some [p0,p1,p2,p3,p4,p5,p6,p7,p8,p9,p10,p11,p12,p13,p14,p15]:=by
 simp only[Qoq,Bl.round,Zyj,ob_some,Jb4,Jap,Ja1,Jad,Jbs,Jbi,Jc7,Jaz]
theorem Z2y{A:Type}(p0 p1 p2 p3 p4 p5 p6 p7 p8 p9 p10 p11 p12 p13 p14 p15 x0 x1 x2 x3 x4 x5 x6 x7 x8 x9 x10 x11 x12 x13 x14 x15:Nat)(K:Nat->Nat->Nat->Nat->Nat->Nat->Nat->Nat->Nat->Nat->Nat->Nat->Nat->Nat->Nat->Nat->Option (List Nat))(f:List Nat->Option A):ob (Bl.round p0 p1 p2 p3 p4 p5 p6 p7 p8 p9 p10 p11 p12 p13 p14 p15 x0 x1 x2 x3 x4 x5 x6 x7 x8 x9 x10 x11 x12 x13 x14 x15 K) f=Bl.round p0 p1 p2 p3 p4 p5 p6 p7 p8 p9 p10 p11 p12 p13 p14 p15 x0 x1 x2 x3 x4 x5 x6 x7 x8 x9 x10 x11 x12 x13 x14 x15 (fun p0 p1 p2 p3 p4 p5 p6 p7 p8 p9 p10 p11 p12 p13 p14 p15=>ob (K p0 p1 p2 p3 p4 p5 p6 p7 p8 p9 p10 p11 p12 p13 p14 p15) f):=by
 simp only[Bl.round,Zyj]
theorem Z46{A B C:Type}(x:Option A)(g:A->Option B)(f:B->Option C):ob (ob x g) f=ob x (fun a=>ob (g a) f):=by cases x <;> rfl
theorem Zzv{A:Type}(R:Nat->Nat->Nat->Nat->Nat->Nat->Nat->Nat->Nat->Nat->Nat->Nat->Nat->Nat->Nat->Nat->Nat->Nat->Nat->Nat->Nat->Nat->Nat->Nat->Nat->Nat->Nat->Nat->Nat->Nat->Nat->Nat->(Nat->Nat->Nat->Nat->Nat->Nat->Nat->Nat->Nat->Nat->Nat->Nat->Nat->Nat->Nat->Nat->Option A)->Option A)(hR:∀ (p0 p1 p2 p3 p4 p5 p6 p7 p8 p9 p10 p11 p12 p13 p14 p15 x0 x1 x2 x3 x4 x5 x6 x7 x8 x9 x10 x11 x12 x13 x14 x15:Nat) (f:List Nat->Option A),ob (Qoq [p0,p1,p2,p3,p4,p5,p6,p7,p8,p9,p10,p11,p12,p13,p14,p15] x0 x1 x2 x3 x4 x5 x6 x7 x8 x9 x10 x11 x12 x13 x14 x15) f=R p0 p1 p2 p3 p4 p5 p6 p7 p8 p9 p10 p11 p12 p13 p14 p15 x0 x1 x2 x3 x4 x5 x6 x7 x8 x9 x10 x11 x12 x13 x14 x15 fun p0 p1 p2 p3 p4 p5 p6 p7 p8 p9 p10 p11 p12 p13 p14 p15=>f [p0,p1,p2,p3,p4,p5,p6,p7,p8,p9,p10,p11,p12,p13,p14,p15])
  (h0 h1 h2 h3 h4 h5 h6 h7 p12 p13 p14 m0 m1 m2 m3 m4 m5 m6 m7 m8 m9 m10 m11 m12 m13 m14 m15:Nat) (f:List Nat->Option A):ob (Z0s h0 h1 h2 h3 h4 h5 h6 h7 p12 p13 p14 m0 m1 m2 m3 m4 m5 m6 m7 m8 m9 m10 m11 m12 m13 m14 m15) f =
  R h0 h1 h2 h3 h4 h5 h6 h7 1779033703 3144134277 1013904242 2773480762 p12 p13 p14 1541459225 m0 m1 m2 m3 m4 m5 m6 m7 m8 m9 m10 m11 m12 m13 m14 m15 fun p0 p1 p2 p3 p4 p5 p6 p7 p8 p9 p10 p11 p12 p13 p14 p15 =>
  R p0 p1 p2 p3 p4 p5 p6 p7 p8 p9 p10 p11 p12 p13 p14 p15 m14 m10 m4 m8 m9 m15 m13 m6 m1 m12 m0 m2 m11 m7 m5 m3 fun p0 p1 p2 p3 p4 p5 p6 p7 p8 p9 p10 p11 p12 p13 p14 p15 =>
  R p0 p1 p2 p3 p4 p5 p6 p7 p8 p9 p10 p11 p12 p13 p14 p15 m11 m8 m12 m0 m5 m2 m15 m13 m10 m14 m3 m6 m7 m1 m9 m4 fun p0 p1 p2 p3 p4 p5 p6 p7 p8 p9 p10 p11 p12 p13 p14 p15 =>
  R p0 p1 p2 p3 p4 p5 p6 p7 p8 p9 p10 p11 p12 p13 p14 p15 m7 m9 m3 m1 m13 m12 m11 m14 m2 m6 m5 m10 m4 m0 m15 m8 fun p0 p1 p2 p3 p4 p5 p6 p7 p8 p9 p10 p11 p12 p13 p14 p15 =>
  R p0 p1 p2 p3 p4 p5 p6 p7 p8 p9 p10 p11 p12 p13 p14 p15 m9 m0 m5 m7 m2 m4 m10 m15 m14 m1 m11 m12 m6 m8 m3 m13 fun p0 p1 p2 p3 p4 p5 p6 p7 p8 p9 p10 p11 p12 p13 p14 p15 =>
  R p0 p1 p2 p3 p4 p5 p6 p7 p8 p9 p10 p11 p12 p13 p14 p15 m2 m12 m6 m10 m0 m11 m8 m3 m4 m13 m7 m5 m15 m14 m1 m9 fun p0 p1 p2 p3 p4 p5 p6 p7 p8 p9 p10 p11 p12 p13 p14 p15 =>
  R p0 p1 p2 p3 p4 p5 p6 p7 p8 p9 p10 p11 p12 p13 p14 p15 m12 m5 m1 m15 m14 m13 m4 m10 m0 m7 m6 m3 m9 m2 m8 m11 fun p0 p1 p2 p3 p4 p5 p6 p7 p8 p9 p10 p11 p12 p13 p14 p15 =>
  R p0 p1 p2 p3 p4 p5 p6 p7 p8 p9 p10 p11 p12 p13 p14 p15 m13 m11 m7 m14 m12 m1 m3 m9 m5 m0 m15 m4 m8 m6 m2 m10 fun p0 p1 p2 p3 p4 p5 p6 p7 p8 p9 p10 p11 p12 p13 p14 p15 =>
  R p0 p1 p2 p3 p4 p5 p6 p7 p8 p9 p10 p11 p12 p13 p14 p15 m6 m15 m14 m9 m11 m3 m0 m8 m12 m2 m13 m7 m1 m4 m10 m5 fun p0 p1 p2 p3 p4 p5 p6 p7 p8 p9 p10 p11 p12 p13 p14 p15 =>
  R p0 p1 p2 p3 p4 p5 p6 p7 p8 p9 p10 p11 p12 p13 p14 p15 m10 m2 m8 m4 m7 m6 m1 m5 m15 m11 m9 m14 m3 m12 m13 m0 fun p0 p1 p2 p3 p4 p5 p6 p7 p8 p9 p10 p11 p12 p13 p14 p15 =>
  f [p0,p1,p2,p3,p4,p5,p6,p7,p8,p9,p10,p11,p12,p13,p14,p15]:=by
 simp only[Z0s,Z46,hR]
theorem Zu1(h0 h1 h2 h3 h4 h5 h6 h7 p12 p13 p14 m0 m1 m2 m3 m4 m5 m6 m7 m8 m9 m10 m11 m12 m13 m14 m15:Nat){A:Type}(f:List Nat->Option A):ob (Z0s h0 h1 h2 h3 h4 h5 h6 h7 p12 p13 p14 m0 m1 m2 m3 m4 m5 m6 m7 m8 m9 m10 m11 m12 m13 m14 m15) f=Bl.rounds h0 h1 h2 h3 h4 h5 h6 h7 1779033703 3144134277 1013904242 2773480762 p12 p13 p14 1541459225 m0 m1 m2 m3 m4 m5 m6 m7 m8 m9 m10 m11 m12 m13 m14 m15 fun p0 p1 p2 p3 p4 p5 p6 p7 p8 p9 p10 p11 p12 p13 p14 p15=>f [p0,p1,p2,p3,p4,p5,p6,p7,p8,p9,p10,p11,p12,p13,p14,p15]:=by
 unfold Bl.rounds
 exact Zzv (fun p0 p1 p2 p3 p4 p5 p6 p7 p8 p9 p10 p11 p12 p13 p14 p15 x0 x1 x2 x3 x4 x5 x6 x7 x8 x9 x10 x11 x12 x13 x14 x15 K=>Bl.round p0 p1 p2 p3 p4 p5 p6 p7 p8 p9 p10 p11 p12 p13 p14 p15 x0 x1 x2 x3 x4 x5 x6 x7 x8 x9 x10 x11 x12 x13 x14 x15 K) (fun p0 p1 p2 p3 p4 p5 p6 p7 p8 p9 p10 p11 p12 p13 p14 p15 x0 x1 x2 x3 x4 x5 x6 x7 x8 x9 x10 x11 x12 x13 x14 x15 f=>by rw[Z0y,Z2y];rfl) _ _ _ _ _ _ _ _ _ _ _ _ _ _ _ _ _ _ _ _ _ _ _ _ _ _ _ f
theorem Z05(h0 h1 h2 h3 h4 h5 h6 h7 p0 p1 p2 p3 p4 p5 p6 p7 p8 p9 p10 p11 p12 p13 p14 p15:Nat):Jcx h0 h1 h2 h3 h4 h5 h6 h7 [p0,p1,p2,p3,p4,p5,p6,p7,p8,p9,p10,p11,p12,p13,p14,p15]=some (p8v ⟨Bl.xr h0 (Bl.xr p0 p8),Bl.xr h1 (Bl.xr p1 p9),Bl.xr h2 (Bl.xr p2 p10),Bl.xr h3 (Bl.xr p3 p11),Bl.xr h4 (Bl.xr p4 p12),Bl.xr h5 (Bl.xr p5 p13),Bl.xr h6 (Bl.xr p6 p14),Bl.xr h7 (Bl.xr p7 p15)⟩):=by
 simp only[Jcx,Qw2,p8v,Qa7]
theorem Z15{A B:Type}(f:A->B)(a b c d x y:Nat)(K:Nat->Nat->Nat->Nat->A):f (Bl.stir a b c d x y K)=Bl.stir a b c d x y (fun a b c d=>f (K a b c d)):=rfl
theorem Zvv{A B:Type}(f:A->B)(p0 p1 p2 p3 p4 p5 p6 p7 p8 p9 p10 p11 p12 p13 p14 p15 x0 x1 x2 x3 x4 x5 x6 x7 x8 x9 x10 x11 x12 x13 x14 x15:Nat)(K:Nat->Nat->Nat->Nat->Nat->Nat->Nat->Nat->Nat->Nat->Nat->Nat->Nat->Nat->Nat->Nat->A):f (Bl.round p0 p1 p2 p3 p4 p5 p6 p7 p8 p9 p10 p11 p12 p13 p14 p15 x0 x1 x2 x3 x4 x5 x6 x7 x8 x9 x10 x11 x12 x13 x14 x15 K)=Bl.round p0 p1 p2 p3 p4 p5 p6 p7 p8 p9 p10 p11 p12 p13 p14 p15 x0 x1 x2 x3 x4 x5 x6 x7 x8 x9 x10 x11 x12 x13 x14 x15 (fun p0 p1 p2 p3 p4 p5 p6 p7 p8 p9 p10 p11 p12 p13 p14 p15=>f (K p0 p1 p2 p3 p4 p5 p6 p7 p8 p9 p10 p11 p12 p13 p14 p15)):=by
 simp only[Bl.round,Z15 f]
theorem Ypd{A B:Type}(f:A->B)(p0 p1 p2 p3 p4 p5 p6 p7 p8 p9 p10 p11 p12 p13 p14 p15 m0 m1 m2 m3 m4 m5 m6 m7 m8 m9 m10 m11 m12 m13 m14 m15:Nat)(K:Nat->Nat->Nat->Nat->Nat->Nat->Nat->Nat->Nat->Nat->Nat->Nat->Nat->Nat->Nat->Nat->A):f (Bl.rounds p0 p1 p2 p3 p4 p5 p6 p7 p8 p9 p10 p11 p12 p13 p14 p15 m0 m1 m2 m3 m4 m5 m6 m7 m8 m9 m10 m11 m12 m13 m14 m15 K)=Bl.rounds p0 p1 p2 p3 p4 p5 p6 p7 p8 p9 p10 p11 p12 p13 p14 p15 m0 m1 m2 m3 m4 m5 m6 m7 m8 m9 m10 m11 m12 m13 m14 m15 (fun p0 p1 p2 p3 p4 p5 p6 p7 p8 p9 p10 p11 p12 p13 p14 p15=>f (K p0 p1 p2 p3 p4 p5 p6 p7 p8 p9 p10 p11 p12 p13 p14 p15)):=by
 simp only[Bl.rounds,Zvv f]
theorem Zok :
  Z4e ((Qkx Tryz.prog (mkE Tryz.prog nv b) Q6z 100 4).fn 50 [.agg ⟨[Qa7 h0,Qa7 h1,Qa7 h2,Qa7 h3,Qa7 h4,Qa7 h5,Qa7 h6,Qa7 h7]⟩,.pointer (some ⟨nv,0,none⟩),.int .u64 (.ofNat count),.bool true] (Qhf nv Qjp false [(1,[u8v b0,u8v b1,u8v b2,u8v b3,u8v b4,u8v b5,u8v b6,u8v b7,u8v b8,u8v b9,u8v b10,u8v b11,u8v b12,u8v b13,u8v b14,u8v b15,u8v b16,u8v b17,u8v b18,u8v b19,u8v b20,u8v b21,u8v b22,u8v b23,u8v b24,u8v b25,u8v b26,u8v b27,u8v b28,u8v b29,u8v b30,u8v b31,u8v b32,u8v b33,u8v b34,u8v b35,u8v b36,u8v b37,u8v b38,u8v b39,u8v b40,u8v b41,u8v b42,u8v b43,u8v b44,u8v b45,u8v b46,u8v b47,u8v b48,u8v b49,u8v b50,u8v b51,u8v b52,u8v b53,u8v b54,u8v b55,u8v b56,u8v b57,u8v b58,u8v b59,u8v b60,u8v b61,u8v b62,u8v b63])])) =
   some (p8v (Bl.take ⟨h0,h1,h2,h3,h4,h5,h6,h7⟩ [b0,b1,b2,b3,b4,b5,b6,b7,b8,b9,b10,b11,b12,b13,b14,b15,b16,b17,b18,b19,b20,b21,b22,b23,b24,b25,b26,b27,b28,b29,b30,b31,b32,b33,b34,b35,b36,b37,b38,b39,b40,b41,b42,b43,b44,b45,b46,b47,b48,b49,b50,b51,b52,b53,b54,b55,b56,b57,b58,b59,b60,b61,b62,b63] count true)):=by
 rw[Zh2,Zu1]
 simp only[Z05,Bl.take,Bl.words,Bl.nx]
 exact(Ypd (fun x=>some (p8v x)) _ _ _ _ _ _ _ _ _ _ _ _ _ _ _ _ _ _ _ _ _ _ _ _ _ _ _ _ _ _ _ _ _).symm
theorem Zk8 :
  Z4e ((Qkx Tryz.prog (mkE Tryz.prog nv b) Q6z 100 4).fn 50 [.agg ⟨[Qa7 h0,Qa7 h1,Qa7 h2,Qa7 h3,Qa7 h4,Qa7 h5,Qa7 h6,Qa7 h7]⟩,.pointer (some ⟨nv,0,none⟩),.int .u64 (.ofNat count),.bool false] (Qhf nv Qjp false [(1,[u8v b0,u8v b1,u8v b2,u8v b3,u8v b4,u8v b5,u8v b6,u8v b7,u8v b8,u8v b9,u8v b10,u8v b11,u8v b12,u8v b13,u8v b14,u8v b15,u8v b16,u8v b17,u8v b18,u8v b19,u8v b20,u8v b21,u8v b22,u8v b23,u8v b24,u8v b25,u8v b26,u8v b27,u8v b28,u8v b29,u8v b30,u8v b31,u8v b32,u8v b33,u8v b34,u8v b35,u8v b36,u8v b37,u8v b38,u8v b39,u8v b40,u8v b41,u8v b42,u8v b43,u8v b44,u8v b45,u8v b46,u8v b47,u8v b48,u8v b49,u8v b50,u8v b51,u8v b52,u8v b53,u8v b54,u8v b55,u8v b56,u8v b57,u8v b58,u8v b59,u8v b60,u8v b61,u8v b62,u8v b63])])) =
   some (p8v (Bl.take ⟨h0,h1,h2,h3,h4,h5,h6,h7⟩ [b0,b1,b2,b3,b4,b5,b6,b7,b8,b9,b10,b11,b12,b13,b14,b15,b16,b17,b18,b19,b20,b21,b22,b23,b24,b25,b26,b27,b28,b29,b30,b31,b32,b33,b34,b35,b36,b37,b38,b39,b40,b41,b42,b43,b44,b45,b46,b47,b48,b49,b50,b51,b52,b53,b54,b55,b56,b57,b58,b59,b60,b61,b62,b63] count false)):=by
 rw[Zdp,Zu1]
 simp only[Z05,Bl.take,Bl.words,Bl.nx]
 exact(Ypd (fun x=>some (p8v x)) _ _ _ _ _ _ _ _ _ _ _ _ _ _ _ _ _ _ _ _ _ _ _ _ _ _ _ _ _ _ _ _ _).symm
theorem Jdp{l0:List Nat}(h0:l0.length=64):∃ b0 b1 b2 b3 b4 b5 b6 b7 b8 b9 b10 b11 b12 b13 b14 b15 b16 b17 b18 b19 b20 b21 b22 b23 b24 b25 b26 b27 b28 b29 b30 b31 b32 b33 b34 b35 b36 b37 b38 b39 b40 b41 b42 b43 b44 b45 b46 b47 b48 b49 b50 b51 b52 b53 b54 b55 b56 b57 b58 b59 b60 b61 b62 b63,l0=[b0,b1,b2,b3,b4,b5,b6,b7,b8,b9,b10,b11,b12,b13,b14,b15,b16,b17,b18,b19,b20,b21,b22,b23,b24,b25,b26,b27,b28,b29,b30,b31,b32,b33,b34,b35,b36,b37,b38,b39,b40,b41,b42,b43,b44,b45,b46,b47,b48,b49,b50,b51,b52,b53,b54,b55,b56,b57,b58,b59,b60,b61,b62,b63]:=by
 obtain⟨b0,l1,rfl,h1⟩:=Zj h0
 obtain⟨b1,l2,rfl,h2⟩:=Zj h1
 obtain⟨b2,l3,rfl,h3⟩:=Zj h2
 obtain⟨b3,l4,rfl,h4⟩:=Zj h3
 obtain⟨b4,l5,rfl,h5⟩:=Zj h4
 obtain⟨b5,l6,rfl,h6⟩:=Zj h5
 obtain⟨b6,l7,rfl,h7⟩:=Zj h6
 obtain⟨b7,l8,rfl,h8⟩:=Zj h7
 obtain⟨b8,l9,rfl,h9⟩:=Zj h8
 obtain⟨b9,l10,rfl,h10⟩:=Zj h9
 obtain⟨b10,l11,rfl,h11⟩:=Zj h10
 obtain⟨b11,l12,rfl,h12⟩:=Zj h11
 obtain⟨b12,l13,rfl,h13⟩:=Zj h12
 obtain⟨b13,l14,rfl,h14⟩:=Zj h13
 obtain⟨b14,l15,rfl,h15⟩:=Zj h14
 obtain⟨b15,l16,rfl,h16⟩:=Zj h15
 obtain⟨b16,l17,rfl,h17⟩:=Zj h16
 obtain⟨b17,l18,rfl,h18⟩:=Zj h17
 obtain⟨b18,l19,rfl,h19⟩:=Zj h18
 obtain⟨b19,l20,rfl,h20⟩:=Zj h19
 obtain⟨b20,l21,rfl,h21⟩:=Zj h20
 obtain⟨b21,l22,rfl,h22⟩:=Zj h21
 obtain⟨b22,l23,rfl,h23⟩:=Zj h22
 obtain⟨b23,l24,rfl,h24⟩:=Zj h23
 obtain⟨b24,l25,rfl,h25⟩:=Zj h24
 obtain⟨b25,l26,rfl,h26⟩:=Zj h25
 obtain⟨b26,l27,rfl,h27⟩:=Zj h26
 obtain⟨b27,l28,rfl,h28⟩:=Zj h27
 obtain⟨b28,l29,rfl,h29⟩:=Zj h28
 obtain⟨b29,l30,rfl,h30⟩:=Zj h29
 obtain⟨b30,l31,rfl,h31⟩:=Zj h30
 obtain⟨b31,l32,rfl,h32⟩:=Zj h31
 obtain⟨b32,l33,rfl,h33⟩:=Zj h32
 obtain⟨b33,l34,rfl,h34⟩:=Zj h33
 obtain⟨b34,l35,rfl,h35⟩:=Zj h34
 obtain⟨b35,l36,rfl,h36⟩:=Zj h35
 obtain⟨b36,l37,rfl,h37⟩:=Zj h36
 obtain⟨b37,l38,rfl,h38⟩:=Zj h37
 obtain⟨b38,l39,rfl,h39⟩:=Zj h38
 obtain⟨b39,l40,rfl,h40⟩:=Zj h39
 obtain⟨b40,l41,rfl,h41⟩:=Zj h40
 obtain⟨b41,l42,rfl,h42⟩:=Zj h41
 obtain⟨b42,l43,rfl,h43⟩:=Zj h42
 obtain⟨b43,l44,rfl,h44⟩:=Zj h43
 obtain⟨b44,l45,rfl,h45⟩:=Zj h44
 obtain⟨b45,l46,rfl,h46⟩:=Zj h45
 obtain⟨b46,l47,rfl,h47⟩:=Zj h46
 obtain⟨b47,l48,rfl,h48⟩:=Zj h47
 obtain⟨b48,l49,rfl,h49⟩:=Zj h48
 obtain⟨b49,l50,rfl,h50⟩:=Zj h49
 obtain⟨b50,l51,rfl,h51⟩:=Zj h50
 obtain⟨b51,l52,rfl,h52⟩:=Zj h51
 obtain⟨b52,l53,rfl,h53⟩:=Zj h52
 obtain⟨b53,l54,rfl,h54⟩:=Zj h53
 obtain⟨b54,l55,rfl,h55⟩:=Zj h54
 obtain⟨b55,l56,rfl,h56⟩:=Zj h55
 obtain⟨b56,l57,rfl,h57⟩:=Zj h56
 obtain⟨b57,l58,rfl,h58⟩:=Zj h57
 obtain⟨b58,l59,rfl,h59⟩:=Zj h58
 obtain⟨b59,l60,rfl,h60⟩:=Zj h59
 obtain⟨b60,l61,rfl,h61⟩:=Zj h60
 obtain⟨b61,l62,rfl,h62⟩:=Zj h61
 obtain⟨b62,l63,rfl,h63⟩:=Zj h62
 obtain⟨b63,l64,rfl,h64⟩:=Zj h63
 have e:=List.eq_nil_of_length_eq_zero h64
 subst e
 exact⟨_,_,_,_,_,_,_,_,_,_,_,_,_,_,_,_,_,_,_,_,_,_,_,_,_,_,_,_,_,_,_,_,_,_,_,_,_,_,_,_,_,_,_,_,_,_,_,_,_,_,_,_,_,_,_,_,_,_,_,_,_,_,_,_,rfl⟩
theorem Z5w(b:Nat)(h0 h1 h2 h3 h4 h5 h6 h7 count:Nat)(l:List Nat)(hl:l.length=64)(last:Bool) :
  Z4e ((Qkx Tryz.prog (mkE Tryz.prog nv b) Q6z 100 4).fn 50 [.agg ⟨[Qa7 h0,Qa7 h1,Qa7 h2,Qa7 h3,Qa7 h4,Qa7 h5,Qa7 h6,Qa7 h7]⟩,.pointer (some ⟨nv,0,none⟩),.int .u64 (.ofNat count),.bool last] (Qhf nv Qjp false [(1,l.map u8v)])) =
   some (p8v (Bl.take ⟨h0,h1,h2,h3,h4,h5,h6,h7⟩ l count last)):=by
 obtain⟨b0,b1,b2,b3,b4,b5,b6,b7,b8,b9,b10,b11,b12,b13,b14,b15,b16,b17,b18,b19,b20,b21,b22,b23,b24,b25,b26,b27,b28,b29,b30,b31,b32,b33,b34,b35,b36,b37,b38,b39,b40,b41,b42,b43,b44,b45,b46,b47,b48,b49,b50,b51,b52,b53,b54,b55,b56,b57,b58,b59,b60,b61,b62,b63,rfl⟩:=Jdp hl
 cases last with
 | true=>exact Zok b h0 h1 h2 h3 h4 h5 h6 h7 b0 b1 b2 b3 b4 b5 b6 b7 b8 b9 b10 b11 b12 b13 b14 b15 b16 b17 b18 b19 b20 b21 b22 b23 b24 b25 b26 b27 b28 b29 b30 b31 b32 b33 b34 b35 b36 b37 b38 b39 b40 b41 b42 b43 b44 b45 b46 b47 b48 b49 b50 b51 b52 b53 b54 b55 b56 b57 b58 b59 b60 b61 b62 b63 count
 | false=>exact Zk8 b h0 h1 h2 h3 h4 h5 h6 h7 b0 b1 b2 b3 b4 b5 b6 b7 b8 b9 b10 b11 b12 b13 b14 b15 b16 b17 b18 b19 b20 b21 b22 b23 b24 b25 b26 b27 b28 b29 b30 b31 b32 b33 b34 b35 b36 b37 b38 b39 b40 b41 b42 b43 b44 b45 b46 b47 b48 b49 b50 b51 b52 b53 b54 b55 b56 b57 b58 b59 b60 b61 b62 b63 count
def Ze6:Q39:=fun f args h=>bq (Nat.beq f 50) (match args with
 | [.agg ⟨hv⟩,p,.int .u64 (.ofNat count),.bool last]=>ob (Z99 hv) fun hl=>ob (Ymb h p) fun q=>ob (u8s q.2) fun bl=>bq (Nat.beq bl.length 64) (bq (Z0q h Qjp) (ob (Jdq hl) fun h8=>some (.ret (p8v (Bl.take h8 bl count last)),h)) none) none
 | _=>none) none
theorem Zdz:∀ x ∈ Qjp,x.2 ≠ []/\Xiu x.2:=by
 intro x hx
 rcases List.mem_cons.1 hx with rfl | hx
 ·exact⟨by simp[Qfv],Qtq (by kernel_rfl)⟩
 ·rcases List.mem_cons.1 hx with rfl | hx
  ·exact⟨by simp[Q7x],Qtq (by kernel_rfl)⟩
  ·cases hx
theorem Yb9(b:Nat):Qlb Tryz.prog ⟨nv,b⟩ Ze6:=by
 intro f args h r h' hx
 unfold Ze6 at hx
 obtain⟨hf,hx⟩:=Qk1 hx
 have hf:=Nat.eq_of_beq_eq_true hf
 subst hf
 split at hx
 ·rename_i hv p count last hq
  obtain⟨hl,h1,hx⟩:=Ua hx
  obtain⟨⟨blk,cs⟩,h2,hx⟩:=Ua hx
  obtain⟨bl,h3,hx⟩:=Ua hx
  obtain⟨h4,hx⟩:=Qk1 hx
  obtain⟨h5,hx⟩:=Qk1 hx
  obtain⟨h8,h6,hx⟩:=Ua hx
  cases hx
  have e1:=Ydw h1
  subst e1
  have e0:Value.agg {toList:=List.map Qa7 hl}=p8v h8:=Z7v h6
  obtain⟨rfl,hg⟩:=Q17 h2
  have e2:=Zyq h3
  simp only at e2 hg
  subst e2
  rw[e0]
  refine X3e (k:=100) (m:=4) Vv Zjf Y32 (fun b=>Z5w b h8.h0 h8.h1 h8.h2 h8.h3 h8.h4 h8.h5 h8.h6 h8.h7 count bl (Nat.eq_of_beq_eq_true h4) last) rfl (Ybk h5) Zdz (bs:=[blk]) rfl (by simp) (fun k d r hd hr => ?_)
   (Qb5 (Qhh rfl) (Qb5 (Y6d _ _) (Qb5 (Qhh rfl) (Qb5 (Qhh rfl) Qvg))))
  cases k with
  | zero=>simp at hd hr;subst hd;subst hr;exact⟨hg,Ybh _⟩
  | succ k=>simp at hd
 ·cases hx
theorem Xrp:Qr8 Ze6:=by
 intro f args h r h' hx
 unfold Ze6 at hx
 obtain⟨hf,hx⟩:=Qk1 hx
 split at hx
 ·obtain⟨hl,h1,hx⟩:=Ua hx
  obtain⟨⟨blk,cs⟩,h2,hx⟩:=Ua hx
  obtain⟨bl,h3,hx⟩:=Ua hx
  obtain⟨h4,hx⟩:=Qk1 hx
  obtain⟨h5,hx⟩:=Qk1 hx
  obtain⟨h8,h6,hx⟩:=Ua hx
  cases hx;exact LowOK.refl _
 ·cases hx
def Qt6:List Value:=[.int .u8 253,.int .i64 2,.int .u64 253,.int .u8 254,.int .i64 4,.int .u64 65536,.int .u8 255,.int .i64 8,.int .u64 4294967296]
def laidAll:List (Nat × List Value):=[(0,Qfv),(1,Qt6),(2,Q7x)]
def Qa8(seed:List Nat):Nat->Nat->List Nat
 | 0,_=>[]
 | n+1,i=>Bl.keyed seed [i]++Qa8 seed n (Nat.succ i)
theorem Y2w:∀ x ∈ laidAll,x.2 ≠ []/\Xiu x.2:=by
 intro x hx
 rcases List.mem_cons.1 hx with rfl | hx
 ·exact⟨by simp[Qfv],Qtq (by kernel_rfl)⟩
 ·rcases List.mem_cons.1 hx with rfl | hx
  ·exact⟨by simp[Qt6],Qtq (by kernel_rfl)⟩
  ·rcases List.mem_cons.1 hx with rfl | hx
   ·exact⟨by simp[Q7x],Qtq (by kernel_rfl)⟩
   ·cases hx
def Xga:List Nat:=[107,101,121,115]
def Y4i:List Nat:=Qa8 Xga 32 1
theorem Zv9(b:Nat):Ztf (nv+([(1,Xga.map u8v)]:List (Nat × List Value)).length) ((Qkx Tryz.prog (mkE Tryz.prog nv b) Ze6 10000 8).fn 5 [.slice (some ⟨nv,0,none⟩) 4 4] (Qhf nv laidAll false [(1,Xga.map u8v)]))=some (Y4i.map u8v):=by kernel_rfl
def Xs0:Q39:=fun f args h=>bq (Nat.beq f 5) (match args with
 | [.slice (some ⟨blk,0,none⟩) 4 4]=>ob (Ymb h (.pointer (some ⟨blk,0,none⟩))) fun q=>ob (u8s q.2) fun bl=>bq (eqN bl Xga) (bq (Z0q h laidAll) (some (.ret (.pointer (some ⟨h.next,0,none⟩)),h.push (.cells true 1 (Y4i.map u8v)))) none) (Ze6 f args h)
 | _=>Ze6 f args h) (Ze6 f args h)
theorem Zpp(b:Nat):Qlb Tryz.prog ⟨nv,b⟩ Xs0:=by
 intro f args h r h' hx
 unfold Xs0 at hx
 cases hf:Nat.beq f 5 with
 | false=>rw[hf]at hx;exact Yb9 b f args h r h' hx
 | true =>
  rw[hf,bq_true]at hx
  have hf:=Nat.eq_of_beq_eq_true hf
  subst hf
  split at hx
  ·rename_i blk
   obtain⟨⟨blk',cs⟩,h2,hx⟩:=Ua hx
   obtain⟨bl,h3,hx⟩:=Ua hx
   cases h4:eqN bl Xga with
   | false=>rw[h4,bq_false]at hx;exact Yb9 b _ _ h r h' hx
   | true =>
    rw[h4,bq_true]at hx
    obtain⟨h1,hx⟩:=Qk1 hx
    cases hx
    obtain⟨e0,hg⟩:=Q17 h2
    cases e0
    have e2:=Zyq h3
    simp only at e2 hg
    have e3:=Xa9 h4
    subst e3
    subst e2
    refine Zzs (k:=10000) (m:=8) Vv Yb9 Xrp Zv9 (Ybh _) (Ybk h1) Y2w (bs:=[blk]) rfl (by simp) (fun k d r hd hr => ?_) (Qb5 (Ziu (by simp[emb])) Qvg)
    cases k with
    | zero=>simp at hd hr;subst hd;subst hr;exact⟨hg,Ybh _⟩
    | succ k=>simp at hd
  ·exact Yb9 b _ _ h r h' hx
theorem Zjb:Qr8 Xs0:=by
 intro f args h r h' hx
 unfold Xs0 at hx
 cases hf:Nat.beq f 5 with
 | false=>rw[hf]at hx;exact Xrp f args h r h' hx
 | true =>
  rw[hf,bq_true]at hx
  split at hx
  ·obtain⟨q,h2,hx⟩:=Ua hx
   obtain⟨bl,h3,hx⟩:=Ua hx
   cases h4:eqN bl Xga with
   | false=>rw[h4,bq_false]at hx;exact Xrp _ _ h r h' hx
   | true =>
    rw[h4,bq_true]at hx
    obtain⟨h1,hx⟩:=Qk1 hx
    cases hx
    exact LowOK.push _ _
  ·exact Xrp _ _ h r h' hx
theorem Ywq(b:Nat):Z4e ((Qkx Tryz.prog (mkE Tryz.prog nv b) Xs0 10000 30).fn 4 [] (Qhf nv laidAll false []))=some (.bool true):=by kernel_rfl
end Go.Proofs.YtgmelhgoiepoaaaGreatDoor
end
