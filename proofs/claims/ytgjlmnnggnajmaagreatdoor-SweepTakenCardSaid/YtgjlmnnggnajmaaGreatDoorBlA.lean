import Derived.Test.YtgjlmnnggnajmaaGreatDoorAbG
import Derived.Test.YtgjlmnnggnajmaaGreatDoorProg
import Derived.Test.YtgjlmnnggnajmaaGreatDoorAbF
set_option linter.all false
noncomputable section
namespace Go.Proofs.YtgjlmnnggnajmaaGreatDoor
open Go Go.Ab
set_option maxRecDepth 100000
def nv:Nat:=3
abbrev E(b:Nat):Env2 Tryz.prog:=mkE Tryz.prog nv b
noncomputable def Zt(f:Nat):Code:=((Tryz.prog.funcs[f]?).bind (·.body)).getD .skip
theorem Uz:Tryz.prog.follows .mixedOrders=true:=by kernel_rfl
def D0(b:Nat):CallF:=Yjq (E b) Zp6 100 0
theorem We(b:Nat):CallsSound Tryz.prog (E b).G (D0 b):=Yt2 (E b) (Zdg _) Ydc Uz 100 0
theorem V7(b:Nat):CallsLow (D0 b):=Yee (E b) Ydc 100 0
def DD(b:Nat):Qov:=Xl0 (E b) (D0 b) 100
theorem Wg(b:Nat):Qth Tryz.prog (E b).G (DD b):=Y0e (E b) (We b) (V7 b) Uz
theorem Ut(b:Nat):Xom (DD b):=Yph (V7 b)
theorem Qoa(h:Heap)(l:List Value):∃ hA,hA=h.push (.cells true 1 l)/\Old h hA/\hA.get h.next=some (.cells true 1 l):=⟨_,rfl,Old.push _ _,by rw[Heap.get_push,if_pos rfl]⟩
theorem Qr2{h hA:Heap}{l:List Value}(e:hA=h.push (.cells true 1 l)):Yz6 (.agg ⟨l⟩) h=some (.pointer (some ⟨h.next,0,none⟩),hA):=by rw[e];rfl
theorem Qkm{h hA:Heap}{x:Blk}(e:hA=h.push x):Old h hA:=by rw[e];exact Old.push _ _
theorem Q4v{h hA:Heap}{x:Blk}(e:hA=h.push x):hA.next=h.next+1:=by rw[e];rfl
abbrev FF(b:Nat):=@Us _ (E b) _ (We b) (V7 b) Uz _ (Wg b) (Ut b)
abbrev KP:=AEnd->Heap->Prop
abbrev FK(b:Nat):=FnK Tryz.prog (E b).G
theorem agW{h:Heap}{bk z k:Nat}{ow:Bool}{c:List Value}(hg:h.get bk=some (.cells ow z c))(hl:0+k<=c.length)(h2:c.length<=k):Qb9 h bk 0 k=some (.agg ⟨c⟩):=by rw[Jx hg hl,List.drop_zero,List.take_of_length_le h2]
theorem zk1{P:KE->Prop}{a:KE}(h:P a):∀ e∈[a],P e:=by simpa using h
theorem zk2{P:KE->Prop}{a c:KE}(h:P a)(h2:P c):∀ e∈[a,c],P e:=by simpa using ⟨h,h2⟩
theorem zk3{P:KE->Prop}{a c d:KE}(h:P a)(h2:P c)(h3:P d):∀ e∈[a,c,d],P e:=by simpa using ⟨h,h2,h3⟩
theorem zk4{P:KE->Prop}{a c d f:KE}(h:P a)(h2:P c)(h3:P d)(h4:P f):∀ e∈[a,c,d,f],P e:=by simpa using ⟨h,h2,h3,h4⟩
end Go.Proofs.YtgjlmnnggnajmaaGreatDoor
end
noncomputable section
namespace Go.Ab
variable{P:Program}{E:Env2 P}{C:CallP}{rd:Option Nat}{D0:CallF}
theorem kNN(F:St->Prop)(K:Exit->St->Prop)(s:St):Ywl F K .normal s=F s:=Eq.trans rfl rfl
theorem kNP(F:St->Prop)(K:Exit->St->Prop)(ch:List PanicEntry)(s:St):Ywl F K (.panic ch) s=K (.panic ch) s:=Eq.trans rfl rfl
theorem kRR(d:Option Tmp)(s:St)(K:Exit->St->Prop)(v:Value)(h:Heap):Zu6 d s K (.ret v) h=K .normal (s.put d v h):=Eq.trans rfl rfl
theorem kRP(d:Option Tmp)(s:St)(K:Exit->St->Prop)(ch:List PanicEntry)(h:Heap):Zu6 d s K (.panic ch) h=K (.panic ch) {s with h:=h}:=Eq.trans rfl rfl
theorem kTN(F:St->Prop)(K:Exit->St->Prop)(s:St):Xsz F K .normal s=F s:=Eq.trans rfl rfl
theorem kTR(F:St->Prop)(K:Exit->St->Prop)(s:St):Xsz F K .ret s=K .ret s:=Eq.trans rfl rfl
theorem kTX(F:St->Prop)(K:Exit->St->Prop)(id:Nat)(s:St):Xsz F K (.exit id) s=K (.exit id) s:=Eq.trans rfl rfl
theorem kTP(F:St->Prop)(K:Exit->St->Prop)(ch:List PanicEntry)(s:St):Xsz F K (.panic ch) s=K (.panic ch) s:=Eq.trans rfl rfl
theorem kBN(id:Nat)(K:Exit->St->Prop)(s:St):Q1d id K .normal s=K .normal s:=Eq.trans rfl rfl
theorem kBR(id:Nat)(K:Exit->St->Prop)(s:St):Q1d id K .ret s=K .ret s:=Eq.trans rfl rfl
theorem kBP(id:Nat)(K:Exit->St->Prop)(ch:List PanicEntry)(s:St):Q1d id K (.panic ch) s=K (.panic ch) s:=Eq.trans rfl rfl
theorem kBX(id id':Nat)(K:Exit->St->Prop)(s:St):Q1d id K (.exit id') s=if id'=id then K .normal s else K (.exit id') s:=Eq.trans rfl rfl
theorem kAM(y:Code)(K:Exit->St->Prop)(t:Tm)(ds:List Deferred)(h:Heap):Zxk E C D0 rd y K ⟨t,ds,h⟩=Wv E C D0 rd y ⟨t,ds,h⟩ K:=Eq.trans rfl rfl
theorem kEN(D:Qov)(fn:Func)(K:AEnd->Heap->Prop)(s:St):Yas E D fn K .normal s=Q56 E D fn K .returning s:=Eq.trans rfl rfl
theorem kER(D:Qov)(fn:Func)(K:AEnd->Heap->Prop)(s:St):Yas E D fn K .ret s=Q56 E D fn K .returning s:=Eq.trans rfl rfl
theorem kON(ops:List Oper)(K:Exit->St->Prop)(t:Tm)(ds:List Deferred)(h:Heap):X45 E C rd ops K [] ⟨t,ds,h⟩=K .normal ⟨t,ds,h⟩:=Eq.trans rfl rfl
theorem kOC(ops:List Oper)(K:Exit->St->Prop)(o:Oper)(r:List Oper)(t:Tm)(ds:List Deferred)(h:Heap):X45 E C rd ops K (o::r) ⟨t,ds,h⟩ =
 (match Qg ops t o with
  | some true=>Z5 E C rd o ⟨t,ds,h⟩ (Ywl (X45 E C rd ops K r) K)
  | some false=>if Qif ⟨t,ds,h⟩ o.dst then X45 E C rd ops K r (St.put ⟨t,ds,h⟩ o.dst Qw h)else False
  | none=>False):=Eq.trans rfl rfl
theorem kCS(s:St)(K:Exit->St->Prop):Wv E C D0 rd .skip s K=K .normal s:=Eq.trans rfl rfl
theorem kCR(s:St)(K:Exit->St->Prop):Wv E C D0 rd .ret s K=K .ret s:=Eq.trans rfl rfl
theorem kCE(id:Nat)(s:St)(K:Exit->St->Prop):Wv E C D0 rd (.exit id) s K=K (.exit id) s:=Eq.trans rfl rfl
end Go.Ab
end
noncomputable section
namespace Go.Proofs.YtgjlmnnggnajmaaGreatDoor
open Go Go.Ab
set_option maxRecDepth 1000000
def Q70(ix l:List Nat)(x y:Nat):Option (List Nat):=match l with
 | [p0,p1,p2,p3,p4,p5,p6,p7,p8,p9,p10,p11,p12,p13,p14,p15] =>
  bq (eqN ix [0,4,8,12]) (some (Bl.stir p0 p4 p8 p12 x y fun p0 p4 p8 p12=>[p0,p1,p2,p3,p4,p5,p6,p7,p8,p9,p10,p11,p12,p13,p14,p15])) <|
  bq (eqN ix [1,5,9,13]) (some (Bl.stir p1 p5 p9 p13 x y fun p1 p5 p9 p13=>[p0,p1,p2,p3,p4,p5,p6,p7,p8,p9,p10,p11,p12,p13,p14,p15])) <|
  bq (eqN ix [2,6,10,14]) (some (Bl.stir p2 p6 p10 p14 x y fun p2 p6 p10 p14=>[p0,p1,p2,p3,p4,p5,p6,p7,p8,p9,p10,p11,p12,p13,p14,p15])) <|
  bq (eqN ix [3,7,11,15]) (some (Bl.stir p3 p7 p11 p15 x y fun p3 p7 p11 p15=>[p0,p1,p2,p3,p4,p5,p6,p7,p8,p9,p10,p11,p12,p13,p14,p15])) <|
  bq (eqN ix [0,5,10,15]) (some (Bl.stir p0 p5 p10 p15 x y fun p0 p5 p10 p15=>[p0,p1,p2,p3,p4,p5,p6,p7,p8,p9,p10,p11,p12,p13,p14,p15])) <|
  bq (eqN ix [1,6,11,12]) (some (Bl.stir p1 p6 p11 p12 x y fun p1 p6 p11 p12=>[p0,p1,p2,p3,p4,p5,p6,p7,p8,p9,p10,p11,p12,p13,p14,p15])) <|
  bq (eqN ix [2,7,8,13]) (some (Bl.stir p2 p7 p8 p13 x y fun p2 p7 p8 p13=>[p0,p1,p2,p3,p4,p5,p6,p7,p8,p9,p10,p11,p12,p13,p14,p15])) <|
  bq (eqN ix [3,4,9,14]) (some (Bl.stir p3 p4 p9 p14 x y fun p3 p4 p9 p14=>[p0,p1,p2,p3,p4,p5,p6,p7,p8,p9,p10,p11,p12,p13,p14,p15])) <|
  none
 | _=>none
def Zkg:Q83:=fun f args h=>bq (Nat.beq f 93) (match args with
 | [p,a,b,c,d,.agg ⟨[.int .u32 (.ofNat x),.int .u32 (.ofNat y)]⟩]=>ob (Yfu h p) fun q=>ob (Ztq q.2) fun l=>ob (Zwi [a,b,c,d]) fun ix=>ob (Q70 ix l x y) fun l'=>some (.ret (.tuple #[]),h.set q.1 (some (.cells true 1 (l'.map Qeq))))
 | _=>none) none
theorem Zk0{a b c d:Value}{ix:List Nat}(h:Zwi [a,b,c,d]=some ix):∃ i j k l,ix=[i,j,k,l]/\a=Y0f i/\b=Y0f j/\c=Y0f k/\d=Y0f l:=by
 have:=Zj6 h
 match ix,this with
 | [i,j,k,l],e=>simp only[List.map_cons,List.map_nil,List.cons.injEq,and_true]at e;exact⟨i,j,k,l,rfl,e.1,e.2.1,e.2.2.1,e.2.2.2⟩
theorem Yrn(n blk:Nat):Ydo (emb n [blk]) (.pointer (some ⟨n,0,none⟩)) (.pointer (some ⟨blk,0,none⟩)):=X3i (by simp[emb])
def L1(l:List Nat):Prop:=∃ p0 p1 p2 p3 p4 p5 p6 p7 p8 p9 p10 p11 p12 p13 p14 p15,l=[p0,p1,p2,p3,p4,p5,p6,p7,p8,p9,p10,p11,p12,p13,p14,p15]
theorem L1.all{l:List Nat}(h:L1 l){P:List Nat->Prop}(k:∀ p0 p1 p2 p3 p4 p5 p6 p7 p8 p9 p10 p11 p12 p13 p14 p15,P [p0,p1,p2,p3,p4,p5,p6,p7,p8,p9,p10,p11,p12,p13,p14,p15]):P l:=by
 obtain⟨p0,p1,p2,p3,p4,p5,p6,p7,p8,p9,p10,p11,p12,p13,p14,p15,rfl⟩:=h
 exact k _ _ _ _ _ _ _ _ _ _ _ _ _ _ _ _
theorem Zje{ix l l':List Nat}{x y:Nat}(h:Q70 ix l x y=some l'):L1 l:=by
 unfold Q70 at h
 split at h
 ·exact⟨_,_,_,_,_,_,_,_,_,_,_,_,_,_,_,_,rfl⟩
 ·cases h
def stI(i j k q:Nat)(P:List Nat)(x y:Nat):List Value:=Znz (.ofNat (P.getD i 0)) (.ofNat (P.getD j 0)) (.ofNat (P.getD k 0)) (.ofNat (P.getD q 0)) (.ofNat x) 16 20 fun a b c d=>Znz a b c d (.ofNat y) 24 25 fun a b c d=>((((P.map Qeq).set i (.int .u32 a)).set j (.int .u32 b)).set k (.int .u32 c)).set q (.int .u32 d)
def stS(i j k q:Nat)(P:List Nat)(x y:Nat):List Nat:=Bl.stir (P.getD i 0) (P.getD j 0) (P.getD k 0) (P.getD q 0) x y fun a b c d=>(((P.set i a).set j b).set k c).set q d
theorem Zqi(i j k q:Nat)(P:List Nat)(x y:Nat):stI i j k q P x y=(stS i j k q P x y).map Qeq:=by
 unfold stI stS
 rw[Y26 _ _ _ _ _ 16 20 (by decide) (by decide)]
 simp only[Bl.half,Y26 _ _ _ _ _ 24 25 (by decide) (by decide),Bl.stir,List.map_set]
 rfl
def ST(b i j k q:Nat)(x y:Nat)(l:List Nat):Prop :=
 Zcc nv ((Qm3 Tryz.prog (mkE Tryz.prog nv b) Zp6 100 4).fn 93 [.pointer (some ⟨nv,0,none⟩),Y0f i,Y0f j,Y0f k,Y0f q,.agg #[Qeq x,Qeq y]] (Qik nv [] true [(1,l.map Qeq)]))=some (.tuple #[],stI i j k q l x y)
def SE(i j k q:Nat)(x y:Nat)(l:List Nat):Prop:=Q70 [i,j,k,q] l x y=some (stS i j k q l x y)
theorem st0(b x y:Nat){l:List Nat}(h:L1 l):ST b 0 4 8 12 x y l/\SE 0 4 8 12 x y l:=⟨h.all (P:=ST b 0 4 8 12 x y) fun _ _ _ _ _ _ _ _ _ _ _ _ _ _ _ _=>(by kernel_rfl:_=_),h.all (P:=SE 0 4 8 12 x y) fun _ _ _ _ _ _ _ _ _ _ _ _ _ _ _ _=>(by kernel_rfl:_=_)⟩
theorem st1(b x y:Nat){l:List Nat}(h:L1 l):ST b 1 5 9 13 x y l/\SE 1 5 9 13 x y l:=⟨h.all (P:=ST b 1 5 9 13 x y) fun _ _ _ _ _ _ _ _ _ _ _ _ _ _ _ _=>(by kernel_rfl:_=_),h.all (P:=SE 1 5 9 13 x y) fun _ _ _ _ _ _ _ _ _ _ _ _ _ _ _ _=>(by kernel_rfl:_=_)⟩
theorem st2(b x y:Nat){l:List Nat}(h:L1 l):ST b 2 6 10 14 x y l/\SE 2 6 10 14 x y l:=⟨h.all (P:=ST b 2 6 10 14 x y) fun _ _ _ _ _ _ _ _ _ _ _ _ _ _ _ _=>(by kernel_rfl:_=_),h.all (P:=SE 2 6 10 14 x y) fun _ _ _ _ _ _ _ _ _ _ _ _ _ _ _ _=>(by kernel_rfl:_=_)⟩
theorem st3(b x y:Nat){l:List Nat}(h:L1 l):ST b 3 7 11 15 x y l/\SE 3 7 11 15 x y l:=⟨h.all (P:=ST b 3 7 11 15 x y) fun _ _ _ _ _ _ _ _ _ _ _ _ _ _ _ _=>(by kernel_rfl:_=_),h.all (P:=SE 3 7 11 15 x y) fun _ _ _ _ _ _ _ _ _ _ _ _ _ _ _ _=>(by kernel_rfl:_=_)⟩
theorem st4(b x y:Nat){l:List Nat}(h:L1 l):ST b 0 5 10 15 x y l/\SE 0 5 10 15 x y l:=⟨h.all (P:=ST b 0 5 10 15 x y) fun _ _ _ _ _ _ _ _ _ _ _ _ _ _ _ _=>(by kernel_rfl:_=_),h.all (P:=SE 0 5 10 15 x y) fun _ _ _ _ _ _ _ _ _ _ _ _ _ _ _ _=>(by kernel_rfl:_=_)⟩
theorem st5(b x y:Nat){l:List Nat}(h:L1 l):ST b 1 6 11 12 x y l/\SE 1 6 11 12 x y l:=⟨h.all (P:=ST b 1 6 11 12 x y) fun _ _ _ _ _ _ _ _ _ _ _ _ _ _ _ _=>(by kernel_rfl:_=_),h.all (P:=SE 1 6 11 12 x y) fun _ _ _ _ _ _ _ _ _ _ _ _ _ _ _ _=>(by kernel_rfl:_=_)⟩
theorem st6(b x y:Nat){l:List Nat}(h:L1 l):ST b 2 7 8 13 x y l/\SE 2 7 8 13 x y l:=⟨h.all (P:=ST b 2 7 8 13 x y) fun _ _ _ _ _ _ _ _ _ _ _ _ _ _ _ _=>(by kernel_rfl:_=_),h.all (P:=SE 2 7 8 13 x y) fun _ _ _ _ _ _ _ _ _ _ _ _ _ _ _ _=>(by kernel_rfl:_=_)⟩
theorem st7(b x y:Nat){l:List Nat}(h:L1 l):ST b 3 4 9 14 x y l/\SE 3 4 9 14 x y l:=⟨h.all (P:=ST b 3 4 9 14 x y) fun _ _ _ _ _ _ _ _ _ _ _ _ _ _ _ _=>(by kernel_rfl:_=_),h.all (P:=SE 3 4 9 14 x y) fun _ _ _ _ _ _ _ _ _ _ _ _ _ _ _ _=>(by kernel_rfl:_=_)⟩
theorem Xpi{A:Type}{c:Bool}{v:A}{y:Option A}{z:A}(h:bq c (some v) y=some z):c=true∨y=some z:=by
 cases c with
 | true=>exact .inl rfl
 | false=>exact .inr h
theorem Zwv{i j k q x y:Nat}{l l':List Nat}(h:Q70 [i,j,k,q] l x y=some l'):(∀ b,ST b i j k q x y l)/\SE i j k q x y l:=by
 have hL:=Zje h
 obtain⟨p0,p1,p2,p3,p4,p5,p6,p7,p8,p9,p10,p11,p12,p13,p14,p15,rfl⟩:=id hL
 unfold Q70 at h
 simp only at h
 rcases Xpi h with e | h
 ·have:=Xl8 e
  simp only[List.cons.injEq,and_true]at this
  obtain⟨rfl,rfl,rfl,rfl⟩:=this
  exact⟨fun b=>(st0 b x y hL).1,(st0 0 x y hL).2⟩
 rcases Xpi h with e | h
 ·have:=Xl8 e
  simp only[List.cons.injEq,and_true]at this
  obtain⟨rfl,rfl,rfl,rfl⟩:=this
  exact⟨fun b=>(st1 b x y hL).1,(st1 0 x y hL).2⟩
 rcases Xpi h with e | h
 ·have:=Xl8 e
  simp only[List.cons.injEq,and_true]at this
  obtain⟨rfl,rfl,rfl,rfl⟩:=this
  exact⟨fun b=>(st2 b x y hL).1,(st2 0 x y hL).2⟩
 rcases Xpi h with e | h
 ·have:=Xl8 e
  simp only[List.cons.injEq,and_true]at this
  obtain⟨rfl,rfl,rfl,rfl⟩:=this
  exact⟨fun b=>(st3 b x y hL).1,(st3 0 x y hL).2⟩
 rcases Xpi h with e | h
 ·have:=Xl8 e
  simp only[List.cons.injEq,and_true]at this
  obtain⟨rfl,rfl,rfl,rfl⟩:=this
  exact⟨fun b=>(st4 b x y hL).1,(st4 0 x y hL).2⟩
 rcases Xpi h with e | h
 ·have:=Xl8 e
  simp only[List.cons.injEq,and_true]at this
  obtain⟨rfl,rfl,rfl,rfl⟩:=this
  exact⟨fun b=>(st5 b x y hL).1,(st5 0 x y hL).2⟩
 rcases Xpi h with e | h
 ·have:=Xl8 e
  simp only[List.cons.injEq,and_true]at this
  obtain⟨rfl,rfl,rfl,rfl⟩:=this
  exact⟨fun b=>(st6 b x y hL).1,(st6 0 x y hL).2⟩
 rcases Xpi h with e | h
 ·have:=Xl8 e
  simp only[List.cons.injEq,and_true]at this
  obtain⟨rfl,rfl,rfl,rfl⟩:=this
  exact⟨fun b=>(st7 b x y hL).1,(st7 0 x y hL).2⟩
 cases h
theorem Znc(b:Nat):Qmo Tryz.prog ⟨nv,b⟩ Zkg:=by
 intro f args h r h' hx
 unfold Zkg at hx
 obtain⟨hf,hx⟩:=Ql1 hx
 have hf:=Nat.eq_of_beq_eq_true hf
 subst hf
 split at hx
 ·rename_i p a b' c d x y hq
  obtain⟨⟨blk,cs⟩,h1,hx⟩:=Wr hx
  obtain⟨l,h2,hx⟩:=Wr hx
  obtain⟨ix,h3,hx⟩:=Wr hx
  obtain⟨l',h4,hx⟩:=Wr hx
  cases hx
  obtain⟨rfl,hg⟩:=Q49 h1
  have:=Yc2 h2
  subst this
  obtain⟨i,j,k,q,rfl,rfl,rfl,rfl,rfl⟩:=Zk0 h3
  obtain⟨s1,s2⟩:=Zwv h4
  unfold SE at s2
  rw[h4]at s2
  cases s2
  exact Zkj (k:=100) (m:=4) Uz (fun b=>Zdg _) Ydc (fun b=>(s1 b).trans (by rw[Zqi])) rfl (Xq2 _) (Xq2 _) hg (Qc2 (Yrn _ _) (Qc2 (Qip rfl) (Qc2 (Qip rfl) (Qc2 (Qip rfl) (Qc2 (Qip rfl) (Qc2 (Qip rfl) Qxm))))))
 ·cases hx
theorem Zk4:Qsx Zkg:=by
 intro f args h r h' hx
 unfold Zkg at hx
 obtain⟨hf,hx⟩:=Ql1 hx
 split at hx
 ·obtain⟨⟨blk,cs⟩,h1,hx⟩:=Wr hx
  obtain⟨l,h2,hx⟩:=Wr hx
  obtain⟨ix,h3,hx⟩:=Wr hx
  obtain⟨l',h4,hx⟩:=Wr hx
  cases hx
  obtain⟨_,hg⟩:=Q49 h1
  exact LowOK.set _ _ _ (Heap.get_lt hg)
 ·cases hx
def Zxn:ByteArray:=⟨#[48,49,50,51,52,53,54,55,56,57,97,98,99,100,101,102]⟩
def Zxq:ByteArray:=⟨#[101,97,52,56,57,102,100,54,49,99,48,50,98,55,53,51]⟩
def Zxw:ByteArray:=⟨#[98,56,99,48,53,50,102,100,97,101,51,54,55,49,57,52]⟩
def Zy7:ByteArray:=⟨#[55,57,51,49,100,99,98,101,50,54,53,97,52,48,102,56]⟩
def Zy4:ByteArray:=⟨#[57,48,53,55,50,52,97,102,101,49,98,99,54,56,51,100]⟩
def Zy5:ByteArray:=⟨#[50,99,54,97,48,98,56,51,52,100,55,53,102,101,49,57]⟩
def Zxt:ByteArray:=⟨#[99,53,49,102,101,100,52,97,48,55,54,51,57,50,56,98]⟩
def Zxz:ByteArray:=⟨#[100,98,55,101,99,49,51,57,53,48,102,52,56,54,50,97]⟩
def Zxl:ByteArray:=⟨#[54,102,101,57,98,51,48,56,99,50,100,55,49,52,97,53]⟩
def Zy8:ByteArray:=⟨#[97,50,56,52,55,54,49,53,102,98,57,101,51,99,100,48]⟩
def Qq0(l:List Nat)(x0 x1 x2 x3 x4 x5 x6 x7 x8 x9 x10 x11 x12 x13 x14 x15:Nat):Option (List Nat) :=
 ob (Q70 [0,4,8,12] l x0 x1) fun l =>
 ob (Q70 [1,5,9,13] l x2 x3) fun l =>
 ob (Q70 [2,6,10,14] l x4 x5) fun l =>
 ob (Q70 [3,7,11,15] l x6 x7) fun l =>
 ob (Q70 [0,5,10,15] l x8 x9) fun l =>
 ob (Q70 [1,6,11,12] l x10 x11) fun l =>
 ob (Q70 [2,7,8,13] l x12 x13) fun l =>
 Q70 [3,4,9,14] l x14 x15
def Ypx(s:ByteArray)(l m:List Nat):Option (List Nat):=match l,m with
 | [p0,p1,p2,p3,p4,p5,p6,p7,p8,p9,p10,p11,p12,p13,p14,p15],[m0,m1,m2,m3,m4,m5,m6,m7,m8,m9,m10,m11,m12,m13,m14,m15] =>
  bq (eqN (s.data.toList.map UInt8.toNat) [48,49,50,51,52,53,54,55,56,57,97,98,99,100,101,102]) (Qq0 [p0,p1,p2,p3,p4,p5,p6,p7,p8,p9,p10,p11,p12,p13,p14,p15] m0 m1 m2 m3 m4 m5 m6 m7 m8 m9 m10 m11 m12 m13 m14 m15) <|
  bq (eqN (s.data.toList.map UInt8.toNat) [101,97,52,56,57,102,100,54,49,99,48,50,98,55,53,51]) (Qq0 [p0,p1,p2,p3,p4,p5,p6,p7,p8,p9,p10,p11,p12,p13,p14,p15] m14 m10 m4 m8 m9 m15 m13 m6 m1 m12 m0 m2 m11 m7 m5 m3) <|
  bq (eqN (s.data.toList.map UInt8.toNat) [98,56,99,48,53,50,102,100,97,101,51,54,55,49,57,52]) (Qq0 [p0,p1,p2,p3,p4,p5,p6,p7,p8,p9,p10,p11,p12,p13,p14,p15] m11 m8 m12 m0 m5 m2 m15 m13 m10 m14 m3 m6 m7 m1 m9 m4) <|
  bq (eqN (s.data.toList.map UInt8.toNat) [55,57,51,49,100,99,98,101,50,54,53,97,52,48,102,56]) (Qq0 [p0,p1,p2,p3,p4,p5,p6,p7,p8,p9,p10,p11,p12,p13,p14,p15] m7 m9 m3 m1 m13 m12 m11 m14 m2 m6 m5 m10 m4 m0 m15 m8) <|
  bq (eqN (s.data.toList.map UInt8.toNat) [57,48,53,55,50,52,97,102,101,49,98,99,54,56,51,100]) (Qq0 [p0,p1,p2,p3,p4,p5,p6,p7,p8,p9,p10,p11,p12,p13,p14,p15] m9 m0 m5 m7 m2 m4 m10 m15 m14 m1 m11 m12 m6 m8 m3 m13) <|
  bq (eqN (s.data.toList.map UInt8.toNat) [50,99,54,97,48,98,56,51,52,100,55,53,102,101,49,57]) (Qq0 [p0,p1,p2,p3,p4,p5,p6,p7,p8,p9,p10,p11,p12,p13,p14,p15] m2 m12 m6 m10 m0 m11 m8 m3 m4 m13 m7 m5 m15 m14 m1 m9) <|
  bq (eqN (s.data.toList.map UInt8.toNat) [99,53,49,102,101,100,52,97,48,55,54,51,57,50,56,98]) (Qq0 [p0,p1,p2,p3,p4,p5,p6,p7,p8,p9,p10,p11,p12,p13,p14,p15] m12 m5 m1 m15 m14 m13 m4 m10 m0 m7 m6 m3 m9 m2 m8 m11) <|
  bq (eqN (s.data.toList.map UInt8.toNat) [100,98,55,101,99,49,51,57,53,48,102,52,56,54,50,97]) (Qq0 [p0,p1,p2,p3,p4,p5,p6,p7,p8,p9,p10,p11,p12,p13,p14,p15] m13 m11 m7 m14 m12 m1 m3 m9 m5 m0 m15 m4 m8 m6 m2 m10) <|
  bq (eqN (s.data.toList.map UInt8.toNat) [54,102,101,57,98,51,48,56,99,50,100,55,49,52,97,53]) (Qq0 [p0,p1,p2,p3,p4,p5,p6,p7,p8,p9,p10,p11,p12,p13,p14,p15] m6 m15 m14 m9 m11 m3 m0 m8 m12 m2 m13 m7 m1 m4 m10 m5) <|
  bq (eqN (s.data.toList.map UInt8.toNat) [97,50,56,52,55,54,49,53,102,98,57,101,51,99,100,48]) (Qq0 [p0,p1,p2,p3,p4,p5,p6,p7,p8,p9,p10,p11,p12,p13,p14,p15] m10 m2 m8 m4 m7 m6 m1 m5 m15 m11 m9 m14 m3 m12 m13 m0) <|
  none
 | _,_=>none
theorem Qxn{s t:ByteArray}{l:List Nat}(h:eqN (s.data.toList.map UInt8.toNat) l=true)(ht:t.data.toList.map UInt8.toNat=l):s=t:=by
 have h1:=(Xl8 h).trans ht.symm
 have h2:s.data.toList=t.data.toList:=(List.map_inj_right (fun x y h=>UInt8.toNat_inj.1 h)).1 h1
 cases s;cases t
 simp only[ByteArray.mk.injEq]
 exact Array.ext' h2
def Xch:Q83:=fun f args h=>bq (Nat.beq f 68) (match args with
 | [p,q,.string s]=>ob (Yfu h p) fun x=>ob (Yfu h q) fun y=>ob (Ztq x.2) fun l=>ob (Ztq y.2) fun m=>bq (Nat.beq x.1 y.1) none (ob (Ypx s l m) fun l'=>some (.ret (.tuple #[]),h.set x.1 (some (.cells true 1 (l'.map Qeq)))))
 | _=>none) none
theorem Zjy(n blk c:Nat):Ydo (emb n [blk,c]) (.pointer (some ⟨n,0,none⟩)) (.pointer (some ⟨blk,0,none⟩)):=X3i (by simp[emb])
theorem Zh2(n blk c:Nat):Ydo (emb n [blk,c]) (.pointer (some ⟨n+1,0,none⟩)) (.pointer (some ⟨c,0,none⟩)):=X3i (by unfold emb;rw[if_neg (by omega)];simp)
def RR(b:Nat)(s:ByteArray)(l m:List Nat):Prop :=
 Ywq nv (nv+1) ((Qm3 Tryz.prog (mkE Tryz.prog nv b) Zkg 100 4).fn 68 [.pointer (some ⟨nv,0,none⟩),.pointer (some ⟨nv+1,0,none⟩),.string s] (Qik nv [] true [(1,l.map Qeq),(1,m.map Qeq)]))=ob (Ypx s l m) fun l'=>some (.tuple #[],l'.map Qeq,m.map Qeq)
def L16(l m:List Nat):Prop:=∃ p0 p1 p2 p3 p4 p5 p6 p7 p8 p9 p10 p11 p12 p13 p14 p15 m0 m1 m2 m3 m4 m5 m6 m7 m8 m9 m10 m11 m12 m13 m14 m15,l=[p0,p1,p2,p3,p4,p5,p6,p7,p8,p9,p10,p11,p12,p13,p14,p15]/\m=[m0,m1,m2,m3,m4,m5,m6,m7,m8,m9,m10,m11,m12,m13,m14,m15]
theorem L16.all{l m:List Nat}(h:L16 l m){P:List Nat->List Nat->Prop}(k:∀ p0 p1 p2 p3 p4 p5 p6 p7 p8 p9 p10 p11 p12 p13 p14 p15 m0 m1 m2 m3 m4 m5 m6 m7 m8 m9 m10 m11 m12 m13 m14 m15,P [p0,p1,p2,p3,p4,p5,p6,p7,p8,p9,p10,p11,p12,p13,p14,p15] [m0,m1,m2,m3,m4,m5,m6,m7,m8,m9,m10,m11,m12,m13,m14,m15]):P l m:=by
 obtain⟨p0,p1,p2,p3,p4,p5,p6,p7,p8,p9,p10,p11,p12,p13,p14,p15,m0,m1,m2,m3,m4,m5,m6,m7,m8,m9,m10,m11,m12,m13,m14,m15,rfl,rfl⟩:=h
 exact k _ _ _ _ _ _ _ _ _ _ _ _ _ _ _ _ _ _ _ _ _ _ _ _ _ _ _ _ _ _ _ _
theorem Zfa{s:ByteArray}{l m l':List Nat}(h:Ypx s l m=some l'):L16 l m:=by
 unfold Ypx at h
 split at h
 ·exact⟨_,_,_,_,_,_,_,_,_,_,_,_,_,_,_,_,_,_,_,_,_,_,_,_,_,_,_,_,_,_,_,_,rfl,rfl⟩
 ·cases h
theorem rr0(b:Nat){l m:List Nat}(h:L16 l m):RR b Zxn l m:=h.all (P:=RR b Zxn) fun _ _ _ _ _ _ _ _ _ _ _ _ _ _ _ _ _ _ _ _ _ _ _ _ _ _ _ _ _ _ _ _=>(by kernel_rfl:_=_)
theorem rr1(b:Nat){l m:List Nat}(h:L16 l m):RR b Zxq l m:=h.all (P:=RR b Zxq) fun _ _ _ _ _ _ _ _ _ _ _ _ _ _ _ _ _ _ _ _ _ _ _ _ _ _ _ _ _ _ _ _=>(by kernel_rfl:_=_)
theorem rr2(b:Nat){l m:List Nat}(h:L16 l m):RR b Zxw l m:=h.all (P:=RR b Zxw) fun _ _ _ _ _ _ _ _ _ _ _ _ _ _ _ _ _ _ _ _ _ _ _ _ _ _ _ _ _ _ _ _=>(by kernel_rfl:_=_)
theorem rr3(b:Nat){l m:List Nat}(h:L16 l m):RR b Zy7 l m:=h.all (P:=RR b Zy7) fun _ _ _ _ _ _ _ _ _ _ _ _ _ _ _ _ _ _ _ _ _ _ _ _ _ _ _ _ _ _ _ _=>(by kernel_rfl:_=_)
theorem rr4(b:Nat){l m:List Nat}(h:L16 l m):RR b Zy4 l m:=h.all (P:=RR b Zy4) fun _ _ _ _ _ _ _ _ _ _ _ _ _ _ _ _ _ _ _ _ _ _ _ _ _ _ _ _ _ _ _ _=>(by kernel_rfl:_=_)
theorem rr5(b:Nat){l m:List Nat}(h:L16 l m):RR b Zy5 l m:=h.all (P:=RR b Zy5) fun _ _ _ _ _ _ _ _ _ _ _ _ _ _ _ _ _ _ _ _ _ _ _ _ _ _ _ _ _ _ _ _=>(by kernel_rfl:_=_)
theorem rr6(b:Nat){l m:List Nat}(h:L16 l m):RR b Zxt l m:=h.all (P:=RR b Zxt) fun _ _ _ _ _ _ _ _ _ _ _ _ _ _ _ _ _ _ _ _ _ _ _ _ _ _ _ _ _ _ _ _=>(by kernel_rfl:_=_)
theorem rr7(b:Nat){l m:List Nat}(h:L16 l m):RR b Zxz l m:=h.all (P:=RR b Zxz) fun _ _ _ _ _ _ _ _ _ _ _ _ _ _ _ _ _ _ _ _ _ _ _ _ _ _ _ _ _ _ _ _=>(by kernel_rfl:_=_)
theorem rr8(b:Nat){l m:List Nat}(h:L16 l m):RR b Zxl l m:=h.all (P:=RR b Zxl) fun _ _ _ _ _ _ _ _ _ _ _ _ _ _ _ _ _ _ _ _ _ _ _ _ _ _ _ _ _ _ _ _=>(by kernel_rfl:_=_)
theorem rr9(b:Nat){l m:List Nat}(h:L16 l m):RR b Zy8 l m:=h.all (P:=RR b Zy8) fun _ _ _ _ _ _ _ _ _ _ _ _ _ _ _ _ _ _ _ _ _ _ _ _ _ _ _ _ _ _ _ _=>(by kernel_rfl:_=_)
theorem Ymz{A:Type}{c:Bool}{x y:Option A}{z:A}(h:bq c x y=some z):c=true∨y=some z:=by
 cases c with
 | true=>exact .inl rfl
 | false=>exact .inr h
theorem Zux(b:Nat){s:ByteArray}{l m l':List Nat}(h:Ypx s l m=some l'):RR b s l m:=by
 have hL:=Zfa h
 obtain⟨p0,p1,p2,p3,p4,p5,p6,p7,p8,p9,p10,p11,p12,p13,p14,p15,m0,m1,m2,m3,m4,m5,m6,m7,m8,m9,m10,m11,m12,m13,m14,m15,rfl,rfl⟩:=id hL
 unfold Ypx at h
 simp only at h
 rcases Ymz h with e | h
 ·obtain rfl:=Qxn (t:=Zxn) e rfl
  exact rr0 b hL
 rcases Ymz h with e | h
 ·obtain rfl:=Qxn (t:=Zxq) e rfl
  exact rr1 b hL
 rcases Ymz h with e | h
 ·obtain rfl:=Qxn (t:=Zxw) e rfl
  exact rr2 b hL
 rcases Ymz h with e | h
 ·obtain rfl:=Qxn (t:=Zy7) e rfl
  exact rr3 b hL
 rcases Ymz h with e | h
 ·obtain rfl:=Qxn (t:=Zy4) e rfl
  exact rr4 b hL
 rcases Ymz h with e | h
 ·obtain rfl:=Qxn (t:=Zy5) e rfl
  exact rr5 b hL
 rcases Ymz h with e | h
 ·obtain rfl:=Qxn (t:=Zxt) e rfl
  exact rr6 b hL
 rcases Ymz h with e | h
 ·obtain rfl:=Qxn (t:=Zxz) e rfl
  exact rr7 b hL
 rcases Ymz h with e | h
 ·obtain rfl:=Qxn (t:=Zxl) e rfl
  exact rr8 b hL
 rcases Ymz h with e | h
 ·obtain rfl:=Qxn (t:=Zy8) e rfl
  exact rr9 b hL
 cases h
theorem Y32(b:Nat):Qmo Tryz.prog ⟨nv,b⟩ Xch:=by
 intro f args h r h' hx
 unfold Xch at hx
 obtain⟨hf,hx⟩:=Ql1 hx
 have hf:=Nat.eq_of_beq_eq_true hf
 subst hf
 split at hx
 ·rename_i p q s hq
  obtain⟨⟨blk,cs⟩,h1,hx⟩:=Wr hx
  obtain⟨⟨c,cs2⟩,h2,hx⟩:=Wr hx
  obtain⟨l,h3,hx⟩:=Wr hx
  obtain⟨m,h4,hx⟩:=Wr hx
  cases hne:Nat.beq blk c with
  | true=>simp only at hx;rw[hne]at hx;cases hx
  | false =>
  simp only at hx
  rw[hne,bq_false]at hx
  have hne:=Nat.ne_of_beq_eq_false hne
  obtain⟨l',h5,hx⟩:=Wr hx
  cases hx
  obtain⟨rfl,hg⟩:=Q49 h1
  obtain⟨rfl,hg2⟩:=Q49 h2
  have:=Yc2 h3
  subst this
  have:=Yc2 h4
  subst this
  exact Zfc (k:=100) (m:=4) Uz Znc Zk4 (fun b=>by have:=Zux b h5;unfold RR at this;rw[this,h5];rfl) rfl (Xq2 _) (Xq2 _) (Xq2 _) hg hg2 hne (Qc2 (Zjy _ _ _) (Qc2 (Zh2 _ _ _) (Qc2 (Qip rfl) Qxm)))
 ·cases hx
theorem Yot:Qsx Xch:=by
 intro f args h r h' hx
 unfold Xch at hx
 obtain⟨hf,hx⟩:=Ql1 hx
 split at hx
 ·obtain⟨⟨blk,cs⟩,h1,hx⟩:=Wr hx
  obtain⟨⟨c,cs2⟩,h2,hx⟩:=Wr hx
  obtain⟨l,h3,hx⟩:=Wr hx
  obtain⟨m,h4,hx⟩:=Wr hx
  cases hne:Nat.beq blk c with
  | true=>simp only at hx;rw[hne]at hx;cases hx
  | false =>
  simp only at hx
  rw[hne,bq_false]at hx
  obtain⟨l',h5,hx⟩:=Wr hx
  cases hx
  obtain⟨_,hg⟩:=Q49 h1
  exact LowOK.set _ _ _ (Heap.get_lt hg)
 ·cases hx
def Qge:List Value:=[.int .u32 1779033703,.int .u32 3144134277,.int .u32 1013904242,.int .u32 2773480762,.int .u32 1359893119,.int .u32 2600822924,.int .u32 528734635,.int .u32 1541459225]
def Xe3:List Value:=[.string Zxn,.string Zxq,.string Zxw,.string Zy7,.string Zy4,.string Zy5,.string Zxt,.string Zxz,.string Zxl,.string Zy8]
def Qix:List (Nat × List Value):=[(0,Qge),(1,Xe3)]
def Zkh(h0 h1 h2 h3 h4 h5 h6 h7 p12 p13 p14 m0 m1 m2 m3 m4 m5 m6 m7 m8 m9 m10 m11 m12 m13 m14 m15:Nat):Option (List Nat) :=
 ob (Qq0 [h0,h1,h2,h3,h4,h5,h6,h7,1779033703,3144134277,1013904242,2773480762,p12,p13,p14,1541459225] m0 m1 m2 m3 m4 m5 m6 m7 m8 m9 m10 m11 m12 m13 m14 m15) fun l =>
 ob (Qq0 l m14 m10 m4 m8 m9 m15 m13 m6 m1 m12 m0 m2 m11 m7 m5 m3) fun l =>
 ob (Qq0 l m11 m8 m12 m0 m5 m2 m15 m13 m10 m14 m3 m6 m7 m1 m9 m4) fun l =>
 ob (Qq0 l m7 m9 m3 m1 m13 m12 m11 m14 m2 m6 m5 m10 m4 m0 m15 m8) fun l =>
 ob (Qq0 l m9 m0 m5 m7 m2 m4 m10 m15 m14 m1 m11 m12 m6 m8 m3 m13) fun l =>
 ob (Qq0 l m2 m12 m6 m10 m0 m11 m8 m3 m4 m13 m7 m5 m15 m14 m1 m9) fun l =>
 ob (Qq0 l m12 m5 m1 m15 m14 m13 m4 m10 m0 m7 m6 m3 m9 m2 m8 m11) fun l =>
 ob (Qq0 l m13 m11 m7 m14 m12 m1 m3 m9 m5 m0 m15 m4 m8 m6 m2 m10) fun l =>
 ob (Qq0 l m6 m15 m14 m9 m11 m3 m0 m8 m12 m2 m13 m7 m1 m4 m10 m5) fun l =>
 Qq0 l m10 m2 m8 m4 m7 m6 m1 m5 m15 m11 m9 m14 m3 m12 m13 m0
def Zy0(h0 h1 h2 h3 h4 h5 h6 h7:Nat)(l:List Nat):Option Value:=match l with
 | [p0,p1,p2,p3,p4,p5,p6,p7,p8,p9,p10,p11,p12,p13,p14,p15]=>some (.agg ⟨[.int .u32 (Xpy (.ofNat h0) (Xpy (.ofNat p0) (.ofNat p8))),.int .u32 (Xpy (.ofNat h1) (Xpy (.ofNat p1) (.ofNat p9))),.int .u32 (Xpy (.ofNat h2) (Xpy (.ofNat p2) (.ofNat p10))),.int .u32 (Xpy (.ofNat h3) (Xpy (.ofNat p3) (.ofNat p11))),.int .u32 (Xpy (.ofNat h4) (Xpy (.ofNat p4) (.ofNat p12))),.int .u32 (Xpy (.ofNat h5) (Xpy (.ofNat p5) (.ofNat p13))),.int .u32 (Xpy (.ofNat h6) (Xpy (.ofNat p6) (.ofNat p14))),.int .u32 (Xpy (.ofNat h7) (Xpy (.ofNat p7) (.ofNat p15)))]⟩)
 | _=>none
noncomputable def Zb4:Func:=(Tryz.prog.funcs[39]?).getD default
noncomputable def Zer:Code:=Zb4.body.getD .skip
variable(b:Nat)(h0 h1 h2 h3 h4 h5 h6 h7 b0 b1 b2 b3 b4 b5 b6 b7 b8 b9 b10 b11 b12 b13 b14 b15 b16 b17 b18 b19 b20 b21 b22 b23 b24 b25 b26 b27 b28 b29 b30 b31 b32 b33 b34 b35 b36 b37 b38 b39 b40 b41 b42 b43 b44 b45 b46 b47 b48 b49 b50 b51 b52 b53 b54 b55 b56 b57 b58 b59 b60 b61 b62 b63 count:Nat)
theorem Yry:(Q3r Tryz.prog (mkE Tryz.prog nv b) (Qm3 Tryz.prog (mkE Tryz.prog nv b) Xch 100 3) none 100 (Zq9 8 Zer) ⟨Z1 Zb4 [.agg ⟨[Qeq h0,Qeq h1,Qeq h2,Qeq h3,Qeq h4,Qeq h5,Qeq h6,Qeq h7]⟩,.pointer (some ⟨nv,0,none⟩),.int .u64 (.ofNat count),.bool true],[],(Qik nv Qix false [(1,[u8v b0,u8v b1,u8v b2,u8v b3,u8v b4,u8v b5,u8v b6,u8v b7,u8v b8,u8v b9,u8v b10,u8v b11,u8v b12,u8v b13,u8v b14,u8v b15,u8v b16,u8v b17,u8v b18,u8v b19,u8v b20,u8v b21,u8v b22,u8v b23,u8v b24,u8v b25,u8v b26,u8v b27,u8v b28,u8v b29,u8v b30,u8v b31,u8v b32,u8v b33,u8v b34,u8v b35,u8v b36,u8v b37,u8v b38,u8v b39,u8v b40,u8v b41,u8v b42,u8v b43,u8v b44,u8v b45,u8v b46,u8v b47,u8v b48,u8v b49,u8v b50,u8v b51,u8v b52,u8v b53,u8v b54,u8v b55,u8v b56,u8v b57,u8v b58,u8v b59,u8v b60,u8v b61,u8v b62,u8v b63])])⟩)=Zcs (nv+4) [Qeq h0,Qeq h1,Qeq h2,Qeq h3,Qeq h4,Qeq h5,Qeq h6,Qeq h7,Qeq 1779033703,Qeq 3144134277,Qeq 1013904242,Qeq 2773480762,.int .u32 (Xpy (.ofNat 1359893119) (Ys0 count)),.int .u32 (Xpy (.ofNat 2600822924) (IntKind.wrap .u32 (Int.fdiv (.ofNat count) (2 ^ 32)))),.int .u32 (Xpy (.ofNat 4294967295) (.ofNat 528734635)),Qeq 1541459225] (Zcs (nv+3) [.int .u32 (Xs9 b0 b1 b2 b3),.int .u32 (Xs9 b4 b5 b6 b7),.int .u32 (Xs9 b8 b9 b10 b11),.int .u32 (Xs9 b12 b13 b14 b15),.int .u32 (Xs9 b16 b17 b18 b19),.int .u32 (Xs9 b20 b21 b22 b23),.int .u32 (Xs9 b24 b25 b26 b27),.int .u32 (Xs9 b28 b29 b30 b31),.int .u32 (Xs9 b32 b33 b34 b35),.int .u32 (Xs9 b36 b37 b38 b39),.int .u32 (Xs9 b40 b41 b42 b43),.int .u32 (Xs9 b44 b45 b46 b47),.int .u32 (Xs9 b48 b49 b50 b51),.int .u32 (Xs9 b52 b53 b54 b55),.int .u32 (Xs9 b56 b57 b58 b59),.int .u32 (Xs9 b60 b61 b62 b63)] (Q3r Tryz.prog (mkE Tryz.prog nv b) (Qm3 Tryz.prog (mkE Tryz.prog nv b) Xch 100 3) none 100 (Zq9 8 Zer) ⟨Z1 Zb4 [.agg ⟨[Qeq h0,Qeq h1,Qeq h2,Qeq h3,Qeq h4,Qeq h5,Qeq h6,Qeq h7]⟩,.pointer (some ⟨nv,0,none⟩),.int .u64 (.ofNat count),.bool true],[],(Qik nv Qix false [(1,[u8v b0,u8v b1,u8v b2,u8v b3,u8v b4,u8v b5,u8v b6,u8v b7,u8v b8,u8v b9,u8v b10,u8v b11,u8v b12,u8v b13,u8v b14,u8v b15,u8v b16,u8v b17,u8v b18,u8v b19,u8v b20,u8v b21,u8v b22,u8v b23,u8v b24,u8v b25,u8v b26,u8v b27,u8v b28,u8v b29,u8v b30,u8v b31,u8v b32,u8v b33,u8v b34,u8v b35,u8v b36,u8v b37,u8v b38,u8v b39,u8v b40,u8v b41,u8v b42,u8v b43,u8v b44,u8v b45,u8v b46,u8v b47,u8v b48,u8v b49,u8v b50,u8v b51,u8v b52,u8v b53,u8v b54,u8v b55,u8v b56,u8v b57,u8v b58,u8v b59,u8v b60,u8v b61,u8v b62,u8v b63])])⟩)):=by kernel_rfl
theorem Y0u :
  Zo7 ((Qm3 Tryz.prog (mkE Tryz.prog nv b) Xch 100 4).fn 39 [.agg ⟨[Qeq h0,Qeq h1,Qeq h2,Qeq h3,Qeq h4,Qeq h5,Qeq h6,Qeq h7]⟩,.pointer (some ⟨nv,0,none⟩),.int .u64 (.ofNat count),.bool true] (Qik nv Qix false [(1,[u8v b0,u8v b1,u8v b2,u8v b3,u8v b4,u8v b5,u8v b6,u8v b7,u8v b8,u8v b9,u8v b10,u8v b11,u8v b12,u8v b13,u8v b14,u8v b15,u8v b16,u8v b17,u8v b18,u8v b19,u8v b20,u8v b21,u8v b22,u8v b23,u8v b24,u8v b25,u8v b26,u8v b27,u8v b28,u8v b29,u8v b30,u8v b31,u8v b32,u8v b33,u8v b34,u8v b35,u8v b36,u8v b37,u8v b38,u8v b39,u8v b40,u8v b41,u8v b42,u8v b43,u8v b44,u8v b45,u8v b46,u8v b47,u8v b48,u8v b49,u8v b50,u8v b51,u8v b52,u8v b53,u8v b54,u8v b55,u8v b56,u8v b57,u8v b58,u8v b59,u8v b60,u8v b61,u8v b62,u8v b63])])) =
   ob (Zkh h0 h1 h2 h3 h4 h5 h6 h7 (Bl.xr 1359893119 (Bl.w32 count)) (Bl.xr 2600822924 (Bl.w32 (Nat.div count 4294967296))) (Bl.xr 4294967295 528734635) (Bl.le4 b0 b1 b2 b3) (Bl.le4 b4 b5 b6 b7) (Bl.le4 b8 b9 b10 b11) (Bl.le4 b12 b13 b14 b15) (Bl.le4 b16 b17 b18 b19) (Bl.le4 b20 b21 b22 b23) (Bl.le4 b24 b25 b26 b27) (Bl.le4 b28 b29 b30 b31) (Bl.le4 b32 b33 b34 b35) (Bl.le4 b36 b37 b38 b39) (Bl.le4 b40 b41 b42 b43) (Bl.le4 b44 b45 b46 b47) (Bl.le4 b48 b49 b50 b51) (Bl.le4 b52 b53 b54 b55) (Bl.le4 b56 b57 b58 b59) (Bl.le4 b60 b61 b62 b63)) (Zy0 h0 h1 h2 h3 h4 h5 h6 h7):=by
 have e12:Value.int .u32 (Xpy (.ofNat 1359893119) (Ys0 count))=Qeq (Bl.xr 1359893119 (Bl.w32 count)):=by rw[Ygy,Q8v];rfl
 have e13:Value.int .u32 (Xpy (.ofNat 2600822924) (IntKind.wrap .u32 (Int.fdiv (.ofNat count) (2 ^ 32))))=Qeq (Bl.xr 2600822924 (Bl.w32 (Nat.div count 4294967296))):=by rw[Zdy,Qle];exact congrArg (Value.int .u32) (Q8v _ _)
 have e14:Value.int .u32 (Xpy (.ofNat 4294967295) (.ofNat 528734635))=Qeq (Bl.xr 4294967295 528734635):=by first | rfl | (rw[Q8v];rfl)
 rw[Zcl (n0:=8) (F:=Zb4) (c:=Zer) (by kernel_rfl) (by kernel_rfl) (by kernel_rfl) (by kernel_rfl) (by kernel_rfl),Yry,e12,e13,e14]
 simp only[Zdp]
 show _=_
 kernel_rfl
theorem Ym0:(Q3r Tryz.prog (mkE Tryz.prog nv b) (Qm3 Tryz.prog (mkE Tryz.prog nv b) Xch 100 3) none 100 (Zq9 8 Zer) ⟨Z1 Zb4 [.agg ⟨[Qeq h0,Qeq h1,Qeq h2,Qeq h3,Qeq h4,Qeq h5,Qeq h6,Qeq h7]⟩,.pointer (some ⟨nv,0,none⟩),.int .u64 (.ofNat count),.bool false],[],(Qik nv Qix false [(1,[u8v b0,u8v b1,u8v b2,u8v b3,u8v b4,u8v b5,u8v b6,u8v b7,u8v b8,u8v b9,u8v b10,u8v b11,u8v b12,u8v b13,u8v b14,u8v b15,u8v b16,u8v b17,u8v b18,u8v b19,u8v b20,u8v b21,u8v b22,u8v b23,u8v b24,u8v b25,u8v b26,u8v b27,u8v b28,u8v b29,u8v b30,u8v b31,u8v b32,u8v b33,u8v b34,u8v b35,u8v b36,u8v b37,u8v b38,u8v b39,u8v b40,u8v b41,u8v b42,u8v b43,u8v b44,u8v b45,u8v b46,u8v b47,u8v b48,u8v b49,u8v b50,u8v b51,u8v b52,u8v b53,u8v b54,u8v b55,u8v b56,u8v b57,u8v b58,u8v b59,u8v b60,u8v b61,u8v b62,u8v b63])])⟩)=Zcs (nv+4) [Qeq h0,Qeq h1,Qeq h2,Qeq h3,Qeq h4,Qeq h5,Qeq h6,Qeq h7,Qeq 1779033703,Qeq 3144134277,Qeq 1013904242,Qeq 2773480762,.int .u32 (Xpy (.ofNat 1359893119) (Ys0 count)),.int .u32 (Xpy (.ofNat 2600822924) (IntKind.wrap .u32 (Int.fdiv (.ofNat count) (2 ^ 32)))),.int .u32 (.ofNat 528734635),Qeq 1541459225] (Zcs (nv+3) [.int .u32 (Xs9 b0 b1 b2 b3),.int .u32 (Xs9 b4 b5 b6 b7),.int .u32 (Xs9 b8 b9 b10 b11),.int .u32 (Xs9 b12 b13 b14 b15),.int .u32 (Xs9 b16 b17 b18 b19),.int .u32 (Xs9 b20 b21 b22 b23),.int .u32 (Xs9 b24 b25 b26 b27),.int .u32 (Xs9 b28 b29 b30 b31),.int .u32 (Xs9 b32 b33 b34 b35),.int .u32 (Xs9 b36 b37 b38 b39),.int .u32 (Xs9 b40 b41 b42 b43),.int .u32 (Xs9 b44 b45 b46 b47),.int .u32 (Xs9 b48 b49 b50 b51),.int .u32 (Xs9 b52 b53 b54 b55),.int .u32 (Xs9 b56 b57 b58 b59),.int .u32 (Xs9 b60 b61 b62 b63)] (Q3r Tryz.prog (mkE Tryz.prog nv b) (Qm3 Tryz.prog (mkE Tryz.prog nv b) Xch 100 3) none 100 (Zq9 8 Zer) ⟨Z1 Zb4 [.agg ⟨[Qeq h0,Qeq h1,Qeq h2,Qeq h3,Qeq h4,Qeq h5,Qeq h6,Qeq h7]⟩,.pointer (some ⟨nv,0,none⟩),.int .u64 (.ofNat count),.bool false],[],(Qik nv Qix false [(1,[u8v b0,u8v b1,u8v b2,u8v b3,u8v b4,u8v b5,u8v b6,u8v b7,u8v b8,u8v b9,u8v b10,u8v b11,u8v b12,u8v b13,u8v b14,u8v b15,u8v b16,u8v b17,u8v b18,u8v b19,u8v b20,u8v b21,u8v b22,u8v b23,u8v b24,u8v b25,u8v b26,u8v b27,u8v b28,u8v b29,u8v b30,u8v b31,u8v b32,u8v b33,u8v b34,u8v b35,u8v b36,u8v b37,u8v b38,u8v b39,u8v b40,u8v b41,u8v b42,u8v b43,u8v b44,u8v b45,u8v b46,u8v b47,u8v b48,u8v b49,u8v b50,u8v b51,u8v b52,u8v b53,u8v b54,u8v b55,u8v b56,u8v b57,u8v b58,u8v b59,u8v b60,u8v b61,u8v b62,u8v b63])])⟩)):=by kernel_rfl
theorem Yxq :
  Zo7 ((Qm3 Tryz.prog (mkE Tryz.prog nv b) Xch 100 4).fn 39 [.agg ⟨[Qeq h0,Qeq h1,Qeq h2,Qeq h3,Qeq h4,Qeq h5,Qeq h6,Qeq h7]⟩,.pointer (some ⟨nv,0,none⟩),.int .u64 (.ofNat count),.bool false] (Qik nv Qix false [(1,[u8v b0,u8v b1,u8v b2,u8v b3,u8v b4,u8v b5,u8v b6,u8v b7,u8v b8,u8v b9,u8v b10,u8v b11,u8v b12,u8v b13,u8v b14,u8v b15,u8v b16,u8v b17,u8v b18,u8v b19,u8v b20,u8v b21,u8v b22,u8v b23,u8v b24,u8v b25,u8v b26,u8v b27,u8v b28,u8v b29,u8v b30,u8v b31,u8v b32,u8v b33,u8v b34,u8v b35,u8v b36,u8v b37,u8v b38,u8v b39,u8v b40,u8v b41,u8v b42,u8v b43,u8v b44,u8v b45,u8v b46,u8v b47,u8v b48,u8v b49,u8v b50,u8v b51,u8v b52,u8v b53,u8v b54,u8v b55,u8v b56,u8v b57,u8v b58,u8v b59,u8v b60,u8v b61,u8v b62,u8v b63])])) =
   ob (Zkh h0 h1 h2 h3 h4 h5 h6 h7 (Bl.xr 1359893119 (Bl.w32 count)) (Bl.xr 2600822924 (Bl.w32 (Nat.div count 4294967296))) 528734635 (Bl.le4 b0 b1 b2 b3) (Bl.le4 b4 b5 b6 b7) (Bl.le4 b8 b9 b10 b11) (Bl.le4 b12 b13 b14 b15) (Bl.le4 b16 b17 b18 b19) (Bl.le4 b20 b21 b22 b23) (Bl.le4 b24 b25 b26 b27) (Bl.le4 b28 b29 b30 b31) (Bl.le4 b32 b33 b34 b35) (Bl.le4 b36 b37 b38 b39) (Bl.le4 b40 b41 b42 b43) (Bl.le4 b44 b45 b46 b47) (Bl.le4 b48 b49 b50 b51) (Bl.le4 b52 b53 b54 b55) (Bl.le4 b56 b57 b58 b59) (Bl.le4 b60 b61 b62 b63)) (Zy0 h0 h1 h2 h3 h4 h5 h6 h7):=by
 have e12:Value.int .u32 (Xpy (.ofNat 1359893119) (Ys0 count))=Qeq (Bl.xr 1359893119 (Bl.w32 count)):=by rw[Ygy,Q8v];rfl
 have e13:Value.int .u32 (Xpy (.ofNat 2600822924) (IntKind.wrap .u32 (Int.fdiv (.ofNat count) (2 ^ 32))))=Qeq (Bl.xr 2600822924 (Bl.w32 (Nat.div count 4294967296))):=by rw[Zdy,Qle];exact congrArg (Value.int .u32) (Q8v _ _)
 have e14:Value.int .u32 (.ofNat 528734635)=Qeq 528734635:=by first | rfl | (rw[Q8v];rfl)
 rw[Zcl (n0:=8) (F:=Zb4) (c:=Zer) (by kernel_rfl) (by kernel_rfl) (by kernel_rfl) (by kernel_rfl) (by kernel_rfl),Ym0,e12,e13,e14]
 simp only[Zdp]
 show _=_
 kernel_rfl
theorem Zi1{A:Type}(a b c d x y:Nat)(K:Nat->Nat->Nat->Nat->Option (List Nat))(f:List Nat->Option A):ob (Bl.stir a b c d x y K) f=Bl.stir a b c d x y (fun a b c d=>ob (K a b c d) f):=rfl
section
variable(p0 p1 p2 p3 p4 p5 p6 p7 p8 p9 p10 p11 p12 p13 p14 p15 x y:Nat)
theorem Zvq:Q70 [0,4,8,12] [p0,p1,p2,p3,p4,p5,p6,p7,p8,p9,p10,p11,p12,p13,p14,p15] x y=Bl.stir p0 p4 p8 p12 x y fun p0 p4 p8 p12=>some [p0,p1,p2,p3,p4,p5,p6,p7,p8,p9,p10,p11,p12,p13,p14,p15]:=rfl
theorem Zv8:Q70 [1,5,9,13] [p0,p1,p2,p3,p4,p5,p6,p7,p8,p9,p10,p11,p12,p13,p14,p15] x y=Bl.stir p1 p5 p9 p13 x y fun p1 p5 p9 p13=>some [p0,p1,p2,p3,p4,p5,p6,p7,p8,p9,p10,p11,p12,p13,p14,p15]:=rfl
theorem Zuf:Q70 [2,6,10,14] [p0,p1,p2,p3,p4,p5,p6,p7,p8,p9,p10,p11,p12,p13,p14,p15] x y=Bl.stir p2 p6 p10 p14 x y fun p2 p6 p10 p14=>some [p0,p1,p2,p3,p4,p5,p6,p7,p8,p9,p10,p11,p12,p13,p14,p15]:=rfl
theorem Zuq:Q70 [3,7,11,15] [p0,p1,p2,p3,p4,p5,p6,p7,p8,p9,p10,p11,p12,p13,p14,p15] x y=Bl.stir p3 p7 p11 p15 x y fun p3 p7 p11 p15=>some [p0,p1,p2,p3,p4,p5,p6,p7,p8,p9,p10,p11,p12,p13,p14,p15]:=rfl
theorem Zwo:Q70 [0,5,10,15] [p0,p1,p2,p3,p4,p5,p6,p7,p8,p9,p10,p11,p12,p13,p14,p15] x y=Bl.stir p0 p5 p10 p15 x y fun p0 p5 p10 p15=>some [p0,p1,p2,p3,p4,p5,p6,p7,p8,p9,p10,p11,p12,p13,p14,p15]:=rfl
theorem Zwa:Q70 [1,6,11,12] [p0,p1,p2,p3,p4,p5,p6,p7,p8,p9,p10,p11,p12,p13,p14,p15] x y=Bl.stir p1 p6 p11 p12 x y fun p1 p6 p11 p12=>some [p0,p1,p2,p3,p4,p5,p6,p7,p8,p9,p10,p11,p12,p13,p14,p15]:=rfl
theorem Zx5:Q70 [2,7,8,13] [p0,p1,p2,p3,p4,p5,p6,p7,p8,p9,p10,p11,p12,p13,p14,p15] x y=Bl.stir p2 p7 p8 p13 x y fun p2 p7 p8 p13=>some [p0,p1,p2,p3,p4,p5,p6,p7,p8,p9,p10,p11,p12,p13,p14,p15]:=rfl
theorem Zvm:Q70 [3,4,9,14] [p0,p1,p2,p3,p4,p5,p6,p7,p8,p9,p10,p11,p12,p13,p14,p15] x y=Bl.stir p3 p4 p9 p14 x y fun p3 p4 p9 p14=>some [p0,p1,p2,p3,p4,p5,p6,p7,p8,p9,p10,p11,p12,p13,p14,p15]:=rfl
end
theorem Zko(p0 p1 p2 p3 p4 p5 p6 p7 p8 p9 p10 p11 p12 p13 p14 p15 x0 x1 x2 x3 x4 x5 x6 x7 x8 x9 x10 x11 x12 x13 x14 x15:Nat):Qq0 [p0,p1,p2,p3,p4,p5,p6,p7,p8,p9,p10,p11,p12,p13,p14,p15] x0 x1 x2 x3 x4 x5 x6 x7 x8 x9 x10 x11 x12 x13 x14 x15=Bl.round p0 p1 p2 p3 p4 p5 p6 p7 p8 p9 p10 p11 p12 p13 p14 p15 x0 x1 x2 x3 x4 x5 x6 x7 x8 x9 x10 x11 x12 x13 x14 x15 fun p0 p1 p2 p3 p4 p5 p6 p7 p8 p9 p10 p11 p12 p13 p14 p15=>some [p0,p1,p2,p3,p4,p5,p6,p7,p8,p9,p10,p11,p12,p13,p14,p15]:=by
 simp only[Qq0,Bl.round,Zi1,ob_some,Zvq,Zv8,Zuf,Zuq,Zwo,Zwa,Zx5,Zvm]
theorem Zmt{A:Type}(p0 p1 p2 p3 p4 p5 p6 p7 p8 p9 p10 p11 p12 p13 p14 p15 x0 x1 x2 x3 x4 x5 x6 x7 x8 x9 x10 x11 x12 x13 x14 x15:Nat)(K:Nat->Nat->Nat->Nat->Nat->Nat->Nat->Nat->Nat->Nat->Nat->Nat->Nat->Nat->Nat->Nat->Option (List Nat))(f:List Nat->Option A):ob (Bl.round p0 p1 p2 p3 p4 p5 p6 p7 p8 p9 p10 p11 p12 p13 p14 p15 x0 x1 x2 x3 x4 x5 x6 x7 x8 x9 x10 x11 x12 x13 x14 x15 K) f=Bl.round p0 p1 p2 p3 p4 p5 p6 p7 p8 p9 p10 p11 p12 p13 p14 p15 x0 x1 x2 x3 x4 x5 x6 x7 x8 x9 x10 x11 x12 x13 x14 x15 (fun p0 p1 p2 p3 p4 p5 p6 p7 p8 p9 p10 p11 p12 p13 p14 p15=>ob (K p0 p1 p2 p3 p4 p5 p6 p7 p8 p9 p10 p11 p12 p13 p14 p15) f):=by
 simp only[Bl.round,Zi1]
theorem Zo0{A B C:Type}(x:Option A)(g:A->Option B)(f:B->Option C):ob (ob x g) f=ob x (fun a=>ob (g a) f):=by cases x <;> rfl
theorem Zjg{A:Type}(R:Nat->Nat->Nat->Nat->Nat->Nat->Nat->Nat->Nat->Nat->Nat->Nat->Nat->Nat->Nat->Nat->Nat->Nat->Nat->Nat->Nat->Nat->Nat->Nat->Nat->Nat->Nat->Nat->Nat->Nat->Nat->Nat->(Nat->Nat->Nat->Nat->Nat->Nat->Nat->Nat->Nat->Nat->Nat->Nat->Nat->Nat->Nat->Nat->Option A)->Option A)(hR:∀ (p0 p1 p2 p3 p4 p5 p6 p7 p8 p9 p10 p11 p12 p13 p14 p15 x0 x1 x2 x3 x4 x5 x6 x7 x8 x9 x10 x11 x12 x13 x14 x15:Nat) (f:List Nat->Option A),ob (Qq0 [p0,p1,p2,p3,p4,p5,p6,p7,p8,p9,p10,p11,p12,p13,p14,p15] x0 x1 x2 x3 x4 x5 x6 x7 x8 x9 x10 x11 x12 x13 x14 x15) f=R p0 p1 p2 p3 p4 p5 p6 p7 p8 p9 p10 p11 p12 p13 p14 p15 x0 x1 x2 x3 x4 x5 x6 x7 x8 x9 x10 x11 x12 x13 x14 x15 fun p0 p1 p2 p3 p4 p5 p6 p7 p8 p9 p10 p11 p12 p13 p14 p15=>f [p0,p1,p2,p3,p4,p5,p6,p7,p8,p9,p10,p11,p12,p13,p14,p15])
  (h0 h1 h2 h3 h4 h5 h6 h7 p12 p13 p14 m0 m1 m2 m3 m4 m5 m6 m7 m8 m9 m10 m11 m12 m13 m14 m15:Nat) (f:List Nat->Option A):ob (Zkh h0 h1 h2 h3 h4 h5 h6 h7 p12 p13 p14 m0 m1 m2 m3 m4 m5 m6 m7 m8 m9 m10 m11 m12 m13 m14 m15) f =
  R h0 h1 h2 h3 h4 h5 h6 h7 1779033703 3144134277 1013904242 2773480762 p12 p13 p14 1541459225 m0 m1 m2 m3 m4 m5 m6 m7 m8 m9 m10 m11 m12 m13 m14 m15 fun p0 p1 p2 p3 p4 p5 p6 p7 p8 p9 p10 p11 p12 p13 p14 p15 =>
  R p0 p1 p2 p3 p4 p5 p6 p7 p8 p9 p10 p11 p12 p13 p14 p15 m14 m10 m4 m8 m9 m15 m13 m6 m1 m12 m0 m2 m11 m7 m5 m3 fun p0 p1 p2 p3 p4 p5 p6 p7 p8 p9 p10 p11 p12 p13 p14 p15 =>
  R p0 p1 p2 p3 p4 p5 p6 p7 p8 p9 p10 p11 p12 p13 p14 p15 m11 m8 m12 m0 m5 m2 m15 m13 m10 m14 m3 m6 m7 m1 m9 m4 fun p0 p1 p2 p3 p4 p5 p6 p7 p8 p9 p10 p11 p12 p13 p14 p15 =>
  R p0 p1 p2 p3 p4 p5 p6 p7 p8 p9 p10 p11 p12 p13 p14 p15 m7 m9 m3 m1 m13 m12 m11 m14 m2 m6 m5 m10 m4 m0 m15 m8 fun p0 p1 p2 p3 p4 p5 p6 p7 p8 p9 p10 p11 p12 p13 p14 p15 =>
  R p0 p1 p2 p3 p4 p5 p6 p7 p8 p9 p10 p11 p12 p13 p14 p15 m9 m0 m5 m7 m2 m4 m10 m15 m14 m1 m11 m12 m6 m8 m3 m13 fun p0 p1 p2 p3 p4 p5 p6 p7 p8 p9 p10 p11 p12 p13 p14 p15 =>
  R p0 p1 p2 p3 p4 p5 p6 p7 p8 p9 p10 p11 p12 p13 p14 p15 m2 m12 m6 m10 m0 m11 m8 m3 m4 m13 m7 m5 m15 m14 m1 m9 fun p0 p1 p2 p3 p4 p5 p6 p7 p8 p9 p10 p11 p12 p13 p14 p15 =>
  R p0 p1 p2 p3 p4 p5 p6 p7 p8 p9 p10 p11 p12 p13 p14 p15 m12 m5 m1 m15 m14 m13 m4 m10 m0 m7 m6 m3 m9 m2 m8 m11 fun p0 p1 p2 p3 p4 p5 p6 p7 p8 p9 p10 p11 p12 p13 p14 p15 =>
  R p0 p1 p2 p3 p4 p5 p6 p7 p8 p9 p10 p11 p12 p13 p14 p15 m13 m11 m7 m14 m12 m1 m3 m9 m5 m0 m15 m4 m8 m6 m2 m10 fun p0 p1 p2 p3 p4 p5 p6 p7 p8 p9 p10 p11 p12 p13 p14 p15 =>
  R p0 p1 p2 p3 p4 p5 p6 p7 p8 p9 p10 p11 p12 p13 p14 p15 m6 m15 m14 m9 m11 m3 m0 m8 m12 m2 m13 m7 m1 m4 m10 m5 fun p0 p1 p2 p3 p4 p5 p6 p7 p8 p9 p10 p11 p12 p13 p14 p15 =>
  R p0 p1 p2 p3 p4 p5 p6 p7 p8 p9 p10 p11 p12 p13 p14 p15 m10 m2 m8 m4 m7 m6 m1 m5 m15 m11 m9 m14 m3 m12 m13 m0 fun p0 p1 p2 p3 p4 p5 p6 p7 p8 p9 p10 p11 p12 p13 p14 p15 =>
  f [p0,p1,p2,p3,p4,p5,p6,p7,p8,p9,p10,p11,p12,p13,p14,p15]:=by
 simp only[Zkh,Zo0,hR]
theorem Zd9(h0 h1 h2 h3 h4 h5 h6 h7 p12 p13 p14 m0 m1 m2 m3 m4 m5 m6 m7 m8 m9 m10 m11 m12 m13 m14 m15:Nat){A:Type}(f:List Nat->Option A):ob (Zkh h0 h1 h2 h3 h4 h5 h6 h7 p12 p13 p14 m0 m1 m2 m3 m4 m5 m6 m7 m8 m9 m10 m11 m12 m13 m14 m15) f=Bl.rounds h0 h1 h2 h3 h4 h5 h6 h7 1779033703 3144134277 1013904242 2773480762 p12 p13 p14 1541459225 m0 m1 m2 m3 m4 m5 m6 m7 m8 m9 m10 m11 m12 m13 m14 m15 fun p0 p1 p2 p3 p4 p5 p6 p7 p8 p9 p10 p11 p12 p13 p14 p15=>f [p0,p1,p2,p3,p4,p5,p6,p7,p8,p9,p10,p11,p12,p13,p14,p15]:=by
 unfold Bl.rounds
 exact Zjg (fun p0 p1 p2 p3 p4 p5 p6 p7 p8 p9 p10 p11 p12 p13 p14 p15 x0 x1 x2 x3 x4 x5 x6 x7 x8 x9 x10 x11 x12 x13 x14 x15 K=>Bl.round p0 p1 p2 p3 p4 p5 p6 p7 p8 p9 p10 p11 p12 p13 p14 p15 x0 x1 x2 x3 x4 x5 x6 x7 x8 x9 x10 x11 x12 x13 x14 x15 K) (fun p0 p1 p2 p3 p4 p5 p6 p7 p8 p9 p10 p11 p12 p13 p14 p15 x0 x1 x2 x3 x4 x5 x6 x7 x8 x9 x10 x11 x12 x13 x14 x15 f=>by rw[Zko,Zmt];rfl) _ _ _ _ _ _ _ _ _ _ _ _ _ _ _ _ _ _ _ _ _ _ _ _ _ _ _ f
theorem Zjt(h0 h1 h2 h3 h4 h5 h6 h7 p0 p1 p2 p3 p4 p5 p6 p7 p8 p9 p10 p11 p12 p13 p14 p15:Nat):Zy0 h0 h1 h2 h3 h4 h5 h6 h7 [p0,p1,p2,p3,p4,p5,p6,p7,p8,p9,p10,p11,p12,p13,p14,p15]=some (p8v ⟨Bl.xr h0 (Bl.xr p0 p8),Bl.xr h1 (Bl.xr p1 p9),Bl.xr h2 (Bl.xr p2 p10),Bl.xr h3 (Bl.xr p3 p11),Bl.xr h4 (Bl.xr p4 p12),Bl.xr h5 (Bl.xr p5 p13),Bl.xr h6 (Bl.xr p6 p14),Bl.xr h7 (Bl.xr p7 p15)⟩):=by
 simp only[Zy0,Q8v,p8v,Qeq]
theorem Zkx{A B:Type}(f:A->B)(a b c d x y:Nat)(K:Nat->Nat->Nat->Nat->A):f (Bl.stir a b c d x y K)=Bl.stir a b c d x y (fun a b c d=>f (K a b c d)):=rfl
theorem Zf7{A B:Type}(f:A->B)(p0 p1 p2 p3 p4 p5 p6 p7 p8 p9 p10 p11 p12 p13 p14 p15 x0 x1 x2 x3 x4 x5 x6 x7 x8 x9 x10 x11 x12 x13 x14 x15:Nat)(K:Nat->Nat->Nat->Nat->Nat->Nat->Nat->Nat->Nat->Nat->Nat->Nat->Nat->Nat->Nat->Nat->A):f (Bl.round p0 p1 p2 p3 p4 p5 p6 p7 p8 p9 p10 p11 p12 p13 p14 p15 x0 x1 x2 x3 x4 x5 x6 x7 x8 x9 x10 x11 x12 x13 x14 x15 K)=Bl.round p0 p1 p2 p3 p4 p5 p6 p7 p8 p9 p10 p11 p12 p13 p14 p15 x0 x1 x2 x3 x4 x5 x6 x7 x8 x9 x10 x11 x12 x13 x14 x15 (fun p0 p1 p2 p3 p4 p5 p6 p7 p8 p9 p10 p11 p12 p13 p14 p15=>f (K p0 p1 p2 p3 p4 p5 p6 p7 p8 p9 p10 p11 p12 p13 p14 p15)):=by
 simp only[Bl.round,Zkx f]
theorem Yhh{A B:Type}(f:A->B)(p0 p1 p2 p3 p4 p5 p6 p7 p8 p9 p10 p11 p12 p13 p14 p15 m0 m1 m2 m3 m4 m5 m6 m7 m8 m9 m10 m11 m12 m13 m14 m15:Nat)(K:Nat->Nat->Nat->Nat->Nat->Nat->Nat->Nat->Nat->Nat->Nat->Nat->Nat->Nat->Nat->Nat->A):f (Bl.rounds p0 p1 p2 p3 p4 p5 p6 p7 p8 p9 p10 p11 p12 p13 p14 p15 m0 m1 m2 m3 m4 m5 m6 m7 m8 m9 m10 m11 m12 m13 m14 m15 K)=Bl.rounds p0 p1 p2 p3 p4 p5 p6 p7 p8 p9 p10 p11 p12 p13 p14 p15 m0 m1 m2 m3 m4 m5 m6 m7 m8 m9 m10 m11 m12 m13 m14 m15 (fun p0 p1 p2 p3 p4 p5 p6 p7 p8 p9 p10 p11 p12 p13 p14 p15=>f (K p0 p1 p2 p3 p4 p5 p6 p7 p8 p9 p10 p11 p12 p13 p14 p15)):=by
 simp only[Bl.rounds,Zf7 f]
theorem Y7s :
  Zo7 ((Qm3 Tryz.prog (mkE Tryz.prog nv b) Xch 100 4).fn 39 [.agg ⟨[Qeq h0,Qeq h1,Qeq h2,Qeq h3,Qeq h4,Qeq h5,Qeq h6,Qeq h7]⟩,.pointer (some ⟨nv,0,none⟩),.int .u64 (.ofNat count),.bool true] (Qik nv Qix false [(1,[u8v b0,u8v b1,u8v b2,u8v b3,u8v b4,u8v b5,u8v b6,u8v b7,u8v b8,u8v b9,u8v b10,u8v b11,u8v b12,u8v b13,u8v b14,u8v b15,u8v b16,u8v b17,u8v b18,u8v b19,u8v b20,u8v b21,u8v b22,u8v b23,u8v b24,u8v b25,u8v b26,u8v b27,u8v b28,u8v b29,u8v b30,u8v b31,u8v b32,u8v b33,u8v b34,u8v b35,u8v b36,u8v b37,u8v b38,u8v b39,u8v b40,u8v b41,u8v b42,u8v b43,u8v b44,u8v b45,u8v b46,u8v b47,u8v b48,u8v b49,u8v b50,u8v b51,u8v b52,u8v b53,u8v b54,u8v b55,u8v b56,u8v b57,u8v b58,u8v b59,u8v b60,u8v b61,u8v b62,u8v b63])])) =
   some (p8v (Bl.take ⟨h0,h1,h2,h3,h4,h5,h6,h7⟩ [b0,b1,b2,b3,b4,b5,b6,b7,b8,b9,b10,b11,b12,b13,b14,b15,b16,b17,b18,b19,b20,b21,b22,b23,b24,b25,b26,b27,b28,b29,b30,b31,b32,b33,b34,b35,b36,b37,b38,b39,b40,b41,b42,b43,b44,b45,b46,b47,b48,b49,b50,b51,b52,b53,b54,b55,b56,b57,b58,b59,b60,b61,b62,b63] count true)):=by
 rw[Y0u,Zd9]
 simp only[Zjt,Bl.take,Bl.words,Bl.nx]
 exact(Yhh (fun x=>some (p8v x)) _ _ _ _ _ _ _ _ _ _ _ _ _ _ _ _ _ _ _ _ _ _ _ _ _ _ _ _ _ _ _ _ _).symm
theorem Y3r :
  Zo7 ((Qm3 Tryz.prog (mkE Tryz.prog nv b) Xch 100 4).fn 39 [.agg ⟨[Qeq h0,Qeq h1,Qeq h2,Qeq h3,Qeq h4,Qeq h5,Qeq h6,Qeq h7]⟩,.pointer (some ⟨nv,0,none⟩),.int .u64 (.ofNat count),.bool false] (Qik nv Qix false [(1,[u8v b0,u8v b1,u8v b2,u8v b3,u8v b4,u8v b5,u8v b6,u8v b7,u8v b8,u8v b9,u8v b10,u8v b11,u8v b12,u8v b13,u8v b14,u8v b15,u8v b16,u8v b17,u8v b18,u8v b19,u8v b20,u8v b21,u8v b22,u8v b23,u8v b24,u8v b25,u8v b26,u8v b27,u8v b28,u8v b29,u8v b30,u8v b31,u8v b32,u8v b33,u8v b34,u8v b35,u8v b36,u8v b37,u8v b38,u8v b39,u8v b40,u8v b41,u8v b42,u8v b43,u8v b44,u8v b45,u8v b46,u8v b47,u8v b48,u8v b49,u8v b50,u8v b51,u8v b52,u8v b53,u8v b54,u8v b55,u8v b56,u8v b57,u8v b58,u8v b59,u8v b60,u8v b61,u8v b62,u8v b63])])) =
   some (p8v (Bl.take ⟨h0,h1,h2,h3,h4,h5,h6,h7⟩ [b0,b1,b2,b3,b4,b5,b6,b7,b8,b9,b10,b11,b12,b13,b14,b15,b16,b17,b18,b19,b20,b21,b22,b23,b24,b25,b26,b27,b28,b29,b30,b31,b32,b33,b34,b35,b36,b37,b38,b39,b40,b41,b42,b43,b44,b45,b46,b47,b48,b49,b50,b51,b52,b53,b54,b55,b56,b57,b58,b59,b60,b61,b62,b63] count false)):=by
 rw[Yxq,Zd9]
 simp only[Zjt,Bl.take,Bl.words,Bl.nx]
 exact(Yhh (fun x=>some (p8v x)) _ _ _ _ _ _ _ _ _ _ _ _ _ _ _ _ _ _ _ _ _ _ _ _ _ _ _ _ _ _ _ _ _).symm
theorem Zz0{l0:List Nat}(h0:l0.length=64):∃ b0 b1 b2 b3 b4 b5 b6 b7 b8 b9 b10 b11 b12 b13 b14 b15 b16 b17 b18 b19 b20 b21 b22 b23 b24 b25 b26 b27 b28 b29 b30 b31 b32 b33 b34 b35 b36 b37 b38 b39 b40 b41 b42 b43 b44 b45 b46 b47 b48 b49 b50 b51 b52 b53 b54 b55 b56 b57 b58 b59 b60 b61 b62 b63,l0=[b0,b1,b2,b3,b4,b5,b6,b7,b8,b9,b10,b11,b12,b13,b14,b15,b16,b17,b18,b19,b20,b21,b22,b23,b24,b25,b26,b27,b28,b29,b30,b31,b32,b33,b34,b35,b36,b37,b38,b39,b40,b41,b42,b43,b44,b45,b46,b47,b48,b49,b50,b51,b52,b53,b54,b55,b56,b57,b58,b59,b60,b61,b62,b63]:=by
 obtain⟨b0,l1,rfl,h1⟩:=Vh h0
 obtain⟨b1,l2,rfl,h2⟩:=Vh h1
 obtain⟨b2,l3,rfl,h3⟩:=Vh h2
 obtain⟨b3,l4,rfl,h4⟩:=Vh h3
 obtain⟨b4,l5,rfl,h5⟩:=Vh h4
 obtain⟨b5,l6,rfl,h6⟩:=Vh h5
 obtain⟨b6,l7,rfl,h7⟩:=Vh h6
 obtain⟨b7,l8,rfl,h8⟩:=Vh h7
 obtain⟨b8,l9,rfl,h9⟩:=Vh h8
 obtain⟨b9,l10,rfl,h10⟩:=Vh h9
 obtain⟨b10,l11,rfl,h11⟩:=Vh h10
 obtain⟨b11,l12,rfl,h12⟩:=Vh h11
 obtain⟨b12,l13,rfl,h13⟩:=Vh h12
 obtain⟨b13,l14,rfl,h14⟩:=Vh h13
 obtain⟨b14,l15,rfl,h15⟩:=Vh h14
 obtain⟨b15,l16,rfl,h16⟩:=Vh h15
 obtain⟨b16,l17,rfl,h17⟩:=Vh h16
 obtain⟨b17,l18,rfl,h18⟩:=Vh h17
 obtain⟨b18,l19,rfl,h19⟩:=Vh h18
 obtain⟨b19,l20,rfl,h20⟩:=Vh h19
 obtain⟨b20,l21,rfl,h21⟩:=Vh h20
 obtain⟨b21,l22,rfl,h22⟩:=Vh h21
 obtain⟨b22,l23,rfl,h23⟩:=Vh h22
 obtain⟨b23,l24,rfl,h24⟩:=Vh h23
 obtain⟨b24,l25,rfl,h25⟩:=Vh h24
 obtain⟨b25,l26,rfl,h26⟩:=Vh h25
 obtain⟨b26,l27,rfl,h27⟩:=Vh h26
 obtain⟨b27,l28,rfl,h28⟩:=Vh h27
 obtain⟨b28,l29,rfl,h29⟩:=Vh h28
 obtain⟨b29,l30,rfl,h30⟩:=Vh h29
 obtain⟨b30,l31,rfl,h31⟩:=Vh h30
 obtain⟨b31,l32,rfl,h32⟩:=Vh h31
 obtain⟨b32,l33,rfl,h33⟩:=Vh h32
 obtain⟨b33,l34,rfl,h34⟩:=Vh h33
 obtain⟨b34,l35,rfl,h35⟩:=Vh h34
 obtain⟨b35,l36,rfl,h36⟩:=Vh h35
 obtain⟨b36,l37,rfl,h37⟩:=Vh h36
 obtain⟨b37,l38,rfl,h38⟩:=Vh h37
 obtain⟨b38,l39,rfl,h39⟩:=Vh h38
 obtain⟨b39,l40,rfl,h40⟩:=Vh h39
 obtain⟨b40,l41,rfl,h41⟩:=Vh h40
 obtain⟨b41,l42,rfl,h42⟩:=Vh h41
 obtain⟨b42,l43,rfl,h43⟩:=Vh h42
 obtain⟨b43,l44,rfl,h44⟩:=Vh h43
 obtain⟨b44,l45,rfl,h45⟩:=Vh h44
 obtain⟨b45,l46,rfl,h46⟩:=Vh h45
 obtain⟨b46,l47,rfl,h47⟩:=Vh h46
 obtain⟨b47,l48,rfl,h48⟩:=Vh h47
 obtain⟨b48,l49,rfl,h49⟩:=Vh h48
 obtain⟨b49,l50,rfl,h50⟩:=Vh h49
 obtain⟨b50,l51,rfl,h51⟩:=Vh h50
 obtain⟨b51,l52,rfl,h52⟩:=Vh h51
 obtain⟨b52,l53,rfl,h53⟩:=Vh h52
 obtain⟨b53,l54,rfl,h54⟩:=Vh h53
 obtain⟨b54,l55,rfl,h55⟩:=Vh h54
 obtain⟨b55,l56,rfl,h56⟩:=Vh h55
 obtain⟨b56,l57,rfl,h57⟩:=Vh h56
 obtain⟨b57,l58,rfl,h58⟩:=Vh h57
 obtain⟨b58,l59,rfl,h59⟩:=Vh h58
 obtain⟨b59,l60,rfl,h60⟩:=Vh h59
 obtain⟨b60,l61,rfl,h61⟩:=Vh h60
 obtain⟨b61,l62,rfl,h62⟩:=Vh h61
 obtain⟨b62,l63,rfl,h63⟩:=Vh h62
 obtain⟨b63,l64,rfl,h64⟩:=Vh h63
 have e:=List.eq_nil_of_length_eq_zero h64
 subst e
 exact⟨_,_,_,_,_,_,_,_,_,_,_,_,_,_,_,_,_,_,_,_,_,_,_,_,_,_,_,_,_,_,_,_,_,_,_,_,_,_,_,_,_,_,_,_,_,_,_,_,_,_,_,_,_,_,_,_,_,_,_,_,_,_,_,_,rfl⟩
theorem Zpv(b:Nat)(h0 h1 h2 h3 h4 h5 h6 h7 count:Nat)(l:List Nat)(hl:l.length=64)(last:Bool) :
  Zo7 ((Qm3 Tryz.prog (mkE Tryz.prog nv b) Xch 100 4).fn 39 [.agg ⟨[Qeq h0,Qeq h1,Qeq h2,Qeq h3,Qeq h4,Qeq h5,Qeq h6,Qeq h7]⟩,.pointer (some ⟨nv,0,none⟩),.int .u64 (.ofNat count),.bool last] (Qik nv Qix false [(1,l.map u8v)])) =
   some (p8v (Bl.take ⟨h0,h1,h2,h3,h4,h5,h6,h7⟩ l count last)):=by
 obtain⟨b0,b1,b2,b3,b4,b5,b6,b7,b8,b9,b10,b11,b12,b13,b14,b15,b16,b17,b18,b19,b20,b21,b22,b23,b24,b25,b26,b27,b28,b29,b30,b31,b32,b33,b34,b35,b36,b37,b38,b39,b40,b41,b42,b43,b44,b45,b46,b47,b48,b49,b50,b51,b52,b53,b54,b55,b56,b57,b58,b59,b60,b61,b62,b63,rfl⟩:=Zz0 hl
 cases last with
 | true=>exact Y7s b h0 h1 h2 h3 h4 h5 h6 h7 b0 b1 b2 b3 b4 b5 b6 b7 b8 b9 b10 b11 b12 b13 b14 b15 b16 b17 b18 b19 b20 b21 b22 b23 b24 b25 b26 b27 b28 b29 b30 b31 b32 b33 b34 b35 b36 b37 b38 b39 b40 b41 b42 b43 b44 b45 b46 b47 b48 b49 b50 b51 b52 b53 b54 b55 b56 b57 b58 b59 b60 b61 b62 b63 count
 | false=>exact Y3r b h0 h1 h2 h3 h4 h5 h6 h7 b0 b1 b2 b3 b4 b5 b6 b7 b8 b9 b10 b11 b12 b13 b14 b15 b16 b17 b18 b19 b20 b21 b22 b23 b24 b25 b26 b27 b28 b29 b30 b31 b32 b33 b34 b35 b36 b37 b38 b39 b40 b41 b42 b43 b44 b45 b46 b47 b48 b49 b50 b51 b52 b53 b54 b55 b56 b57 b58 b59 b60 b61 b62 b63 count
def Yy3:Q83:=fun f args h=>bq (Nat.beq f 39) (match args with
 | [.agg ⟨hv⟩,p,.int .u64 (.ofNat count),.bool last]=>ob (Ztq hv) fun hl=>ob (Yfu h p) fun q=>ob (u8s q.2) fun bl=>bq (Nat.beq bl.length 64) (bq (Zkf h Qix) (ob (Zz1 hl) fun h8=>some (.ret (p8v (Bl.take h8 bl count last)),h)) none) none
 | _=>none) none
theorem Yxy:∀ x ∈ Qix,x.2 ≠ []/\Xus x.2:=by
 intro x hx
 rcases List.mem_cons.1 hx with rfl | hx
 ·exact⟨by simp[Qge],Qvb (by kernel_rfl)⟩
 ·rcases List.mem_cons.1 hx with rfl | hx
  ·exact⟨by simp[Xe3],Qvb (by kernel_rfl)⟩
  ·cases hx
theorem Yan(b:Nat):Qmo Tryz.prog ⟨nv,b⟩ Yy3:=by
 intro f args h r h' hx
 unfold Yy3 at hx
 obtain⟨hf,hx⟩:=Ql1 hx
 have hf:=Nat.eq_of_beq_eq_true hf
 subst hf
 split at hx
 ·rename_i hv p count last hq
  obtain⟨hl,h1,hx⟩:=Wr hx
  obtain⟨⟨blk,cs⟩,h2,hx⟩:=Wr hx
  obtain⟨bl,h3,hx⟩:=Wr hx
  obtain⟨h4,hx⟩:=Ql1 hx
  obtain⟨h5,hx⟩:=Ql1 hx
  obtain⟨h8,h6,hx⟩:=Wr hx
  cases hx
  have e1:=Yc2 h1
  subst e1
  have e0:Value.agg {toList:=List.map Qeq hl}=p8v h8:=Zs9 h6
  obtain⟨rfl,hg⟩:=Q49 h2
  have e2:=Zi9 h3
  simp only at e2 hg
  subst e2
  rw[e0]
  refine X5q (k:=100) (m:=4) Uz Y32 Yot (fun b=>Zpv b h8.h0 h8.h1 h8.h2 h8.h3 h8.h4 h8.h5 h8.h6 h8.h7 count bl (Nat.eq_of_beq_eq_true h4) last) rfl (Yb1 h5) Yxy (bs:=[blk]) rfl (by simp) (fun k d r hd hr => ?_)
   (Qc2 (Qip rfl) (Qc2 (Yrn _ _) (Qc2 (Qip rfl) (Qc2 (Qip rfl) Qxm))))
  cases k with
  | zero=>simp at hd hr;subst hd;subst hr;exact⟨hg,Yay _⟩
  | succ k=>simp at hd
 ·cases hx
theorem X04:Qsx Yy3:=by
 intro f args h r h' hx
 unfold Yy3 at hx
 obtain⟨hf,hx⟩:=Ql1 hx
 split at hx
 ·obtain⟨hl,h1,hx⟩:=Wr hx
  obtain⟨⟨blk,cs⟩,h2,hx⟩:=Wr hx
  obtain⟨bl,h3,hx⟩:=Wr hx
  obtain⟨h4,hx⟩:=Ql1 hx
  obtain⟨h5,hx⟩:=Ql1 hx
  obtain⟨h8,h6,hx⟩:=Wr hx
  cases hx;exact LowOK.refl _
 ·cases hx
def Qp0:List Value:=[.int .u8 253,.int .i64 2,.int .u64 253,.int .u8 254,.int .i64 4,.int .u64 65536,.int .u8 255,.int .i64 8,.int .u64 4294967296]
def laidAll:List (Nat × List Value):=[(0,Qge),(2,Qp0),(1,Xe3)]
def Qmb(seed:List Nat):Nat->Nat->List Nat
 | 0,_=>[]
 | n+1,i=>Bl.keyed seed [i]++Qmb seed n (Nat.succ i)
theorem Yoo:∀ x ∈ laidAll,x.2 ≠ []/\Xus x.2:=by
 intro x hx
 rcases List.mem_cons.1 hx with rfl | hx
 ·exact⟨by simp[Qge],Qvb (by kernel_rfl)⟩
 ·rcases List.mem_cons.1 hx with rfl | hx
  ·exact⟨by simp[Qp0],Qvb (by kernel_rfl)⟩
  ·rcases List.mem_cons.1 hx with rfl | hx
   ·exact⟨by simp[Xe3],Qvb (by kernel_rfl)⟩
   ·cases hx
def Xrz:List Nat:=[107,101,121,115]
def Yq7:List Nat:=Qmb Xrz 32 1
theorem Zen(b:Nat):Zcf (nv+([(1,Xrz.map u8v)]:List (Nat × List Value)).length) ((Qm3 Tryz.prog (mkE Tryz.prog nv b) Yy3 10000 8).fn 21 [.slice (some ⟨nv,0,none⟩) 4 4] (Qik nv laidAll false [(1,Xrz.map u8v)]))=some (Yq7.map u8v):=by kernel_rfl
def X0a:Q83:=fun f args h=>bq (Nat.beq f 21) (match args with
 | [.slice (some ⟨blk,0,none⟩) 4 4]=>ob (Yfu h (.pointer (some ⟨blk,0,none⟩))) fun q=>ob (u8s q.2) fun bl=>bq (eqN bl Xrz) (bq (Zkf h laidAll) (some (.ret (.pointer (some ⟨h.next,0,none⟩)),h.push (.cells true 1 (Yq7.map u8v)))) none) (Yy3 f args h)
 | _=>Yy3 f args h) (Yy3 f args h)
theorem Y8s(b:Nat):Qmo Tryz.prog ⟨nv,b⟩ X0a:=by
 intro f args h r h' hx
 unfold X0a at hx
 cases hf:Nat.beq f 21 with
 | false=>rw[hf]at hx;exact Yan b f args h r h' hx
 | true =>
  rw[hf,bq_true]at hx
  have hf:=Nat.eq_of_beq_eq_true hf
  subst hf
  split at hx
  ·rename_i blk
   obtain⟨⟨blk',cs⟩,h2,hx⟩:=Wr hx
   obtain⟨bl,h3,hx⟩:=Wr hx
   cases h4:eqN bl Xrz with
   | false=>rw[h4,bq_false]at hx;exact Yan b _ _ h r h' hx
   | true =>
    rw[h4,bq_true]at hx
    obtain⟨h1,hx⟩:=Ql1 hx
    cases hx
    obtain⟨e0,hg⟩:=Q49 h2
    cases e0
    have e2:=Zi9 h3
    simp only at e2 hg
    have e3:=Xl8 h4
    subst e3
    subst e2
    refine Zjd (k:=10000) (m:=8) Uz Yan X04 Zen (Yay _) (Yb1 h1) Yoo (bs:=[blk]) rfl (by simp) (fun k d r hd hr => ?_) (Qc2 (Y2i (by simp[emb])) Qxm)
    cases k with
    | zero=>simp at hd hr;subst hd;subst hr;exact⟨hg,Yay _⟩
    | succ k=>simp at hd
  ·exact Yan b _ _ h r h' hx
theorem Y2x:Qsx X0a:=by
 intro f args h r h' hx
 unfold X0a at hx
 cases hf:Nat.beq f 21 with
 | false=>rw[hf]at hx;exact X04 f args h r h' hx
 | true =>
  rw[hf,bq_true]at hx
  split at hx
  ·obtain⟨q,h2,hx⟩:=Wr hx
   obtain⟨bl,h3,hx⟩:=Wr hx
   cases h4:eqN bl Xrz with
   | false=>rw[h4,bq_false]at hx;exact X04 _ _ h r h' hx
   | true =>
    rw[h4,bq_true]at hx
    obtain⟨h1,hx⟩:=Ql1 hx
    cases hx
    exact LowOK.push _ _
  ·exact X04 _ _ h r h' hx
theorem Yl8(b:Nat):Zo7 ((Qm3 Tryz.prog (mkE Tryz.prog nv b) X0a 10000 30).fn 10 [] (Qik nv laidAll false []))=some (.bool true):=by kernel_rfl
end Go.Proofs.YtgjlmnnggnajmaaGreatDoor
end
