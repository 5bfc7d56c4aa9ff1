import Derived.Test.YtcnhfkplgknomaaDoorAbG
import Derived.Test.YtcnhfkplgknomaaDoorProg
import Derived.Test.YtcnhfkplgknomaaDoorAbF
set_option linter.all false
noncomputable section
namespace Go.Proofs.YtcnhfkplgknomaaDoor
open Go Go.Ab
set_option maxRecDepth 100000
def nv:Nat:=3
abbrev E(b:Nat):Env2 Tryd.prog:=mkE Tryd.prog nv b
noncomputable def Yg(f:Nat):Code:=((Tryd.prog.funcs[f]?).bind (·.body)).getD .skip
theorem Qa5:Tryd.prog.follows .mixedOrders=true:=by kernel_rfl
def D0(b:Nat):CallF:=X0o (E b) Yn0 100 0
theorem Qcb(b:Nat):CallsSound Tryd.prog (E b).G (D0 b):=Xom (E b) (X4i _) Xnz Qa5 100 0
theorem Vk(b:Nat):CallsLow (D0 b):=Xp2 (E b) Xnz 100 0
def DD(b:Nat):Qj7:=Xgq (E b) (D0 b) 100
theorem Qd8(b:Nat):Qoi Tryd.prog (E b).G (DD b):=Xu1 (E b) (Qcb b) (Vk b) Qa5
theorem Qem(b:Nat):Q8o (DD b):=Xpr (Vk b)
theorem X0q(h:Heap)(l:List Value):∃ hA,hA=h.push (.cells true 1 l)/\Old h hA/\hA.get h.next=some (.cells true 1 l):=⟨_,rfl,Old.push _ _,by rw[Heap.get_push,if_pos rfl]⟩
theorem Xs7{h hA:Heap}{l:List Value}(e:hA=h.push (.cells true 1 l)):Yn3 (.agg ⟨l⟩) h=some (.pointer (some ⟨h.next,0,none⟩),hA):=by rw[e];rfl
theorem Q33{h hA:Heap}{x:Blk}(e:hA=h.push x):Old h hA:=by rw[e];exact Old.push _ _
theorem X0g{h hA:Heap}{x:Blk}(e:hA=h.push x):hA.next=h.next+1:=by rw[e];rfl
abbrev FF(b:Nat):=@Qej _ (E b) _ (Qcb b) (Vk b) Qa5 _ (Qd8 b) (Qem b)
abbrev KP:=AEnd->Heap->Prop
abbrev FK(b:Nat):=FnK Tryd.prog (E b).G
theorem agW{h:Heap}{bk z k:Nat}{ow:Bool}{c:List Value}(hg:h.get bk=some (.cells ow z c))(hl:0+k<=c.length)(h2:c.length<=k):Qll h bk 0 k=some (.agg ⟨c⟩):=by rw[Qe3 hg hl,List.drop_zero,List.take_of_length_le h2]
theorem zk1{P:KE->Prop}{a:KE}(h:P a):∀ e∈[a],P e:=by simpa using h
theorem zk2{P:KE->Prop}{a c:KE}(h:P a)(h2:P c):∀ e∈[a,c],P e:=by simpa using ⟨h,h2⟩
theorem zk3{P:KE->Prop}{a c d:KE}(h:P a)(h2:P c)(h3:P d):∀ e∈[a,c,d],P e:=by simpa using ⟨h,h2,h3⟩
theorem zk4{P:KE->Prop}{a c d f:KE}(h:P a)(h2:P c)(h3:P d)(h4:P f):∀ e∈[a,c,d,f],P e:=by simpa using ⟨h,h2,h3,h4⟩
end Go.Proofs.YtcnhfkplgknomaaDoor
end
noncomputable section
namespace Go.Ab
variable{P:Program}{E:Env2 P}{C:CallP}{rd:Option Nat}{D0:CallF}
theorem kNN(F:St->Prop)(K:Exit->St->Prop)(s:St):X4a F K .normal s=F s:=Eq.trans rfl rfl
theorem kNP(F:St->Prop)(K:Exit->St->Prop)(ch:List PanicEntry)(s:St):X4a F K (.panic ch) s=K (.panic ch) s:=Eq.trans rfl rfl
theorem kRR(d:Option Tmp)(s:St)(K:Exit->St->Prop)(v:Value)(h:Heap):Yvf d s K (.ret v) h=K .normal (s.put d v h):=Eq.trans rfl rfl
theorem kRP(d:Option Tmp)(s:St)(K:Exit->St->Prop)(ch:List PanicEntry)(h:Heap):Yvf d s K (.panic ch) h=K (.panic ch) {s with h:=h}:=Eq.trans rfl rfl
theorem kTN(F:St->Prop)(K:Exit->St->Prop)(s:St):Xar F K .normal s=F s:=Eq.trans rfl rfl
theorem kTR(F:St->Prop)(K:Exit->St->Prop)(s:St):Xar F K .ret s=K .ret s:=Eq.trans rfl rfl
theorem kTX(F:St->Prop)(K:Exit->St->Prop)(id:Nat)(s:St):Xar F K (.exit id) s=K (.exit id) s:=Eq.trans rfl rfl
theorem kTP(F:St->Prop)(K:Exit->St->Prop)(ch:List PanicEntry)(s:St):Xar F K (.panic ch) s=K (.panic ch) s:=Eq.trans rfl rfl
theorem kBN(id:Nat)(K:Exit->St->Prop)(s:St):Q0u id K .normal s=K .normal s:=Eq.trans rfl rfl
theorem kBR(id:Nat)(K:Exit->St->Prop)(s:St):Q0u id K .ret s=K .ret s:=Eq.trans rfl rfl
theorem kBP(id:Nat)(K:Exit->St->Prop)(ch:List PanicEntry)(s:St):Q0u id K (.panic ch) s=K (.panic ch) s:=Eq.trans rfl rfl
theorem kBX(id id':Nat)(K:Exit->St->Prop)(s:St):Q0u id K (.exit id') s=if id'=id then K .normal s else K (.exit id') s:=Eq.trans rfl rfl
theorem kAM(y:Code)(K:Exit->St->Prop)(t:Tm)(ds:List Deferred)(h:Heap):Ysg E C D0 rd y K ⟨t,ds,h⟩=Jr E C D0 rd y ⟨t,ds,h⟩ K:=Eq.trans rfl rfl
theorem kEN(D:Qj7)(fn:Func)(K:AEnd->Heap->Prop)(s:St):X7k E D fn K .normal s=Q8f E D fn K .returning s:=Eq.trans rfl rfl
theorem kER(D:Qj7)(fn:Func)(K:AEnd->Heap->Prop)(s:St):X7k E D fn K .ret s=Q8f E D fn K .returning s:=Eq.trans rfl rfl
theorem kON(ops:List Oper)(K:Exit->St->Prop)(t:Tm)(ds:List Deferred)(h:Heap):Xre E C rd ops K [] ⟨t,ds,h⟩=K .normal ⟨t,ds,h⟩:=Eq.trans rfl rfl
theorem kOC(ops:List Oper)(K:Exit->St->Prop)(o:Oper)(r:List Oper)(t:Tm)(ds:List Deferred)(h:Heap):Xre E C rd ops K (o::r) ⟨t,ds,h⟩ =
 (match Qe ops t o with
  | some true=>Y9 E C rd o ⟨t,ds,h⟩ (X4a (Xre E C rd ops K r) K)
  | some false=>if Qdh ⟨t,ds,h⟩ o.dst then Xre E C rd ops K r (St.put ⟨t,ds,h⟩ o.dst Qq h)else False
  | none=>False):=Eq.trans rfl rfl
theorem kCS(s:St)(K:Exit->St->Prop):Jr E C D0 rd .skip s K=K .normal s:=Eq.trans rfl rfl
theorem kCR(s:St)(K:Exit->St->Prop):Jr E C D0 rd .ret s K=K .ret s:=Eq.trans rfl rfl
theorem kCE(id:Nat)(s:St)(K:Exit->St->Prop):Jr E C D0 rd (.exit id) s K=K (.exit id) s:=Eq.trans rfl rfl
end Go.Ab
end
noncomputable section
namespace Go.Proofs.YtcnhfkplgknomaaDoor
open Go Go.Ab
set_option maxRecDepth 1000000
def Q54(ix l:List Nat)(x y:Nat):Option (List Nat):=match l with
 | [p0,p1,p2,p3,p4,p5,p6,p7,p8,p9,p10,p11,p12,p13,p14,p15] =>
  bq (eqN ix [0,4,8,12]) (some (Bl.stir p0 p4 p8 p12 x y fun p0 p4 p8 p12=>[p0,p1,p2,p3,p4,p5,p6,p7,p8,p9,p10,p11,p12,p13,p14,p15])) <|
  bq (eqN ix [1,5,9,13]) (some (Bl.stir p1 p5 p9 p13 x y fun p1 p5 p9 p13=>[p0,p1,p2,p3,p4,p5,p6,p7,p8,p9,p10,p11,p12,p13,p14,p15])) <|
  bq (eqN ix [2,6,10,14]) (some (Bl.stir p2 p6 p10 p14 x y fun p2 p6 p10 p14=>[p0,p1,p2,p3,p4,p5,p6,p7,p8,p9,p10,p11,p12,p13,p14,p15])) <|
  bq (eqN ix [3,7,11,15]) (some (Bl.stir p3 p7 p11 p15 x y fun p3 p7 p11 p15=>[p0,p1,p2,p3,p4,p5,p6,p7,p8,p9,p10,p11,p12,p13,p14,p15])) <|
  bq (eqN ix [0,5,10,15]) (some (Bl.stir p0 p5 p10 p15 x y fun p0 p5 p10 p15=>[p0,p1,p2,p3,p4,p5,p6,p7,p8,p9,p10,p11,p12,p13,p14,p15])) <|
  bq (eqN ix [1,6,11,12]) (some (Bl.stir p1 p6 p11 p12 x y fun p1 p6 p11 p12=>[p0,p1,p2,p3,p4,p5,p6,p7,p8,p9,p10,p11,p12,p13,p14,p15])) <|
  bq (eqN ix [2,7,8,13]) (some (Bl.stir p2 p7 p8 p13 x y fun p2 p7 p8 p13=>[p0,p1,p2,p3,p4,p5,p6,p7,p8,p9,p10,p11,p12,p13,p14,p15])) <|
  bq (eqN ix [3,4,9,14]) (some (Bl.stir p3 p4 p9 p14 x y fun p3 p4 p9 p14=>[p0,p1,p2,p3,p4,p5,p6,p7,p8,p9,p10,p11,p12,p13,p14,p15])) <|
  none
 | _=>none
def Ynl:Qmy:=fun f args h=>bq (Nat.beq f 62) (match args with
 | [p,a,b,c,d,.agg ⟨[.int .u32 (.ofNat x),.int .u32 (.ofNat y)]⟩]=>ob (Xxx h p) fun q=>ob (Ytn q.2) fun l=>ob (Ywp [a,b,c,d]) fun ix=>ob (Q54 ix l x y) fun l'=>some (.ret (.tuple #[]),h.set q.1 (some (.cells true 1 (l'.map Qa3))))
 | _=>none) none
theorem Ymj{a b c d:Value}{ix:List Nat}(h:Ywp [a,b,c,d]=some ix):∃ i j k l,ix=[i,j,k,l]/\a=Yp6 i/\b=Yp6 j/\c=Yp6 k/\d=Yp6 l:=by
 have:=You h
 match ix,this with
 | [i,j,k,l],e=>simp only[List.map_cons,List.map_nil,List.cons.injEq,and_true]at e;exact⟨i,j,k,l,rfl,e.1,e.2.1,e.2.2.1,e.2.2.2⟩
theorem X6h(n blk:Nat):Xw0 (emb n [blk]) (.pointer (some ⟨n,0,none⟩)) (.pointer (some ⟨blk,0,none⟩)):=Xqz (by simp[emb])
def L1(l:List Nat):Prop:=∃ p0 p1 p2 p3 p4 p5 p6 p7 p8 p9 p10 p11 p12 p13 p14 p15,l=[p0,p1,p2,p3,p4,p5,p6,p7,p8,p9,p10,p11,p12,p13,p14,p15]
theorem L1.all{l:List Nat}(h:L1 l){P:List Nat->Prop}(k:∀ p0 p1 p2 p3 p4 p5 p6 p7 p8 p9 p10 p11 p12 p13 p14 p15,P [p0,p1,p2,p3,p4,p5,p6,p7,p8,p9,p10,p11,p12,p13,p14,p15]):P l:=by
 obtain⟨p0,p1,p2,p3,p4,p5,p6,p7,p8,p9,p10,p11,p12,p13,p14,p15,rfl⟩:=h
 exact k _ _ _ _ _ _ _ _ _ _ _ _ _ _ _ _
theorem Yl0{ix l l':List Nat}{x y:Nat}(h:Q54 ix l x y=some l'):L1 l:=by
 unfold Q54 at h
 split at h
 ·exact⟨_,_,_,_,_,_,_,_,_,_,_,_,_,_,_,_,rfl⟩
 ·cases h
def stI(i j k q:Nat)(P:List Nat)(x y:Nat):List Value:=Ypa (.ofNat (P.getD i 0)) (.ofNat (P.getD j 0)) (.ofNat (P.getD k 0)) (.ofNat (P.getD q 0)) (.ofNat x) 16 20 fun a b c d=>Ypa a b c d (.ofNat y) 24 25 fun a b c d=>((((P.map Qa3).set i (.int .u32 a)).set j (.int .u32 b)).set k (.int .u32 c)).set q (.int .u32 d)
def stS(i j k q:Nat)(P:List Nat)(x y:Nat):List Nat:=Bl.stir (P.getD i 0) (P.getD j 0) (P.getD k 0) (P.getD q 0) x y fun a b c d=>(((P.set i a).set j b).set k c).set q d
theorem Ysv(i j k q:Nat)(P:List Nat)(x y:Nat):stI i j k q P x y=(stS i j k q P x y).map Qa3:=by
 unfold stI stS
 rw[Ybf _ _ _ _ _ 16 20 (by decide) (by decide)]
 simp only[Bl.half,Ybf _ _ _ _ _ 24 25 (by decide) (by decide),Bl.stir,List.map_set]
 rfl
def ST(b i j k q:Nat)(x y:Nat)(l:List Nat):Prop :=
 Ygk nv ((Qfr Tryd.prog (mkE Tryd.prog nv b) Yn0 100 4).fn 62 [.pointer (some ⟨nv,0,none⟩),Yp6 i,Yp6 j,Yp6 k,Yp6 q,.agg #[Qa3 x,Qa3 y]] (Qdl nv [] true [(1,l.map Qa3)]))=some (.tuple #[],stI i j k q l x y)
def SE(i j k q:Nat)(x y:Nat)(l:List Nat):Prop:=Q54 [i,j,k,q] l x y=some (stS i j k q l x y)
theorem st0(b x y:Nat){l:List Nat}(h:L1 l):ST b 0 4 8 12 x y l/\SE 0 4 8 12 x y l:=⟨h.all (P:=ST b 0 4 8 12 x y) fun _ _ _ _ _ _ _ _ _ _ _ _ _ _ _ _=>(by kernel_rfl:_=_),h.all (P:=SE 0 4 8 12 x y) fun _ _ _ _ _ _ _ _ _ _ _ _ _ _ _ _=>(by kernel_rfl:_=_)⟩
theorem st1(b x y:Nat){l:List Nat}(h:L1 l):ST b 1 5 9 13 x y l/\SE 1 5 9 13 x y l:=⟨h.all (P:=ST b 1 5 9 13 x y) fun _ _ _ _ _ _ _ _ _ _ _ _ _ _ _ _=>(by kernel_rfl:_=_),h.all (P:=SE 1 5 9 13 x y) fun _ _ _ _ _ _ _ _ _ _ _ _ _ _ _ _=>(by kernel_rfl:_=_)⟩
theorem st2(b x y:Nat){l:List Nat}(h:L1 l):ST b 2 6 10 14 x y l/\SE 2 6 10 14 x y l:=⟨h.all (P:=ST b 2 6 10 14 x y) fun _ _ _ _ _ _ _ _ _ _ _ _ _ _ _ _=>(by kernel_rfl:_=_),h.all (P:=SE 2 6 10 14 x y) fun _ _ _ _ _ _ _ _ _ _ _ _ _ _ _ _=>(by kernel_rfl:_=_)⟩
theorem st3(b x y:Nat){l:List Nat}(h:L1 l):ST b 3 7 11 15 x y l/\SE 3 7 11 15 x y l:=⟨h.all (P:=ST b 3 7 11 15 x y) fun _ _ _ _ _ _ _ _ _ _ _ _ _ _ _ _=>(by kernel_rfl:_=_),h.all (P:=SE 3 7 11 15 x y) fun _ _ _ _ _ _ _ _ _ _ _ _ _ _ _ _=>(by kernel_rfl:_=_)⟩
theorem st4(b x y:Nat){l:List Nat}(h:L1 l):ST b 0 5 10 15 x y l/\SE 0 5 10 15 x y l:=⟨h.all (P:=ST b 0 5 10 15 x y) fun _ _ _ _ _ _ _ _ _ _ _ _ _ _ _ _=>(by kernel_rfl:_=_),h.all (P:=SE 0 5 10 15 x y) fun _ _ _ _ _ _ _ _ _ _ _ _ _ _ _ _=>(by kernel_rfl:_=_)⟩
theorem st5(b x y:Nat){l:List Nat}(h:L1 l):ST b 1 6 11 12 x y l/\SE 1 6 11 12 x y l:=⟨h.all (P:=ST b 1 6 11 12 x y) fun _ _ _ _ _ _ _ _ _ _ _ _ _ _ _ _=>(by kernel_rfl:_=_),h.all (P:=SE 1 6 11 12 x y) fun _ _ _ _ _ _ _ _ _ _ _ _ _ _ _ _=>(by kernel_rfl:_=_)⟩
theorem st6(b x y:Nat){l:List Nat}(h:L1 l):ST b 2 7 8 13 x y l/\SE 2 7 8 13 x y l:=⟨h.all (P:=ST b 2 7 8 13 x y) fun _ _ _ _ _ _ _ _ _ _ _ _ _ _ _ _=>(by kernel_rfl:_=_),h.all (P:=SE 2 7 8 13 x y) fun _ _ _ _ _ _ _ _ _ _ _ _ _ _ _ _=>(by kernel_rfl:_=_)⟩
theorem st7(b x y:Nat){l:List Nat}(h:L1 l):ST b 3 4 9 14 x y l/\SE 3 4 9 14 x y l:=⟨h.all (P:=ST b 3 4 9 14 x y) fun _ _ _ _ _ _ _ _ _ _ _ _ _ _ _ _=>(by kernel_rfl:_=_),h.all (P:=SE 3 4 9 14 x y) fun _ _ _ _ _ _ _ _ _ _ _ _ _ _ _ _=>(by kernel_rfl:_=_)⟩
theorem Xf7{A:Type}{c:Bool}{v:A}{y:Option A}{z:A}(h:bq c (some v) y=some z):c=true∨y=some z:=by
 cases c with
 | true=>exact .inl rfl
 | false=>exact .inr h
theorem Yxj{i j k q x y:Nat}{l l':List Nat}(h:Q54 [i,j,k,q] l x y=some l'):(∀ b,ST b i j k q x y l)/\SE i j k q x y l:=by
 have hL:=Yl0 h
 obtain⟨p0,p1,p2,p3,p4,p5,p6,p7,p8,p9,p10,p11,p12,p13,p14,p15,rfl⟩:=id hL
 unfold Q54 at h
 simp only at h
 rcases Xf7 h with e | h
 ·have:=Xbt e
  simp only[List.cons.injEq,and_true]at this
  obtain⟨rfl,rfl,rfl,rfl⟩:=this
  exact⟨fun b=>(st0 b x y hL).1,(st0 0 x y hL).2⟩
 rcases Xf7 h with e | h
 ·have:=Xbt e
  simp only[List.cons.injEq,and_true]at this
  obtain⟨rfl,rfl,rfl,rfl⟩:=this
  exact⟨fun b=>(st1 b x y hL).1,(st1 0 x y hL).2⟩
 rcases Xf7 h with e | h
 ·have:=Xbt e
  simp only[List.cons.injEq,and_true]at this
  obtain⟨rfl,rfl,rfl,rfl⟩:=this
  exact⟨fun b=>(st2 b x y hL).1,(st2 0 x y hL).2⟩
 rcases Xf7 h with e | h
 ·have:=Xbt e
  simp only[List.cons.injEq,and_true]at this
  obtain⟨rfl,rfl,rfl,rfl⟩:=this
  exact⟨fun b=>(st3 b x y hL).1,(st3 0 x y hL).2⟩
 rcases Xf7 h with e | h
 ·have:=Xbt e
  simp only[List.cons.injEq,and_true]at this
  obtain⟨rfl,rfl,rfl,rfl⟩:=this
  exact⟨fun b=>(st4 b x y hL).1,(st4 0 x y hL).2⟩
 rcases Xf7 h with e | h
 ·have:=Xbt e
  simp only[List.cons.injEq,and_true]at this
  obtain⟨rfl,rfl,rfl,rfl⟩:=this
  exact⟨fun b=>(st5 b x y hL).1,(st5 0 x y hL).2⟩
 rcases Xf7 h with e | h
 ·have:=Xbt e
  simp only[List.cons.injEq,and_true]at this
  obtain⟨rfl,rfl,rfl,rfl⟩:=this
  exact⟨fun b=>(st6 b x y hL).1,(st6 0 x y hL).2⟩
 rcases Xf7 h with e | h
 ·have:=Xbt e
  simp only[List.cons.injEq,and_true]at this
  obtain⟨rfl,rfl,rfl,rfl⟩:=this
  exact⟨fun b=>(st7 b x y hL).1,(st7 0 x y hL).2⟩
 cases h
theorem Ypc(b:Nat):Wu Tryd.prog ⟨nv,b⟩ Ynl:=by
 intro f args h r h' hx
 unfold Ynl at hx
 obtain⟨hf,hx⟩:=We hx
 have hf:=Nat.eq_of_beq_eq_true hf
 subst hf
 split at hx
 ·rename_i p a b' c d x y hq
  obtain⟨⟨blk,cs⟩,h1,hx⟩:=Jh hx
  obtain⟨l,h2,hx⟩:=Jh hx
  obtain⟨ix,h3,hx⟩:=Jh hx
  obtain⟨l',h4,hx⟩:=Jh hx
  cases hx
  obtain⟨rfl,hg⟩:=Q3u h1
  have:=Xwv h2
  subst this
  obtain⟨i,j,k,q,rfl,rfl,rfl,rfl,rfl⟩:=Ymj h3
  obtain⟨s1,s2⟩:=Yxj h4
  unfold SE at s2
  rw[h4]at s2
  cases s2
  exact Ynq (k:=100) (m:=4) Qa5 (fun b=>X4i _) Xnz (fun b=>(s1 b).trans (by rw[Ysv])) rfl (Xhi _) (Xhi _) hg (Vq (X6h _ _) (Vq (Qdt rfl) (Vq (Qdt rfl) (Vq (Qdt rfl) (Vq (Qdt rfl) (Vq (Qdt rfl) Qvw))))))
 ·cases hx
theorem Ymq:Qe6 Ynl:=by
 intro f args h r h' hx
 unfold Ynl at hx
 obtain⟨hf,hx⟩:=We hx
 split at hx
 ·obtain⟨⟨blk,cs⟩,h1,hx⟩:=Jh hx
  obtain⟨l,h2,hx⟩:=Jh hx
  obtain⟨ix,h3,hx⟩:=Jh hx
  obtain⟨l',h4,hx⟩:=Jh hx
  cases hx
  obtain⟨_,hg⟩:=Q3u h1
  exact LowOK.set _ _ _ (Heap.get_lt hg)
 ·cases hx
def Yy2:ByteArray:=⟨#[48,49,50,51,52,53,54,55,56,57,97,98,99,100,101,102]⟩
def Yxu:ByteArray:=⟨#[101,97,52,56,57,102,100,54,49,99,48,50,98,55,53,51]⟩
def Yy9:ByteArray:=⟨#[98,56,99,48,53,50,102,100,97,101,51,54,55,49,57,52]⟩
def Yye:ByteArray:=⟨#[55,57,51,49,100,99,98,101,50,54,53,97,52,48,102,56]⟩
def Yy8:ByteArray:=⟨#[57,48,53,55,50,52,97,102,101,49,98,99,54,56,51,100]⟩
def Yya:ByteArray:=⟨#[50,99,54,97,48,98,56,51,52,100,55,53,102,101,49,57]⟩
def Yy3:ByteArray:=⟨#[99,53,49,102,101,100,52,97,48,55,54,51,57,50,56,98]⟩
def Yxx:ByteArray:=⟨#[100,98,55,101,99,49,51,57,53,48,102,52,56,54,50,97]⟩
def Yxz:ByteArray:=⟨#[54,102,101,57,98,51,48,56,99,50,100,55,49,52,97,53]⟩
def Yyf:ByteArray:=⟨#[97,50,56,52,55,54,49,53,102,98,57,101,51,99,100,48]⟩
def Qol(l:List Nat)(x0 x1 x2 x3 x4 x5 x6 x7 x8 x9 x10 x11 x12 x13 x14 x15:Nat):Option (List Nat) :=
 ob (Q54 [0,4,8,12] l x0 x1) fun l =>
 ob (Q54 [1,5,9,13] l x2 x3) fun l =>
 ob (Q54 [2,6,10,14] l x4 x5) fun l =>
 ob (Q54 [3,7,11,15] l x6 x7) fun l =>
 ob (Q54 [0,5,10,15] l x8 x9) fun l =>
 ob (Q54 [1,6,11,12] l x10 x11) fun l =>
 ob (Q54 [2,7,8,13] l x12 x13) fun l =>
 Q54 [3,4,9,14] l x14 x15
def X2r(s:ByteArray)(l m:List Nat):Option (List Nat):=match l,m with
 | [p0,p1,p2,p3,p4,p5,p6,p7,p8,p9,p10,p11,p12,p13,p14,p15],[m0,m1,m2,m3,m4,m5,m6,m7,m8,m9,m10,m11,m12,m13,m14,m15] =>
  bq (eqN (s.data.toList.map UInt8.toNat) [48,49,50,51,52,53,54,55,56,57,97,98,99,100,101,102]) (Qol [p0,p1,p2,p3,p4,p5,p6,p7,p8,p9,p10,p11,p12,p13,p14,p15] m0 m1 m2 m3 m4 m5 m6 m7 m8 m9 m10 m11 m12 m13 m14 m15) <|
  bq (eqN (s.data.toList.map UInt8.toNat) [101,97,52,56,57,102,100,54,49,99,48,50,98,55,53,51]) (Qol [p0,p1,p2,p3,p4,p5,p6,p7,p8,p9,p10,p11,p12,p13,p14,p15] m14 m10 m4 m8 m9 m15 m13 m6 m1 m12 m0 m2 m11 m7 m5 m3) <|
  bq (eqN (s.data.toList.map UInt8.toNat) [98,56,99,48,53,50,102,100,97,101,51,54,55,49,57,52]) (Qol [p0,p1,p2,p3,p4,p5,p6,p7,p8,p9,p10,p11,p12,p13,p14,p15] m11 m8 m12 m0 m5 m2 m15 m13 m10 m14 m3 m6 m7 m1 m9 m4) <|
  bq (eqN (s.data.toList.map UInt8.toNat) [55,57,51,49,100,99,98,101,50,54,53,97,52,48,102,56]) (Qol [p0,p1,p2,p3,p4,p5,p6,p7,p8,p9,p10,p11,p12,p13,p14,p15] m7 m9 m3 m1 m13 m12 m11 m14 m2 m6 m5 m10 m4 m0 m15 m8) <|
  bq (eqN (s.data.toList.map UInt8.toNat) [57,48,53,55,50,52,97,102,101,49,98,99,54,56,51,100]) (Qol [p0,p1,p2,p3,p4,p5,p6,p7,p8,p9,p10,p11,p12,p13,p14,p15] m9 m0 m5 m7 m2 m4 m10 m15 m14 m1 m11 m12 m6 m8 m3 m13) <|
  bq (eqN (s.data.toList.map UInt8.toNat) [50,99,54,97,48,98,56,51,52,100,55,53,102,101,49,57]) (Qol [p0,p1,p2,p3,p4,p5,p6,p7,p8,p9,p10,p11,p12,p13,p14,p15] m2 m12 m6 m10 m0 m11 m8 m3 m4 m13 m7 m5 m15 m14 m1 m9) <|
  bq (eqN (s.data.toList.map UInt8.toNat) [99,53,49,102,101,100,52,97,48,55,54,51,57,50,56,98]) (Qol [p0,p1,p2,p3,p4,p5,p6,p7,p8,p9,p10,p11,p12,p13,p14,p15] m12 m5 m1 m15 m14 m13 m4 m10 m0 m7 m6 m3 m9 m2 m8 m11) <|
  bq (eqN (s.data.toList.map UInt8.toNat) [100,98,55,101,99,49,51,57,53,48,102,52,56,54,50,97]) (Qol [p0,p1,p2,p3,p4,p5,p6,p7,p8,p9,p10,p11,p12,p13,p14,p15] m13 m11 m7 m14 m12 m1 m3 m9 m5 m0 m15 m4 m8 m6 m2 m10) <|
  bq (eqN (s.data.toList.map UInt8.toNat) [54,102,101,57,98,51,48,56,99,50,100,55,49,52,97,53]) (Qol [p0,p1,p2,p3,p4,p5,p6,p7,p8,p9,p10,p11,p12,p13,p14,p15] m6 m15 m14 m9 m11 m3 m0 m8 m12 m2 m13 m7 m1 m4 m10 m5) <|
  bq (eqN (s.data.toList.map UInt8.toNat) [97,50,56,52,55,54,49,53,102,98,57,101,51,99,100,48]) (Qol [p0,p1,p2,p3,p4,p5,p6,p7,p8,p9,p10,p11,p12,p13,p14,p15] m10 m2 m8 m4 m7 m6 m1 m5 m15 m11 m9 m14 m3 m12 m13 m0) <|
  none
 | _,_=>none
theorem Qye{s t:ByteArray}{l:List Nat}(h:eqN (s.data.toList.map UInt8.toNat) l=true)(ht:t.data.toList.map UInt8.toNat=l):s=t:=by
 have h1:=(Xbt h).trans ht.symm
 have h2:s.data.toList=t.data.toList:=(List.map_inj_right (fun x y h=>UInt8.toNat_inj.1 h)).1 h1
 cases s;cases t
 simp only[ByteArray.mk.injEq]
 exact Array.ext' h2
def Q8t:Qmy:=fun f args h=>bq (Nat.beq f 53) (match args with
 | [p,q,.string s]=>ob (Xxx h p) fun x=>ob (Xxx h q) fun y=>ob (Ytn x.2) fun l=>ob (Ytn y.2) fun m=>bq (Nat.beq x.1 y.1) none (ob (X2r s l m) fun l'=>some (.ret (.tuple #[]),h.set x.1 (some (.cells true 1 (l'.map Qa3)))))
 | _=>none) none
theorem Ymf(n blk c:Nat):Xw0 (emb n [blk,c]) (.pointer (some ⟨n,0,none⟩)) (.pointer (some ⟨blk,0,none⟩)):=Xqz (by simp[emb])
theorem Ym6(n blk c:Nat):Xw0 (emb n [blk,c]) (.pointer (some ⟨n+1,0,none⟩)) (.pointer (some ⟨c,0,none⟩)):=Xqz (by unfold emb;rw[if_neg (by omega)];simp)
def RR(b:Nat)(s:ByteArray)(l m:List Nat):Prop :=
 X4g nv (nv+1) ((Qfr Tryd.prog (mkE Tryd.prog nv b) Ynl 100 4).fn 53 [.pointer (some ⟨nv,0,none⟩),.pointer (some ⟨nv+1,0,none⟩),.string s] (Qdl nv [] true [(1,l.map Qa3),(1,m.map Qa3)]))=ob (X2r s l m) fun l'=>some (.tuple #[],l'.map Qa3,m.map Qa3)
def L16(l m:List Nat):Prop:=∃ p0 p1 p2 p3 p4 p5 p6 p7 p8 p9 p10 p11 p12 p13 p14 p15 m0 m1 m2 m3 m4 m5 m6 m7 m8 m9 m10 m11 m12 m13 m14 m15,l=[p0,p1,p2,p3,p4,p5,p6,p7,p8,p9,p10,p11,p12,p13,p14,p15]/\m=[m0,m1,m2,m3,m4,m5,m6,m7,m8,m9,m10,m11,m12,m13,m14,m15]
theorem L16.all{l m:List Nat}(h:L16 l m){P:List Nat->List Nat->Prop}(k:∀ p0 p1 p2 p3 p4 p5 p6 p7 p8 p9 p10 p11 p12 p13 p14 p15 m0 m1 m2 m3 m4 m5 m6 m7 m8 m9 m10 m11 m12 m13 m14 m15,P [p0,p1,p2,p3,p4,p5,p6,p7,p8,p9,p10,p11,p12,p13,p14,p15] [m0,m1,m2,m3,m4,m5,m6,m7,m8,m9,m10,m11,m12,m13,m14,m15]):P l m:=by
 obtain⟨p0,p1,p2,p3,p4,p5,p6,p7,p8,p9,p10,p11,p12,p13,p14,p15,m0,m1,m2,m3,m4,m5,m6,m7,m8,m9,m10,m11,m12,m13,m14,m15,rfl,rfl⟩:=h
 exact k _ _ _ _ _ _ _ _ _ _ _ _ _ _ _ _ _ _ _ _ _ _ _ _ _ _ _ _ _ _ _ _
theorem Yji{s:ByteArray}{l m l':List Nat}(h:X2r s l m=some l'):L16 l m:=by
 unfold X2r at h
 split at h
 ·exact⟨_,_,_,_,_,_,_,_,_,_,_,_,_,_,_,_,_,_,_,_,_,_,_,_,_,_,_,_,_,_,_,_,rfl,rfl⟩
 ·cases h
theorem rr0(b:Nat){l m:List Nat}(h:L16 l m):RR b Yy2 l m:=h.all (P:=RR b Yy2) fun _ _ _ _ _ _ _ _ _ _ _ _ _ _ _ _ _ _ _ _ _ _ _ _ _ _ _ _ _ _ _ _=>(by kernel_rfl:_=_)
theorem rr1(b:Nat){l m:List Nat}(h:L16 l m):RR b Yxu l m:=h.all (P:=RR b Yxu) fun _ _ _ _ _ _ _ _ _ _ _ _ _ _ _ _ _ _ _ _ _ _ _ _ _ _ _ _ _ _ _ _=>(by kernel_rfl:_=_)
theorem rr2(b:Nat){l m:List Nat}(h:L16 l m):RR b Yy9 l m:=h.all (P:=RR b Yy9) fun _ _ _ _ _ _ _ _ _ _ _ _ _ _ _ _ _ _ _ _ _ _ _ _ _ _ _ _ _ _ _ _=>(by kernel_rfl:_=_)
theorem rr3(b:Nat){l m:List Nat}(h:L16 l m):RR b Yye l m:=h.all (P:=RR b Yye) fun _ _ _ _ _ _ _ _ _ _ _ _ _ _ _ _ _ _ _ _ _ _ _ _ _ _ _ _ _ _ _ _=>(by kernel_rfl:_=_)
theorem rr4(b:Nat){l m:List Nat}(h:L16 l m):RR b Yy8 l m:=h.all (P:=RR b Yy8) fun _ _ _ _ _ _ _ _ _ _ _ _ _ _ _ _ _ _ _ _ _ _ _ _ _ _ _ _ _ _ _ _=>(by kernel_rfl:_=_)
theorem rr5(b:Nat){l m:List Nat}(h:L16 l m):RR b Yya l m:=h.all (P:=RR b Yya) fun _ _ _ _ _ _ _ _ _ _ _ _ _ _ _ _ _ _ _ _ _ _ _ _ _ _ _ _ _ _ _ _=>(by kernel_rfl:_=_)
theorem rr6(b:Nat){l m:List Nat}(h:L16 l m):RR b Yy3 l m:=h.all (P:=RR b Yy3) fun _ _ _ _ _ _ _ _ _ _ _ _ _ _ _ _ _ _ _ _ _ _ _ _ _ _ _ _ _ _ _ _=>(by kernel_rfl:_=_)
theorem rr7(b:Nat){l m:List Nat}(h:L16 l m):RR b Yxx l m:=h.all (P:=RR b Yxx) fun _ _ _ _ _ _ _ _ _ _ _ _ _ _ _ _ _ _ _ _ _ _ _ _ _ _ _ _ _ _ _ _=>(by kernel_rfl:_=_)
theorem rr8(b:Nat){l m:List Nat}(h:L16 l m):RR b Yxz l m:=h.all (P:=RR b Yxz) fun _ _ _ _ _ _ _ _ _ _ _ _ _ _ _ _ _ _ _ _ _ _ _ _ _ _ _ _ _ _ _ _=>(by kernel_rfl:_=_)
theorem rr9(b:Nat){l m:List Nat}(h:L16 l m):RR b Yyf l m:=h.all (P:=RR b Yyf) fun _ _ _ _ _ _ _ _ _ _ _ _ _ _ _ _ _ _ _ _ _ _ _ _ _ _ _ _ _ _ _ _=>(by kernel_rfl:_=_)
theorem Xyx{A:Type}{c:Bool}{x y:Option A}{z:A}(h:bq c x y=some z):c=true∨y=some z:=by
 cases c with
 | true=>exact .inl rfl
 | false=>exact .inr h
theorem Yx5(b:Nat){s:ByteArray}{l m l':List Nat}(h:X2r s l m=some l'):RR b s l m:=by
 have hL:=Yji h
 obtain⟨p0,p1,p2,p3,p4,p5,p6,p7,p8,p9,p10,p11,p12,p13,p14,p15,m0,m1,m2,m3,m4,m5,m6,m7,m8,m9,m10,m11,m12,m13,m14,m15,rfl,rfl⟩:=id hL
 unfold X2r at h
 simp only at h
 rcases Xyx h with e | h
 ·obtain rfl:=Qye (t:=Yy2) e rfl
  exact rr0 b hL
 rcases Xyx h with e | h
 ·obtain rfl:=Qye (t:=Yxu) e rfl
  exact rr1 b hL
 rcases Xyx h with e | h
 ·obtain rfl:=Qye (t:=Yy9) e rfl
  exact rr2 b hL
 rcases Xyx h with e | h
 ·obtain rfl:=Qye (t:=Yye) e rfl
  exact rr3 b hL
 rcases Xyx h with e | h
 ·obtain rfl:=Qye (t:=Yy8) e rfl
  exact rr4 b hL
 rcases Xyx h with e | h
 ·obtain rfl:=Qye (t:=Yya) e rfl
  exact rr5 b hL
 rcases Xyx h with e | h
 ·obtain rfl:=Qye (t:=Yy3) e rfl
  exact rr6 b hL
 rcases Xyx h with e | h
 ·obtain rfl:=Qye (t:=Yxx) e rfl
  exact rr7 b hL
 rcases Xyx h with e | h
 ·obtain rfl:=Qye (t:=Yxz) e rfl
  exact rr8 b hL
 rcases Xyx h with e | h
 ·obtain rfl:=Qye (t:=Yyf) e rfl
  exact rr9 b hL
 cases h
theorem X7x(b:Nat):Wu Tryd.prog ⟨nv,b⟩ Q8t:=by
 intro f args h r h' hx
 unfold Q8t at hx
 obtain⟨hf,hx⟩:=We hx
 have hf:=Nat.eq_of_beq_eq_true hf
 subst hf
 split at hx
 ·rename_i p q s hq
  obtain⟨⟨blk,cs⟩,h1,hx⟩:=Jh hx
  obtain⟨⟨c,cs2⟩,h2,hx⟩:=Jh hx
  obtain⟨l,h3,hx⟩:=Jh hx
  obtain⟨m,h4,hx⟩:=Jh hx
  cases hne:Nat.beq blk c with
  | true=>simp only at hx;rw[hne]at hx;cases hx
  | false =>
  simp only at hx
  rw[hne,bq_false]at hx
  have hne:=Nat.ne_of_beq_eq_false hne
  obtain⟨l',h5,hx⟩:=Jh hx
  cases hx
  obtain⟨rfl,hg⟩:=Q3u h1
  obtain⟨rfl,hg2⟩:=Q3u h2
  have:=Xwv h3
  subst this
  have:=Xwv h4
  subst this
  exact Yjk (k:=100) (m:=4) Qa5 Ypc Ymq (fun b=>by have:=Yx5 b h5;unfold RR at this;rw[this,h5];rfl) rfl (Xhi _) (Xhi _) (Xhi _) hg hg2 hne (Vq (Ymf _ _ _) (Vq (Ym6 _ _ _) (Vq (Qdt rfl) Qvw)))
 ·cases hx
theorem X1w:Qe6 Q8t:=by
 intro f args h r h' hx
 unfold Q8t at hx
 obtain⟨hf,hx⟩:=We hx
 split at hx
 ·obtain⟨⟨blk,cs⟩,h1,hx⟩:=Jh hx
  obtain⟨⟨c,cs2⟩,h2,hx⟩:=Jh hx
  obtain⟨l,h3,hx⟩:=Jh hx
  obtain⟨m,h4,hx⟩:=Jh hx
  cases hne:Nat.beq blk c with
  | true=>simp only at hx;rw[hne]at hx;cases hx
  | false =>
  simp only at hx
  rw[hne,bq_false]at hx
  obtain⟨l',h5,hx⟩:=Jh hx
  cases hx
  obtain⟨_,hg⟩:=Q3u h1
  exact LowOK.set _ _ _ (Heap.get_lt hg)
 ·cases hx
def Qdv:List Value:=[.int .u32 1779033703,.int .u32 3144134277,.int .u32 1013904242,.int .u32 2773480762,.int .u32 1359893119,.int .u32 2600822924,.int .u32 528734635,.int .u32 1541459225]
def Q8u:List Value:=[.string Yy2,.string Yxu,.string Yy9,.string Yye,.string Yy8,.string Yya,.string Yy3,.string Yxx,.string Yxz,.string Yyf]
def Qhm:List (Nat × List Value):=[(0,Qdv),(2,Q8u)]
def Ynm(h0 h1 h2 h3 h4 h5 h6 h7 p12 p13 p14 m0 m1 m2 m3 m4 m5 m6 m7 m8 m9 m10 m11 m12 m13 m14 m15:Nat):Option (List Nat) :=
 ob (Qol [h0,h1,h2,h3,h4,h5,h6,h7,1779033703,3144134277,1013904242,2773480762,p12,p13,p14,1541459225] m0 m1 m2 m3 m4 m5 m6 m7 m8 m9 m10 m11 m12 m13 m14 m15) fun l =>
 ob (Qol l m14 m10 m4 m8 m9 m15 m13 m6 m1 m12 m0 m2 m11 m7 m5 m3) fun l =>
 ob (Qol l m11 m8 m12 m0 m5 m2 m15 m13 m10 m14 m3 m6 m7 m1 m9 m4) fun l =>
 ob (Qol l m7 m9 m3 m1 m13 m12 m11 m14 m2 m6 m5 m10 m4 m0 m15 m8) fun l =>
 ob (Qol l m9 m0 m5 m7 m2 m4 m10 m15 m14 m1 m11 m12 m6 m8 m3 m13) fun l =>
 ob (Qol l m2 m12 m6 m10 m0 m11 m8 m3 m4 m13 m7 m5 m15 m14 m1 m9) fun l =>
 ob (Qol l m12 m5 m1 m15 m14 m13 m4 m10 m0 m7 m6 m3 m9 m2 m8 m11) fun l =>
 ob (Qol l m13 m11 m7 m14 m12 m1 m3 m9 m5 m0 m15 m4 m8 m6 m2 m10) fun l =>
 ob (Qol l m6 m15 m14 m9 m11 m3 m0 m8 m12 m2 m13 m7 m1 m4 m10 m5) fun l =>
 Qol l m10 m2 m8 m4 m7 m6 m1 m5 m15 m11 m9 m14 m3 m12 m13 m0
def Yy0(h0 h1 h2 h3 h4 h5 h6 h7:Nat)(l:List Nat):Option Value:=match l with
 | [p0,p1,p2,p3,p4,p5,p6,p7,p8,p9,p10,p11,p12,p13,p14,p15]=>some (.agg ⟨[.int .u32 (Xh3 (.ofNat h0) (Xh3 (.ofNat p0) (.ofNat p8))),.int .u32 (Xh3 (.ofNat h1) (Xh3 (.ofNat p1) (.ofNat p9))),.int .u32 (Xh3 (.ofNat h2) (Xh3 (.ofNat p2) (.ofNat p10))),.int .u32 (Xh3 (.ofNat h3) (Xh3 (.ofNat p3) (.ofNat p11))),.int .u32 (Xh3 (.ofNat h4) (Xh3 (.ofNat p4) (.ofNat p12))),.int .u32 (Xh3 (.ofNat h5) (Xh3 (.ofNat p5) (.ofNat p13))),.int .u32 (Xh3 (.ofNat h6) (Xh3 (.ofNat p6) (.ofNat p14))),.int .u32 (Xh3 (.ofNat h7) (Xh3 (.ofNat p7) (.ofNat p15)))]⟩)
 | _=>none
noncomputable def Ye7:Func:=(Tryd.prog.funcs[40]?).getD default
noncomputable def Yj7:Code:=Ye7.body.getD .skip
variable(b:Nat)(h0 h1 h2 h3 h4 h5 h6 h7 b0 b1 b2 b3 b4 b5 b6 b7 b8 b9 b10 b11 b12 b13 b14 b15 b16 b17 b18 b19 b20 b21 b22 b23 b24 b25 b26 b27 b28 b29 b30 b31 b32 b33 b34 b35 b36 b37 b38 b39 b40 b41 b42 b43 b44 b45 b46 b47 b48 b49 b50 b51 b52 b53 b54 b55 b56 b57 b58 b59 b60 b61 b62 b63 count:Nat)
theorem X30:(Q36 Tryd.prog (mkE Tryd.prog nv b) (Qfr Tryd.prog (mkE Tryd.prog nv b) Q8t 100 3) none 100 (Ys3 8 Yj7) ⟨Y8 Ye7 [.agg ⟨[Qa3 h0,Qa3 h1,Qa3 h2,Qa3 h3,Qa3 h4,Qa3 h5,Qa3 h6,Qa3 h7]⟩,.pointer (some ⟨nv,0,none⟩),.int .u64 (.ofNat count),.bool true],[],(Qdl nv Qhm false [(1,[u8v b0,u8v b1,u8v b2,u8v b3,u8v b4,u8v b5,u8v b6,u8v b7,u8v b8,u8v b9,u8v b10,u8v b11,u8v b12,u8v b13,u8v b14,u8v b15,u8v b16,u8v b17,u8v b18,u8v b19,u8v b20,u8v b21,u8v b22,u8v b23,u8v b24,u8v b25,u8v b26,u8v b27,u8v b28,u8v b29,u8v b30,u8v b31,u8v b32,u8v b33,u8v b34,u8v b35,u8v b36,u8v b37,u8v b38,u8v b39,u8v b40,u8v b41,u8v b42,u8v b43,u8v b44,u8v b45,u8v b46,u8v b47,u8v b48,u8v b49,u8v b50,u8v b51,u8v b52,u8v b53,u8v b54,u8v b55,u8v b56,u8v b57,u8v b58,u8v b59,u8v b60,u8v b61,u8v b62,u8v b63])])⟩)=Yhr (nv+4) [Qa3 h0,Qa3 h1,Qa3 h2,Qa3 h3,Qa3 h4,Qa3 h5,Qa3 h6,Qa3 h7,Qa3 1779033703,Qa3 3144134277,Qa3 1013904242,Qa3 2773480762,.int .u32 (Xh3 (.ofNat 1359893119) (X35 count)),.int .u32 (Xh3 (.ofNat 2600822924) (IntKind.wrap .u32 (Int.fdiv (.ofNat count) (2 ^ 32)))),.int .u32 (Xh3 (.ofNat 4294967295) (.ofNat 528734635)),Qa3 1541459225] (Yhr (nv+3) [.int .u32 (Xje b0 b1 b2 b3),.int .u32 (Xje b4 b5 b6 b7),.int .u32 (Xje b8 b9 b10 b11),.int .u32 (Xje b12 b13 b14 b15),.int .u32 (Xje b16 b17 b18 b19),.int .u32 (Xje b20 b21 b22 b23),.int .u32 (Xje b24 b25 b26 b27),.int .u32 (Xje b28 b29 b30 b31),.int .u32 (Xje b32 b33 b34 b35),.int .u32 (Xje b36 b37 b38 b39),.int .u32 (Xje b40 b41 b42 b43),.int .u32 (Xje b44 b45 b46 b47),.int .u32 (Xje b48 b49 b50 b51),.int .u32 (Xje b52 b53 b54 b55),.int .u32 (Xje b56 b57 b58 b59),.int .u32 (Xje b60 b61 b62 b63)] (Q36 Tryd.prog (mkE Tryd.prog nv b) (Qfr Tryd.prog (mkE Tryd.prog nv b) Q8t 100 3) none 100 (Ys3 8 Yj7) ⟨Y8 Ye7 [.agg ⟨[Qa3 h0,Qa3 h1,Qa3 h2,Qa3 h3,Qa3 h4,Qa3 h5,Qa3 h6,Qa3 h7]⟩,.pointer (some ⟨nv,0,none⟩),.int .u64 (.ofNat count),.bool true],[],(Qdl nv Qhm false [(1,[u8v b0,u8v b1,u8v b2,u8v b3,u8v b4,u8v b5,u8v b6,u8v b7,u8v b8,u8v b9,u8v b10,u8v b11,u8v b12,u8v b13,u8v b14,u8v b15,u8v b16,u8v b17,u8v b18,u8v b19,u8v b20,u8v b21,u8v b22,u8v b23,u8v b24,u8v b25,u8v b26,u8v b27,u8v b28,u8v b29,u8v b30,u8v b31,u8v b32,u8v b33,u8v b34,u8v b35,u8v b36,u8v b37,u8v b38,u8v b39,u8v b40,u8v b41,u8v b42,u8v b43,u8v b44,u8v b45,u8v b46,u8v b47,u8v b48,u8v b49,u8v b50,u8v b51,u8v b52,u8v b53,u8v b54,u8v b55,u8v b56,u8v b57,u8v b58,u8v b59,u8v b60,u8v b61,u8v b62,u8v b63])])⟩)):=by kernel_rfl
theorem X7w :
  Ym4 ((Qfr Tryd.prog (mkE Tryd.prog nv b) Q8t 100 4).fn 40 [.agg ⟨[Qa3 h0,Qa3 h1,Qa3 h2,Qa3 h3,Qa3 h4,Qa3 h5,Qa3 h6,Qa3 h7]⟩,.pointer (some ⟨nv,0,none⟩),.int .u64 (.ofNat count),.bool true] (Qdl nv Qhm false [(1,[u8v b0,u8v b1,u8v b2,u8v b3,u8v b4,u8v b5,u8v b6,u8v b7,u8v b8,u8v b9,u8v b10,u8v b11,u8v b12,u8v b13,u8v b14,u8v b15,u8v b16,u8v b17,u8v b18,u8v b19,u8v b20,u8v b21,u8v b22,u8v b23,u8v b24,u8v b25,u8v b26,u8v b27,u8v b28,u8v b29,u8v b30,u8v b31,u8v b32,u8v b33,u8v b34,u8v b35,u8v b36,u8v b37,u8v b38,u8v b39,u8v b40,u8v b41,u8v b42,u8v b43,u8v b44,u8v b45,u8v b46,u8v b47,u8v b48,u8v b49,u8v b50,u8v b51,u8v b52,u8v b53,u8v b54,u8v b55,u8v b56,u8v b57,u8v b58,u8v b59,u8v b60,u8v b61,u8v b62,u8v b63])])) =
   ob (Ynm h0 h1 h2 h3 h4 h5 h6 h7 (Bl.xr 1359893119 (Bl.w32 count)) (Bl.xr 2600822924 (Bl.w32 (Nat.div count 4294967296))) (Bl.xr 4294967295 528734635) (Bl.le4 b0 b1 b2 b3) (Bl.le4 b4 b5 b6 b7) (Bl.le4 b8 b9 b10 b11) (Bl.le4 b12 b13 b14 b15) (Bl.le4 b16 b17 b18 b19) (Bl.le4 b20 b21 b22 b23) (Bl.le4 b24 b25 b26 b27) (Bl.le4 b28 b29 b30 b31) (Bl.le4 b32 b33 b34 b35) (Bl.le4 b36 b37 b38 b39) (Bl.le4 b40 b41 b42 b43) (Bl.le4 b44 b45 b46 b47) (Bl.le4 b48 b49 b50 b51) (Bl.le4 b52 b53 b54 b55) (Bl.le4 b56 b57 b58 b59) (Bl.le4 b60 b61 b62 b63)) (Yy0 h0 h1 h2 h3 h4 h5 h6 h7):=by
 have e12:Value.int .u32 (Xh3 (.ofNat 1359893119) (X35 count))=Qa3 (Bl.xr 1359893119 (Bl.w32 count)):=by rw[Xvl,Q5d];rfl
 have e13:Value.int .u32 (Xh3 (.ofNat 2600822924) (IntKind.wrap .u32 (Int.fdiv (.ofNat count) (2 ^ 32))))=Qa3 (Bl.xr 2600822924 (Bl.w32 (Nat.div count 4294967296))):=by rw[Yh4,Qgx];exact congrArg (Value.int .u32) (Q5d _ _)
 have e14:Value.int .u32 (Xh3 (.ofNat 4294967295) (.ofNat 528734635))=Qa3 (Bl.xr 4294967295 528734635):=by first | rfl | (rw[Q5d];rfl)
 rw[Yhe (n0:=8) (F:=Ye7) (c:=Yj7) (by kernel_rfl) (by kernel_rfl) (by kernel_rfl) (by kernel_rfl) (by kernel_rfl),X30,e12,e13,e14]
 simp only[Yhy]
 show _=_
 kernel_rfl
theorem Xzh:(Q36 Tryd.prog (mkE Tryd.prog nv b) (Qfr Tryd.prog (mkE Tryd.prog nv b) Q8t 100 3) none 100 (Ys3 8 Yj7) ⟨Y8 Ye7 [.agg ⟨[Qa3 h0,Qa3 h1,Qa3 h2,Qa3 h3,Qa3 h4,Qa3 h5,Qa3 h6,Qa3 h7]⟩,.pointer (some ⟨nv,0,none⟩),.int .u64 (.ofNat count),.bool false],[],(Qdl nv Qhm false [(1,[u8v b0,u8v b1,u8v b2,u8v b3,u8v b4,u8v b5,u8v b6,u8v b7,u8v b8,u8v b9,u8v b10,u8v b11,u8v b12,u8v b13,u8v b14,u8v b15,u8v b16,u8v b17,u8v b18,u8v b19,u8v b20,u8v b21,u8v b22,u8v b23,u8v b24,u8v b25,u8v b26,u8v b27,u8v b28,u8v b29,u8v b30,u8v b31,u8v b32,u8v b33,u8v b34,u8v b35,u8v b36,u8v b37,u8v b38,u8v b39,u8v b40,u8v b41,u8v b42,u8v b43,u8v b44,u8v b45,u8v b46,u8v b47,u8v b48,u8v b49,u8v b50,u8v b51,u8v b52,u8v b53,u8v b54,u8v b55,u8v b56,u8v b57,u8v b58,u8v b59,u8v b60,u8v b61,u8v b62,u8v b63])])⟩)=Yhr (nv+4) [Qa3 h0,Qa3 h1,Qa3 h2,Qa3 h3,Qa3 h4,Qa3 h5,Qa3 h6,Qa3 h7,Qa3 1779033703,Qa3 3144134277,Qa3 1013904242,Qa3 2773480762,.int .u32 (Xh3 (.ofNat 1359893119) (X35 count)),.int .u32 (Xh3 (.ofNat 2600822924) (IntKind.wrap .u32 (Int.fdiv (.ofNat count) (2 ^ 32)))),.int .u32 (.ofNat 528734635),Qa3 1541459225] (Yhr (nv+3) [.int .u32 (Xje b0 b1 b2 b3),.int .u32 (Xje b4 b5 b6 b7),.int .u32 (Xje b8 b9 b10 b11),.int .u32 (Xje b12 b13 b14 b15),.int .u32 (Xje b16 b17 b18 b19),.int .u32 (Xje b20 b21 b22 b23),.int .u32 (Xje b24 b25 b26 b27),.int .u32 (Xje b28 b29 b30 b31),.int .u32 (Xje b32 b33 b34 b35),.int .u32 (Xje b36 b37 b38 b39),.int .u32 (Xje b40 b41 b42 b43),.int .u32 (Xje b44 b45 b46 b47),.int .u32 (Xje b48 b49 b50 b51),.int .u32 (Xje b52 b53 b54 b55),.int .u32 (Xje b56 b57 b58 b59),.int .u32 (Xje b60 b61 b62 b63)] (Q36 Tryd.prog (mkE Tryd.prog nv b) (Qfr Tryd.prog (mkE Tryd.prog nv b) Q8t 100 3) none 100 (Ys3 8 Yj7) ⟨Y8 Ye7 [.agg ⟨[Qa3 h0,Qa3 h1,Qa3 h2,Qa3 h3,Qa3 h4,Qa3 h5,Qa3 h6,Qa3 h7]⟩,.pointer (some ⟨nv,0,none⟩),.int .u64 (.ofNat count),.bool false],[],(Qdl nv Qhm false [(1,[u8v b0,u8v b1,u8v b2,u8v b3,u8v b4,u8v b5,u8v b6,u8v b7,u8v b8,u8v b9,u8v b10,u8v b11,u8v b12,u8v b13,u8v b14,u8v b15,u8v b16,u8v b17,u8v b18,u8v b19,u8v b20,u8v b21,u8v b22,u8v b23,u8v b24,u8v b25,u8v b26,u8v b27,u8v b28,u8v b29,u8v b30,u8v b31,u8v b32,u8v b33,u8v b34,u8v b35,u8v b36,u8v b37,u8v b38,u8v b39,u8v b40,u8v b41,u8v b42,u8v b43,u8v b44,u8v b45,u8v b46,u8v b47,u8v b48,u8v b49,u8v b50,u8v b51,u8v b52,u8v b53,u8v b54,u8v b55,u8v b56,u8v b57,u8v b58,u8v b59,u8v b60,u8v b61,u8v b62,u8v b63])])⟩)):=by kernel_rfl
theorem X6b :
  Ym4 ((Qfr Tryd.prog (mkE Tryd.prog nv b) Q8t 100 4).fn 40 [.agg ⟨[Qa3 h0,Qa3 h1,Qa3 h2,Qa3 h3,Qa3 h4,Qa3 h5,Qa3 h6,Qa3 h7]⟩,.pointer (some ⟨nv,0,none⟩),.int .u64 (.ofNat count),.bool false] (Qdl nv Qhm false [(1,[u8v b0,u8v b1,u8v b2,u8v b3,u8v b4,u8v b5,u8v b6,u8v b7,u8v b8,u8v b9,u8v b10,u8v b11,u8v b12,u8v b13,u8v b14,u8v b15,u8v b16,u8v b17,u8v b18,u8v b19,u8v b20,u8v b21,u8v b22,u8v b23,u8v b24,u8v b25,u8v b26,u8v b27,u8v b28,u8v b29,u8v b30,u8v b31,u8v b32,u8v b33,u8v b34,u8v b35,u8v b36,u8v b37,u8v b38,u8v b39,u8v b40,u8v b41,u8v b42,u8v b43,u8v b44,u8v b45,u8v b46,u8v b47,u8v b48,u8v b49,u8v b50,u8v b51,u8v b52,u8v b53,u8v b54,u8v b55,u8v b56,u8v b57,u8v b58,u8v b59,u8v b60,u8v b61,u8v b62,u8v b63])])) =
   ob (Ynm h0 h1 h2 h3 h4 h5 h6 h7 (Bl.xr 1359893119 (Bl.w32 count)) (Bl.xr 2600822924 (Bl.w32 (Nat.div count 4294967296))) 528734635 (Bl.le4 b0 b1 b2 b3) (Bl.le4 b4 b5 b6 b7) (Bl.le4 b8 b9 b10 b11) (Bl.le4 b12 b13 b14 b15) (Bl.le4 b16 b17 b18 b19) (Bl.le4 b20 b21 b22 b23) (Bl.le4 b24 b25 b26 b27) (Bl.le4 b28 b29 b30 b31) (Bl.le4 b32 b33 b34 b35) (Bl.le4 b36 b37 b38 b39) (Bl.le4 b40 b41 b42 b43) (Bl.le4 b44 b45 b46 b47) (Bl.le4 b48 b49 b50 b51) (Bl.le4 b52 b53 b54 b55) (Bl.le4 b56 b57 b58 b59) (Bl.le4 b60 b61 b62 b63)) (Yy0 h0 h1 h2 h3 h4 h5 h6 h7):=by
 have e12:Value.int .u32 (Xh3 (.ofNat 1359893119) (X35 count))=Qa3 (Bl.xr 1359893119 (Bl.w32 count)):=by rw[Xvl,Q5d];rfl
 have e13:Value.int .u32 (Xh3 (.ofNat 2600822924) (IntKind.wrap .u32 (Int.fdiv (.ofNat count) (2 ^ 32))))=Qa3 (Bl.xr 2600822924 (Bl.w32 (Nat.div count 4294967296))):=by rw[Yh4,Qgx];exact congrArg (Value.int .u32) (Q5d _ _)
 have e14:Value.int .u32 (.ofNat 528734635)=Qa3 528734635:=by first | rfl | (rw[Q5d];rfl)
 rw[Yhe (n0:=8) (F:=Ye7) (c:=Yj7) (by kernel_rfl) (by kernel_rfl) (by kernel_rfl) (by kernel_rfl) (by kernel_rfl),Xzh,e12,e13,e14]
 simp only[Yhy]
 show _=_
 kernel_rfl
theorem Yks{A:Type}(a b c d x y:Nat)(K:Nat->Nat->Nat->Nat->Option (List Nat))(f:List Nat->Option A):ob (Bl.stir a b c d x y K) f=Bl.stir a b c d x y (fun a b c d=>ob (K a b c d) f):=rfl
section
variable(p0 p1 p2 p3 p4 p5 p6 p7 p8 p9 p10 p11 p12 p13 p14 p15 x y:Nat)
theorem Yx7:Q54 [0,4,8,12] [p0,p1,p2,p3,p4,p5,p6,p7,p8,p9,p10,p11,p12,p13,p14,p15] x y=Bl.stir p0 p4 p8 p12 x y fun p0 p4 p8 p12=>some [p0,p1,p2,p3,p4,p5,p6,p7,p8,p9,p10,p11,p12,p13,p14,p15]:=rfl
theorem Yxk:Q54 [1,5,9,13] [p0,p1,p2,p3,p4,p5,p6,p7,p8,p9,p10,p11,p12,p13,p14,p15] x y=Bl.stir p1 p5 p9 p13 x y fun p1 p5 p9 p13=>some [p0,p1,p2,p3,p4,p5,p6,p7,p8,p9,p10,p11,p12,p13,p14,p15]:=rfl
theorem Yvk:Q54 [2,6,10,14] [p0,p1,p2,p3,p4,p5,p6,p7,p8,p9,p10,p11,p12,p13,p14,p15] x y=Bl.stir p2 p6 p10 p14 x y fun p2 p6 p10 p14=>some [p0,p1,p2,p3,p4,p5,p6,p7,p8,p9,p10,p11,p12,p13,p14,p15]:=rfl
theorem Ywh:Q54 [3,7,11,15] [p0,p1,p2,p3,p4,p5,p6,p7,p8,p9,p10,p11,p12,p13,p14,p15] x y=Bl.stir p3 p7 p11 p15 x y fun p3 p7 p11 p15=>some [p0,p1,p2,p3,p4,p5,p6,p7,p8,p9,p10,p11,p12,p13,p14,p15]:=rfl
theorem Ywy:Q54 [0,5,10,15] [p0,p1,p2,p3,p4,p5,p6,p7,p8,p9,p10,p11,p12,p13,p14,p15] x y=Bl.stir p0 p5 p10 p15 x y fun p0 p5 p10 p15=>some [p0,p1,p2,p3,p4,p5,p6,p7,p8,p9,p10,p11,p12,p13,p14,p15]:=rfl
theorem Yw7:Q54 [1,6,11,12] [p0,p1,p2,p3,p4,p5,p6,p7,p8,p9,p10,p11,p12,p13,p14,p15] x y=Bl.stir p1 p6 p11 p12 x y fun p1 p6 p11 p12=>some [p0,p1,p2,p3,p4,p5,p6,p7,p8,p9,p10,p11,p12,p13,p14,p15]:=rfl
theorem Yw3:Q54 [2,7,8,13] [p0,p1,p2,p3,p4,p5,p6,p7,p8,p9,p10,p11,p12,p13,p14,p15] x y=Bl.stir p2 p7 p8 p13 x y fun p2 p7 p8 p13=>some [p0,p1,p2,p3,p4,p5,p6,p7,p8,p9,p10,p11,p12,p13,p14,p15]:=rfl
theorem Ywt:Q54 [3,4,9,14] [p0,p1,p2,p3,p4,p5,p6,p7,p8,p9,p10,p11,p12,p13,p14,p15] x y=Bl.stir p3 p4 p9 p14 x y fun p3 p4 p9 p14=>some [p0,p1,p2,p3,p4,p5,p6,p7,p8,p9,p10,p11,p12,p13,p14,p15]:=rfl
end
theorem Yo5(p0 p1 p2 p3 p4 p5 p6 p7 p8 p9 p10 p11 p12 p13 p14 p15 x0 x1 x2 x3 x4 x5 x6 x7 x8 x9 x10 x11 x12 x13 x14 x15:Nat):Qol [p0,p1,p2,p3,p4,p5,p6,p7,p8,p9,p10,p11,p12,p13,p14,p15] x0 x1 x2 x3 x4 x5 x6 x7 x8 x9 x10 x11 x12 x13 x14 x15=Bl.round p0 p1 p2 p3 p4 p5 p6 p7 p8 p9 p10 p11 p12 p13 p14 p15 x0 x1 x2 x3 x4 x5 x6 x7 x8 x9 x10 x11 x12 x13 x14 x15 fun p0 p1 p2 p3 p4 p5 p6 p7 p8 p9 p10 p11 p12 p13 p14 p15=>some [p0,p1,p2,p3,p4,p5,p6,p7,p8,p9,p10,p11,p12,p13,p14,p15]:=by
 simp only[Qol,Bl.round,Yks,ob_some,Yx7,Yxk,Yvk,Ywh,Ywy,Yw7,Yw3,Ywt]
theorem Yqj{A:Type}(p0 p1 p2 p3 p4 p5 p6 p7 p8 p9 p10 p11 p12 p13 p14 p15 x0 x1 x2 x3 x4 x5 x6 x7 x8 x9 x10 x11 x12 x13 x14 x15:Nat)(K:Nat->Nat->Nat->Nat->Nat->Nat->Nat->Nat->Nat->Nat->Nat->Nat->Nat->Nat->Nat->Nat->Option (List Nat))(f:List Nat->Option A):ob (Bl.round p0 p1 p2 p3 p4 p5 p6 p7 p8 p9 p10 p11 p12 p13 p14 p15 x0 x1 x2 x3 x4 x5 x6 x7 x8 x9 x10 x11 x12 x13 x14 x15 K) f=Bl.round p0 p1 p2 p3 p4 p5 p6 p7 p8 p9 p10 p11 p12 p13 p14 p15 x0 x1 x2 x3 x4 x5 x6 x7 x8 x9 x10 x11 x12 x13 x14 x15 (fun p0 p1 p2 p3 p4 p5 p6 p7 p8 p9 p10 p11 p12 p13 p14 p15=>ob (K p0 p1 p2 p3 p4 p5 p6 p7 p8 p9 p10 p11 p12 p13 p14 p15) f):=by
 simp only[Bl.round,Yks]
theorem Ypg{A B C:Type}(x:Option A)(g:A->Option B)(f:B->Option C):ob (ob x g) f=ob x (fun a=>ob (g a) f):=by cases x <;> rfl
theorem Yl1{A:Type}(R:Nat->Nat->Nat->Nat->Nat->Nat->Nat->Nat->Nat->Nat->Nat->Nat->Nat->Nat->Nat->Nat->Nat->Nat->Nat->Nat->Nat->Nat->Nat->Nat->Nat->Nat->Nat->Nat->Nat->Nat->Nat->Nat->(Nat->Nat->Nat->Nat->Nat->Nat->Nat->Nat->Nat->Nat->Nat->Nat->Nat->Nat->Nat->Nat->Option A)->Option A)(hR:∀ (p0 p1 p2 p3 p4 p5 p6 p7 p8 p9 p10 p11 p12 p13 p14 p15 x0 x1 x2 x3 x4 x5 x6 x7 x8 x9 x10 x11 x12 x13 x14 x15:Nat) (f:List Nat->Option A),ob (Qol [p0,p1,p2,p3,p4,p5,p6,p7,p8,p9,p10,p11,p12,p13,p14,p15] x0 x1 x2 x3 x4 x5 x6 x7 x8 x9 x10 x11 x12 x13 x14 x15) f=R p0 p1 p2 p3 p4 p5 p6 p7 p8 p9 p10 p11 p12 p13 p14 p15 x0 x1 x2 x3 x4 x5 x6 x7 x8 x9 x10 x11 x12 x13 x14 x15 fun p0 p1 p2 p3 p4 p5 p6 p7 p8 p9 p10 p11 p12 p13 p14 p15=>f [p0,p1,p2,p3,p4,p5,p6,p7,p8,p9,p10,p11,p12,p13,p14,p15])
  (h0 h1 h2 h3 h4 h5 h6 h7 p12 p13 p14 m0 m1 m2 m3 m4 m5 m6 m7 m8 m9 m10 m11 m12 m13 m14 m15:Nat) (f:List Nat->Option A):ob (Ynm h0 h1 h2 h3 h4 h5 h6 h7 p12 p13 p14 m0 m1 m2 m3 m4 m5 m6 m7 m8 m9 m10 m11 m12 m13 m14 m15) f =
  R h0 h1 h2 h3 h4 h5 h6 h7 1779033703 3144134277 1013904242 2773480762 p12 p13 p14 1541459225 m0 m1 m2 m3 m4 m5 m6 m7 m8 m9 m10 m11 m12 m13 m14 m15 fun p0 p1 p2 p3 p4 p5 p6 p7 p8 p9 p10 p11 p12 p13 p14 p15 =>
  R p0 p1 p2 p3 p4 p5 p6 p7 p8 p9 p10 p11 p12 p13 p14 p15 m14 m10 m4 m8 m9 m15 m13 m6 m1 m12 m0 m2 m11 m7 m5 m3 fun p0 p1 p2 p3 p4 p5 p6 p7 p8 p9 p10 p11 p12 p13 p14 p15 =>
  R p0 p1 p2 p3 p4 p5 p6 p7 p8 p9 p10 p11 p12 p13 p14 p15 m11 m8 m12 m0 m5 m2 m15 m13 m10 m14 m3 m6 m7 m1 m9 m4 fun p0 p1 p2 p3 p4 p5 p6 p7 p8 p9 p10 p11 p12 p13 p14 p15 =>
  R p0 p1 p2 p3 p4 p5 p6 p7 p8 p9 p10 p11 p12 p13 p14 p15 m7 m9 m3 m1 m13 m12 m11 m14 m2 m6 m5 m10 m4 m0 m15 m8 fun p0 p1 p2 p3 p4 p5 p6 p7 p8 p9 p10 p11 p12 p13 p14 p15 =>
  R p0 p1 p2 p3 p4 p5 p6 p7 p8 p9 p10 p11 p12 p13 p14 p15 m9 m0 m5 m7 m2 m4 m10 m15 m14 m1 m11 m12 m6 m8 m3 m13 fun p0 p1 p2 p3 p4 p5 p6 p7 p8 p9 p10 p11 p12 p13 p14 p15 =>
  R p0 p1 p2 p3 p4 p5 p6 p7 p8 p9 p10 p11 p12 p13 p14 p15 m2 m12 m6 m10 m0 m11 m8 m3 m4 m13 m7 m5 m15 m14 m1 m9 fun p0 p1 p2 p3 p4 p5 p6 p7 p8 p9 p10 p11 p12 p13 p14 p15 =>
  R p0 p1 p2 p3 p4 p5 p6 p7 p8 p9 p10 p11 p12 p13 p14 p15 m12 m5 m1 m15 m14 m13 m4 m10 m0 m7 m6 m3 m9 m2 m8 m11 fun p0 p1 p2 p3 p4 p5 p6 p7 p8 p9 p10 p11 p12 p13 p14 p15 =>
  R p0 p1 p2 p3 p4 p5 p6 p7 p8 p9 p10 p11 p12 p13 p14 p15 m13 m11 m7 m14 m12 m1 m3 m9 m5 m0 m15 m4 m8 m6 m2 m10 fun p0 p1 p2 p3 p4 p5 p6 p7 p8 p9 p10 p11 p12 p13 p14 p15 =>
  R p0 p1 p2 p3 p4 p5 p6 p7 p8 p9 p10 p11 p12 p13 p14 p15 m6 m15 m14 m9 m11 m3 m0 m8 m12 m2 m13 m7 m1 m4 m10 m5 fun p0 p1 p2 p3 p4 p5 p6 p7 p8 p9 p10 p11 p12 p13 p14 p15 =>
  R p0 p1 p2 p3 p4 p5 p6 p7 p8 p9 p10 p11 p12 p13 p14 p15 m10 m2 m8 m4 m7 m6 m1 m5 m15 m11 m9 m14 m3 m12 m13 m0 fun p0 p1 p2 p3 p4 p5 p6 p7 p8 p9 p10 p11 p12 p13 p14 p15 =>
  f [p0,p1,p2,p3,p4,p5,p6,p7,p8,p9,p10,p11,p12,p13,p14,p15]:=by
 simp only[Ynm,Ypg,hR]
theorem Yh1(h0 h1 h2 h3 h4 h5 h6 h7 p12 p13 p14 m0 m1 m2 m3 m4 m5 m6 m7 m8 m9 m10 m11 m12 m13 m14 m15:Nat){A:Type}(f:List Nat->Option A):ob (Ynm h0 h1 h2 h3 h4 h5 h6 h7 p12 p13 p14 m0 m1 m2 m3 m4 m5 m6 m7 m8 m9 m10 m11 m12 m13 m14 m15) f=Bl.rounds h0 h1 h2 h3 h4 h5 h6 h7 1779033703 3144134277 1013904242 2773480762 p12 p13 p14 1541459225 m0 m1 m2 m3 m4 m5 m6 m7 m8 m9 m10 m11 m12 m13 m14 m15 fun p0 p1 p2 p3 p4 p5 p6 p7 p8 p9 p10 p11 p12 p13 p14 p15=>f [p0,p1,p2,p3,p4,p5,p6,p7,p8,p9,p10,p11,p12,p13,p14,p15]:=by
 unfold Bl.rounds
 exact Yl1 (fun p0 p1 p2 p3 p4 p5 p6 p7 p8 p9 p10 p11 p12 p13 p14 p15 x0 x1 x2 x3 x4 x5 x6 x7 x8 x9 x10 x11 x12 x13 x14 x15 K=>Bl.round p0 p1 p2 p3 p4 p5 p6 p7 p8 p9 p10 p11 p12 p13 p14 p15 x0 x1 x2 x3 x4 x5 x6 x7 x8 x9 x10 x11 x12 x13 x14 x15 K) (fun p0 p1 p2 p3 p4 p5 p6 p7 p8 p9 p10 p11 p12 p13 p14 p15 x0 x1 x2 x3 x4 x5 x6 x7 x8 x9 x10 x11 x12 x13 x14 x15 f=>by rw[Yo5,Yqj];rfl) _ _ _ _ _ _ _ _ _ _ _ _ _ _ _ _ _ _ _ _ _ _ _ _ _ _ _ f
theorem Ym5(h0 h1 h2 h3 h4 h5 h6 h7 p0 p1 p2 p3 p4 p5 p6 p7 p8 p9 p10 p11 p12 p13 p14 p15:Nat):Yy0 h0 h1 h2 h3 h4 h5 h6 h7 [p0,p1,p2,p3,p4,p5,p6,p7,p8,p9,p10,p11,p12,p13,p14,p15]=some (p8v ⟨Bl.xr h0 (Bl.xr p0 p8),Bl.xr h1 (Bl.xr p1 p9),Bl.xr h2 (Bl.xr p2 p10),Bl.xr h3 (Bl.xr p3 p11),Bl.xr h4 (Bl.xr p4 p12),Bl.xr h5 (Bl.xr p5 p13),Bl.xr h6 (Bl.xr p6 p14),Bl.xr h7 (Bl.xr p7 p15)⟩):=by
 simp only[Yy0,Q5d,p8v,Qa3]
theorem Ykm{A B:Type}(f:A->B)(a b c d x y:Nat)(K:Nat->Nat->Nat->Nat->A):f (Bl.stir a b c d x y K)=Bl.stir a b c d x y (fun a b c d=>f (K a b c d)):=rfl
theorem Yj3{A B:Type}(f:A->B)(p0 p1 p2 p3 p4 p5 p6 p7 p8 p9 p10 p11 p12 p13 p14 p15 x0 x1 x2 x3 x4 x5 x6 x7 x8 x9 x10 x11 x12 x13 x14 x15:Nat)(K:Nat->Nat->Nat->Nat->Nat->Nat->Nat->Nat->Nat->Nat->Nat->Nat->Nat->Nat->Nat->Nat->A):f (Bl.round p0 p1 p2 p3 p4 p5 p6 p7 p8 p9 p10 p11 p12 p13 p14 p15 x0 x1 x2 x3 x4 x5 x6 x7 x8 x9 x10 x11 x12 x13 x14 x15 K)=Bl.round p0 p1 p2 p3 p4 p5 p6 p7 p8 p9 p10 p11 p12 p13 p14 p15 x0 x1 x2 x3 x4 x5 x6 x7 x8 x9 x10 x11 x12 x13 x14 x15 (fun p0 p1 p2 p3 p4 p5 p6 p7 p8 p9 p10 p11 p12 p13 p14 p15=>f (K p0 p1 p2 p3 p4 p5 p6 p7 p8 p9 p10 p11 p12 p13 p14 p15)):=by
 simp only[Bl.round,Ykm f]
theorem Xwr{A B:Type}(f:A->B)(p0 p1 p2 p3 p4 p5 p6 p7 p8 p9 p10 p11 p12 p13 p14 p15 m0 m1 m2 m3 m4 m5 m6 m7 m8 m9 m10 m11 m12 m13 m14 m15:Nat)(K:Nat->Nat->Nat->Nat->Nat->Nat->Nat->Nat->Nat->Nat->Nat->Nat->Nat->Nat->Nat->Nat->A):f (Bl.rounds p0 p1 p2 p3 p4 p5 p6 p7 p8 p9 p10 p11 p12 p13 p14 p15 m0 m1 m2 m3 m4 m5 m6 m7 m8 m9 m10 m11 m12 m13 m14 m15 K)=Bl.rounds p0 p1 p2 p3 p4 p5 p6 p7 p8 p9 p10 p11 p12 p13 p14 p15 m0 m1 m2 m3 m4 m5 m6 m7 m8 m9 m10 m11 m12 m13 m14 m15 (fun p0 p1 p2 p3 p4 p5 p6 p7 p8 p9 p10 p11 p12 p13 p14 p15=>f (K p0 p1 p2 p3 p4 p5 p6 p7 p8 p9 p10 p11 p12 p13 p14 p15)):=by
 simp only[Bl.rounds,Yj3 f]
theorem Yeg :
  Ym4 ((Qfr Tryd.prog (mkE Tryd.prog nv b) Q8t 100 4).fn 40 [.agg ⟨[Qa3 h0,Qa3 h1,Qa3 h2,Qa3 h3,Qa3 h4,Qa3 h5,Qa3 h6,Qa3 h7]⟩,.pointer (some ⟨nv,0,none⟩),.int .u64 (.ofNat count),.bool true] (Qdl nv Qhm false [(1,[u8v b0,u8v b1,u8v b2,u8v b3,u8v b4,u8v b5,u8v b6,u8v b7,u8v b8,u8v b9,u8v b10,u8v b11,u8v b12,u8v b13,u8v b14,u8v b15,u8v b16,u8v b17,u8v b18,u8v b19,u8v b20,u8v b21,u8v b22,u8v b23,u8v b24,u8v b25,u8v b26,u8v b27,u8v b28,u8v b29,u8v b30,u8v b31,u8v b32,u8v b33,u8v b34,u8v b35,u8v b36,u8v b37,u8v b38,u8v b39,u8v b40,u8v b41,u8v b42,u8v b43,u8v b44,u8v b45,u8v b46,u8v b47,u8v b48,u8v b49,u8v b50,u8v b51,u8v b52,u8v b53,u8v b54,u8v b55,u8v b56,u8v b57,u8v b58,u8v b59,u8v b60,u8v b61,u8v b62,u8v b63])])) =
   some (p8v (Bl.take ⟨h0,h1,h2,h3,h4,h5,h6,h7⟩ [b0,b1,b2,b3,b4,b5,b6,b7,b8,b9,b10,b11,b12,b13,b14,b15,b16,b17,b18,b19,b20,b21,b22,b23,b24,b25,b26,b27,b28,b29,b30,b31,b32,b33,b34,b35,b36,b37,b38,b39,b40,b41,b42,b43,b44,b45,b46,b47,b48,b49,b50,b51,b52,b53,b54,b55,b56,b57,b58,b59,b60,b61,b62,b63] count true)):=by
 rw[X7w,Yh1]
 simp only[Ym5,Bl.take,Bl.words,Bl.nx]
 exact(Xwr (fun x=>some (p8v x)) _ _ _ _ _ _ _ _ _ _ _ _ _ _ _ _ _ _ _ _ _ _ _ _ _ _ _ _ _ _ _ _ _).symm
theorem X9u :
  Ym4 ((Qfr Tryd.prog (mkE Tryd.prog nv b) Q8t 100 4).fn 40 [.agg ⟨[Qa3 h0,Qa3 h1,Qa3 h2,Qa3 h3,Qa3 h4,Qa3 h5,Qa3 h6,Qa3 h7]⟩,.pointer (some ⟨nv,0,none⟩),.int .u64 (.ofNat count),.bool false] (Qdl nv Qhm false [(1,[u8v b0,u8v b1,u8v b2,u8v b3,u8v b4,u8v b5,u8v b6,u8v b7,u8v b8,u8v b9,u8v b10,u8v b11,u8v b12,u8v b13,u8v b14,u8v b15,u8v b16,u8v b17,u8v b18,u8v b19,u8v b20,u8v b21,u8v b22,u8v b23,u8v b24,u8v b25,u8v b26,u8v b27,u8v b28,u8v b29,u8v b30,u8v b31,u8v b32,u8v b33,u8v b34,u8v b35,u8v b36,u8v b37,u8v b38,u8v b39,u8v b40,u8v b41,u8v b42,u8v b43,u8v b44,u8v b45,u8v b46,u8v b47,u8v b48,u8v b49,u8v b50,u8v b51,u8v b52,u8v b53,u8v b54,u8v b55,u8v b56,u8v b57,u8v b58,u8v b59,u8v b60,u8v b61,u8v b62,u8v b63])])) =
   some (p8v (Bl.take ⟨h0,h1,h2,h3,h4,h5,h6,h7⟩ [b0,b1,b2,b3,b4,b5,b6,b7,b8,b9,b10,b11,b12,b13,b14,b15,b16,b17,b18,b19,b20,b21,b22,b23,b24,b25,b26,b27,b28,b29,b30,b31,b32,b33,b34,b35,b36,b37,b38,b39,b40,b41,b42,b43,b44,b45,b46,b47,b48,b49,b50,b51,b52,b53,b54,b55,b56,b57,b58,b59,b60,b61,b62,b63] count false)):=by
 rw[X6b,Yh1]
 simp only[Ym5,Bl.take,Bl.words,Bl.nx]
 exact(Xwr (fun x=>some (p8v x)) _ _ _ _ _ _ _ _ _ _ _ _ _ _ _ _ _ _ _ _ _ _ _ _ _ _ _ _ _ _ _ _ _).symm
theorem Yzg{l0:List Nat}(h0:l0.length=64):∃ b0 b1 b2 b3 b4 b5 b6 b7 b8 b9 b10 b11 b12 b13 b14 b15 b16 b17 b18 b19 b20 b21 b22 b23 b24 b25 b26 b27 b28 b29 b30 b31 b32 b33 b34 b35 b36 b37 b38 b39 b40 b41 b42 b43 b44 b45 b46 b47 b48 b49 b50 b51 b52 b53 b54 b55 b56 b57 b58 b59 b60 b61 b62 b63,l0=[b0,b1,b2,b3,b4,b5,b6,b7,b8,b9,b10,b11,b12,b13,b14,b15,b16,b17,b18,b19,b20,b21,b22,b23,b24,b25,b26,b27,b28,b29,b30,b31,b32,b33,b34,b35,b36,b37,b38,b39,b40,b41,b42,b43,b44,b45,b46,b47,b48,b49,b50,b51,b52,b53,b54,b55,b56,b57,b58,b59,b60,b61,b62,b63]:=by
 obtain⟨b0,l1,rfl,h1⟩:=Z0 h0
 obtain⟨b1,l2,rfl,h2⟩:=Z0 h1
 obtain⟨b2,l3,rfl,h3⟩:=Z0 h2
 obtain⟨b3,l4,rfl,h4⟩:=Z0 h3
 obtain⟨b4,l5,rfl,h5⟩:=Z0 h4
 obtain⟨b5,l6,rfl,h6⟩:=Z0 h5
 obtain⟨b6,l7,rfl,h7⟩:=Z0 h6
 obtain⟨b7,l8,rfl,h8⟩:=Z0 h7
 obtain⟨b8,l9,rfl,h9⟩:=Z0 h8
 obtain⟨b9,l10,rfl,h10⟩:=Z0 h9
 obtain⟨b10,l11,rfl,h11⟩:=Z0 h10
 obtain⟨b11,l12,rfl,h12⟩:=Z0 h11
 obtain⟨b12,l13,rfl,h13⟩:=Z0 h12
 obtain⟨b13,l14,rfl,h14⟩:=Z0 h13
 obtain⟨b14,l15,rfl,h15⟩:=Z0 h14
 obtain⟨b15,l16,rfl,h16⟩:=Z0 h15
 obtain⟨b16,l17,rfl,h17⟩:=Z0 h16
 obtain⟨b17,l18,rfl,h18⟩:=Z0 h17
 obtain⟨b18,l19,rfl,h19⟩:=Z0 h18
 obtain⟨b19,l20,rfl,h20⟩:=Z0 h19
 obtain⟨b20,l21,rfl,h21⟩:=Z0 h20
 obtain⟨b21,l22,rfl,h22⟩:=Z0 h21
 obtain⟨b22,l23,rfl,h23⟩:=Z0 h22
 obtain⟨b23,l24,rfl,h24⟩:=Z0 h23
 obtain⟨b24,l25,rfl,h25⟩:=Z0 h24
 obtain⟨b25,l26,rfl,h26⟩:=Z0 h25
 obtain⟨b26,l27,rfl,h27⟩:=Z0 h26
 obtain⟨b27,l28,rfl,h28⟩:=Z0 h27
 obtain⟨b28,l29,rfl,h29⟩:=Z0 h28
 obtain⟨b29,l30,rfl,h30⟩:=Z0 h29
 obtain⟨b30,l31,rfl,h31⟩:=Z0 h30
 obtain⟨b31,l32,rfl,h32⟩:=Z0 h31
 obtain⟨b32,l33,rfl,h33⟩:=Z0 h32
 obtain⟨b33,l34,rfl,h34⟩:=Z0 h33
 obtain⟨b34,l35,rfl,h35⟩:=Z0 h34
 obtain⟨b35,l36,rfl,h36⟩:=Z0 h35
 obtain⟨b36,l37,rfl,h37⟩:=Z0 h36
 obtain⟨b37,l38,rfl,h38⟩:=Z0 h37
 obtain⟨b38,l39,rfl,h39⟩:=Z0 h38
 obtain⟨b39,l40,rfl,h40⟩:=Z0 h39
 obtain⟨b40,l41,rfl,h41⟩:=Z0 h40
 obtain⟨b41,l42,rfl,h42⟩:=Z0 h41
 obtain⟨b42,l43,rfl,h43⟩:=Z0 h42
 obtain⟨b43,l44,rfl,h44⟩:=Z0 h43
 obtain⟨b44,l45,rfl,h45⟩:=Z0 h44
 obtain⟨b45,l46,rfl,h46⟩:=Z0 h45
 obtain⟨b46,l47,rfl,h47⟩:=Z0 h46
 obtain⟨b47,l48,rfl,h48⟩:=Z0 h47
 obtain⟨b48,l49,rfl,h49⟩:=Z0 h48
 obtain⟨b49,l50,rfl,h50⟩:=Z0 h49
 obtain⟨b50,l51,rfl,h51⟩:=Z0 h50
 obtain⟨b51,l52,rfl,h52⟩:=Z0 h51
 obtain⟨b52,l53,rfl,h53⟩:=Z0 h52
 obtain⟨b53,l54,rfl,h54⟩:=Z0 h53
 obtain⟨b54,l55,rfl,h55⟩:=Z0 h54
 obtain⟨b55,l56,rfl,h56⟩:=Z0 h55
 obtain⟨b56,l57,rfl,h57⟩:=Z0 h56
 obtain⟨b57,l58,rfl,h58⟩:=Z0 h57
 obtain⟨b58,l59,rfl,h59⟩:=Z0 h58
 obtain⟨b59,l60,rfl,h60⟩:=Z0 h59
 obtain⟨b60,l61,rfl,h61⟩:=Z0 h60
 obtain⟨b61,l62,rfl,h62⟩:=Z0 h61
 obtain⟨b62,l63,rfl,h63⟩:=Z0 h62
 obtain⟨b63,l64,rfl,h64⟩:=Z0 h63
 have e:=List.eq_nil_of_length_eq_zero h64
 subst e
 exact⟨_,_,_,_,_,_,_,_,_,_,_,_,_,_,_,_,_,_,_,_,_,_,_,_,_,_,_,_,_,_,_,_,_,_,_,_,_,_,_,_,_,_,_,_,_,_,_,_,_,_,_,_,_,_,_,_,_,_,_,_,_,_,_,_,rfl⟩
theorem Ys9(b:Nat)(h0 h1 h2 h3 h4 h5 h6 h7 count:Nat)(l:List Nat)(hl:l.length=64)(last:Bool) :
  Ym4 ((Qfr Tryd.prog (mkE Tryd.prog nv b) Q8t 100 4).fn 40 [.agg ⟨[Qa3 h0,Qa3 h1,Qa3 h2,Qa3 h3,Qa3 h4,Qa3 h5,Qa3 h6,Qa3 h7]⟩,.pointer (some ⟨nv,0,none⟩),.int .u64 (.ofNat count),.bool last] (Qdl nv Qhm false [(1,l.map u8v)])) =
   some (p8v (Bl.take ⟨h0,h1,h2,h3,h4,h5,h6,h7⟩ l count last)):=by
 obtain⟨b0,b1,b2,b3,b4,b5,b6,b7,b8,b9,b10,b11,b12,b13,b14,b15,b16,b17,b18,b19,b20,b21,b22,b23,b24,b25,b26,b27,b28,b29,b30,b31,b32,b33,b34,b35,b36,b37,b38,b39,b40,b41,b42,b43,b44,b45,b46,b47,b48,b49,b50,b51,b52,b53,b54,b55,b56,b57,b58,b59,b60,b61,b62,b63,rfl⟩:=Yzg hl
 cases last with
 | true=>exact Yeg b h0 h1 h2 h3 h4 h5 h6 h7 b0 b1 b2 b3 b4 b5 b6 b7 b8 b9 b10 b11 b12 b13 b14 b15 b16 b17 b18 b19 b20 b21 b22 b23 b24 b25 b26 b27 b28 b29 b30 b31 b32 b33 b34 b35 b36 b37 b38 b39 b40 b41 b42 b43 b44 b45 b46 b47 b48 b49 b50 b51 b52 b53 b54 b55 b56 b57 b58 b59 b60 b61 b62 b63 count
 | false=>exact X9u b h0 h1 h2 h3 h4 h5 h6 h7 b0 b1 b2 b3 b4 b5 b6 b7 b8 b9 b10 b11 b12 b13 b14 b15 b16 b17 b18 b19 b20 b21 b22 b23 b24 b25 b26 b27 b28 b29 b30 b31 b32 b33 b34 b35 b36 b37 b38 b39 b40 b41 b42 b43 b44 b45 b46 b47 b48 b49 b50 b51 b52 b53 b54 b55 b56 b57 b58 b59 b60 b61 b62 b63 count
def X79:Qmy:=fun f args h=>bq (Nat.beq f 40) (match args with
 | [.agg ⟨hv⟩,p,.int .u64 (.ofNat count),.bool last]=>ob (Ytn hv) fun hl=>ob (Xxx h p) fun q=>ob (u8s q.2) fun bl=>bq (Nat.beq bl.length 64) (bq (Ynk h Qhm) (ob (Yzh hl) fun h8=>some (.ret (p8v (Bl.take h8 bl count last)),h)) none) none
 | _=>none) none
theorem X71:∀ x ∈ Qhm,x.2 ≠ []/\Xdx x.2:=by
 intro x hx
 rcases List.mem_cons.1 hx with rfl | hx
 ·exact⟨by simp[Qdv],Quu (by kernel_rfl)⟩
 ·rcases List.mem_cons.1 hx with rfl | hx
  ·exact⟨by simp[Q8u],Quu (by kernel_rfl)⟩
  ·cases hx
theorem Xto(b:Nat):Wu Tryd.prog ⟨nv,b⟩ X79:=by
 intro f args h r h' hx
 unfold X79 at hx
 obtain⟨hf,hx⟩:=We hx
 have hf:=Nat.eq_of_beq_eq_true hf
 subst hf
 split at hx
 ·rename_i hv p count last hq
  obtain⟨hl,h1,hx⟩:=Jh hx
  obtain⟨⟨blk,cs⟩,h2,hx⟩:=Jh hx
  obtain⟨bl,h3,hx⟩:=Jh hx
  obtain⟨h4,hx⟩:=We hx
  obtain⟨h5,hx⟩:=We hx
  obtain⟨h8,h6,hx⟩:=Jh hx
  cases hx
  have e1:=Xwv h1
  subst e1
  have e0:Value.agg {toList:=List.map Qa3 hl}=p8v h8:=Yv7 h6
  obtain⟨rfl,hg⟩:=Q3u h2
  have e2:=Ylh h3
  simp only at e2 hg
  subst e2
  rw[e0]
  refine Xrc (k:=100) (m:=4) Qa5 X7x X1w (fun b=>Ys9 b h8.h0 h8.h1 h8.h2 h8.h3 h8.h4 h8.h5 h8.h6 h8.h7 count bl (Nat.eq_of_beq_eq_true h4) last) rfl (Xts h5) X71 (bs:=[blk]) rfl (by simp) (fun k d r hd hr => ?_)
   (Vq (Qdt rfl) (Vq (X6h _ _) (Vq (Qdt rfl) (Vq (Qdt rfl) Qvw))))
  cases k with
  | zero=>simp at hd hr;subst hd;subst hr;exact⟨hg,Xtx _⟩
  | succ k=>simp at hd
 ·cases hx
theorem Xp9:Qe6 X79:=by
 intro f args h r h' hx
 unfold X79 at hx
 obtain⟨hf,hx⟩:=We hx
 split at hx
 ·obtain⟨hl,h1,hx⟩:=Jh hx
  obtain⟨⟨blk,cs⟩,h2,hx⟩:=Jh hx
  obtain⟨bl,h3,hx⟩:=Jh hx
  obtain⟨h4,hx⟩:=We hx
  obtain⟨h5,hx⟩:=We hx
  obtain⟨h8,h6,hx⟩:=Jh hx
  cases hx;exact LowOK.refl _
 ·cases hx
def Xpe:List Value:=[.int .u8 253,.int .i64 2,.int .u64 253,.int .u8 254,.int .i64 4,.int .u64 65536,.int .u8 255,.int .i64 8,.int .u64 4294967296]
def laidAll:List (Nat × List Value):=[(0,Qdv),(1,Xpe),(2,Q8u)]
def Ql5(seed:List Nat):Nat->Nat->List Nat
 | 0,_=>[]
 | n+1,i=>Bl.keyed seed [i]++Ql5 seed n (Nat.succ i)
theorem X1i:∀ x ∈ laidAll,x.2 ≠ []/\Xdx x.2:=by
 intro x hx
 rcases List.mem_cons.1 hx with rfl | hx
 ·exact⟨by simp[Qdv],Quu (by kernel_rfl)⟩
 ·rcases List.mem_cons.1 hx with rfl | hx
  ·exact⟨by simp[Xpe],Quu (by kernel_rfl)⟩
  ·rcases List.mem_cons.1 hx with rfl | hx
   ·exact⟨by simp[Q8u],Quu (by kernel_rfl)⟩
   ·cases hx
def Xj3:List Nat:=[107,101,121,115]
def X2n:List Nat:=Ql5 Xj3 32 1
theorem Yjb(b:Nat):Ygx (nv+([(1,Xj3.map u8v)]:List (Nat × List Value)).length) ((Qfr Tryd.prog (mkE Tryd.prog nv b) X79 10000 8).fn 15 [.slice (some ⟨nv,0,none⟩) 4 4] (Qdl nv laidAll false [(1,Xj3.map u8v)]))=some (X2n.map u8v):=by kernel_rfl
def Xn8:Qmy:=fun f args h=>bq (Nat.beq f 15) (match args with
 | [.slice (some ⟨blk,0,none⟩) 4 4]=>ob (Xxx h (.pointer (some ⟨blk,0,none⟩))) fun q=>ob (u8s q.2) fun bl=>bq (eqN bl Xj3) (bq (Ynk h laidAll) (some (.ret (.pointer (some ⟨h.next,0,none⟩)),h.push (.cells true 1 (X2n.map u8v)))) none) (X79 f args h)
 | _=>X79 f args h) (X79 f args h)
theorem Ydl(b:Nat):Wu Tryd.prog ⟨nv,b⟩ Xn8:=by
 intro f args h r h' hx
 unfold Xn8 at hx
 cases hf:Nat.beq f 15 with
 | false=>rw[hf]at hx;exact Xto b f args h r h' hx
 | true =>
  rw[hf,bq_true]at hx
  have hf:=Nat.eq_of_beq_eq_true hf
  subst hf
  split at hx
  ·rename_i blk
   obtain⟨⟨blk',cs⟩,h2,hx⟩:=Jh hx
   obtain⟨bl,h3,hx⟩:=Jh hx
   cases h4:eqN bl Xj3 with
   | false=>rw[h4,bq_false]at hx;exact Xto b _ _ h r h' hx
   | true =>
    rw[h4,bq_true]at hx
    obtain⟨h1,hx⟩:=We hx
    cases hx
    obtain⟨e0,hg⟩:=Q3u h2
    cases e0
    have e2:=Ylh h3
    simp only at e2 hg
    have e3:=Xbt h4
    subst e3
    subst e2
    refine Yky (k:=10000) (m:=8) Qa5 Xto Xp9 Yjb (Xtx _) (Xts h1) X1i (bs:=[blk]) rfl (by simp) (fun k d r hd hr => ?_) (Vq (Ycc (by simp[emb])) Qvw)
    cases k with
    | zero=>simp at hd hr;subst hd;subst hr;exact⟨hg,Xtx _⟩
    | succ k=>simp at hd
  ·exact Xto b _ _ h r h' hx
theorem Xrh:Qe6 Xn8:=by
 intro f args h r h' hx
 unfold Xn8 at hx
 cases hf:Nat.beq f 15 with
 | false=>rw[hf]at hx;exact Xp9 f args h r h' hx
 | true =>
  rw[hf,bq_true]at hx
  split at hx
  ·obtain⟨q,h2,hx⟩:=Jh hx
   obtain⟨bl,h3,hx⟩:=Jh hx
   cases h4:eqN bl Xj3 with
   | false=>rw[h4,bq_false]at hx;exact Xp9 _ _ h r h' hx
   | true =>
    rw[h4,bq_true]at hx
    obtain⟨h1,hx⟩:=We hx
    cases hx
    exact LowOK.push _ _
  ·exact Xp9 _ _ h r h' hx
theorem Ycz{P:Program}{n k m:Nat}{f:FuncId}{v0:Value}{h:Heap}(hm:P.follows .mixedOrders=true){X:Nat->Qmy}(hX:∀ b,Wu P ⟨n,b⟩ (X b))(hL:∀ b,Qe6 (X b)){laid:List (Nat × List Value)}
  (hrun:∀ b,Ym4 ((Qfr P (mkE P n b) (X b) k m).fn f [] (Qdl n laid false []))=some v0) (hv:flat v0=true) (hlaid:Ab.LaidIn h laid) (hfl:∀ x ∈ laid,x.2 ≠ []/\Xdx x.2) {b:Nat} :
  CallOK P ⟨n,b⟩ f [] h (fun r h1=>r=.ret v0/\h1=h):=by
 intro α w H hok
 have F:Fit ⟨n,b⟩ (emb n []) (Qdl n laid false []) h:=Xg3 H rfl (fun x hx=>⟨(hfl x hx).1,hlaid x hx,(hfl x hx).2⟩) rfl (fun k d r hd _=>by simp at hd) (by simp)
 refine X2e F Q3q Qvw hv (fun b' => ?_) α w H hok
 obtain⟨h0',e1⟩:=Yko (hrun b')
 refine⟨h0',?_⟩
 rw[Xnx]at e1
 exact(Xom (mkE P n b') (hX b') (hL b') hm k m).fn _ _ _ _ _ e1
def ndB(f:FuncId):Bool:=Yio [34,28,42,55,64,57] f
def mgB(f:FuncId):Bool:=Yio [34,28] f
def mX(b:Nat):Qmy:=mgX Tryd.prog nv b Xn8 ndB mgB 1000 20
theorem Yyq(b:Nat):Wu Tryd.prog ⟨nv,b⟩ (mX b):=Ywd Qa5 (Ydl b) Xrh ndB mgB 1000 20
theorem Yw5(b:Nat):Qe6 (mX b):=Yu5 Xrh ndB mgB 1000 20
theorem X0u(b:Nat):Ym4 ((Qfr Tryd.prog (mkE Tryd.prog nv b) (mX b) 10000 30).fn 12 [] (Qdl nv laidAll false []))=some (.bool true):=by kernel_rfl
theorem Yuz(b:Nat){h:Heap}(hl:Ab.LaidIn h laidAll):CallOK Tryd.prog ⟨nv,b⟩ 12 [] h (fun r h1=>r=.ret (.bool true)/\h1=h) :=
 Ycz (k:=10000) (m:=30) Qa5 Yyq Yw5 X0u rfl hl X1i
end Go.Proofs.YtcnhfkplgknomaaDoor
end
