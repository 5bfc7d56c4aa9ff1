import Derived.Test.YtcnhfkplgknomaaDoorFA
import Derived.Test.YtcnhfkplgknomaaDoorScB
import Derived.Test.YtcnhfkplgknomaaDoorScA
set_option linter.all false
noncomputable section
namespace Go.Proofs.YtcnhfkplgknomaaDoor
open Go Go.Ab
set_option maxRecDepth 100000
structure Pt where
 id:List Nat
 n:Int
 hd:id.length=32
def Pt.cells(p:Pt):List Value:=p.id.map u8v ++ [.int .i64 p.n]
theorem Pt.len(p:Pt):p.cells.length=33:=by simp[Pt.cells,p.hd]
theorem Pt.ext' {p q:Pt}(h1:p.id=q.id)(h2:p.n=q.n):p=q:=by
 cases p;cases q;simp only at h1 h2;subst h1;subst h2;rfl
instance : DecidableEq Pt:=fun p q=>if h:p.id=q.id/\p.n=q.n then isTrue (Pt.ext' h.1 h.2)else isFalse fun e=>h (by rw[e];exact⟨rfl,rfl⟩)
def Jy(l:List Pt):List Value:=l.flatMap Pt.cells
theorem Xut(l:List Pt):(Jy l).length=l.length*33:=by
 induction l with
 | nil=>rfl
 | cons p l ih=>simp[Jy,Pt.len]at ih ⊢;omega
theorem Xle:∀ (xs ys:List Nat) (l:List Nat) (r s:List Value),xs.length=ys.length->Vi (List.replicate xs.length 1++l) (xs.map u8v++r) (ys.map u8v++s)=(Vi l r s).map (decide (xs=ys) && ·)
 | [],[],l,r,s,_=>by
  simp
 | x::xs,y::ys,l,r,s,h=>by
  have ih:=Xle xs ys l r s (by simpa using h)
  simp only[List.length_cons,List.replicate_succ,List.map_cons,List.cons_append,Vi,ih]
  have : Xwo 1 (u8v x) (u8v y)=some (decide (x=y)):=by
   show(if IntKind.u8=IntKind.u8 then some ((x:Int) == (y:Int))else none)=_
   simp only[if_true]
   congr 1
   by_cases e:x=y
   ·subst e;simp
   ·simp[e];omega
  rw[this]
  cases Vi l r s with
  | none=>rfl
  | some c=>simp[Bool.and_assoc]
theorem Y06(p q:Pt):Vi L36 p.cells q.cells=some (decide (p=q)):=by
 have:=Xle p.id q.id [1] [.int .i64 p.n] [.int .i64 q.n] (by rw[p.hd,q.hd])
 rw[p.hd]at this
 have e:Vi L36 p.cells q.cells=Vi (List.replicate 32 1 ++ [1]) (p.id.map u8v ++ [.int .i64 p.n]) (q.id.map u8v ++ [.int .i64 q.n]):=by
  congr 1
  kernel_rfl
 rw[e,this]
 have e2:Vi [1] [Value.int .i64 p.n] [.int .i64 q.n]=some (decide (p.n=q.n)):=by
  show(match some (p.n == q.n),some true with | some a,some b=>some (a && b) | _,_=>none)=_
  simp
  rfl
 rw[e2]
 show some (decide (p.id=q.id) && decide (p.n=q.n))=_
 congr 1
 by_cases h:p=q
 ·subst h;simp
 ·have : ¬ (p.id=q.id/\p.n=q.n):=fun⟨a,c⟩=>h (Pt.ext' a c)
  simp[h]
  intro a c
  exact this ⟨a,c⟩
theorem peq(b:Nat)(p q:Pt):X2h (E b).toEnv .eql 36 (.agg ⟨p.cells⟩) (.agg ⟨q.cells⟩)=some (.bool (decide (p=q))):=by
 have e:X2h (E b).toEnv .eql 36 (.agg ⟨p.cells⟩) (.agg ⟨q.cells⟩)=(Vi L36 p.cells q.cells).map .bool:=by kernel_rfl
 rw[e,Y06]
 rfl
theorem Xqb:∀ {l:List Pt} {i:Nat} {p:Pt},l[i]? = some p->∀ j,j < 33->(Jy l)[i*33+j]? = p.cells[j]?
 | q::l,0,p,h,j,hj=>by
  simp at h;subst h
  show(q.cells++Jy l)[0*33+j]? = _
  rw[List.getElem?_append_left (by rw[Pt.len];omega)]
  congr 1
  omega
 | q::l,i+1,p,h,j,hj=>by
  have ih:=Xqb (l:=l) (i:=i) (p:=p) (by simpa using h) j hj
  show(q.cells++Jy l)[(i+1)*33+j]? = _
  rw[List.getElem?_append_right (by rw[Pt.len];omega),Pt.len,show(i+1)*33+j-33=i*33+j by omega]
  exact ih
theorem Yq7{b:Nat}{te ts:TypeId}{re rs:TyRec}(T:SlTy (E b).toEnv te ts re rs)(hz:re.size=33){h:Heap}{v:Value}{l:List Pt}(s:Sl h 33 v l.length (Jy l)){i:Nat}{p:Pt}(hp:l[i]? = some p) :
  ∃ bk off,Zm (E b).toEnv ts v (.int .i64 (i:Int))=some (.pointer (some ⟨bk,off,none⟩))/\Qll h bk off 33=some (.agg ⟨p.cells⟩):=by
 have hl:=(List.getElem?_eq_some_iff.1 hp).1
 obtain⟨bk,off,q1,q2,q3,q4⟩:=Xps T hz s (k:=.i64) (i:=(i:Int)) (by omega) (by omega)
 refine⟨bk,off,q2,?_⟩
 rw[q4]
 congr 3
 rw[Int.toNat_natCast]
 apply List.ext_getElem?
 intro j
 by_cases hj:j < 33
 ·rw[List.getElem?_take_of_lt hj,List.getElem?_drop,Xqb hp j hj]
 ·rw[List.getElem?_eq_none (by simp;omega),List.getElem?_eq_none (by rw[Pt.len];omega)]
structure PE where
 key:Pt
 val:Value
 born:Nat
def PE.e(x:PE):MapEntry:=⟨.agg ⟨x.key.cells⟩,x.val,x.born⟩
def Xc5(p:Pt):List PE->Nat->Option (Nat × Value)
 | [],_=>none
 | x::l,j=>if p=x.key then some (j,x.val)else Xc5 p l (j+1)
theorem Ygr(p:Pt):∀ (l:List PE) (j:Nat),Xbi L36 p.cells (l.map PE.e) j=some (Xc5 p l j)
 | [],_=>rfl
 | x::l,j=>by
  have hc:X5s x.e.key=some x.key.cells:=rfl
  simp only[List.map_cons,Xbi,hc,Y06,Xc5]
  by_cases h:p=x.key
  ·simp[h];rfl
  ·simp only[h,decide_false,if_false]
   exact Ygr p l (j+1)
theorem Yng(p:Pt)(l:List PE):Xl2 R36 (.agg ⟨p.cells⟩) (l.map PE.e)=some (Xc5 p l 0):=by
 obtain⟨fs,hd⟩:∃ fs,R36.desc=.struct fs:=⟨(match R36.desc with | .struct fs=>fs | _ => #[]),by kernel_rfl⟩
 have hl:R36.leaf=1::List.replicate 32 1:=by kernel_rfl
 have h0:=Ygr p l 0
 rw[show L36=1::List.replicate 32 1 by kernel_rfl]at h0
 have hb:Nat.beq p.cells.length (1::List.replicate 32 1).length=true:=by rw[p.len];rfl
 simp only[Xl2,hd,hl,hb]
 exact h0
theorem Xqj{p:Pt}:∀ {l:List PE} {j:Nat},Xc5 p l j=none ↔ ∀ x ∈ l,x.key≠p
 | [],_=>by simp[Xc5]
 | x::l,j=>by
  unfold Xc5
  by_cases h:p=x.key
  ·simp[h]
  ·rw[if_neg h,Xqj]
   simp
   exact fun _ q=>h q.symm
theorem X1p{p:Pt}:∀ {l:List PE} {j i:Nat} {v:Value},Xc5 p l j=some (i,v)->∃ x,l[i-j]? = some x/\j<=i/\x.key=p/\x.val=v
 | [],_,_,_,h=>by cases h
 | x::l,j,i,v,h=>by
  unfold Xc5 at h
  by_cases hk:p=x.key
  ·rw[if_pos hk]at h
   cases h
   exact⟨x,by simp,Nat.le_refl _,hk.symm,rfl⟩
  ·rw[if_neg hk]at h
   obtain⟨y,h1,h2,h3,h4⟩:=X1p h
   refine⟨y,?_,by omega,h3,h4⟩
   rw[show i-j=(i-(j+1))+1 by omega,List.getElem?_cons_succ]
   exact h1
theorem Yvw(p:Pt):∀ v ∈ p.cells,∃ k z,v=.int k z:=by
 intro v hv
 rcases List.mem_append.1 hv with h | h
 ·obtain⟨n,_,rfl⟩:=List.mem_map.1 h
  exact⟨_,_,rfl⟩
 ·simp at h
  exact⟨_,_,h⟩
theorem X6w:∀ {l:List Value},(∀ v ∈ l,∃ k z,v=.int k z)->flatL l=true/\l.all (·.oneCell')=true
 | [],_=>⟨by simp[flatL],rfl⟩
 | v::l,h=>by
  obtain⟨k,z,rfl⟩:=h v (by simp)
  obtain⟨h1,h2⟩:=X6w (l:=l) fun w hw=>h w (by simp[hw])
  exact⟨by simp[flatL,flat,h1],by simpa[Value.oneCell']using h2⟩
theorem Ytt(p:Pt):flat (.agg ⟨p.cells⟩)=true:=by
 obtain⟨h1,h2⟩:=X6w (Yvw p)
 simp only[flat,flatA,h1,h2,Bool.and_self]
section
variable{b:Nat}{tm te:TypeId}{rm:TyRec}(he:(E b).toEnv.ty.get tm=some rm)(hd:rm.desc=.map 36 te)
include he hd
theorem Yux{h:Heap}{mb clk:Nat}{l:List PE}(hm:h.get mb=some (.map ⟨l.map PE.e⟩ clk)){p:Pt}(hf:Xc5 p l 0=none)(v:Value) :
  Qch (E b).toEnv tm (.map (some mb)) (.agg ⟨p.cells⟩) v h=some (h.set mb (some (.map ⟨(l ++ [(⟨p,v,clk⟩:PE)]).map PE.e⟩ (clk+1)))):=by
 have hq:=Yng p l
 rw[hf]at hq
 simp only[Qch,he,hd,hm,X4e,Ytt,hq]
 simp[PE.e]
theorem Yx6{h:Heap}{mb clk:Nat}{l:List PE}(hm:h.get mb=some (.map ⟨l.map PE.e⟩ clk)){re:TyRec}(hee:(E b).toEnv.ty.get te=some re)(p:Pt) :
  Qfs (E b).toEnv tm (.map (some mb)) (.agg ⟨p.cells⟩) false h=some (match Xc5 p l 0 with | some q=>q.2 | none=>re.zero) /\
  Qfs (E b).toEnv tm (.map (some mb)) (.agg ⟨p.cells⟩) true h=some (match Xc5 p l 0 with | some q => .tuple #[q.2,.bool true] | none => .tuple #[re.zero,.bool false]):=by
 have hf:=Yng p l
 constructor
 ·simp only[Qfs,he,hd,X4e,hee,Qw2,hm,hf]
  cases Xc5 p l 0 <;> simp
 ·simp only[Qfs,he,hd,X4e,hee,Qw2,hm,hf]
  cases Xc5 p l 0 <;> simp
theorem Yp4{h:Heap}:Qwg (E b).toEnv tm none h=some (.map (some h.next),h.push (.map #[] 0)):=by
 simp only[Qwg,he,hd]
end
structure PIn where
 pt:Pt
 wit:List (List Int)
structure POut where
 value:Int
 script:List Int
structure PTx where
 ins:List PIn
 outs:List POut
 lock:Int
def inF(n least most:Int):Bool:=decide (least<=n/\n<=most)
def Ywc:List POut->Int->Bool
 | [],_=>true
 | o::l,left=>if o.value < 1∨left < o.value then false else Ywc l (left-o.value)
structure InV where
 pt:Pt
 wv:Value
 its:List (Value × List Int)
def InV.cells(x:InV):List Value:=x.pt.cells ++ [x.wv]
def InV.p(x:InV):PIn:=⟨x.pt,x.its.map (·.2)⟩
structure OutV where
 value:Int
 sv:Value
 script:List Int
def OutV.cells(o:OutV):List Value:=[.int .i64 o.value,o.sv]
def OutV.p(o:OutV):POut:=⟨o.value,o.script⟩
def Ysz(l:List InV):List Value:=l.flatMap InV.cells
def Q1g(l:List OutV):List Value:=l.flatMap OutV.cells
theorem InV.len(x:InV):x.cells.length=34:=by simp[InV.cells,Pt.len]
theorem OutV.len(x:OutV):x.cells.length=2:=rfl
structure InAt (h:Heap) (x:InV):Prop where
 w:Sl h 1 x.wv x.its.length (x.its.map (·.1))
 i:ItsAt h x.its
 n:x.its.length < 1000000
 l:∀ p ∈ x.its,p.2.length < 1000000
structure OutAt (h:Heap) (x:OutV):Prop where
 s:SB h x.sv x.script
 b:Bytes x.script
 l:x.script.length < 1000000
theorem InAt.old{h h':Heap}{x:InV}(a:InAt h x)(o:Old h h'):InAt h' x:=⟨a.w.old o,a.i.old o,a.n,a.l⟩
theorem OutAt.old{h h':Heap}{x:OutV}(a:OutAt h x)(o:Old h h'):OutAt h' x:=⟨a.s.old o,a.b,a.l⟩
structure Ins (h:Heap) (v:Value) (l:List InV):Prop where
 s:Sl h 34 v l.length (Ysz l)
 n:l.length < 1000000
 a:∀ x ∈ l,InAt h x
structure Outs (h:Heap) (v:Value) (l:List OutV):Prop where
 s:Sl h 2 v l.length (Q1g l)
 n:l.length < 1000000
 a:∀ x ∈ l,OutAt h x
theorem Ins.old{h h':Heap}{v:Value}{l:List InV}(a:Ins h v l)(o:Old h h'):Ins h' v l:=⟨a.s.old o,a.n,fun x hx=>(a.a x hx).old o⟩
theorem Outs.old{h h':Heap}{v:Value}{l:List OutV}(a:Outs h v l)(o:Old h h'):Outs h' v l:=⟨a.s.old o,a.n,fun x hx=>(a.a x hx).old o⟩
theorem Xq1{A:Type}{f:A->List Value}{z:Nat}(hf:∀ x,(f x).length=z):∀ {l:List A} {i:Nat} {x:A},l[i]? = some x->((l.flatMap f).drop (i*z)).take z=f x
 | y::l,0,x,h=>by
  simp at h;subst h
  rw[Nat.zero_mul,List.drop_zero,List.flatMap_cons,List.take_append_of_le_length (by rw[hf];omega),List.take_of_length_le (by rw[hf];omega)]
 | y::l,i+1,x,h=>by
  rw[List.flatMap_cons,show(i+1)*z=z+i*z by rw[Nat.add_mul];omega,<- List.drop_drop]
  have : (f y++l.flatMap f).drop z=l.flatMap f:=by
   rw[<- hf y,List.drop_left]
  rw[this]
  exact Xq1 hf (by simpa using h)
theorem Ynd{A:Type}{f:A->List Value}{z:Nat}(hf:∀ x,(f x).length=z){l:List A}{i:Nat}{x:A}(h:l[i]? = some x){j:Nat}(hj:j < z):(l.flatMap f)[i*z+j]? = (f x)[j]? := by
 rw[<- Xq1 hf h,List.getElem?_take_of_lt hj,List.getElem?_drop]
theorem Ysk{b:Nat}{te ts:TypeId}{re rs:TyRec}(T:SlTy (E b).toEnv te ts re rs)(hz:re.size=2){h:Heap}{v:Value}{l:List OutV}(s:Sl h 2 v l.length (Q1g l)){i:Nat}{x:OutV}(hp:l[i]? = some x) :
  ∃ bk off,Un v=some bk/\Zm (E b).toEnv ts v (.int .i64 (i:Int))=some (.pointer (some ⟨bk,off,none⟩))/\Qll h bk off 2=some (.agg ⟨x.cells⟩)/\V2 h bk off=some (.int .i64 x.value)/\V2 h bk (off+1)=some x.sv:=by
 have hl:=(List.getElem?_eq_some_iff.1 hp).1
 obtain⟨bk,off,q1,q2,q3,q4⟩:=Xps T hz s (k:=.i64) (i:=(i:Int)) (by omega) (by omega)
 have q5:∀ j,j < 2->V2 h bk (off+j)=x.cells[j]? := fun j hj=>by rw[q3 j hj,Int.toNat_natCast,Q1g,Ynd OutV.len hp hj]
 refine⟨bk,off,q1,q2,?_,?_,?_⟩
 ·rw[q4,Int.toNat_natCast,Q1g,Xq1 OutV.len hp]
 ·have:=q5 0 (by omega);simpa[OutV.cells]using this
 ·have:=q5 1 (by omega);simpa[OutV.cells]using this
structure TxOk (t:PTx):Prop where
 insN:1<=t.ins.length/\t.ins.length<=8
 outsN:1<=t.outs.length/\t.outs.length<=8
 far:∀ x ∈ t.ins,0<=x.pt.n/\x.pt.n<=8
 lock:0<=t.lock/\t.lock<=1073741824
 pts:(t.ins.map (·.pt)).Nodup
 vals:Ywc t.outs 1125899906842624=true
 script:∀ o ∈ t.outs,o.script.length<=256
 wit:∀ x ∈ t.ins,x.wit.length<=16/\∀ w ∈ x.wit,w.length<=64
inductive AnyV where
 | push (v:Value) (xs:List Int)
 | code (c:Int)
def AnyV.val:AnyV->Value
 | .push v _ => .iface 43 v
 | .code c => .iface 3 (.int .i64 c)
def AnyV.op:AnyV->OpV
 | .push v xs=>⟨xs.length,xs,v⟩
 | .code c=>⟨c,[],.slice none 0 0⟩
def Yz2(h:Heap):AnyV->Prop
 | .push v xs=>SB h v xs/\xs.length<=1000
 | .code _=>True
theorem Ymt(b:Nat)(z:Int){v:Value}{h:Heap}{n:Nat}{xs:List Value}(s:Sl h 1 v n xs):Q5s (E b).toEnv 90 [(0,.int .i64 z),(1,v)]=some (.agg ⟨[.int .i64 z,v]⟩):=by
 rcases s with⟨c,rfl,_⟩ | ⟨bk,o,c,ow,z',pre,post,rfl,_⟩
 ·kernel_rfl
 ·kernel_rfl
def OPI(sv:Value)(l:List AnyV)(h:Heap)(k:Nat)(s:St):Prop:=∃ (t:Tr Value) (h1:Heap) (o:Value) (i:Nat),s=⟨⟨36,t⟩,[],h1⟩/\t.get 3=some o/\t.get 8=some sv/\t.get 9=some (.int .i64 (l.length:Int))/\t.get 10=some (.int .i64 (i:Int))/\i<=l.length/\k=l.length-i/\Old h h1/\Own h1 h.next 2 o i (Qy2 ((l.take i).map AnyV.op))
attribute [local simp] Y7 kON kOC Y9 kNN kNP kRR kRP kEN kER Q4 Qu J5 Zh aop Qe nth Ab.g0 gv gs Q9 Q8 aev evs evO Qf Tr.get_put St.put Tm.put flat flatA Zg Qm Qh Ql Qn Qj Qk Qi Qq Qg Q5 Q6 kTN kTR kTX kTP kBN kBR kBX kBP kCS kCR kCE kAM Y8.putAll Qt Qd Q3 Q1 Qb Qa Qc Q0 Q2 Q7
section
theorem Yw2(b:Nat){h:Heap}{sv:Value}{l:List AnyV}(s:Sl h 1 sv l.length (l.map AnyV.val))(hn:l.length < 1000)(ha:∀ a ∈ l,Yz2 h a)(K:KP)(hk:∀ v h',OB h' h.next v (Ykc (l.map AnyV.op))->Old h h'->K (.ret v) h') :
  FK b 23 [sv] h K:=by
 refine FF b (Qlb b) X38 Yid Yds rfl ?_
 have hr:∃ rs,(E b).toEnv.ty.get 87=some rs/\rs.desc=.slice 20:=⟨((E b).toEnv.ty.get 87).getD ⟨.invalid,0,0,.bool false,[]⟩,by kernel_rfl,by kernel_rfl⟩
 have len:∀ hx,Q43 (E b).toEnv 87 sv hx=some (.int .i64 (l.length:Int)):=fun hx=>Qhl (T87 b) s
 have asB:∀ v,Xmt (E b).toEnv (.iface 43 v) 43 true=some (.tuple #[v,.bool true]):=fun v=>by kernel_rfl
 have asN:∀ z,Xmt (E b).toEnv (.iface 3 (.int .i64 z)) 43 true=some (.tuple #[.slice none 0 0,.bool false]):=fun v=>by kernel_rfl
 have asI:∀ z,Xmt (E b).toEnv (.iface 3 (.int .i64 z)) 3 true=some (.tuple #[.int .i64 z,.bool true]):=fun v=>by kernel_rfl
 simp[Qp5,Q2x,Qlb,Qwp,Yku,Y3,Yn9,Yll,Qww,Y6,Qau,len]
 refine Qff (OPI sv l h) l.length ⟨_,h,.slice none 0 0,0,rfl,by simp,by simp,by simp,by simp,by omega,rfl,Old.refl _,by simpa[Qy2]using Own.nil⟩ ?_
 rintro k s' ⟨t,h1,o,i,rfl,t3,t8,t9,t10,hi,rfl,hold,oo⟩ _
 by_cases hlt:i < l.length
 ·have hlt':(i:Int) < (l.length:Int):=by omega
  obtain⟨x,hx⟩:∃ x,l[i]? = some x:=⟨_,List.getElem?_eq_getElem hlt⟩
  have hw:=wS (i:=i) (by omega)
  obtain⟨bk,off,q1,q2,q3, -⟩:=Xps (T87 b) Yh3 (s.old hold) (k:=.i64) (i:=(i:Int)) (by omega) (by omega)
  have q4:V2 h1 bk off=some x.val:=by
   have:=q3 0 (by omega)
   simpa[hx]using this
  have tk:(l.take (i+1)).map AnyV.op=(l.take i).map AnyV.op ++ [x.op]:=by rw[List.take_succ,hx];simp
  have more:Qy2 ((l.take (i+1)).map AnyV.op)=Qy2 ((l.take i).map AnyV.op)++x.op.cells:=by rw[tk];simp[Qy2]
  obtain⟨v',h2,k1,k2,k3⟩:=Xj8 (T88 b) (z:=2) Xj4 (by omega) oo hold.1 (ys:=x.op.cells) rfl (by rw[Ylz];omega) (by omega)
  have bl:Jf (E b).toEnv 88 1 [(0,.agg ⟨x.op.cells⟩)] h1=some (.slice (some ⟨h1.next,0,none⟩) 1 1,h1.push (.cells true 1 x.op.cells)):=Xx9 (T88 b) (z:=2) Xj4 (by omega) (by omega) rfl rfl rfl
  have a2:Old h h2:=k3.old hold oo
  have hxa:=ha x (List.mem_of_getElem? hx)
  cases x with
  | push v xs =>
   have lv:=fun hx=>Ya8 (b:=b) (h1:=hx) hxa.1
   simp only[AnyV.op,OpV.cells]at bl k1
   simp only[AnyV.val]at q4
   simp[Qp5,Q2x,Qlb,Qwp,Yku,Y3,Yn9,Yll,Qww,Y6,Qau,t3,t8,t9,t10,hlt',q2,q4,asB,lv,Ymt b _ hxa.1,bl,k1,hw]
   exact⟨l.length-(i+1),by omega,_,h2,v',i+1,rfl,by simp,by simp[t8],by simp[t9],by simp,by omega,rfl,a2,by rw[more];exact k2⟩
  | code c =>
   simp only[AnyV.op,OpV.cells]at bl k1
   simp only[AnyV.val]at q4
   simp[Qp5,Q2x,Qlb,Qwp,Yku,Y3,Yn9,Yll,Qww,Y6,Qau,t3,t8,t9,t10,hlt',q2,q4,asN,asI,Yre,bl,k1,hw]
   exact⟨l.length-(i+1),by omega,_,h2,v',i+1,rfl,by simp,by simp[t8],by simp[t9],by simp,by omega,rfl,a2,by rw[more];exact k2⟩
 ·have hlt':¬ (i:Int) < (l.length:Int):=by omega
  have : i=l.length:=by omega
  subst this
  rw[List.take_length]at oo
  simp[Qp5,Q2x,Qlb,Qwp,Yku,Y3,Yn9,Yll,Qww,Y6,Qau,t3,t8,t9,t10]
  have ln:(l.map AnyV.op).length=l.length:=by simp
  refine Yvv b (os:=l.map AnyV.op) (by rw[ln];exact oo.sl) (fun p hp => ?_) (by simpa using hn) (fun p hp => ?_) _ fun v h2 o2 a2 => ?_
  ·obtain⟨x,hx,rfl⟩:=List.mem_map.1 hp
   have:=ha x hx
   cases x with
   | push v xs=>exact this.1.old hold
   | code c=>exact Sl.nil
  ·obtain⟨x,hx,rfl⟩:=List.mem_map.1 hp
   have:=ha x hx
   cases x with
   | push v xs=>exact this.2
   | code c=>exact Nat.zero_le _
  ·simp[Qp5,Q2x,Qlb,Qwp,Yku,Y3,Yn9,Yll,Qww,Y6,Qau]
   exact hk v h2 (o2.low hold.1) (hold.trans a2)
theorem Ywz(b:Nat)(n:Int)(h:Heap)(K:KP)(hk:∀ h',SB h' (.slice (some ⟨h.next,0,none⟩) 1 1) [IntKind.u8.wrap n]->Old h h'->K (.ret (.slice (some ⟨h.next,0,none⟩) 1 1)) h'):FK b 24 [.int .i64 n] h K:=by
 refine FF b (Q2w b) X4x Yj9 Yeq rfl ?_
 simp[Xpa,Yes,Q2w,X66,Xp0,Xo3,X5a]
 exact hk _ (SB.push (xs:=[IntKind.u8.wrap n]) (by simp)) (Old.push _ _)
theorem Yrj(b:Nat)(n:Int)(h:Heap)(K:KP)(hk:K (.ret (.bool (inF n 1 32))) h):FK b 47 [.int .i64 n] h K:=by
 refine FF b (Ql3 b) Xxm Ycl X4w rfl ?_
 unfold inF at hk
 by_cases h1:1<=n
 ·simp[Q3v,Xnb,Ql3,Xf0,Ud,Xo6,Xfx,Xbh,h1]
  by_cases h2:n<=32
  ·simpa[h1,h2]using hk
  ·simpa[h1,h2]using hk
 ·simp[Q3v,Xnb,Ql3,Xf0,Ud,Xo6,Xfx,Xbh,h1]
  simpa[h1]using hk
end
def Ykd(o:Int):List Int:=[1,IntKind.u8.wrap o,134]
section
attribute [local simp] Q29 Xmj W5 Xa1 Q2w Yv8 Yz5 Qlb
theorem Yro(b:Nat)(n:Int)(h:Heap)(K:KP)(hk:∀ v h',OB h' h.next v (Ykd n)->Old h h'->K (.ret v) h'):FK b 13 [.int .i64 n] h K:=by
 refine FF b (W5 b) X46 Yjc Yf5 rfl ?_
 simp
 refine Ywz b n h _ fun h1 s1 a1 => ?_
 obtain⟨l,el⟩:∃ l:List AnyV,l=[.push (.slice (some ⟨h.next,0,none⟩) 1 1) [IntKind.u8.wrap n],.code 134]:=⟨_,rfl⟩
 obtain⟨hB,eB⟩:∃ hB,hB=h1.push (.cells true 1 (l.map AnyV.val)):=⟨_,rfl⟩
 have aB:=Q33 eB
 have bl:Jf (E b).toEnv 87 2 [(0,.iface 43 (.slice (some ⟨h.next,0,none⟩) 1 1)),(1,.iface 3 (.int .i64 134))] h1=some (.slice (some ⟨h1.next,0,none⟩) 2 2,hB):=by rw[eB,el];kernel_rfl
 have ss:Sl hB 1 (.slice (some ⟨h1.next,0,none⟩) 2 2) l.length (l.map AnyV.val):=by
  rw[show l.length=2 by rw[el];rfl]
  exact(Own.new (n0:=0) (z:=1) (n:=2) (Nat.zero_le _) (by rw[eB,Heap.get_push,if_pos rfl]) (by rw[el];rfl) (by decide) (.inr rfl)).sl
 simp[bl]
 refine Yw2 b ss (by rw[el];simp) (fun a ha => ?_) _ fun v h2 o2 a2 => ?_
 ·rw[el]at ha
  simp only[List.mem_cons,List.not_mem_nil,or_false]at ha
  rcases ha with rfl | rfl
  ·exact⟨s1.old aB,by simp⟩
  ·trivial
 ·simp
  refine hk v h2 ?_ (a1.trans (aB.trans a2))
  have e:Ykc (l.map AnyV.op)=Ykd n:=by
   rw[el]
   simp[Ykc,AnyV.op,Ykd]
   decide
  rw[e]at o2
  exact o2.low (a1.trans aB).1
end
end Go.Proofs.YtcnhfkplgknomaaDoor
end
