import Derived.Test.YtapodfgjkmddlaaGreatDoorFA
import Derived.Test.YtapodfgjkmddlaaGreatDoorScB
set_option linter.all false
noncomputable section
namespace Go.Proofs.YtapodfgjkmddlaaGreatDoor
open Go Go.Ab
set_option maxRecDepth 100000
structure Pt where
 id:List Nat
 n:Int
 hd:id.length=32
def Pt.cells(p:Pt):List Value:=p.id.map u8v ++ [.int .i64 p.n]
def Pt.len(p:Pt):p.cells.length=33:=by simp[Pt.cells,p.hd]
def Pt.ext' {p q:Pt}(h1:p.id=q.id)(h2:p.n=q.n):p=q:=by
 cases p;cases q;simp only at h1 h2;subst h1;subst h2;rfl
instance : DecidableEq Pt:=fun p q=>if h:p.id=q.id/\p.n=q.n then isTrue (Pt.ext' h.1 h.2)else isFalse fun e=>h (by rw[e];exact⟨rfl,rfl⟩)
def Qp0(l:List Pt):List Value:=l.flatMap Pt.cells
def Yd5(l:List Pt):(Qp0 l).length=l.length*33:=by
 induction l with
 | nil=>rfl
 | cons p l ih=>simp[Qp0,Pt.len]at ih ⊢;omega
def Xkp:∀ (xs ys:List Nat) (l:List Nat) (r s:List Value),xs.length=ys.length->Wr (List.replicate xs.length 1++l) (xs.map u8v++r) (ys.map u8v++s)=(Wr l r s).map (decide (xs=ys) && ·)
 | [],[],l,r,s,_=>by
  simp
 | x::xs,y::ys,l,r,s,h=>by
  have ih:=Xkp xs ys l r s (by simpa using h);simp only[aS,ck,aE,dP,Wr,ih];have : Yrl 1 (u8v x) (u8v y)=some (decide (x=y)):=by
   show(if IntKind.u8=IntKind.u8 then some ((x:Int) == (y:Int))else none)=_;simp only[if_true];congr 1;by_cases e:x=y
   ·subst e;simp
   ·simp[e];omega
  rw[this];cases Wr l r s with
  | none=>rfl
  | some c=>simp[Bool.and_assoc]
def Juw(p q:Pt):Wr L61 p.cells q.cells=some (decide (p=q)):=by
 have:=Xkp p.id q.id [1] [.int .i64 p.n] [.int .i64 q.n] (by rw[p.hd,q.hd]);rw[p.hd]at this;have e:Wr L61 p.cells q.cells=Wr (List.replicate 32 1 ++ [1]) (p.id.map u8v ++ [.int .i64 p.n]) (q.id.map u8v ++ [.int .i64 q.n]):=by
  congr 1
  kernel_rfl
 rw[e,this];have e2:Wr [1] [Value.int .i64 p.n] [.int .i64 q.n]=some (decide (p.n=q.n)):=by
  show(match some (p.n == q.n),some true with | some a,some b=>some (a && b) | _,_=>none)=_;simp;rfl
 rw[e2];show some (decide (p.id=q.id) && decide (p.n=q.n))=_;congr 1;by_cases h:p=q
 ·subst h;simp
 ·have : ¬ (p.id=q.id/\p.n=q.n):=fun⟨a,c⟩=>h (Pt.ext' a c);simp[h];intro a c;exact this ⟨a,c⟩
def peq(b:Nat)(p q:Pt):Zhe (E b).toEnv .eql 61 (.agg ⟨p.cells⟩) (.agg ⟨q.cells⟩)=some (.bool (decide (p=q))):=by
 have e:Zhe (E b).toEnv .eql 61 (.agg ⟨p.cells⟩) (.agg ⟨q.cells⟩)=(Wr L61 p.cells q.cells).map .bool:=kR
 rw[e,Juw];rfl
def Ypt:∀ {l:List Pt} {i:Nat} {p:Pt},l[i]? = some p->∀ j,j < 33->(Qp0 l)[i*33+j]? = p.cells[j]?
 | q::l,0,p,h,j,hj=>by
  simp at h;subst h;show(q.cells++Qp0 l)[0*33+j]? = _;rw[List.getElem?_append_left (by rw[Pt.len];omega)];congr 1;omega
 | q::l,i+1,p,h,j,hj=>by
  have ih:=Ypt (l:=l) (i:=i) (p:=p) (by simpa using h) j hj;show(q.cells++Qp0 l)[(i+1)*33+j]? = _;rw[List.getElem?_append_right (by rw[Pt.len];omega),Pt.len,show(i+1)*33+j-33=i*33+j by omega];exact ih
def Ju1{b:Nat}{te ts:TypeId}{re rs:TyRec}(T:SlTy (E b).toEnv te ts re rs)(hz:re.size=33){h:Heap}{v:Value}{l:List Pt}(s:Sl h 33 v l.length (Qp0 l)){i:Nat}{p:Pt}(hp:l[i]? = some p) :
  ∃ bk off,V5 (E b).toEnv ts v (.int .i64 (i:Int))=some (pO bk off)/\Wy h bk off 33=some (.agg ⟨p.cells⟩):=by
 have hl:=(List.getElem?_eq_some_iff.1 hp).1;obtain⟨bk,off,q1,q2,q3,q4⟩:=Q7o T hz s (k:=.i64) (i:=(i:Int)) (by omega) (by omega);refine⟨bk,off,q2,?_⟩;rw[q4];congr 3;rw[aT];apply List.ext_getElem?;intro j;by_cases hj:j < 33
 ·rw[List.getElem?_take_of_lt hj,List.getElem?_drop,Ypt hp j hj]
 ·rw[List.getElem?_eq_none (by simp;omega),List.getElem?_eq_none (by rw[Pt.len];omega)]
structure PE where
 key:Pt
 val:Value
 born:Nat
def PE.e(x:PE):MapEntry:=⟨.agg ⟨x.key.cells⟩,x.val,x.born⟩
def Q2e(p:Pt):List PE->Nat->Option (Nat × Value)
 | [],_=>none
 | x::l,j=>if p=x.key then some (j,x.val)else Q2e p l (j+1)
def Z4r(p:Pt):∀ (l:List PE) (j:Nat),Xud L61 p.cells (l.map PE.e) j=some (Q2e p l j)
 | [],_=>rfl
 | x::l,j=>by
  have hc:Zlz x.e.key=some x.key.cells:=rfl;simp only[aE,Xud,hc,Juw,Q2e];by_cases h:p=x.key
  ·simp[h];rfl
  ·simp only[h,decide_false,if_false];exact Z4r p l (j+1)
def Zll(p:Pt)(l:List PE):Yhu R61 (.agg ⟨p.cells⟩) (l.map PE.e)=some (Q2e p l 0):=by
 obtain⟨fs,hd⟩:∃ fs,R61.desc=.struct fs:=⟨(match R61.desc with | .struct fs=>fs | _ => #[]),by kernel_rfl⟩;have hl:R61.leaf=1::List.replicate 32 1:=kR
 have h0:=Z4r p l 0;rw[show L61=1::List.replicate 32 1 by kernel_rfl]at h0;have hb:Nat.beq p.cells.length (1::List.replicate 32 1).length=true:=by rw[p.len];rfl
 simp only[Yhu,hd,hl,hb];exact h0
def Xnk{p:Pt}:∀ {l:List PE} {j:Nat},Q2e p l j=none ↔ ∀ x ∈ l,x.key≠p
 | [],_=>by simp[Q2e]
 | x::l,j=>by
  unfold Q2e;by_cases h:p=x.key
  ·simp[h]
  ·rw[if_neg h,Xnk];simp;exact fun _ q=>h q.symm
def Xcy{p:Pt}:∀ {l:List PE} {j i:Nat} {v:Value},Q2e p l j=some (i,v)->∃ x,l[i-j]? = some x/\j<=i/\x.key=p/\x.val=v
 | [],_,_,_,h=>by cases h
 | x::l,j,i,v,h=>by
  unfold Q2e at h;by_cases hk:p=x.key
  ·rw[if_pos hk]at h;cases h;exact⟨x,by simp,ab _,hk.symm,rfl⟩
  ·rw[if_neg hk]at h;obtain⟨y,h1,h2,h3,h4⟩:=Xcy h;refine⟨y,?_,by omega,h3,h4⟩;rw[show i-j=(i-(j+1))+1 by omega,List.getElem?_cons_succ];exact h1
def Jkd(p:Pt):∀ v ∈ p.cells,∃ k z,v=.int k z:=by
 intro v hv;rcases al.1 hv with h | h
 ·obtain⟨n,_,rfl⟩:=am.1 h;exact⟨_,_,rfl⟩
 ·simp at h;exact⟨_,_,h⟩
def Zt1:∀ {l:List Value},(∀ v ∈ l,∃ k z,v=.int k z)->flatL l=true/\l.all (·.oneCell')=true
 | [],_=>⟨by simp[flatL],rfl⟩
 | v::l,h=>by
  obtain⟨k,z,rfl⟩:=h v (by simp);obtain⟨h1,h2⟩:=Zt1 (l:=l) fun w hw=>h w (by simp[hw]);exact⟨by simp[flatL,flat,h1],by simpa[Value.oneCell']using h2⟩
def Yly(p:Pt):flat (.agg ⟨p.cells⟩)=true:=by
 obtain⟨h1,h2⟩:=Zt1 (Jkd p);simp only[flat,flatA,h1,h2,Bool.and_self]
def Jcd(p:Pt):Instr.sameBits 10000 (.agg ⟨p.cells⟩) (.agg ⟨p.cells⟩)=true:=by
 show Instr.sameBits (9999+1) (.agg _) (.agg _)=true;simp only[Instr.sameBits,beq_self_eq_true,cT,cR];have key:∀ (l:List Value) (x:Value × Value),x ∈ l.zip l->x.1=x.2/\x.1 ∈ l:=by
  intro l;induction l with
  | nil=>intro x hx;simp at hx
  | cons a l ih =>
   intro x hx;simp only[List.zip_cons_cons,ap]at hx;rcases hx with rfl | hx
   ·exact⟨rfl,by simp⟩
   ·exact⟨(ih x hx).1,by simp[(ih x hx).2]⟩
 rintro⟨a,c⟩ hx;obtain⟨h1,h2⟩:=key _ _ hx;simp only at h1 h2;subst h1;obtain⟨k,z,rfl⟩:=Jkd p a h2;simp[Instr.sameBits]
def Jc1(p:Pt)(v:Value):List PE->List PE
 | []=>[]
 | x::l=>if p=x.key then {x with val:=v}::l else x::Jc1 p v l
def Y6j{p:Pt}(v:Value):∀ {l:List PE} {j i:Nat} {w:Value},Q2e p l j=some (i,w)->(l.map PE.e).modify (i-j) (fun e=>{e with key:=.agg ⟨p.cells⟩,val:=v})=(Jc1 p v l).map PE.e
 | [],_,_,_,h=>by cases h
 | x::l,j,i,w,h=>by
  unfold Q2e at h;unfold Jc1;by_cases hk:p=x.key
  ·rw[if_pos hk]at h ⊢;cases h;rw[dG];simp[PE.e,hk]
  ·rw[if_neg hk]at h ⊢;obtain⟨y,h1,h2,h3,h4⟩:=Xcy h;rw[show i-j=(i-(j+1))+1 by omega,aE,List.modify_succ_cons,Y6j v h,aE]
section
variable{b:Nat}{tm te:TypeId}{rm:TyRec}(he:(E b).toEnv.ty.get tm=some rm)(hd:rm.desc=.map 61 te)
include he hd
theorem Jep{h:Heap}{mb clk:Nat}{l:List PE}(hm:h.get mb=some (.map ⟨l.map PE.e⟩ clk)){p:Pt}(hf:Q2e p l 0=none)(v:Value) :
  Qgc (E b).toEnv tm (.map (some mb)) (.agg ⟨p.cells⟩) v h=some (h.set mb (some (.map ⟨(l ++ [(⟨p,v,clk⟩:PE)]).map PE.e⟩ (clk+1)))):=by
 have hq:=Zll p l;rw[hf]at hq;simp only[Qgc,he,hd,hm,Y1w,Yly,hq];simp[PE.e]
theorem Zv2{h:Heap}{mb clk:Nat}{l:List PE}(hm:h.get mb=some (.map ⟨l.map PE.e⟩ clk)){p:Pt}{i:Nat}{w:Value}(hf:Q2e p l 0=some (i,w))(v:Value) :
  Qgc (E b).toEnv tm (.map (some mb)) (.agg ⟨p.cells⟩) v h=some (h.set mb (some (.map ⟨(Jc1 p v l).map PE.e⟩ clk))):=by
 have hq:=Zll p l;obtain⟨x,hx, -,hk, -⟩:=Xcy hf;rw[d7]at hx;have e0:(((⟨l.map PE.e⟩:Array MapEntry)[i]?).map (·.key)).getD (.agg ⟨p.cells⟩)=.agg ⟨p.cells⟩:=by
  have : (⟨l.map PE.e⟩:Array MapEntry)[i]? = some x.e:=by
   show(l.map PE.e).toArray[i]? = _;rw[List.getElem?_toArray,List.getElem?_map,hx];rfl
  rw[this];simp[PE.e,hk]
 have e1:=Y6j v hf;rw[d7]at e1;rw[hf]at hq;simp only[Qgc,he,hd,hm,Y1w,Yly,hq,e0,Jcd];congr 4;rw[<- e1];simp
theorem Zs8{h:Heap}{mb clk:Nat}{l:List PE}(hm:h.get mb=some (.map ⟨l.map PE.e⟩ clk)){re:TyRec}(hee:(E b).toEnv.ty.get te=some re)(p:Pt) :
  Qjo (E b).toEnv tm (.map (some mb)) (.agg ⟨p.cells⟩) false h=some (match Q2e p l 0 with | some q=>q.2 | none=>re.zero) /\
  Qjo (E b).toEnv tm (.map (some mb)) (.agg ⟨p.cells⟩) true h=some (match Q2e p l 0 with | some q => .tuple #[q.2,.bool true] | none => .tuple #[re.zero,.bool false]):=by
 have hf:=Zll p l;constructor
 ·simp only[Qjo,he,hd,Y1w,hee,Q51,hm,hf];cases Q2e p l 0 <;> simp
 ·simp only[Qjo,he,hd,Y1w,hee,Q51,hm,hf];cases Q2e p l 0 <;> simp
theorem Jmu{h:Heap}{mb clk:Nat}{es:Array MapEntry}(hm:h.get mb=some (.map es clk)):Qkc (E b).toEnv tm (.map (some mb)) h=some (.int .i64 es.size):=by
 simp only[Qkc,he,hd,hm]
theorem Zk3{h:Heap}:Q3w (E b).toEnv tm none h=some (.map (some h.next),h.push (.map #[] 0)):=by
 simp only[Q3w,he,hd]
end
structure PIn where
 pt:Pt
 wit:List (List Int)
structure POut where
 value:Int
 script:List Int
structure PTx where
 ins:List PIn
 outs:List POut
 lock:Int
def inF(n least most:Int):Bool:=decide (least<=n/\n<=most)
def X9e:List POut->Int->Bool
 | [],_=>true
 | o::l,left=>if o.value < 1∨left < o.value then false else X9e l (left-o.value)
def Jhi(x:PIn):Bool := !inF x.pt.n 0 8
def Zbr(o:POut):Bool:=decide (256 < o.script.length)
def Zb6(x:PIn):Bool:=decide (16 < x.wit.length) || x.wit.any fun w=>decide (64 < w.length)
def Qzx(t:PTx):Int :=
 if !inF t.ins.length 1 8 || !inF t.outs.length 1 8 then 3
 else if t.ins.any Jhi || !inF t.lock 0 1073741824 then 1
 else if !decide (t.ins.map (·.pt)).Nodup then 13
 else if !X9e t.outs 1125899906842624 then 15
 else if t.outs.any Zbr || t.ins.any Zb6 then 5
 else 0
def leN:Nat->Nat->List Int
 | 0,_=>[]
 | k+1,n=>((n % 256:Nat):Int)::leN k (n / 256)
def X9z(n:Nat):List Int:=if n < 253 then [(n:Int)]else if n < 65536 then 253::leN 2 n else if n < 4294967296 then 254::leN 4 n else 255::leN 8 n
def Zkg:∀ k n,(leN k n).length=k
 | 0,_=>rfl
 | k+1,n=>by simp[leN,Zkg k]
def Yhh:∀ k n,∀ z ∈ leN k n,0<=z/\z < 256
 | 0,_,z,h=>by cases h
 | k+1,n,z,h=>by
  rcases ap.1 h with rfl | h
  ·omega
  ·exact Yhh k _ z h
def Qyo(n:Nat):(X9z n).length<=9:=by
 unfold X9z;split
 ·simp
 ·split
  ·simp[Zkg]
  ·split <;> simp[Zkg]
def Xcx(n:Nat):Bytes (X9z n):=by
 unfold X9z Bytes;intro z hz;split at hz
 ·simp at hz;omega
 ·split at hz
  ·rcases ap.1 hz with rfl | hz
   ·omega
   ·exact Yhh _ _ z hz
  ·split at hz
   ·rcases ap.1 hz with rfl | hz
    ·omega
    ·exact Yhh _ _ z hz
   ·rcases ap.1 hz with rfl | hz
    ·omega
    ·exact Yhh _ _ z hz
def inB(x:PIn):List Int:=x.pt.id.map Int.ofNat++X9z x.pt.n.toNat
def Yiq(l:List Int):List Int:=X9z l.length++l
def Jg7(o:POut):List Int:=X9z o.value.toNat++Yiq o.script
def Yps(t:PTx):List Int:=X9z t.ins.length++t.ins.flatMap inB++(X9z t.outs.length++t.outs.flatMap Jg7)++X9z t.lock.toNat
structure InV where
 pt:Pt
 wv:Value
 its:List (Value × List Int)
def InV.cells(x:InV):List Value:=x.pt.cells ++ [x.wv]
def InV.p(x:InV):PIn:=⟨x.pt,x.its.map (·.2)⟩
structure OutV where
 value:Int
 sv:Value
 script:List Int
def OutV.cells(o:OutV):List Value:=[.int .i64 o.value,o.sv]
def OutV.p(o:OutV):POut:=⟨o.value,o.script⟩
def Qee(l:List InV):List Value:=l.flatMap InV.cells
def Qpo(l:List OutV):List Value:=l.flatMap OutV.cells
def InV.len(x:InV):x.cells.length=34:=by simp[InV.cells,Pt.len]
def OutV.len(x:OutV):x.cells.length=2:=rfl
def Ybl(l:List InV):(Qee l).length=l.length*34:=by
 induction l with
 | nil=>rfl
 | cons p l ih=>simp[Qee,InV.len]at ih ⊢;omega
structure InAt (h:Heap) (x:InV):Prop where
 w:Sl h 1 x.wv x.its.length (x.its.map (·.1))
 i:ItsAt h x.its
 n:x.its.length < 1000000
 l:∀ p ∈ x.its,p.2.length < 1000000
structure OutAt (h:Heap) (x:OutV):Prop where
 s:SB h x.sv x.script
 b:Bytes x.script
 l:x.script.length < 1000000
def InAt.old{h h':Heap}{x:InV}(a:InAt h x)(o:Old h h'):InAt h' x:=⟨a.w.old o,a.i.old o,a.n,a.l⟩
def OutAt.old{h h':Heap}{x:OutV}(a:OutAt h x)(o:Old h h'):OutAt h' x:=⟨a.s.old o,a.b,a.l⟩
structure Ins (h:Heap) (v:Value) (l:List InV):Prop where
 s:Sl h 34 v l.length (Qee l)
 n:l.length < 1000000
 a:∀ x ∈ l,InAt h x
structure Outs (h:Heap) (v:Value) (l:List OutV):Prop where
 s:Sl h 2 v l.length (Qpo l)
 n:l.length < 1000000
 a:∀ x ∈ l,OutAt h x
def Ins.old{h h':Heap}{v:Value}{l:List InV}(a:Ins h v l)(o:Old h h'):Ins h' v l:=⟨a.s.old o,a.n,fun x hx=>(a.a x hx).old o⟩
def Outs.old{h h':Heap}{v:Value}{l:List OutV}(a:Outs h v l)(o:Old h h'):Outs h' v l:=⟨a.s.old o,a.n,fun x hx=>(a.a x hx).old o⟩
def txC(iv ov:Value)(lock:Int):List Value:=[iv,ov,.int .i64 lock]
def ptx(ins:List InV)(outs:List OutV)(lock:Int):PTx:=⟨ins.map InV.p,outs.map OutV.p,lock⟩
def Yac{A:Type}{f:A->List Value}{z:Nat}(hf:∀ x,(f x).length=z):∀ {l:List A} {i:Nat} {x:A},l[i]? = some x->((l.flatMap f).drop (i*z)).take z=f x
 | y::l,0,x,h=>by
  simp at h;subst h;rw[di,bB,d9,aF (by rw[hf];omega),aj (by rw[hf];omega)]
 | y::l,i+1,x,h=>by
  rw[d9,show(i+1)*z=z+i*z by rw[bF];omega,<- bR];have : (f y++l.flatMap f).drop z=l.flatMap f:=by
   rw[<- hf y,bZ]
  rw[this];exact Yac hf (by simpa using h)
def Y47{A:Type}{f:A->List Value}{z:Nat}(hf:∀ x,(f x).length=z){l:List A}{i:Nat}{x:A}(h:l[i]? = some x){j:Nat}(hj:j < z):(l.flatMap f)[i*z+j]? = (f x)[j]? := by
 rw[<- Yac hf h,List.getElem?_take_of_lt hj,List.getElem?_drop]
def Xhr{b:Nat}{te ts:TypeId}{re rs:TyRec}(T:SlTy (E b).toEnv te ts re rs)(hz:re.size=34){h:Heap}{v:Value}{l:List InV}(s:Sl h 34 v l.length (Qee l)){i:Nat}{x:InV}(hp:l[i]? = some x) :
  ∃ bk off,J4 v=some bk/\V5 (E b).toEnv ts v (.int .i64 (i:Int))=some (pO bk off)/\Wy h bk off 34=some (.agg ⟨x.cells⟩)/\(∀ j,j < 34->Yw h bk (off+j)=x.cells[j]?):=by
 have hl:=(List.getElem?_eq_some_iff.1 hp).1;obtain⟨bk,off,q1,q2,q3,q4⟩:=Q7o T hz s (k:=.i64) (i:=(i:Int)) (by omega) (by omega);refine⟨bk,off,q1,q2,?_,fun j hj => ?_⟩
 ·rw[q4,aT,Qee,Yac InV.len hp]
 ·rw[q3 j hj,aT,Qee,Y47 InV.len hp hj]
def Xjz{b:Nat}{te ts:TypeId}{re rs:TyRec}(T:SlTy (E b).toEnv te ts re rs)(hz:re.size=2){h:Heap}{v:Value}{l:List OutV}(s:Sl h 2 v l.length (Qpo l)){i:Nat}{x:OutV}(hp:l[i]? = some x) :
  ∃ bk off,J4 v=some bk/\V5 (E b).toEnv ts v (.int .i64 (i:Int))=some (pO bk off)/\Wy h bk off 2=some (.agg ⟨x.cells⟩)/\Yw h bk off=some (.int .i64 x.value)/\Yw h bk (off+1)=some x.sv:=by
 have hl:=(List.getElem?_eq_some_iff.1 hp).1;obtain⟨bk,off,q1,q2,q3,q4⟩:=Q7o T hz s (k:=.i64) (i:=(i:Int)) (by omega) (by omega);have q5:∀ j,j < 2->Yw h bk (off+j)=x.cells[j]? := fun j hj=>by rw[q3 j hj,aT,Qpo,Y47 OutV.len hp hj]
 refine⟨bk,off,q1,q2,?_,?_,?_⟩
 ·rw[q4,aT,Qpo,Yac OutV.len hp]
 ·have:=q5 0 (by omega);simpa[OutV.cells]using this
 ·have:=q5 1 (by omega);simpa[OutV.cells]using this
def Zn7(x:InV):x.cells.take 33=x.pt.cells:=by
 rw[InV.cells,aF (by rw[Pt.len];omega),aj (by rw[Pt.len];omega)]
def Zog{A:Type}{q:A->Bool}{l:List A}{i:Nat}{x:A}(hx:l[i]? = some x)(h0:(l.take i).any q=false):(l.take (i+1)).any q=q x:=by
 rw[aQ,hx];simp[h0]
def Jf1{A:Type}{q:A->Bool}{l:List A}{i:Nat}{x:A}(hx:l[i]? = some x)(hq:q x=true):l.any q=true:=cy.2 ⟨x,List.mem_of_getElem? hx,hq⟩
def Jtp(v fv:Value)(l:List InV)(q:InV->Bool)(h:Heap)(k:Nat)(s:St):Prop:=∃ (t:Tr Value) (h1:Heap) (i:Nat),s=⟨⟨19,t⟩,[],h1⟩/\t.get 0=some v/\t.get 1=some fv/\t.get 7=some (.int .i64 (l.length:Int))/\t.get 8=some (.int .i64 (i:Int))/\i<=l.length/\k=l.length-i/\(l.take i).any q=false/\Old h h1
attribute [local simp] Xj kON kOC Xn kNN kNP kRR kEN kER Q6 X2 Yn Ya aop Qg nth Ab.g0 gv gs Qd Qc aev evs evO Qh Tr.get_put St.put Tm.put flat flatA Y9 Qm Qp Qn Qo Qk Ql Qj Qt Qi Q7 Q8 kTN kTR kTX kTP kBN kBR kBX kBP kCS kCR kCE kAM Xm.putAll Qv Q0 Q9 Wj Vz Yq Y1 ldv Yk Vi Nat.testBit loadAt Ab.runT Zc Yl Ys
section
attribute [local simp] Ul
def Jmx(b:Nat){h:Heap}{v:Value}{l:List InV}{f:FuncId}{F:Func}(hF:(E b).fn.get f=some F){cap:List Value}(s:Sl h 34 v l.length (Qee l))(hn:l.length < 1000000)(q:InV->Bool)
  (hf:∀ h1,Old h h1->∀ x ∈ l,∀ K,(∀ h2,Old h1 h2->K (.ret (.bool (q x))) h2)->FK b f (.agg ⟨x.cells⟩::cap) h1 K)
  (K:KP) (hk:∀ (i:Int) h',Old h h'->(0<=i↔l.any q=true)->K (.ret (.int .i64 i)) h') :
  FK b 98 [v,.func (.func f) #[] cap.toArray] h K:=by
 refine F3 b (Ul b) Q0n rfl ?_;have len:∀ hx,Qkc (E b).toEnv 28 v hx=some (.int .i64 (l.length:Int)):=fun hx=>Qa0 (T28 b) s;simp[Wn,Qbv,Qbj,Qbc,Qbf,Qcq,Qb3,Qb4,Qb5,len];refine Qdf (Jtp v (.func (.func f) #[] cap.toArray) l q h) l.length ⟨_,h,0,rfl,by simp,by simp,by simp,by simp,by omega,rfl,by simp,Old.refl _⟩ ?_;rintro k s' ⟨t,h1,i,rfl,t0,t1,t7,t8,hi,rfl,hno,hold⟩ _;by_cases hlt:i < l.length
 ·have hlt':(i:Int) < (l.length:Int):=by omega
  obtain⟨x,hx⟩:∃ x,l[i]? = some x:=⟨_,List.getElem?_eq_getElem hlt⟩;have hw:=wS (i:=i) (by omega);obtain⟨bk,off, -,x1,x2, -⟩:=Xhr (b:=b) (T28 b) Qeo (s.old hold) hx;simp[Wn,Qbv,Qbj,Qbc,Qbf,Qcq,Qb3,Qb4,Qb5,t0,t1,t7,t8,hlt',x1,x2,hF];refine hf h1 hold x (List.mem_of_getElem? hx) _ fun h2 a2 => ?_;cases hq:q x with
  | true =>
   simp[Wn,Qbv,Qbj,Qbc,Qbf,Qcq,Qb3,Qb4,Qb5,t0,t1,t7,t8];exact hk i h2 (hold.trans a2) ⟨fun _=>Jf1 hx hq,fun _=>by omega⟩
  | false =>
   simp[Wn,Qbv,Qbj,Qbc,Qbf,Qcq,Qb3,Qb4,Qb5,t0,t1,t7,t8,hw];exact⟨l.length-(i+1),by omega,_,h2,i+1,rfl,by simp[t0],by simp[t1],by simp[t7],by simp,by omega,rfl,by rw[Zog hx hno,hq],hold.trans a2⟩
 ·have hlt':¬ (i:Int) < (l.length:Int):=by omega
  have : i=l.length:=by omega
  subst this;rw[bc]at hno;simp[Wn,Qbv,Qbj,Qbc,Qbf,Qcq,Qb3,Qb4,Qb5,t0,t1,t7,t8];exact hk (-1) h1 hold ⟨fun e=>by omega,fun e=>by rw[hno]at e;cases e⟩
def Xls(b:Nat){h:Heap}{v:Value}{l:List InV}{f:FuncId}{F:Func}(hF:(E b).fn.get f=some F){cap:List Value}(s:Sl h 34 v l.length (Qee l))(hn:l.length < 1000000)(q:InV->Bool)
  (hf:∀ h1,Old h h1->∀ x ∈ l,∀ K,(∀ h2,Old h1 h2->K (.ret (.bool (q x))) h2)->FK b f (.agg ⟨x.cells⟩::cap) h1 K)
  (K:KP) (hk:∀ h',Old h h'->K (.ret (.bool (l.any q))) h') :
  FK b 56 [v,.func (.func f) #[] cap.toArray] h K:=by
 refine F3 b (Xp b) Qx0 rfl ?_;simp[Qfd,Qmh,Xp,Qlb];refine Jmx b hF s hn q hf _ fun i h1 a1 hi => ?_;simp[Qfd,Qmh,Xp,Qlb];have:=hk h1 a1;cases hq:l.any q with
 | true =>
  have h0:=hi.2 hq;rw[hq]at this;simpa[h0]using this
 | false =>
  have h0:¬ 0<=i:=fun e=>by have:=hi.1 e;rw[hq]at this;cases this
  rw[hq]at this;simpa[h0]using this
end
def Joy(v fv:Value)(l:List OutV)(q:OutV->Bool)(h:Heap)(k:Nat)(s:St):Prop:=∃ (t:Tr Value) (h1:Heap) (i:Nat),s=⟨⟨19,t⟩,[],h1⟩/\t.get 0=some v/\t.get 1=some fv/\t.get 7=some (.int .i64 (l.length:Int))/\t.get 8=some (.int .i64 (i:Int))/\i<=l.length/\k=l.length-i/\(l.take i).any q=false/\Old h h1
section
attribute [local simp] U5
def Jgj(b:Nat){h:Heap}{v:Value}{l:List OutV}{f:FuncId}{F:Func}(hF:(E b).fn.get f=some F){cap:List Value}(s:Sl h 2 v l.length (Qpo l))(hn:l.length < 1000000)(q:OutV->Bool)
  (hf:∀ h1,Old h h1->∀ x ∈ l,∀ K,(∀ h2,Old h1 h2->K (.ret (.bool (q x))) h2)->FK b f (.agg ⟨x.cells⟩::cap) h1 K)
  (K:KP) (hk:∀ (i:Int) h',Old h h'->(0<=i↔l.any q=true)->K (.ret (.int .i64 i)) h') :
  FK b 110 [v,.func (.func f) #[] cap.toArray] h K:=by
 refine F3 b (U5 b) Qy6 rfl ?_;have len:∀ hx,Qkc (E b).toEnv 29 v hx=some (.int .i64 (l.length:Int)):=fun hx=>Qa0 (T29 b) s;simp[Wb,Qba,Qam,Qan,Qao,Qg1,Qai,Qag,Qad,len];refine Qdf (Joy v (.func (.func f) #[] cap.toArray) l q h) l.length ⟨_,h,0,rfl,by simp,by simp,by simp,by simp,by omega,rfl,by simp,Old.refl _⟩ ?_;rintro k s' ⟨t,h1,i,rfl,t0,t1,t7,t8,hi,rfl,hno,hold⟩ _;by_cases hlt:i < l.length
 ·have hlt':(i:Int) < (l.length:Int):=by omega
  obtain⟨x,hx⟩:∃ x,l[i]? = some x:=⟨_,List.getElem?_eq_getElem hlt⟩;have hw:=wS (i:=i) (by omega);obtain⟨bk,off, -,x1,x2, -⟩:=Xjz (b:=b) (T29 b) Qjv (s.old hold) hx;simp[Wb,Qba,Qam,Qan,Qao,Qg1,Qai,Qag,Qad,t0,t1,t7,t8,hlt',x1,x2,hF];refine hf h1 hold x (List.mem_of_getElem? hx) _ fun h2 a2 => ?_;cases hq:q x with
  | true =>
   simp[Wb,Qba,Qam,Qan,Qao,Qg1,Qai,Qag,Qad,t0,t1,t7,t8];exact hk i h2 (hold.trans a2) ⟨fun _=>Jf1 hx hq,fun _=>by omega⟩
  | false =>
   simp[Wb,Qba,Qam,Qan,Qao,Qg1,Qai,Qag,Qad,t0,t1,t7,t8,hw];exact⟨l.length-(i+1),by omega,_,h2,i+1,rfl,by simp[t0],by simp[t1],by simp[t7],by simp,by omega,rfl,by rw[Zog hx hno,hq],hold.trans a2⟩
 ·have hlt':¬ (i:Int) < (l.length:Int):=by omega
  have : i=l.length:=by omega
  subst this;rw[bc]at hno;simp[Wb,Qba,Qam,Qan,Qao,Qg1,Qai,Qag,Qad,t0,t1,t7,t8];exact hk (-1) h1 hold ⟨fun e=>by omega,fun e=>by rw[hno]at e;cases e⟩
def Z1r(b:Nat){h:Heap}{v:Value}{l:List OutV}{f:FuncId}{F:Func}(hF:(E b).fn.get f=some F){cap:List Value}(s:Sl h 2 v l.length (Qpo l))(hn:l.length < 1000000)(q:OutV->Bool)
  (hf:∀ h1,Old h h1->∀ x ∈ l,∀ K,(∀ h2,Old h1 h2->K (.ret (.bool (q x))) h2)->FK b f (.agg ⟨x.cells⟩::cap) h1 K)
  (K:KP) (hk:∀ h',Old h h'->K (.ret (.bool (l.any q))) h') :
  FK b 91 [v,.func (.func f) #[] cap.toArray] h K:=by
 refine F3 b (Y8 b) Qvm rfl ?_;simp[Qei,Qla,Y8,Qka];refine Jgj b hF s hn q hf _ fun i h1 a1 hi => ?_;simp[Qei,Qla,Y8,Qka];have:=hk h1 a1;cases hq:l.any q with
 | true =>
  have h0:=hi.2 hq;rw[hq]at this;simpa[h0]using this
 | false =>
  have h0:¬ 0<=i:=fun e=>by have:=hi.1 e;rw[hq]at this;cases this
  rw[hq]at this;simpa[h0]using this
end
def Ju7(v fv:Value)(l:List (Value × List Int))(q:(Value × List Int)->Bool)(h:Heap)(k:Nat)(s:St):Prop:=∃ (t:Tr Value) (h1:Heap) (i:Nat),s=⟨⟨19,t⟩,[],h1⟩/\t.get 0=some v/\t.get 1=some fv/\t.get 7=some (.int .i64 (l.length:Int))/\t.get 8=some (.int .i64 (i:Int))/\i<=l.length/\k=l.length-i/\(l.take i).any q=false/\Old h h1
section
attribute [local simp] We
def Jms(b:Nat){h:Heap}{v:Value}{l:List (Value × List Int)}{f:FuncId}{F:Func}(hF:(E b).fn.get f=some F){cap:List Value}(s:Sl h 1 v l.length (l.map (·.1)))(hn:l.length < 1000000)(q:(Value × List Int)->Bool)
  (hf:∀ h1,Old h h1->∀ x ∈ l,∀ K,(∀ h2,Old h1 h2->K (.ret (.bool (q x))) h2)->FK b f (x.1::cap) h1 K)
  (K:KP) (hk:∀ (i:Int) h',Old h h'->(0<=i↔l.any q=true)->K (.ret (.int .i64 i)) h') :
  FK b 109 [v,.func (.func f) #[] cap.toArray] h K:=by
 refine F3 b (We b) Q4c rfl ?_;have len:∀ hx,Qkc (E b).toEnv 66 v hx=some (.int .i64 (l.length:Int)):=fun hx=>Qa0 (T66 b) s;simp[Qb7,Qdp,Z8,len];refine Qdf (Ju7 v (.func (.func f) #[] cap.toArray) l q h) l.length ⟨_,h,0,rfl,by simp,by simp,by simp,by simp,by omega,rfl,by simp,Old.refl _⟩ ?_;rintro k s' ⟨t,h1,i,rfl,t0,t1,t7,t8,hi,rfl,hno,hold⟩ _;by_cases hlt:i < l.length
 ·have hlt':(i:Int) < (l.length:Int):=by omega
  obtain⟨x,hx⟩:∃ x,l[i]? = some x:=⟨_,List.getElem?_eq_getElem hlt⟩;have hw:=wS (i:=i) (by omega);obtain⟨bk,off, -,x1,x3, -⟩:=Q7o (T66 b) Qic (s.old hold) (k:=.i64) (i:=(i:Int)) (by omega) (by omega);have x2:Yw h1 bk off=some x.1:=by
   have:=x3 0 (by omega);simpa[hx]using this
  simp[Qb7,Qdp,Z8,t0,t1,t7,t8,hlt',x1,x2,hF];refine hf h1 hold x (List.mem_of_getElem? hx) _ fun h2 a2 => ?_;cases hq:q x with
  | true =>
   simp[Qb7,Qdp,Z8,t0,t1,t7,t8];exact hk i h2 (hold.trans a2) ⟨fun _=>Jf1 hx hq,fun _=>by omega⟩
  | false =>
   simp[Qb7,Qdp,Z8,t0,t1,t7,t8,hw];exact⟨l.length-(i+1),by omega,_,h2,i+1,rfl,by simp[t0],by simp[t1],by simp[t7],by simp,by omega,rfl,by rw[Zog hx hno,hq],hold.trans a2⟩
 ·have hlt':¬ (i:Int) < (l.length:Int):=by omega
  have : i=l.length:=by omega
  subst this;rw[bc]at hno;simp[Qb7,Qdp,Z8,t0,t1,t7,t8];exact hk (-1) h1 hold ⟨fun e=>by omega,fun e=>by rw[hno]at e;cases e⟩
def Z8f(b:Nat){h:Heap}{v:Value}{l:List (Value × List Int)}{f:FuncId}{F:Func}(hF:(E b).fn.get f=some F){cap:List Value}(s:Sl h 1 v l.length (l.map (·.1)))(hn:l.length < 1000000)(q:(Value × List Int)->Bool)
  (hf:∀ h1,Old h h1->∀ x ∈ l,∀ K,(∀ h2,Old h1 h2->K (.ret (.bool (q x))) h2)->FK b f (x.1::cap) h1 K)
  (K:KP) (hk:∀ h',Old h h'->K (.ret (.bool (l.any q))) h') :
  FK b 87 [v,.func (.func f) #[] cap.toArray] h K:=by
 refine F3 b (Qar b) Q1t rfl ?_;simp[Qhc,Qpt,Qar];refine Jms b hF s hn q hf _ fun i h1 a1 hi => ?_;simp[Qhc,Qpt,Qar];have:=hk h1 a1;cases hq:l.any q with
 | true =>
  have h0:=hi.2 hq;rw[hq]at this;simpa[h0]using this
 | false =>
  have h0:¬ 0<=i:=fun e=>by have:=hi.1 e;rw[hq]at this;cases this
  rw[hq]at this;simpa[h0]using this
end
section
def Ykc(b:Nat)(n lo hi:Int)(h:Heap)(K:KP)(hk:K (.ret (.bool (inF n lo hi))) h):FK b 84 [.int .i64 n,.int .i64 lo,.int .i64 hi] h K:=by
 refine F3 b (Qah b) Y98 rfl ?_;unfold inF at hk;by_cases h1:lo<=n
 ·by_cases h2:n<=hi
  ·simp[Q6o,Xym,Qah,Xke,Xgb,h1,h2];simpa[h1,h2]using hk
  ·simp[Q6o,Xym,Qah,Xke,Xgb,h1,h2];simpa[h1,h2]using hk
 ·simp[Q6o,Xym,Qah,Xke,Xgb,h1];simpa[h1]using hk
def Jux(x:InV):x.cells[32]? = some (.int .i64 x.pt.n):=by
 have : (x.pt.id.map u8v++([.int .i64 x.pt.n] ++ [x.wv]))[32]? = some (.int .i64 x.pt.n):=by
  rw[List.getElem?_append_right (by simp[x.pt.hd])];simp[x.pt.hd]
 simpa[InV.cells,Pt.cells]using this
def Jk0(x:InV):x.cells[33]? = some x.wv:=by
 rw[InV.cells,List.getElem?_append_right (by rw[Pt.len];omega),Pt.len];rfl
def Zi1(x:InV)(h:Heap):∃ h',h'=h.push (.cells true 1 x.cells)/\Zzo (.agg ⟨x.cells⟩) h=some (pO h.next 0,h')/\Old h h'/\h'.next=h.next+1/\h'.get h.next=some (.cells true 1 x.cells)/\Yw h' h.next 32=some (.int .i64 x.pt.n)/\Yw h' h.next 33=some x.wv:=by
 have g:(h.push (.cells true 1 x.cells)).get h.next=some (.cells true 1 x.cells):=by rw[Heap.get_push,if_pos rfl]
 exact⟨_,rfl,rfl,Old.push _ _,rfl,g,by rw[Yi g,Jux],by rw[Yi g,Jk0]⟩
def Jq9(b:Nat)(x:InV)(h:Heap)(K:KP)(hk:∀ h',Old h h'->K (.ret (.bool (Jhi x.p))) h'):FK b 83 [.agg ⟨x.cells⟩] h K:=by
 refine F3 b (Xbu b) Yxz rfl ?_;obtain⟨hA, -,bx,aA, -, -,c32, -⟩:=Zi1 x h;simp[Xft,Yfw,Xbu,Yx,Xk1,Vz,Qah,bx,c32];refine Ykc b x.pt.n 0 8 hA _ ?_;simp[Xft,Yfw,Xbu,Yx,Xk1,Vz,Qah];exact hk hA aA
def Jno(b:Nat){v:Value}{xs:List Int}{h:Heap}(s:SB h v xs)(K:KP)(hk:K (.ret (.bool (decide (64 < xs.length)))) h):FK b 85 [v] h K:=by
 refine F3 b (Xrs b) Y4h rfl ?_;have len:=fun hx=>Qmi (b:=b) (h1:=hx) s;simp[X25,Zkd,Xrs,len];have e:decide ((64:Int) < (xs.length:Int))=decide (64 < xs.length):=by rw[decide_eq_decide];omega
 rw[e];exact hk
def Jmv(b:Nat){x:InV}{h:Heap}(a:InAt h x){C:Nat}{z:Nat}(gC:h.get C=some (.cells true z [.func (.func 85) #[] #[]]))(K:KP)(hk:∀ h',Old h h'->K (.ret (.bool (Zb6 x.p))) h') :
  FK b 86 [.agg ⟨x.cells⟩,pO C 0] h K:=by
 refine F3 b (Q49 b) Y0f rfl ?_;obtain⟨hA, -,bx,aA, -, -, -,c33⟩:=Zi1 x h;have len:∀ hx,Qkc (E b).toEnv 66 x.wv hx=some (.int .i64 (x.its.length:Int)):=fun hx=>Qa0 (T66 b) a.w;have cC:Yw hA C 0=some (.func (.func 85) #[] #[]):=by rw[Yi (aA.get gC)];rfl
 unfold Zb6 at hk;by_cases hl:16 < x.its.length
 ·have hl':(16:Int) < (x.its.length:Int):=by omega
  simp[Q33,Xpf,Q49,U7,Qbm,Jei,Qar,Xe5,Q91,bx,c33,len,hl'];have:=hk hA aA;simpa[InV.p,hl]using this
 ·have hl':¬ (16:Int) < (x.its.length:Int):=by omega
  simp[Q33,Xpf,Q49,U7,Qbm,Jei,Qar,Xe5,Q91,bx,c33,len,hl',cC];refine Z8f b (Xrs b) (cap:=[]) (a.w.old aA) a.n (fun p=>decide (64 < p.2.length)) (fun h1 a1 p hp K hk=>Jno b (((a.i.old aA).old a1) p hp).1 K (hk h1 (Old.refl _))) _ fun h1 a1 => ?_;simp[Q33,Xpf,Q49,U7,Qbm,Jei,Qar,Xe5,Q91];have:=hk h1 (aA.trans a1);have e:(x.p.wit.any fun w=>decide (64 < w.length))=x.its.any fun p=>decide (64 < p.2.length):=by
   simp[InV.p,ej];rfl
  rw[e]at this;simpa[InV.p,hl]using this
def Jlu(b:Nat){o:OutV}{h:Heap}(a:OutAt h o)(K:KP)(hk:∀ h',Old h h'->K (.ret (.bool (Zbr o.p))) h'):FK b 88 [.agg ⟨o.cells⟩] h K:=by
 refine F3 b (Xtq b) Y6f rfl ?_;obtain⟨hA,eA,aA,gA⟩:=Q2n h o.cells;have bx:=Qw8 eA;have c1:Yw hA h.next 1=some o.sv:=by rw[Yi gA];rfl
 have len:=fun hx=>Qmi (b:=b) (h1:=hx) a.s;simp[Xy4,Zji,Xtq,Jv,Z8,bx,c1,len];have e:decide ((256:Int) < (o.script.length:Int))=Zbr o.p:=by
  show _=decide (256 < o.script.length);rw[decide_eq_decide];omega
 rw[e];exact hk hA aA
end
def VLI(v:Value)(l:List OutV)(h:Heap)(k:Nat)(s:St):Prop:=∃ (t:Tr Value) (h1:Heap) (i:Nat) (left:Int),s=⟨⟨26,t⟩,[],h1⟩/\t.get 3=some (.int .i64 left)/\t.get 6=some v/\t.get 7=some (.int .i64 (l.length:Int))/\t.get 8=some (.int .i64 (i:Int))/\i<=l.length/\k=l.length-i/\Old h h1/\0<=left/\left<=1125899906842624/\X9e (l.map OutV.p) 1125899906842624=X9e ((l.drop i).map OutV.p) left
section
attribute [local simp] Qvc Q7h Qa9 Qzt Q0l Qzu Qg1 Qb9 Jo Qxc Qur Qxa 
def Jcr(b:Nat){h:Heap}{v:Value}{l:List OutV}(s:Outs h v l)(K:KP)(hk:∀ h',Old h h'->K (.ret (.bool (X9e (l.map OutV.p) 1125899906842624))) h'):FK b 90 [v] h K:=by
 refine F3 b (Qa9 b) Y9k rfl ?_;have hn:=s.n;have len:∀ hx,Qkc (E b).toEnv 29 v hx=some (.int .i64 (l.length:Int)):=fun hx=>Qa0 (T29 b) s.s;simp[Qa2,len];refine Qdf (VLI v l h) l.length ⟨_,h,0,1125899906842624,rfl,by simp,by simp,by simp,by simp,by omega,rfl,Old.refl _,by omega,by omega,by simp⟩ ?_;rintro k s' ⟨t,h1,i,left,rfl,t3,t6,t7,t8,hi,rfl,hold,l0,l1,hF⟩ _;by_cases hlt:i < l.length
 ·have hlt':(i:Int) < (l.length:Int):=by omega
  obtain⟨x,hx⟩:∃ x,l[i]? = some x:=⟨_,List.getElem?_eq_getElem hlt⟩;have hd:l.drop i=x::l.drop (i+1):=by
   rw[bb hlt];rw[List.getElem?_eq_getElem hlt]at hx;rw[bz hx]
  rw[hd]at hF;simp only[aE,X9e]at hF;have hw:=wS (i:=i) (by omega);obtain⟨bk,off, -,x1,x2, -⟩:=Xjz (b:=b) (T29 b) Qjv (s.s.old hold) hx;obtain⟨zz,ez⟩:∃ zz:List Value,zz=[.int .i64 0,.slice none 0 0]:=⟨_,rfl⟩;obtain⟨hA,eA⟩:∃ hA,hA=h1.push (.cells true 1 zz):=⟨_,rfl⟩;have alA:Qbx (E b).toEnv 48 h1=some (pO h1.next 0,hA):=by rw[eA,ez];exact Qa2 b h1
  have gA:hA.get h1.next=some (.cells true 1 zz):=by rw[eA,Heap.get_push,if_pos rfl]
  have lA:=Heap.get_lt gA;obtain⟨hB,eB⟩:∃ hB,hB=hA.set h1.next (some (.cells true 1 x.cells)):=⟨_,rfl⟩;have st:Ur hA h1.next 0 x.cells=some hB:=by
   rw[Wh gA (by rw[ez,OutV.len];simp),eB];congr 4;rw[ez,OutV.len];simp
  have gB:hB.get h1.next=some (.cells true 1 x.cells):=by rw[eB,gY lA,if_pos rfl]
  have c0:Yw hB h1.next 0=some (.int .i64 x.value):=by rw[Yi gB];rfl
  have aB:Old h hB:=by rw[eB,eA];exact(hold.push' _).set _ hold.1 (by rw[<- eA];exact lA)
  have xl:x.cells.length=2:=rfl;by_cases h1':x.value < 1
  ·simp[Qa2,t3,t6,t7,t8,hlt',x1,x2,-Qa2,alA,xl,st,c0,h1'];have:=hk hB aB;rw[hF]at this;simpa[OutV.p,h1']using this
  ·by_cases h2':left < x.value
   ·simp[Qa2,t3,t6,t7,t8,hlt',x1,x2,-Qa2,alA,xl,st,c0,h1',h2'];have:=hk hB aB;rw[hF]at this;simpa[OutV.p,h1',h2']using this
   ·have hw2:IntKind.i64.wrap (left-x.value)=left-x.value:=Uq (by omega) (by omega);simp[Qa2,t3,t6,t7,t8,hlt',x1,x2,-Qa2,alA,xl,st,c0,h1',h2',hw,hw2];refine⟨l.length-(i+1),by omega,_,hB,i+1,left-x.value,rfl,by simp,by simp[t6],by simp[t7],by simp,by omega,rfl,aB,by omega,by omega,?_⟩;rw[hF,if_neg (by simp only[OutV.p];omega)];rfl
 ·have hlt':¬ (i:Int) < (l.length:Int):=by omega
  have : i=l.length:=by omega
  subst this;simp[Qa2,t3,t6,t7,t8];have:=hk h1 hold;rw[hF,cQ]at this;exact this
end
def Yls{A:Type}{l:List A}{p:A}:(l ++ [p]).Nodup↔l.Nodup/\p ∉ l:=by
 rw[cG];constructor
 ·rintro⟨h1, -,h2⟩;exact⟨h1,fun hp=>h2 p hp p (by simp) rfl⟩
 ·rintro⟨h1,h2⟩;refine⟨h1,by simp,fun a ha c hc e => ?_⟩;simp at hc;subst hc;exact h2 (e ▸ ha)
def PTI(v:Value)(l:List InV)(h:Heap)(mb:Nat)(k:Nat)(s:St):Prop:=∃ (t:Tr Value) (h1:Heap) (i:Nat) (es:List PE) (clk:Nat),s=⟨⟨22,t⟩,[],h1⟩/\t.get 0=some v/\t.get 3=some (.map (some mb))/\t.get 7=some v/\t.get 8=some (.int .i64 (l.length:Int))/\t.get 9=some (.int .i64 (i:Int))/\i<=l.length/\k=l.length-i/\Old h h1 /\
 h1.get mb=some (.map ⟨es.map PE.e⟩ clk)/\(∀ p,p ∈ es.map (·.key)↔p ∈ (l.take i).map (·.pt))/\(es.length=i/\((l.take i).map (·.pt)).Nodup∨es.length < i/\¬ ((l.take i).map (·.pt)).Nodup)
section
attribute [local simp] Q6t X1t Qbh Xje Qcq Qdn Yx Uh Ye
def Jea(b:Nat){h:Heap}{v:Value}{l:List InV}(s:Ins h v l)(K:KP)(hk:∀ h',Old h h'->K (.ret (.bool (decide (l.map (·.pt)).Nodup))) h'):FK b 89 [v] h K:=by
 refine F3 b (Qbh b) Zdo rfl ?_;have hn:=s.n;have len:∀ hx,Qkc (E b).toEnv 28 v hx=some (.int .i64 (l.length:Int)):=fun hx=>Qa0 (T28 b) s.s;obtain⟨rm,me,md⟩:∃ rm,(E b).toEnv.ty.get 52=some rm/\rm.desc=.map 61 3:=⟨((E b).toEnv.ty.get 52).getD ⟨.invalid,0,0,.bool false,[]⟩,by kernel_rfl,by kernel_rfl⟩;obtain⟨hM,eM⟩:∃ hM,hM=h.push (.map #[] 0):=⟨_,rfl⟩;have aM':=Qon eM;have gM:hM.get h.next=some (.map ⟨([]:List PE).map PE.e⟩ 0):=by rw[eM,Heap.get_push,if_pos rfl];rfl
 have mk:Q3w (E b).toEnv 52 none h=some (.map (some h.next),hM):=by rw[eM];exact Zk3 (b:=b) me md
 simp[len,mk];refine Qdf (PTI v l h h.next) l.length ⟨_,hM,0,[],0,rfl,by simp,by simp,by simp,by simp,by simp,by omega,rfl,aM',gM,by simp,.inl ⟨rfl,by simp⟩⟩ ?_;rintro k s' ⟨t,h1,i,es,clk,rfl,t0,t3,t7,t8,t9,hi,rfl,hold,g1,hmem,hnd⟩ _;by_cases hlt:i < l.length
 ·have hlt':(i:Int) < (l.length:Int):=by omega
  obtain⟨x,hx⟩:∃ x,l[i]? = some x:=⟨_,List.getElem?_eq_getElem hlt⟩;have hw:=wS (i:=i) (by omega);obtain⟨bk,off, -,x1,x2, -⟩:=Xhr (b:=b) (T28 b) Qeo (s.s.old hold) hx;obtain⟨zz,ez⟩:∃ zz:List Value,zz=R68.zero.cells.toList:=⟨_,rfl⟩;have zl:zz.length=34:=by rw[ez];kernel_rfl
  obtain⟨hA,eA⟩:∃ hA,hA=h1.push (.cells true 1 zz):=⟨_,rfl⟩;have alA:Qbx (E b).toEnv 68 h1=some (pO h1.next 0,hA):=by rw[eA,ez];simp only[Qbx,Yta]
  have gA:hA.get h1.next=some (.cells true 1 zz):=by rw[eA,Heap.get_push,if_pos rfl]
  have lA:=Heap.get_lt gA;have lM:h.next < h1.next:=Heap.get_lt g1;obtain⟨hB,eB⟩:∃ hB,hB=hA.set h1.next (some (.cells true 1 x.cells)):=⟨_,rfl⟩;have st:Ur hA h1.next 0 x.cells=some hB:=by
   rw[Wh gA (by rw[zl,InV.len];omega),eB];congr 4;rw[InV.len];simp[zl]
  have gB:hB.get h1.next=some (.cells true 1 x.cells):=by rw[eB,gY lA,if_pos rfl]
  have aB:Old h1 hB:=by rw[eB,eA];exact(Old.push _ _).set _ (ab _) (by rw[<- eA];exact lA)
  have gMB:=aB.get g1;have ldp:Wy hB h1.next 0 33=some (.agg ⟨x.pt.cells⟩):=by rw[V2 gB (by rw[InV.len];omega),bB,Zn7]
  have hB1:(l.take (i+1)).map (·.pt)=(l.take i).map (·.pt) ++ [x.pt]:=by rw[aQ,hx];simp
  have lMB:=Heap.get_lt gMB;have step:∃ (h2:Heap) (es':List PE) (clk':Nat),Qgc (E b).toEnv 52 (.map (some h.next)) (.agg ⟨x.pt.cells⟩) (.int .i64 1) hB=some h2/\h2.get h.next=some (.map ⟨es'.map PE.e⟩ clk')/\Old h h2/\(∀ p,p ∈ es'.map (·.key)↔p ∈ (l.take (i+1)).map (·.pt))/\(es'.length=i+1/\((l.take (i+1)).map (·.pt)).Nodup∨es'.length < i+1/\¬ ((l.take (i+1)).map (·.pt)).Nodup):=by
   cases hf:Q2e x.pt es 0 with
   | none =>
    have hno:=Xnk.1 hf;have hnot:x.pt ∉ (l.take i).map (·.pt):=fun e=>by
     obtain⟨y,hy,e2⟩:=am.1 ((hmem _).2 e);exact hno y hy e2
    refine⟨_,es ++ [⟨x.pt,.int .i64 1,clk⟩],clk+1,Jep me md gMB hf _,by rw[gY lMB,if_pos rfl],(hold.trans aB).set _ (ab _) lMB,fun p => ?_,?_⟩
    ·rw[hB1,aR,al,al,hmem p];simp
    ·rw[hB1,Yls];rcases hnd with⟨q1,q2⟩ | ⟨q1,q2⟩
     ·exact .inl ⟨by simp[q1],q2,hnot⟩
     ·exact .inr ⟨by simp;omega,fun e=>q2 e.1⟩
   | some q =>
    obtain⟨j,w⟩:=q;obtain⟨y,hy, -,hyk, -⟩:=Xcy hf;have hin:x.pt ∈ (l.take i).map (·.pt):=(hmem _).1 (am.2 ⟨y,List.mem_of_getElem? hy,hyk⟩);have keys:∀ es:List PE,(Jc1 x.pt (.int .i64 1) es).map (·.key)=es.map (·.key):=by
     intro es;induction es with
     | nil=>rfl
     | cons a es ih=>unfold Jc1;split <;> simp[ih]
    refine⟨_,Jc1 x.pt (.int .i64 1) es,clk,Zv2 me md gMB hf _,by rw[gY lMB,if_pos rfl],(hold.trans aB).set _ (ab _) lMB,fun p => ?_,?_⟩
    ·rw[keys,hB1,al,hmem p];simp;rintro rfl;simpa using hin
    ·have hl:(Jc1 x.pt (.int .i64 1) es).length=es.length:=by have:=congrArg List.length (keys es);simpa using this
     rw[hB1,Yls,hl];refine .inr ⟨by rcases hnd with⟨q1,_⟩ | ⟨q1,_⟩ <;> omega,fun e=>e.2 hin⟩
  obtain⟨h2,es',clk',up,g2,a2,m2,n2⟩:=step;simp[t0,t3,t7,t8,t9,hlt',x1,x2,alA,InV.len,st,ldp,up,hw];exact⟨l.length-(i+1),by omega,_,h2,i+1,es',clk',rfl,by simp[t0],by simp[t3],by simp[t7],by simp[t8],by simp,by omega,rfl,a2,g2,m2,n2⟩
 ·have hlt':¬ (i:Int) < (l.length:Int):=by omega
  have : i=l.length:=by omega
  subst this;rw[bc]at hnd;have ml:Qkc (E b).toEnv 52 (.map (some h.next)) h1=some (.int .i64 ((es.length:Nat):Int)):=by
   rw[Jmu (b:=b) me md g1];simp
  simp[t0,t3,t7,t8,t9,ml,len];have:=hk h1 hold;rcases hnd with⟨q1,q2⟩ | ⟨q1,q2⟩
  ·have e:(es.length:Int)=(l.length:Int):=by omega
   rw[decide_eq_true q2]at this;simpa[e]using this
  ·have e:¬ (es.length:Int)=(l.length:Int):=by omega
   rw[decide_eq_false q2]at this;simpa[e]using this
end
def any_map' {A B:Type}(f:A->B)(q:B->Bool)(l:List A):(l.map f).any q=l.any fun x=>q (f x):=by
 rw[ej];rfl
def Jph(l:List InV):(l.map InV.p).map (·.pt)=l.map (·.pt):=by
 rw[bL];rfl
section
attribute [local simp] Qbp Qf9 V7 Qpn Ym Vm Qah Jf Qal Qbe Qab Xp Ud Qbg Qaj Qbh Qa9 Y8 Qbd Qaf
def Z4l(b:Nat){h:Heap}{iv ov:Value}{ins:List InV}{outs:List OutV}{lock:Int}(si:Ins h iv ins)(so:Outs h ov outs)(K:KP)(hk:∀ h',Old h h'->K (.ret (.int .i64 (Qzx (ptx ins outs lock)))) h') :
  FK b 53 [.agg ⟨txC iv ov lock⟩] h K:=by
 refine F3 b (V7 b) Zpa rfl ?_;obtain⟨hA,eA,aA,gA⟩:=Q2n h ((txC iv ov lock));have nA:=Q8i eA;have bx:=Qw8 eA;obtain⟨z,hz⟩:∃ z,Qbx (E b).toEnv 148 hA=some (pO hA.next 0,hA.push (.cells true 1 [z])):=⟨_,Q30 b hA⟩;obtain⟨hB,eB⟩:∃ hB,hB=(hA.push (.cells true 1 [z])).set hA.next (some (.cells true 1 [.func (.func 85) #[] #[]])):=⟨_,rfl⟩;have gZ:(hA.push (.cells true 1 [z])).get hA.next=some (.cells true 1 [z]):=by rw[Heap.get_push,if_pos rfl]
 have st:Ur (hA.push (.cells true 1 [z])) hA.next 0 [.func (.func 85) #[] #[]]=some hB:=by rw[Qeu gZ (by simp),eB];rfl
 have gC:hB.get hA.next=some (.cells true 1 [.func (.func 85) #[] #[]]):=by rw[eB,gY (Heap.get_lt gZ),if_pos rfl]
 have aB':Old hA hB:=by rw[eB];exact(Old.push _ _).set _ (ab _) (Heap.get_lt gZ)
 have aB:Old h hB:=aA.trans aB';have gT:hB.get h.next=some (.cells true 1 (txC iv ov lock)):=aB'.get gA;have cs:∀ {hx:Heap},Old hB hx->Yw hx h.next 0=some iv/\Yw hx h.next 1=some ov/\Yw hx h.next 2=some (.int .i64 lock):=fun {hx} o=>by
  have:=o.get gT;exact⟨by rw[Yi this];rfl,by rw[Yi this];rfl,by rw[Yi this];rfl⟩
 have lenI:∀ hx,Qkc (E b).toEnv 28 iv hx=some (.int .i64 (ins.length:Int)):=fun hx=>Qa0 (T28 b) si.s;have lenO:∀ hx,Qkc (E b).toEnv 29 ov hx=some (.int .i64 (outs.length:Int)):=fun hx=>Qa0 (T29 b) so.s;obtain⟨c0,c1,c2⟩:=cs (Old.refl hB);simp[Q30,bx,-Q30,hz,Jln,st,c0,lenI];refine Ykc b _ 1 8 hB _ ?_;unfold Qzx ptx at hk;simp only[aL,any_map',Jph]at hk;have done:∀ (c:Int) hx,Old h hx->(∀ h',Old h h'->K (.ret (.int .i64 c)) h')->K (.ret (.int .i64 c)) hx:=fun c hx o q=>q hx o;cases q1:inF (ins.length:Int) 1 8 with
 | false =>
  simp only[q1,cJ,ep,if_true]at hk;simp[Q30];exact hk hB aB
 | true =>
 simp[Q30,c1,lenO];refine Ykc b _ 1 8 hB _ ?_;cases q2:inF (outs.length:Int) 1 8 with
 | false =>
  simp only[q1,q2,cJ,Bool.or_true,if_true]at hk;simp[Q30];exact hk hB aB
 | true =>
 simp only[q1,q2,bV,Bool.or_false,if_false,av]at hk;simp[Q30,c0];refine Xls b (Xbu b) (cap:=[]) (si.s.old aB) si.n (fun x=>Jhi x.p) (fun h1 _ x _ K hk=>Jq9 b x h1 K hk) _ fun h1 a1 => ?_;obtain⟨d0,d1,d2⟩:=cs a1;have aH1:=aB.trans a1;cases q3:ins.any (fun x=>Jhi x.p)with
 | true =>
  simp only[q3,ep,if_true]at hk;simp[Q30];exact hk h1 aH1
 | false =>
 simp[Q30,d2];refine Ykc b _ 0 1073741824 h1 _ ?_;cases q4:inF lock 0 1073741824 with
 | false =>
  simp only[q3,q4,cJ,Bool.or_true,if_true]at hk;simp[Q30];exact hk h1 aH1
 | true =>
 simp only[q3,q4,bV,Bool.or_false,if_false,av]at hk;simp[Q30,d0];refine Jea b (si.old aH1) _ fun h2 a2 => ?_;obtain⟨e0,e1,e2⟩:=cs (a1.trans a2);have aH2:=aH1.trans a2;by_cases q5:(ins.map (·.pt)).Nodup
 case neg =>
  rw[decide_eq_false q5]at hk ⊢;simp only[cJ,if_true]at hk;simp[Q30];exact hk h2 aH2
 rw[decide_eq_true q5]at hk ⊢;simp only[bV,if_false,av]at hk;simp[Q30,e1];refine Jcr b (so.old aH2) _ fun h3 a3 => ?_;obtain⟨f0,f1,f2⟩:=cs ((a1.trans a2).trans a3);have aH3:=aH2.trans a3;cases q6:X9e (outs.map OutV.p) 1125899906842624 with
 | false =>
  simp only[q6,cJ,if_true]at hk;simp[Q30];exact hk h3 aH3
 | true =>
 simp only[q6,bV,if_false,av]at hk;simp[Q30,f1];refine Z1r b (Xtq b) (cap:=[]) (so.s.old aH3) so.n (fun x=>Zbr x.p) (fun h4 a4 x hx K hk=>Jlu b (((so.old aH3).old a4).a x hx) K hk) _ fun h4 a4 => ?_;obtain⟨g0,g1,g2⟩:=cs (((a1.trans a2).trans a3).trans a4);have aH4:=aH3.trans a4;cases q7:outs.any (fun x=>Zbr x.p)with
 | true =>
  simp only[q7,ep,if_true]at hk;simp[Q30];exact hk h4 aH4
 | false =>
 simp[Q30,g0];have gC4:=(((a1.trans a2).trans a3).trans a4).get gC;refine Xls b (Q49 b) (cap:=[pO hA.next 0]) (si.s.old aH4) si.n (fun x=>Zb6 x.p) (fun h5 a5 x hx K hk=>Jmv b (((si.old aH4).old a5).a x hx) (a5.get gC4) K hk) _ fun h5 a5 => ?_;have aH5:=aH4.trans a5;simp only[q7,Bool.false_or]at hk;cases q8:ins.any (fun x=>Zb6 x.p)with
 | true =>
  simp only[q8,if_true]at hk;simp[Q30];exact hk h5 aH5
 | false =>
 simp only[q8,if_false,av]at hk;simp[Q30];exact hk h5 aH5
end
def Q7m:Nat->List Value
 | 0=>[.int .u8 253,.int .i64 2,.int .u64 253]
 | 1=>[.int .u8 254,.int .i64 4,.int .u64 65536]
 | _=>[.int .u8 255,.int .i64 8,.int .u64 4294967296]
def Xkf:Nat->Nat
 | 0=>253
 | 1=>65536
 | _=>4294967296
def Xd3:Nat->Nat
 | 0=>2
 | 1=>4
 | _=>8
def Yd4:Nat->Int
 | 0=>253
 | 1=>254
 | _=>255
def Yl9(n:Nat):Nat->Nat
 | 0=>0
 | i+1=>if Xkf (i+1)<=n then i+1 else Yl9 n i
def Z6v(n:Nat):∀ i,Yl9 n i<=i
 | 0=>ab _
 | i+1=>by unfold Yl9;split;exact ab _;exact cF (Z6v n i)
def Yzd(j:Nat)(h:j<=2):Q7m j=[.int .u8 (Yd4 j),.int .i64 (Xd3 j:Int),.int .u64 (Xkf j:Int)]:=by
 match j,h with
 | 0,_=>rfl
 | 1,_=>rfl
 | 2,_=>rfl
def Jc2{n:Nat}(h:¬ n < 253):X9z n=Yd4 (Yl9 n 2)::leN (Xd3 (Yl9 n 2)) n:=by
 unfold X9z Yl9;rw[if_neg h];by_cases h2:n < 4294967296
 ·rw[if_neg (show ¬ Xkf 2<=n from fun e=>by have : (4294967296:Nat)<=n:=e;omega)];unfold Yl9;by_cases h1:n < 65536
  ·rw[if_neg (show ¬ Xkf (0+1)<=n from fun e=>by have : (65536:Nat)<=n:=e;omega),if_pos h1];rfl
  ·rw[if_pos (show Xkf (0+1)<=n from(by omega:(65536:Nat)<=n)),if_neg h1,if_pos h2];rfl
 ·rw[if_pos (show Xkf 2<=n from(by omega:(4294967296:Nat)<=n)),if_neg (by omega),if_neg h2];rfl
def Jrt(x y:Int)(h:y=0∨y=8∨y=16∨y=24∨y=32∨y=40∨y=48∨y=56):Qfz (binOp .shr 170 (.int .u64 x) (.int .i64 y))=some (.int .u64 (x.fdiv (2 ^ y.toNat))):=by
 rcases h with rfl | rfl | rfl | rfl | rfl | rfl | rfl | rfl
 ·exact(by kernel_rfl:Qfz (binOp .shr 170 (.int .u64 x) (.int .i64 0))=some (.int .u64 (x.fdiv (2 ^ 0))))
 ·exact(by kernel_rfl:Qfz (binOp .shr 170 (.int .u64 x) (.int .i64 8))=some (.int .u64 (x.fdiv (2 ^ 8))))
 ·exact(by kernel_rfl:Qfz (binOp .shr 170 (.int .u64 x) (.int .i64 16))=some (.int .u64 (x.fdiv (2 ^ 16))))
 ·exact(by kernel_rfl:Qfz (binOp .shr 170 (.int .u64 x) (.int .i64 24))=some (.int .u64 (x.fdiv (2 ^ 24))))
 ·exact(by kernel_rfl:Qfz (binOp .shr 170 (.int .u64 x) (.int .i64 32))=some (.int .u64 (x.fdiv (2 ^ 32))))
 ·exact(by kernel_rfl:Qfz (binOp .shr 170 (.int .u64 x) (.int .i64 40))=some (.int .u64 (x.fdiv (2 ^ 40))))
 ·exact(by kernel_rfl:Qfz (binOp .shr 170 (.int .u64 x) (.int .i64 48))=some (.int .u64 (x.fdiv (2 ^ 48))))
 ·exact(by kernel_rfl:Qfz (binOp .shr 170 (.int .u64 x) (.int .i64 56))=some (.int .u64 (x.fdiv (2 ^ 56))))
def Jeo:∀ (k n i:Nat),i < k->(leN k n)[i]? = some (((n / 256 ^ i) % 256:Nat):Int)
 | 0,_,_,h=>by omega
 | k+1,n,0,_=>by simp[leN]
 | k+1,n,i+1,h=>by
  simp only[leN,List.getElem?_cons_succ];rw[Jeo k (n / 256) i (by omega),Nat.div_div_eq_div_mul,Nat.pow_succ,d8 256]
def Jj3(n i:Nat):IntKind.u8.wrap ((n:Int).fdiv (2 ^ (8*(i:Int)).toNat))=(((n / 256 ^ i) % 256:Nat):Int):=by
 have e:(8*(i:Int)).toNat=8*i:=by omega
 rw[e,show(256:Nat) ^ i=2 ^ (8*i) by rw[Nat.pow_mul]];have e2:((2:Int) ^ (8*i))=((2 ^ (8*i):Nat):Int):=by rw[Int.natCast_pow];rfl
 rw[e2,cx _ (Int.natCast_nonneg _),<- Int.natCast_ediv];show(((n / 2 ^ (8*i):Nat):Int) % (2 ^ 8:Int))=_;omega
def IN1(bv:Value)(n:Nat)(h:Heap)(A:Nat)(k:Nat)(s:St):Prop:=∃ (t:Tr Value) (h1:Heap) (i:Nat),s=⟨⟨57,t⟩,[],h1⟩/\t.get 0=some bv/\t.get 5=some (.int .u64 (n:Int))/\t.get 6=some (pO A 0)/\t.get 25=some (.slice (some ⟨1,3,none⟩) 2 2)/\t.get 26=some (.int .i64 2)/\t.get 27=some (.int .i64 (i:Int))/\i<=2/\k=2-i/\Old h h1/\h1.get A=some (.cells true 1 (Q7m (Yl9 n i)))
def IN2(n w:Nat)(p:List Int)(h:Heap)(k:Nat)(s:St):Prop:=∃ (t:Tr Value) (h1:Heap) (o:Value) (i:Nat),s=⟨⟨57,t⟩,[],h1⟩/\t.get 5=some (.int .u64 (n:Int))/\t.get 9=some o/\t.get 43=some (.int .i64 (w:Int))/\t.get 44=some (.int .i64 (i:Int))/\i<=w/\k=w-i/\Old h h1/\OB h1 h.next o (p++(leN w n).take i)
section
attribute [local simp] Ql5 Qtw Jy Qkx Ql4 Xz6 Xax Yiv Xb9 Ub Ua Qdj Ygy Yf2 Yhp X8c Xcn Xan Qwi Xba Xc5 Xaq
def Y4p(b:Nat){h:Heap}(laid:Ab.LaidIn h laidAll){bv:Value}{xs:List Int}(s:SB h bv xs){n:Nat}(hn:n < 9223372036854775808)(hl:xs.length < 999999000)(K:KP)(hk:∀ v h',OB h' h.next v (xs++X9z n)->Old h h'->K (.ret v) h') :
  FK b 66 [bv,.int .i64 (n:Int)] h K:=by
 by_cases h253:n < 253
 ·have e:X9z n=[(n:Int)]:=by unfold X9z;rw[if_pos h253]
  rw[e]at hk;exact Zsn b laid s h253 (by omega) K hk
 refine F3 b (Jy b) Yl0 rfl ?_;rw[Jc2 h253]at hk;have g1:h.get 1=some (.cells false 0 Qzw):=laid (1,Qzw) (by simp[laidAll]);have l1:=Heap.get_lt g1;have ld:Yw h 1 2=some (.int .u64 253):=by rw[Yi g1];rfl
 have ldf:Wy h 1 0 3=some (.agg ⟨Q7m 0⟩):=by rw[V2 g1 (by simp[Qzw])];rfl
 have hx:V5 (E b).toEnv 176 (pO 1 0) (.int .i64 0)=some (pO 1 0):=by simpa using Xz6 b (bk:=1) (o:=0) (k:=.i64) (i:=0) ⟨by omega,by omega⟩
 have w1:IntKind.u64.wrap (n:Int)=(n:Int):=Zmk (by omega) (by omega);have c1:¬ (n:Int) < 253:=by omega
 obtain⟨zz,ez⟩:∃ zz:List Value,zz=[.int .u8 0,.int .i64 0,.int .u64 0]:=⟨_,rfl⟩;obtain⟨hA,eA⟩:∃ hA,hA=h.push (.cells true 1 zz):=⟨_,rfl⟩;have alA:Qbx (E b).toEnv 175 h=some (pO h.next 0,hA):=by rw[eA,ez];exact Xi1 b h
 have gA:hA.get h.next=some (.cells true 1 zz):=by rw[eA,Heap.get_push,if_pos rfl]
 have lA:=Heap.get_lt gA;obtain⟨hB,eB⟩:∃ hB,hB=hA.set h.next (some (.cells true 1 (Q7m 0))):=⟨_,rfl⟩;have stB:Ur hA h.next 0 (Q7m 0)=some hB:=by rw[Wh gA (by simp[ez,Q7m]),eB,ez];rfl
 have gB:hB.get h.next=some (.cells true 1 (Q7m 0)):=by rw[eB,gY lA,if_pos rfl]
 have aB:Old h hB:=by rw[eB];exact(by rw[eA];exact Old.push _ _:Old h hA).set _ (ab _) lA
 have sl:∀ hx,Qes (E b).toEnv 176 (pO 1 0) (some (.int .i64 1)) none none hx=some (.slice (some ⟨1,3,none⟩) 2 2,hx):=fun hx=>by kernel_rfl
 have f3:∀ j,(Q7m j).length=3:=fun j=>by unfold Q7m;split <;> rfl
 simp[Xi1,gn1,hx,ld,ldf,w1,c1,h253,-Xi1,alA,f3,stB,sl];refine Qdf (IN1 bv n h h.next) 2 ⟨_,hB,0,rfl,by simp,by simp,by simp,by simp,by simp,by simp,by omega,rfl,aB,gB⟩ ?_;rintro k s' ⟨t,h1,i,rfl,t0,t5,t6,t25,t26,t27,hi,rfl,hold,gf⟩ _;by_cases hlt:i < 2
 ·have hlt':(i:Int) < 2:=by omega
  have hw:=wS (i:=i) (by omega);have gG:h1.get 1=some (.cells false 0 Qzw):=hold.get g1;have ixf:V5 (E b).toEnv 178 (.slice (some ⟨1,3,none⟩) 2 2) (.int .i64 (i:Int))=some (.pointer (some ⟨1,(i+1)*3,none⟩)):=by
   rw[X8c b ⟨by omega,by omega⟩,aT,show 3+i*3=(i+1)*3 by omega]
  have ldx:Wy h1 1 ((i+1)*3) 3=some (.agg ⟨Q7m (i+1)⟩):=by
   rw[V2 gG (by simp[Qzw];omega)]
   match i,hlt with
   | 0,_=>rfl
   | 1,_=>rfl
  obtain⟨h2,e2⟩:∃ h2,h2=h1.push (.cells true 1 zz):=⟨_,rfl⟩;have al2:Qbx (E b).toEnv 175 h1=some (pO h1.next 0,h2):=by rw[e2,ez];exact Xi1 b h1
  have g2:h2.get h1.next=some (.cells true 1 zz):=by rw[e2,Heap.get_push,if_pos rfl]
  have lf:=Heap.get_lt gf;have l2:=Heap.get_lt g2;obtain⟨h3,e3⟩:∃ h3,h3=h2.set h1.next (some (.cells true 1 (Q7m (i+1)))):=⟨_,rfl⟩;have st3:Ur h2 h1.next 0 (Q7m (i+1))=some h3:=by
   rw[Wh g2 (by simp[ez,f3]),e3,ez];congr 4;simp[f3]
  have g3:h3.get h1.next=some (.cells true 1 (Q7m (i+1))):=by rw[e3,gY l2,if_pos rfl]
  have o3:Old h1 h3:=by rw[e3];exact(by rw[e2];exact Old.push _ _:Old h1 h2).set _ (ab _) l2
  have gf3:=o3.get gf;have lf3:=Heap.get_lt gf3;have c3:Yw h3 h1.next 2=some (.int .u64 (Xkf (i+1):Int)):=by rw[Yi g3,Yzd _ (by omega)];rfl
  by_cases hc:Xkf (i+1)<=n
  ·have hc':(Xkf (i+1):Int)<=(n:Int):=by omega
   have ldg:Wy h3 h1.next 0 3=some (.agg ⟨Q7m (i+1)⟩):=agW g3 (by rw[f3];omega) (by rw[f3];omega);obtain⟨h4,e4⟩:∃ h4,h4=h3.set h.next (some (.cells true 1 (Q7m (i+1)))):=⟨_,rfl⟩;have st4:Ur h3 h.next 0 (Q7m (i+1))=some h4:=by
    rw[Wh gf3 (by simp[f3]),e4];congr 4;simp[f3]
   have g4:h4.get h.next=some (.cells true 1 (Q7m (Yl9 n (i+1)))):=by
    rw[e4,gY lf3,if_pos rfl];unfold Yl9;rw[if_pos hc]
   simp[Xi1,t0,t5,t6,t25,t26,t27,hlt',ixf,ldx,-Xi1,al2,f3,st3,c3,hc,hc',ldg,st4,hw];exact⟨2-(i+1),by omega,_,h4,i+1,rfl,by simp[t0],by simp[t5],by simp[t6],by simp[t25],by simp[t26],by simp,by omega,rfl,by rw[e4];exact(hold.trans o3).set _ (ab _) lf3,g4⟩
  ·have hc':¬ (Xkf (i+1):Int)<=(n:Int):=by omega
   simp[Xi1,t0,t5,t6,t25,t26,t27,hlt',ixf,ldx,-Xi1,al2,f3,st3,c3,hc,hc',hw];refine⟨2-(i+1),by omega,_,h3,i+1,rfl,by simp[t0],by simp[t5],by simp[t6],by simp[t25],by simp[t26],by simp,by omega,rfl,hold.trans o3,?_⟩;rw[gf3];have : Yl9 n (i+1)=Yl9 n i:=by
    conv=>lhs;unfold Yl9
    rw[if_neg hc]
   rw[this]
 ·have : i=2:=by omega
  subst this;have hlt':¬ ((2:Nat):Int) < 2:=by omega
  obtain⟨j,hj⟩:∃ j,j=Yl9 n 2:=⟨_,rfl⟩;have hj2:j<=2:=by rw[hj];exact Z6v n 2
  rw[<- hj]at gf hk;have cA:Yw h1 h.next 0=some (.int .u8 (Yd4 j)):=by rw[Yi gf,Yzd _ hj2];rfl
  have cW:∀ {hx},Old h1 hx->Yw hx h.next 1=some (.int .i64 (Xd3 j:Int)):=fun o=>by rw[Yi (o.get gf),Yzd _ hj2];rfl
  have sB:SB (h1.push (.cells true 1 [i8 (Yd4 j)])) (.slice (some ⟨h1.next,0,none⟩) 1 1) [Yd4 j]:=SB.push (xs:=[Yd4 j]) (by simp);simp[Xi1,t0,t5,t6,t25,t26,t27,cA,Xie];refine Y2f b ((s.old hold).old (Old.push _ _)) sB (by simp;omega) _ fun v h2 o2 a2 => ?_;have a12:Old h1 h2:=(Old.push _ _).trans a2;have cW2:=cW a12;have w8:Xd3 j<=8:=by unfold Xd3;split <;> omega
  simp[Xi1,t0,t5,t6,t25,t26,t27,cW2];refine Qdf (IN2 n (Xd3 j) (xs ++ [Yd4 j]) h) (Xd3 j) ⟨_,h2,v,0,rfl,by simp[t5],by simp,by simp,by simp,by omega,rfl,hold.trans a12,by rw[List.take_zero,bP];exact o2.low (ai hold.1 (bH _))⟩ ?_;rintro k s' ⟨t,h3,o,i,rfl,t5,t9,t43,t44,hi,rfl,hold3,ob⟩ _;by_cases hlt:i < Xd3 j
  ·have hlt':(i:Int) < (Xd3 j:Int):=by omega
   have hw:=wS (i:=i) (by omega);have hm:IntKind.i64.wrap (8*(i:Int))=8*(i:Int):=Uq (by omega) (by omega);have sh:=Jrt (n:Int) (8*(i:Int)) (by omega);have by8':=Jj3 n i;have gi:=Jeo (Xd3 j) n i hlt;obtain⟨d,hd⟩:∃ d:Int,d=(n:Int).fdiv (2 ^ (8*(i:Int)).toNat):=⟨_,rfl⟩;rw[<- hd]at sh by8';obtain⟨c,hc⟩:∃ c:Int,c=(((n / 256 ^ i) % 256:Nat):Int):=⟨_,rfl⟩;rw[<- hc]at by8' gi;have tk:(leN (Xd3 j) n).take (i+1)=(leN (Xd3 j) n).take i ++ [c]:=by rw[aQ,gi];rfl
   obtain⟨v',h4,k1,k2,k3⟩:=Z08 (b:=b) ob hold3.1 (by simp;omega) c;simp only[i8]at k1;simp[Xi1,t5,t9,t43,t44,hlt',hm,sh,by8',Xie,i8,k1,hw];exact⟨Xd3 j-(i+1),by omega,_,h4,v',i+1,rfl,by simp[t5],by simp,by simp[t43],by simp,by omega,rfl,k3.old hold3 ob,by rw[tk,<- aM];exact k2⟩
  ·have hlt':¬ (i:Int) < (Xd3 j:Int):=by omega
   have : i=Xd3 j:=by omega
   subst this;simp[Xi1,t5,t9,t43,t44];refine hk o h3 ?_ hold3;rw[aj (by rw[Zkg];exact ab _),aM]at ob;exact ob
end
section
def Jm7(b:Nat){h:Heap}{bv:Value}{xs:List Int}(s:SB h bv xs){d:List Nat}(hd:d.length=32)(hl:xs.length < 999999000)(K:KP)(hk:∀ v h',OB h' h.next v (xs++X5r d)->Old h h'->K (.ret v) h') :
  FK b 78 [bv,.agg ⟨d.map u8v⟩] h K:=by
 refine F3 b (Qwx b) Zcu rfl ?_;obtain⟨hA,eA,aA,gA⟩:=Q2n h ((d.map u8v));have bx:=Qw8 eA;have sd:SB hA (.slice (some ⟨h.next,0,none⟩) 32 32) (X5r d):=by
  have:=Js1 gA (by omega);rwa [hd]at this
 have ld:(X5r d).length=32:=by simp[X5r,hd]
 simp[Xkb,Yqr,Qwx,Qdj,bx,Yxp];refine Y2f b (s.old aA) sd (by omega) _ fun v h' o a => ?_;simp[Xkb,Yqr,Qwx,Qdj];exact hk v h' (o.low aA.1) (aA.trans a)
def Jaf(b:Nat){h:Heap}(laid:Ab.LaidIn h laidAll){bv pv:Value}{xs ys:List Int}(s:SB h bv xs)(sp:SB h pv ys)(hl:xs.length < 999990000)(hp:ys.length < 1000000)(K:KP)(hk:∀ v h',OB h' h.next v (xs++Yiq ys)->Old h h'->K (.ret v) h') :
  FK b 81 [bv,pv] h K:=by
 refine F3 b (Qwp b) Zb8 rfl ?_;have len:=fun hx=>Qmi (b:=b) (h1:=hx) sp;simp[Xl3,Yr3,Qwp,Jy,len];refine Y4p b laid s (n:=ys.length) (by omega) (by omega) _ fun v h1 o1 a1 => ?_;have il:=Qyo ys.length;obtain⟨v',h2,k1,k2,k3⟩:=Z61 (b:=b) o1 a1.1 (sp.old a1) (by rw[ae];omega);simp[Xl3,Yr3,Qwp,Jy,k1];refine hk v' h2 ?_ (k3.old a1 o1);rw[Yiq,<- aM];exact k2
end
def Y7e{A:Type}{g:A->List Int}{l:List A}{i:Nat}{x:A}(hx:l[i]? = some x):(l.take (i+1)).flatMap g=(l.take i).flatMap g++g x:=by
 rw[aQ,hx];simp
def Z2t{A:Type}(g:A->List Int)(l:List A)(i:Nat):((l.take i).flatMap g).length<=(l.flatMap g).length:=by
 conv=>rhs;rw[<- bf i l]
 rw[List.flatMap_append,ae];omega
def Jtw(v fv:Value)(l:List InV)(g:InV->List Int)(p:List Int)(h:Heap)(k:Nat)(s:St):Prop:=∃ (t:Tr Value) (h1:Heap) (o:Value) (i:Nat),s=⟨⟨25,t⟩,[],h1⟩/\t.get 0=some o/\t.get 2=some fv/\t.get 13=some v/\t.get 14=some (.int .i64 (l.length:Int))/\t.get 15=some (.int .i64 (i:Int))/\i<=l.length/\k=l.length-i/\Old h h1/\OB h1 h.next o (p++(l.take i).flatMap g)
section
attribute [local simp] Qiz Qqe Qbl Jy Qcq Qdn 
def Jr3(b:Nat){h:Heap}(laid:Ab.LaidIn h laidAll){bv v:Value}{xs:List Int}{l:List InV}(sb:SB h bv xs)(s:Sl h 34 v l.length (Qee l))(hn:l.length < 1000000)(g:InV->List Int){f:FuncId}{F:Func}(hF:(E b).fn.get f=some F)(hl:xs.length+(l.flatMap g).length < 900000000)
  (hf:∀ h1,Old h h1->∀ x ∈ l,∀ bv1 ys,SB h1 bv1 ys->ys.length < 900000010->∀ K,(∀ w h2,OB h2 h1.next w (ys++g x)->Old h1 h2->K (.ret w) h2)->FK b f [bv1,.agg ⟨x.cells⟩] h1 K)
  (K:KP) (hk:∀ w h',OB h' h.next w (xs++(X9z l.length++l.flatMap g))->Old h h'->K (.ret w) h') :
  FK b 76 [bv,v,.func (.func f) #[] #[]] h K:=by
 refine F3 b (Qbl b) X49 rfl ?_;have len:∀ hx,Qkc (E b).toEnv 28 v hx=some (.int .i64 (l.length:Int)):=fun hx=>Qa0 (T28 b) s;simp[len];refine Y4p b laid sb (n:=l.length) (by omega) (by omega) _ fun v0 h0 o0 a0 => ?_;have il:=Qyo l.length;simp[len];refine Qdf (Jtw v (.func (.func f) #[] #[]) l g (xs++X9z l.length) h) l.length ⟨_,h0,v0,0,rfl,by simp,by simp,by simp,by simp,by simp,by omega,rfl,a0,by simpa using o0⟩ ?_;rintro k s' ⟨t,h1,o,i,rfl,t0,t2,t13,t14,t15,hi,rfl,hold,ob⟩ _;have fl:=Z2t g l i;by_cases hlt:i < l.length
 ·have hlt':(i:Int) < (l.length:Int):=by omega
  obtain⟨x,hx⟩:∃ x,l[i]? = some x:=⟨_,List.getElem?_eq_getElem hlt⟩;have hw:=wS (i:=i) (by omega);obtain⟨bk,off, -,x1,x2, -⟩:=Xhr (b:=b) (T28 b) Qeo (s.old hold) hx;obtain⟨zz,ez⟩:∃ zz:List Value,zz=R68.zero.cells.toList:=⟨_,rfl⟩;have zl:zz.length=34:=by rw[ez];kernel_rfl
  obtain⟨hA,eA⟩:∃ hA,hA=h1.push (.cells true 1 zz):=⟨_,rfl⟩;have alA:Qbx (E b).toEnv 68 h1=some (pO h1.next 0,hA):=by rw[eA,ez];simp only[Qbx,Yta]
  have gA:hA.get h1.next=some (.cells true 1 zz):=by rw[eA,Heap.get_push,if_pos rfl]
  have lA:=Heap.get_lt gA;obtain⟨hB,eB⟩:∃ hB,hB=hA.set h1.next (some (.cells true 1 x.cells)):=⟨_,rfl⟩;have xl:x.cells.length=34:=InV.len x;have st:Ur hA h1.next 0 x.cells=some hB:=by
   rw[Wh gA (by rw[zl,xl];omega),eB];congr 4;rw[xl];simp[zl]
  have gB:hB.get h1.next=some (.cells true 1 x.cells):=by rw[eB,gY lA,if_pos rfl]
  have aB:Old h1 hB:=by rw[eB,eA];exact(Old.push _ _).set _ (ab _) (by rw[<- eA];exact lA)
  have ldx:Wy hB h1.next 0 34=some (.agg ⟨x.cells⟩):=agW gB (by omega) (by omega);simp[t0,t2,t13,t14,t15,hlt',x1,x2,alA,xl,st,ldx,hF];refine hf hB (hold.trans aB) x (List.mem_of_getElem? hx) o _ (ob.sl.old aB) (by simp only[ae];omega) _ fun w h2 o2 a2 => ?_;simp[t0,t2,t13,t14,t15,hw];refine⟨l.length-(i+1),by omega,_,h2,w,i+1,rfl,by simp,by simp[t2],by simp[t13],by simp[t14],by simp,by omega,rfl,(hold.trans aB).trans a2,?_⟩;rw[Y7e hx,<- aM];exact o2.low (ai hold.1 aB.1)
 ·have hlt':¬ (i:Int) < (l.length:Int):=by omega
  have : i=l.length:=by omega
  subst this;rw[bc,aM]at ob;simp[t0,t2,t13,t14,t15];exact hk o h1 ob hold
end
def Jou(v fv:Value)(l:List OutV)(g:OutV->List Int)(p:List Int)(h:Heap)(k:Nat)(s:St):Prop:=∃ (t:Tr Value) (h1:Heap) (o:Value) (i:Nat),s=⟨⟨25,t⟩,[],h1⟩/\t.get 0=some o/\t.get 2=some fv/\t.get 13=some v/\t.get 14=some (.int .i64 (l.length:Int))/\t.get 15=some (.int .i64 (i:Int))/\i<=l.length/\k=l.length-i/\Old h h1/\OB h1 h.next o (p++(l.take i).flatMap g)
section
attribute [local simp] Jy
def Jm4(b:Nat){h:Heap}(laid:Ab.LaidIn h laidAll){bv v:Value}{xs:List Int}{l:List OutV}(sb:SB h bv xs)(s:Sl h 2 v l.length (Qpo l))(hn:l.length < 1000000)(g:OutV->List Int){f:FuncId}{F:Func}(hF:(E b).fn.get f=some F)(hl:xs.length+(l.flatMap g).length < 900000000)
  (hf:∀ h1,Old h h1->∀ x ∈ l,∀ bv1 ys,SB h1 bv1 ys->ys.length < 900000010->∀ K,(∀ w h2,OB h2 h1.next w (ys++g x)->Old h1 h2->K (.ret w) h2)->FK b f [bv1,.agg ⟨x.cells⟩] h1 K)
  (K:KP) (hk:∀ w h',OB h' h.next w (xs++(X9z l.length++l.flatMap g))->Old h h'->K (.ret w) h') :
  FK b 79 [bv,v,.func (.func f) #[] #[]] h K:=by
 refine F3 b (Qay b) X02 rfl ?_;have len:∀ hx,Qkc (E b).toEnv 29 v hx=some (.int .i64 (l.length:Int)):=fun hx=>Qa0 (T29 b) s;simp[Qhm,Qo4,Qay,Qlg,Qll,Qg1,Qa2,Qb9,Qjy,Qk2,len];refine Y4p b laid sb (n:=l.length) (by omega) (by omega) _ fun v0 h0 o0 a0 => ?_;have il:=Qyo l.length;simp[Qhm,Qo4,Qay,Qlg,Qll,Qg1,Qa2,Qb9,Qjy,Qk2,len];refine Qdf (Jou v (.func (.func f) #[] #[]) l g (xs++X9z l.length) h) l.length ⟨_,h0,v0,0,rfl,by simp,by simp,by simp,by simp,by simp,by omega,rfl,a0,by simpa using o0⟩ ?_;rintro k s' ⟨t,h1,o,i,rfl,t0,t2,t13,t14,t15,hi,rfl,hold,ob⟩ _;have fl:=Z2t g l i;by_cases hlt:i < l.length
 ·have hlt':(i:Int) < (l.length:Int):=by omega
  obtain⟨x,hx⟩:∃ x,l[i]? = some x:=⟨_,List.getElem?_eq_getElem hlt⟩;have hw:=wS (i:=i) (by omega);obtain⟨bk,off, -,x1,x2, -⟩:=Xjz (b:=b) (T29 b) Qjv (s.old hold) hx;obtain⟨zz,ez⟩:∃ zz:List Value,zz=R48.zero.cells.toList:=⟨_,rfl⟩;have zl:zz.length=2:=by rw[ez];kernel_rfl
  obtain⟨hA,eA⟩:∃ hA,hA=h1.push (.cells true 1 zz):=⟨_,rfl⟩;have alA:Qbx (E b).toEnv 48 h1=some (pO h1.next 0,hA):=by rw[eA,ez];simp only[Qbx,Zdt]
  have gA:hA.get h1.next=some (.cells true 1 zz):=by rw[eA,Heap.get_push,if_pos rfl]
  have lA:=Heap.get_lt gA;obtain⟨hB,eB⟩:∃ hB,hB=hA.set h1.next (some (.cells true 1 x.cells)):=⟨_,rfl⟩;have xl:x.cells.length=2:=OutV.len x;have st:Ur hA h1.next 0 x.cells=some hB:=by
   rw[Wh gA (by rw[zl,xl];omega),eB];congr 4;rw[xl];simp[zl]
  have gB:hB.get h1.next=some (.cells true 1 x.cells):=by rw[eB,gY lA,if_pos rfl]
  have aB:Old h1 hB:=by rw[eB,eA];exact(Old.push _ _).set _ (ab _) (by rw[<- eA];exact lA)
  have ldx:Wy hB h1.next 0 2=some (.agg ⟨x.cells⟩):=agW gB (by omega) (by omega);simp[Qhm,Qo4,Qay,Qlg,Qll,Qg1,Qa2,Qb9,Qjy,Qk2,t0,t2,t13,t14,t15,hlt',x1,x2,-Qa2,alA,xl,st,ldx,hF];refine hf hB (hold.trans aB) x (List.mem_of_getElem? hx) o _ (ob.sl.old aB) (by simp only[ae];omega) _ fun w h2 o2 a2 => ?_;simp[Qhm,Qo4,Qay,Qlg,Qll,Qg1,Qa2,Qb9,Qjy,Qk2,t0,t2,t13,t14,t15,hw];refine⟨l.length-(i+1),by omega,_,h2,w,i+1,rfl,by simp,by simp[t2],by simp[t13],by simp[t14],by simp,by omega,rfl,(hold.trans aB).trans a2,?_⟩;rw[Y7e hx,<- aM];exact o2.low (ai hold.1 aB.1)
 ·have hlt':¬ (i:Int) < (l.length:Int):=by omega
  have : i=l.length:=by omega
  subst this;rw[bc,aM]at ob;simp[Qhm,Qo4,Qay,Qlg,Qll,Qg1,Qa2,Qb9,Qjy,Qk2,t0,t2,t13,t14,t15];exact hk o h1 ob hold
def Jrv(b:Nat){h:Heap}(laid:Ab.LaidIn h laidAll){bv:Value}{ys:List Int}(x:InV)(hx:0<=x.pt.n/\x.pt.n<=8)(s:SB h bv ys)(hl:ys.length < 900000010)(K:KP)(hk:∀ w h',OB h' h.next w (ys++inB x.p)->Old h h'->K (.ret w) h') :
  FK b 77 [bv,.agg ⟨x.cells⟩] h K:=by
 refine F3 b (Qx5 b) Zdq rfl ?_;obtain⟨hA, -,bx,aA, -,gA,c32, -⟩:=Zi1 x h;have ldh:∀ {hx},Old hA hx->Wy hx h.next 0 32=some (.agg ⟨x.pt.id.map u8v⟩):=fun {hx} o=>by
  rw[V2 (o.get gA) (by rw[InV.len];omega),bB];have : x.cells.take 32=x.pt.id.map u8v:=by
   rw[InV.cells,Pt.cells,aM,aF (by simp[x.pt.hd]),aj (by simp[x.pt.hd])]
  rw[this]
 have ldn:∀ {hx},Old hA hx->Yw hx h.next 32=some (.int .i64 x.pt.n):=fun {hx} o=>by rw[Yi (o.get gA),Jux]
 have idl:(X5r x.pt.id).length=32:=by simp[X5r,x.pt.hd]
 obtain⟨_,hC,q1,n1,v1,rfl,o1,a1⟩:=Jm7 b (s.old aA) x.pt.hd (by omega) (fun r h' => ∃ v,r=.ret v/\OB h' hA.next v (ys++X5r x.pt.id)/\Old hA h') (fun v h' o a=>⟨v,rfl,o,a⟩);obtain⟨m,hm⟩:∃ m:Nat,x.pt.n=(m:Int):=⟨x.pt.n.toNat,by omega⟩;obtain⟨_,hD,q2,n2,v2,rfl,o2,a2⟩:=Y4p b (Laid.old laid (aA.trans a1)) o1.sl (n:=m) (by omega) (by rw[ae];omega) (fun r h' => ∃ v,r=.ret v/\OB h' hC.next v (ys++X5r x.pt.id++X9z m)/\Old hC h') (fun v h' o a=>⟨v,rfl,o,a⟩);have d0:=ldh (Old.refl hA);have d1:=ldn (Old.refl hA);have d2:=ldn a1;rw[hm]at d1 d2;simp[Qzr,Xil,Qx5,Yx,X13,Qg3,Qwx,Xk1,Vz,bx];refine Qem [⟨78,[bv,.agg ⟨x.pt.id.map u8v⟩],hA,v1,hC,true⟩,⟨66,[v1,.int .i64 (m:Int)],hC,v2,hD,true⟩] ?_ Yhg Yn9 Ygx (by simp[Yvx,Y3c,Y23,Qzr,Xil,Qx5,Yx,X13,Qg3,Qwx,Xk1,d0,d1,d2,Qud];exact⟨rfl,rfl⟩) ?_ ?_
 ·exact zk2 ⟨q1,n1,fun _ c hc=>a1.2 c hc⟩ ⟨q2,n2,fun _ c hc=>a2.2 c hc⟩
 ·simp[Ql6,Qzr,Xil,Qx5,Yx,X13,Qg3,Qwx,Xk1,d1,d2,Qwt]
 simp[Qzr,Xil,Qx5,Yx,X13,Qg3,Qwx,Xk1,Vz];refine hk v2 hD ?_ (aA.trans (a1.trans a2));have e:inB x.p=X5r x.pt.id++X9z m:=by
  show x.pt.id.map Int.ofNat++X9z x.pt.n.toNat=_;rw[hm];rfl
 rw[e,<- aM];exact o2.low (aA.trans a1).1
def Jnq(b:Nat){h:Heap}(laid:Ab.LaidIn h laidAll){bv:Value}{ys:List Int}{x:OutV}(hx:0<=x.value/\x.value<=1125899906842624)(a:OutAt h x)(s:SB h bv ys)(hl:ys.length < 900000010)(K:KP)(hk:∀ w h',OB h' h.next w (ys++Jg7 x.p)->Old h h'->K (.ret w) h') :
  FK b 80 [bv,.agg ⟨x.cells⟩] h K:=by
 refine F3 b (Qxh b) Zgg rfl ?_;obtain⟨hA,eA,aA,gA⟩:=Q2n h x.cells;have bx:=Qw8 eA;obtain⟨m,hm⟩:∃ m:Nat,x.value=(m:Int):=⟨x.value.toNat,by omega⟩;have il:=Qyo m;have ld0:∀ {hx},Old hA hx->Yw hx h.next 0=some (.int .i64 (m:Int)):=fun {hx} o=>by rw[Yi (o.get gA),<- hm];rfl
 have ld1:∀ {hx},Old hA hx->Yw hx h.next 1=some x.sv:=fun {hx} o=>by rw[Yi (o.get gA)];rfl
 obtain⟨_,hC,q1,n1,v1,rfl,o1,a1⟩:=Y4p b (Laid.old laid aA) (s.old aA) (n:=m) (by omega) (by omega) (fun r h' => ∃ v,r=.ret v/\OB h' hA.next v (ys++X9z m)/\Old hA h') (fun v h' o a=>⟨v,rfl,o,a⟩);obtain⟨_,hD,q2,n2,v2,rfl,o2,a2⟩:=Jaf b (Laid.old laid (aA.trans a1)) o1.sl ((a.s.old aA).old a1) (by rw[ae];omega) a.l (fun r h' => ∃ v,r=.ret v/\OB h' hC.next v (ys++X9z m++Yiq x.script)/\Old hC h') (fun v h' o a=>⟨v,rfl,o,a⟩);have d0:=ld0 (Old.refl hA);have d1:=ld1 (Old.refl hA);have d2:=ld1 a1;simp[Qzv,Xif,Qxh,Jo,Vz,Jv,Z8,Qwp,bx];refine Qem [⟨66,[bv,.int .i64 (m:Int)],hA,v1,hC,true⟩,⟨81,[v1,x.sv],hC,v2,hD,true⟩] ?_ Ygp Yp9 Yk8 (by simp[Ysk,Y60,Yz1,Qzv,Xif,Qxh,Jo,Jv,Z8,Qwp,d0,d1,d2,Qud];exact⟨rfl,rfl⟩) ?_ ?_
 ·exact zk2 ⟨q1,n1,fun _ c hc=>a1.2 c hc⟩ ⟨q2,n2,fun _ c hc=>a2.2 c hc⟩
 ·simp[Ql0,Qzv,Xif,Qxh,Jo,Jv,Z8,Qwp,d1,d2,Xpl a.s]
 simp[Qzv,Xif,Qxh,Jo,Vz,Jv,Z8,Qwp];refine hk v2 hD ?_ (aA.trans (a1.trans a2));have e:Jg7 x.p=X9z m++Yiq x.script:=by
  show X9z x.value.toNat++Yiq x.script=_;rw[hm];rfl
 rw[e,<- aM];exact o2.low (aA.trans a1).1
end
structure TxOk (t:PTx):Prop where
 insN:1<=t.ins.length/\t.ins.length<=8
 outsN:1<=t.outs.length/\t.outs.length<=8
 far:∀ x ∈ t.ins,0<=x.pt.n/\x.pt.n<=8
 lock:0<=t.lock/\t.lock<=1073741824
 pts:(t.ins.map (·.pt)).Nodup
 vals:X9e t.outs 1125899906842624=true
 script:∀ o ∈ t.outs,o.script.length<=256
 wit:∀ x ∈ t.ins,x.wit.length<=16/\∀ w ∈ x.wit,w.length<=64
def Yoj{n a b:Int}:inF n a b=true↔a<=n/\n<=b:=by simp[inF]
def Xzb{t:PTx}(h:Qzx t=0):TxOk t:=by
 unfold Qzx at h;split at h
 ·cases h
 rename_i h1;split at h
 ·cases h
 rename_i h2;split at h
 ·cases h
 rename_i h3;split at h
 ·cases h
 rename_i h4;split at h
 ·cases h
 rename_i h5;simp only[bM,bS,not_or,da,Bool.not_eq_true,Yoj]at h1 h2 h3 h4 h5;have hf:∀ x ∈ t.ins,Jhi x=false:=fun x hx=>by
  have:=cf.1 h2.1 x hx;simpa using this
 have hl:∀ x ∈ t.outs,Zbr x=false:=fun x hx=>by
  have:=cf.1 h5.1 x hx;simpa using this
 have hw:∀ x ∈ t.ins,Zb6 x=false:=fun x hx=>by
  have:=cf.1 h5.2 x hx;simpa using this
 refine⟨by omega,by omega,fun x hx => ?_,h2.2,by simpa using h3,h4,fun o ho => ?_,fun x hx => ?_⟩
 ·have:=hf x hx;simpa[Jhi,Yoj]using this
 ·have:=hl o ho;simp only[Zbr,decide_eq_false_iff_not]at this;omega
 ·have:=hw x hx;simp only[Zb6,Bool.or_eq_false_iff,decide_eq_false_iff_not]at this;refine⟨by omega,fun w hw => ?_⟩;have:=cf.1 this.2 w hw;simp only[decide_eq_true_eq]at this;omega
def Z1o:∀ {l:List POut} {left:Int},X9e l left=true->left<=1125899906842624->∀ o ∈ l,1<=o.value/\o.value<=1125899906842624
 | [],_,_,_,o,ho=>by cases ho
 | p::l,left,h,hle,o,ho=>by
  unfold X9e at h;split at h
  ·cases h
  ·rename_i hp;rcases ap.1 ho with rfl | ho
   ·omega
   ·exact Z1o h (by omega) o ho
def Ymd{A:Type}{g:A->List Int}{m:Nat}:∀ {l:List A},(∀ x ∈ l,(g x).length<=m)->(l.flatMap g).length<=l.length*m
 | [],_=>by simp
 | x::l,h=>by
  have h1:=h x (by simp);have h2:=Ymd (g:=g) (l:=l) fun y hy=>h y (by simp[hy]);rw[d9,ae,aS,bF];omega
def Jmi(x:PIn):(inB x).length<=41:=by
 have:=Qyo x.pt.n.toNat;simp[inB,x.pt.hd];omega
def Ji5{o:POut}(h:o.script.length<=256):(Jg7 o).length<=274:=by
 have:=Qyo o.value.toNat;have:=Qyo o.script.length;simp[Jg7,Yiq];omega
def flat_map' {A B:Type}(f:A->B)(g:B->List Int)(l:List A):(l.map f).flatMap g=l.flatMap fun x=>g (f x):=by
 rw[List.flatMap_map]
def Xfj{xs ys:List Int}(h1:Bytes xs)(h2:Bytes ys):Bytes (xs++ys):=fun z hz=>by
 rcases al.1 hz with q | q
 ·exact h1 z q
 ·exact h2 z q
def Y2u{t:PTx}(k:TxOk t):(Yps t).length<=4096:=by
 have h1:=Qyo t.ins.length;have h2:=Qyo t.outs.length;have h3:=Qyo t.lock.toNat;have h4:=Ymd (g:=inB) (l:=t.ins) (m:=41) fun x _=>Jmi x;have h5:=Ymd (g:=Jg7) (l:=t.outs) (m:=274) fun x hx=>Ji5 (k.script x hx);have h6:=k.insN;have h7:=k.outsN;simp only[Yps,ae];omega
section
attribute [local simp] Qxj Xcw Qfr V4 V7 Vw Ym Vm Qbl Jf Qal Qay Ud Jy
def Z12(b:Nat){h:Heap}(laid:Ab.LaidIn h laidAll){iv ov:Value}{ins:List InV}{outs:List OutV}{lock:Int}(si:Ins h iv ins)(so:Outs h ov outs)(K:KP)
  (hbad:∀ h',Qzx (ptx ins outs lock)≠0->Old h h'->K (.ret (.tuple #[.slice none 0 0,.int .i64 (Qzx (ptx ins outs lock))])) h')
  (hk:∀ v h',Qzx (ptx ins outs lock)=0->OB h' h.next v (Yps (ptx ins outs lock))->Old h h'->K (.ret (.tuple #[v,.int .i64 0])) h') :
  FK b 51 [.agg ⟨txC iv ov lock⟩] h K:=by
 refine F3 b (Qfr b) Zy9 rfl ?_;obtain⟨hA,eA,aA,gA⟩:=Q2n h ((txC iv ov lock));have bx:=Qw8 eA;have ldt:Wy hA h.next 0 3=some (.agg ⟨txC iv ov lock⟩):=by rw[V2 gA (by simp[txC])];rfl
 have cs:∀ {hx:Heap},Old hA hx->Yw hx h.next 0=some iv/\Yw hx h.next 1=some ov/\Yw hx h.next 2=some (.int .i64 lock):=fun {hx} o=>by
  have:=o.get gA;exact⟨by rw[Yi this];rfl,by rw[Yi this];rfl,by rw[Yi this];rfl⟩
 simp[bx,ldt];refine Z4l b (si.old aA) (so.old aA) _ fun h1 a1 => ?_;by_cases hc:Qzx (ptx ins outs lock)=0
 case neg =>
  simp[hc];exact hbad h1 hc (aA.trans a1)
 have k:=Xzb hc;rw[hc];obtain⟨c0, -, -⟩:=cs a1;simp[c0,Qx5];have kl:=Y2u k;have e1:(ptx ins outs lock).ins.flatMap inB=ins.flatMap fun x=>inB x.p:=flat_map' _ _ _;have e2:(ptx ins outs lock).outs.flatMap Jg7=outs.flatMap fun x=>Jg7 x.p:=flat_map' _ _ _;have n1:(ptx ins outs lock).ins.length=ins.length:=by simp[ptx]
 have n2:(ptx ins outs lock).outs.length=outs.length:=by simp[ptx]
 have e3:Yps (ptx ins outs lock)=X9z ins.length++(ins.flatMap fun x=>inB x.p)++(X9z outs.length++outs.flatMap fun x=>Jg7 x.p)++X9z lock.toNat:=by
  unfold Yps;rw[e1,e2,n1,n2];rfl
 rw[e3]at kl;simp only[ae]at kl;have a01:=aA.trans a1;refine Jr3 b (Laid.old laid a01) (xs:=[]) Sl.nil (si.s.old a01) si.n (fun x=>inB x.p) (Qx5 b) (by simp only[cd];omega) (fun h2 a2 x hx bv1 ys s1 hl K hk=>Jrv b (Laid.old laid (a01.trans a2)) x (k.far x.p (am.2 ⟨x,hx,rfl⟩)) s1 hl K hk) _ fun v2 h2 o2 a2 => ?_;obtain⟨-,c1, -⟩:=cs (a1.trans a2);simp[c1,Qxh];have a02:=a01.trans a2;refine Jm4 b (Laid.old laid a02) o2.sl (so.s.old a02) so.n (fun x=>Jg7 x.p) (Qxh b) (by simp only[ae,cd];omega) (fun h3 a3 x hx bv1 ys s1 hl K hk=>Jnq b (Laid.old laid (a02.trans a3)) (by have:=Z1o k.vals (Int.le_refl _) x.p (am.2 ⟨x,hx,rfl⟩);exact⟨by have:=this.1;show(0:Int)<=x.p.value;omega,this.2⟩) (((so.old a02).old a3).a x hx) s1 hl K hk) _ fun v3 h3 o3 a3 => ?_;obtain⟨-, -,c2⟩:=cs ((a1.trans a2).trans a3);obtain⟨m,hm⟩:∃ m:Nat,lock=(m:Int):=⟨lock.toNat,by have:=k.lock.1;show lock=_;simp only[ptx]at this;omega⟩;rw[hm]at c2;have hlk:=k.lock.2;simp only[ptx]at hlk;simp[c2];have a03:=a02.trans a3;refine Y4p b (Laid.old laid a03) o3.sl (n:=m) (by omega) (by simp only[ae,cd];omega) _ fun v4 h4 o4 a4 => ?_;simp;refine hk v4 h4 hc ?_ (a03.trans a4);rw[e3,show lock.toNat=m by omega];have q:=o4.low (a03.1);rw[dU]at q;exact q
end
def Js7(s:List Nat)(l:List Nat):List Nat:=Bl.keyed1 [] (Bl.keyed1 [] s++l)
def Zig(s l:List Nat):(Js7 s l).length=32:=Qu2 _
def Z75(s:ByteArray):(Xuy s).length=s.size:=by
 simp[Xuy]
def Jim(b:Nat){s:ByteArray}{l:List Nat}(hs:Xuy s=l.map u8v)(h:Heap):Xla (E b).toEnv 9 45 (.string s) h=some (.slice (some ⟨h.next,0,none⟩) l.length Ql9,h.push (.cells true 1 (l.map u8v))):=by
 obtain⟨rs,hrs⟩:∃ rs,(E b).toEnv.ty.get 9=some rs:=⟨((E b).toEnv.ty.get 9).getD ⟨.invalid,0,0,.bool false,[]⟩,by kernel_rfl⟩;have h1:R45.desc=.slice 5:=(T45 b).d;have h3:R5.desc=.int .u8:=kR
 have hl:s.size=l.length:=by rw[<- Z75,hs,aL]
 simp only[Xla,hrs,Xp4,h1,Z58,h3,hs,hl]
section
attribute [local simp] Qyt Xes Qlh Z4g Xx Wi
def Jab(b:Nat){h:Heap}(laid:Ab.LaidIn h laidAll){s:ByteArray}{l d:List Nat}(hs:Xuy s=l.map u8v)(hl:l.length < 1000){v:Value}(sv:SN h v d)(hd:d.length < 1000000)(K:KP)(hk:∀ h',Old h h'->K (.ret (.agg ⟨(Js7 l d).map u8v⟩)) h') :
  FK b 75 [.string s,v] h K:=by
 refine F3 b (Qlh b) Ynn rfl ?_;obtain⟨hA,eA,aA,gA⟩:=Q2n h z32;have alA:Qbx (E b).toEnv 59 h=some (pO h.next 0,hA):=by rw[eA];exact Us b h
 obtain⟨hB,eB,aB,gB⟩:=Q2n hA ((l.map u8v));have cv:=Jim b hs hA;rw[<- eB]at cv;have sB:SN hB (.slice (some ⟨hA.next,0,none⟩) l.length Ql9) l:=(Own.new (n0:=0) (z:=1) (bn _) gB (by simp) (by unfold Ql9;omega) (.inl ⟨rfl,rfl⟩)).sl;simp[Us,-Us,alA,cv];have aAB:=aA.trans aB;refine Z5a b (Xn6 (Laid.old laid aAB)) sB (by omega) _ fun h1 a1 => ?_;obtain⟨dg,hdg⟩:∃ dg,dg=Bl.keyed1 [] l:=⟨_,rfl⟩;have dl:dg.length=32:=by rw[hdg];exact Qu2 _
 rw[<- hdg];have a01:=aAB.trans a1;obtain⟨hC,eC⟩:∃ hC,hC=h1.push (.cells true 1 z32):=⟨_,rfl⟩;have alC:Qbx (E b).toEnv 59 h1=some (pO h1.next 0,hC):=by rw[eC];exact Us b h1
 have gC:hC.get h1.next=some (.cells true 1 z32):=by rw[eC,Heap.get_push,if_pos rfl]
 have lC:=Heap.get_lt gC;obtain⟨hD,eD⟩:∃ hD,hD=hC.set h1.next (some (.cells true 1 (dg.map u8v))):=⟨_,rfl⟩;have stD:Ur hC h1.next 0 (dg.map u8v)=some hD:=by
  rw[Wh gC (by simp[z32,dl]),eD];congr 4;simp[z32,dl]
 have gD:hD.get h1.next=some (.cells true 1 (dg.map u8v)):=by rw[eD,gY lC,if_pos rfl]
 have aD:Old h1 hD:=by rw[eD,eC];exact(Old.push _ _).set _ (ab _) (by rw[<- eC];exact lC)
 have a0D:=a01.trans aD;have oD:Own hD h1.next 1 (.slice (some ⟨h1.next,0,none⟩) 32 32) 32 (dg.map u8v):=Own.new (ab _) gD (by simp[dl]) (by decide) (.inr rfl);obtain⟨v',h2,k1,k2,k3⟩:=Xcu (T45 b) (tx:=45) (m:=d.length) Qjp (by omega) oD aD.1 (Ymy (T45 b) Qjp (sv.old a0D)) (by simp) (by rw[Q6l];omega) (by omega);have a2:Old h1 h2:=k3.old aD oD;simp[Us,-Us,alC,dl,stD,Yxp,k1];have s2:SN h2 v' (dg++d):=by
  have:=k2.sl;rw[SN,ae,aR,dl];exact this
 have a02:=a01.trans a2;refine Z5a b (Xn6 (Laid.old laid a02)) s2 (by simp[dl];omega) _ fun h3 a3 => ?_;obtain⟨dt,hdt⟩:∃ dt,dt=Bl.keyed1 [] (dg++d):=⟨_,rfl⟩;have tl:dt.length=32:=by rw[hdt];exact Qu2 _
 have te:dt=Js7 l d:=by rw[hdt,hdg];rfl
 rw[<- hdt];have a03:=a02.trans a3;have g3:h3.get h.next=some (.cells true 1 z32):=(((aB.trans a1).trans a2).trans a3).get gA;have l3:=Heap.get_lt g3;have st3:Ur h3 h.next 0 (dt.map u8v)=some (h3.set h.next (some (.cells true 1 (dt.map u8v)))):=by
  rw[Wh g3 (by simp[z32,tl])];congr 4;simp[z32,tl]
 have ld3:Wy (h3.set h.next (some (.cells true 1 (dt.map u8v)))) h.next 0 32=some (.agg ⟨dt.map u8v⟩):=by
  rw[V2 (by rw[gY l3,if_pos rfl]) (by simp[tl]),bB,aj (by simp[tl])]
 simp[Us,Qg3,tl,st3,ld3];rw[te];exact hk _ (a03.set _ (ab _) l3)
end
def dgF(s:List Nat)(t:PTx):List Nat:=if Qzx t=0 then Js7 s (Zqa (Yps t))else List.replicate 32 0
def X1a(s:List Nat)(t:PTx):(dgF s t).length=32:=by
 unfold dgF;split
 ·exact Zig _ _
 ·simp
def Zh8(l:List Nat)(h:∀ n ∈ l,n < 256):Bytes (X5r l):=fun z hz=>by
 obtain⟨n,hn,rfl⟩:=am.1 hz;have:=h n hn;show(0:Int)<=(n:Int)/\(n:Int) < 256;omega
def PtB(p:Pt):Prop:=∀ n ∈ p.id,n < 256
def Z2b{t:PTx}(hi:∀ x ∈ t.ins,PtB x.pt)(ho:∀ o ∈ t.outs,Bytes o.script):Bytes (Yps t):=by
 have fm:∀ {A:Type} (g:A->List Int) (l:List A),(∀ x ∈ l,Bytes (g x))->Bytes (l.flatMap g):=fun g l h z hz=>by
  obtain⟨x,hx,hz⟩:=cN.1 hz;exact h x hx z hz
 unfold Yps;refine Xfj (Xfj (Xfj (Xcx _) (fm _ _ fun x hx => ?_)) (Xfj (Xcx _) (fm _ _ fun o h => ?_))) (Xcx _)
 ·exact Xfj (Zh8 _ (hi x hx)) (Xcx _)
 ·exact Xfj (Xcx _) (Xfj (Xcx _) (ho o h))
section
attribute [local simp] Q0o Xi0 Qql V4 Qfr Qbo Qlh Wi
def Z5k(b:Nat){h:Heap}(laid:Ab.LaidIn h laidAll){s:ByteArray}{l:List Nat}(hs:Xuy s=l.map u8v)(hl:l.length < 1000){iv ov:Value}{ins:List InV}{outs:List OutV}{lock:Int}(si:Ins h iv ins)(so:Outs h ov outs)(hp:∀ x ∈ ins,PtB x.pt)(K:KP)
  (hk:∀ h',Old h h'->K (.ret (.agg ⟨(dgF l (ptx ins outs lock)).map u8v⟩)) h'):FK b 49 [.string s,.agg ⟨txC iv ov lock⟩] h K:=by
 refine F3 b (Qql b) Zfw rfl ?_;obtain⟨hA,eA,aA,gA⟩:=Q2n h ((txC iv ov lock));have nA:=Q8i eA;have bx:=Qw8 eA;obtain⟨hB,eB,aB,gB⟩:=Q2n hA z32;have alB:Qbx (E b).toEnv 59 hA=some (pO hA.next 0,hB):=by rw[eB];exact Us b hA
 have aAB:=aA.trans aB;have ldt:Wy hB h.next 0 3=some (.agg ⟨txC iv ov lock⟩):=by rw[V2 (aB.get gA) (by simp[txC])];rfl
 simp[Us,bx,-Us,alB,ldt];have fin:∀ (h1:Heap) (dt:List Nat),Old hB h1->dt.length=32->∃ h2,Ur h1 hA.next 0 (dt.map u8v)=some h2/\Wy h2 hA.next 0 32=some (.agg ⟨dt.map u8v⟩)/\Old h h2:=by
  intro h1 dt a1 tl;have g3:=a1.get gB;have l3:=Heap.get_lt g3;refine⟨h1.set hA.next (some (.cells true 1 (dt.map u8v))),?_,?_,(aAB.trans a1).set _ (by omega) l3⟩
  ·rw[Wh g3 (by simp[z32,tl])];congr 4;simp[z32,tl]
  ·rw[V2 (by rw[gY l3,if_pos rfl]) (by simp[tl]),bB,aj (by simp[tl])]
 refine Z12 b (Laid.old laid aAB) (si.old aAB) (so.old aAB) _ (fun h1 hc a1 => ?_) (fun v h1 hc o1 a1 => ?_)
 ·obtain⟨zd,ezd⟩:∃ zd:List Nat,zd=List.replicate 32 0:=⟨_,rfl⟩;obtain⟨h2,k1,k2,k3⟩:=fin h1 zd a1 (by rw[ezd];simp);have zh:Qn1 (E b).toEnv 59 []=some (.agg ⟨zd.map u8v⟩):=by rw[ezd];kernel_rfl
  have rl:zd.length=32:=by rw[ezd];simp
  simp[Us,hc,zh,rl,k1,Qg3,k2];have:=hk h2 k3;unfold dgF at this;rw[if_neg hc,<- ezd]at this;exact this
 ·have k:=Xzb hc;have kl:=Y2u k;have kb:Bytes (Yps (ptx ins outs lock)):=Z2b (fun x hx=>by
   obtain⟨y,hy,rfl⟩:=am.1 hx;exact hp y hy) (fun o ho=>by
   obtain⟨y,hy,rfl⟩:=am.1 ho;exact(so.a y hy).b)
  simp[Us];refine Jab b (Laid.old laid (aAB.trans a1)) hs hl (SN.of o1.sl kb) (by simp;omega) _ fun h2 a2 => ?_;obtain⟨h3,k1,k2,k3⟩:=fin h2 _ (a1.trans a2) (Zig l ((Yps (ptx ins outs lock)).map Int.toNat));simp[Us,Qg3,Zig,k1,k2];have:=hk h3 k3;unfold dgF at this;rw[if_pos hc]at this;exact this
end
def X5s:List Nat:=[115,105,103,110]
section
attribute [local simp] Xl7 Yrb Vt V4 Qql Wi
def Zrs(b:Nat){h:Heap}(laid:Ab.LaidIn h laidAll){iv ov:Value}{ins:List InV}{outs:List OutV}{lock:Int}(si:Ins h iv ins)(so:Outs h ov outs)(hp:∀ x ∈ ins,PtB x.pt)(K:KP)
  (hk:∀ h',Old h h'->K (.ret (.agg ⟨(dgF X5s (ptx ins outs lock)).map u8v⟩)) h'):FK b 44 [.agg ⟨txC iv ov lock⟩] h K:=by
 refine F3 b (Vt b) Y7x rfl ?_;obtain⟨hA,eA,aA,gA⟩:=Q2n h ((txC iv ov lock));have nA:=Q8i eA;have bx:=Qw8 eA;obtain⟨hB,eB,aB,gB⟩:=Q2n hA z32;have alB:Qbx (E b).toEnv 59 hA=some (pO hA.next 0,hB):=by rw[eB];exact Us b hA
 have aAB:=aA.trans aB;have ldt:Wy hB h.next 0 3=some (.agg ⟨txC iv ov lock⟩):=by rw[V2 (aB.get gA) (by simp[txC])];rfl
 simp[Us,bx,-Us,alB,ldt];refine Z5k b (l:=X5s) (Laid.old laid aAB) rfl (by simp[X5s]) (si.old aAB) (so.old aAB) hp _ fun h1 a1 => ?_;obtain⟨dt,hdt⟩:∃ dt,dt=dgF X5s (ptx ins outs lock):=⟨_,rfl⟩;have tl:dt.length=32:=by rw[hdt];exact X1a _ _
 rw[<- hdt]at hk ⊢;have g3:=a1.get gB;have l3:=Heap.get_lt g3;have st3:Ur h1 hA.next 0 (dt.map u8v)=some (h1.set hA.next (some (.cells true 1 (dt.map u8v)))):=by
  rw[Wh g3 (by simp[z32,tl])];congr 4;simp[z32,tl]
 have ld3:Wy (h1.set hA.next (some (.cells true 1 (dt.map u8v)))) hA.next 0 32=some (.agg ⟨dt.map u8v⟩):=by
  rw[V2 (by rw[gY l3,if_pos rfl]) (by simp[tl]),bB,aj (by simp[tl])]
 simp[Us,Qg3,tl,st3,ld3];exact hk _ ((aAB.trans a1).set _ (by omega) l3)
end
end Go.Proofs.YtapodfgjkmddlaaGreatDoor
end
