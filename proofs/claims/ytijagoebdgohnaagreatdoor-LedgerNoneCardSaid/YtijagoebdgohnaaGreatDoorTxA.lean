import Derived.Test.YtijagoebdgohnaaGreatDoorFA
import Derived.Test.YtijagoebdgohnaaGreatDoorScB
set_option linter.all false
noncomputable section
namespace Go.Proofs.YtijagoebdgohnaaGreatDoor
open Go Go.Ab
set_option maxRecDepth 100000
structure Pt where
 id:List Nat
 n:Int
 hd:id.length=32
def Pt.cells(p:Pt):List Value:=p.id.map u8v ++ [.int .i64 p.n]
def Pt.len(p:Pt):p.cells.length=33:=by simp[Pt.cells,p.hd]
def Pt.ext' {p q:Pt}(h1:p.id=q.id)(h2:p.n=q.n):p=q:=by
 cases p;cases q;simp only at h1 h2;subst h1;subst h2;rfl
instance : DecidableEq Pt:=fun p q=>if h:p.id=q.id/\p.n=q.n then isTrue (Pt.ext' h.1 h.2)else isFalse fun e=>h (by rw[e];exact⟨rfl,rfl⟩)
def Qnf(l:List Pt):List Value:=l.flatMap Pt.cells
def Yb5(l:List Pt):(Qnf l).length=l.length*33:=by
 induction l with
 | nil=>rfl
 | cons p l ih=>simp[Qnf,Pt.len]at ih ⊢;omega
def X83:∀ (xs ys:List Nat) (l:List Nat) (r s:List Value),xs.length=ys.length->Qal (List.replicate xs.length 1++l) (xs.map u8v++r) (ys.map u8v++s)=(Qal l r s).map (decide (xs=ys) && ·)
 | [],[],l,r,s,_=>by
  simp
 | x::xs,y::ys,l,r,s,h=>by
  have ih:=X83 xs ys l r s (by simpa using h);simp only[bH,cZ,aR,List.cons_append,Qal,ih];have : Ylh 1 (u8v x) (u8v y)=some (decide (x=y)):=by
   show(if IntKind.u8=IntKind.u8 then some ((x:Int) == (y:Int))else none)=_;simp only[if_true];congr 1;by_cases e:x=y
   ·subst e;simp
   ·simp[e];omega
  rw[this];cases Qal l r s with
  | none=>rfl
  | some c=>simp[Bool.and_assoc]
def Jk5(p q:Pt):Qal L53 p.cells q.cells=some (decide (p=q)):=by
 have:=X83 p.id q.id [1] [.int .i64 p.n] [.int .i64 q.n] (by rw[p.hd,q.hd]);rw[p.hd]at this;have e:Qal L53 p.cells q.cells=Qal (List.replicate 32 1 ++ [1]) (p.id.map u8v ++ [.int .i64 p.n]) (q.id.map u8v ++ [.int .i64 q.n]):=by
  congr 1
  kernel_rfl
 rw[e,this];have e2:Qal [1] [Value.int .i64 p.n] [.int .i64 q.n]=some (decide (p.n=q.n)):=by
  show(match some (p.n == q.n),some true with | some a,some b=>some (a && b) | _,_=>none)=_;simp;rfl
 rw[e2];show some (decide (p.id=q.id) && decide (p.n=q.n))=_;congr 1;by_cases h:p=q
 ·subst h;simp
 ·have : ¬ (p.id=q.id/\p.n=q.n):=fun⟨a,c⟩=>h (Pt.ext' a c);simp[h];intro a c;exact this ⟨a,c⟩
def peq(b:Nat)(p q:Pt):Y40 (E b).toEnv .eql 53 (.agg ⟨p.cells⟩) (.agg ⟨q.cells⟩)=some (.bool (decide (p=q))):=by
 have e:Y40 (E b).toEnv .eql 53 (.agg ⟨p.cells⟩) (.agg ⟨q.cells⟩)=(Qal L53 p.cells q.cells).map .bool:=kR
 rw[e,Jk5];rfl
def Yk6:∀ {l:List Pt} {i:Nat} {p:Pt},l[i]? = some p->∀ j,j < 33->(Qnf l)[i*33+j]? = p.cells[j]?
 | q::l,0,p,h,j,hj=>by
  simp at h;subst h;show(q.cells++Qnf l)[0*33+j]? = _;rw[aM (by rw[Pt.len];omega)];congr 1;omega
 | q::l,i+1,p,h,j,hj=>by
  have ih:=Yk6 (l:=l) (i:=i) (p:=p) (by simpa using h) j hj;show(q.cells++Qnf l)[(i+1)*33+j]? = _;rw[aS (by rw[Pt.len];omega),Pt.len,show(i+1)*33+j-33=i*33+j by omega];exact ih
def Z85{b:Nat}{te ts:TypeId}{re rs:TyRec}(T:SlTy (E b).toEnv te ts re rs)(hz:re.size=33){h:Heap}{v:Value}{l:List Pt}(s:Sl h 33 v l.length (Qnf l)){i:Nat}{p:Pt}(hp:l[i]? = some p) :
  ∃ bk off,Jx (E b).toEnv ts v (.int .i64 (i:Int))=some (.pointer (some ⟨bk,off,none⟩))/\Qb9 h bk off 33=some (.agg ⟨p.cells⟩):=by
 have hl:=(au.1 hp).1;obtain⟨bk,off,q1,q2,q3,q4⟩:=Xc9 T hz s (k:=.i64) (i:=(i:Int)) (by omega) (by omega);refine⟨bk,off,q2,?_⟩;rw[q4];congr 3;rw[bo];apply dN;intro j;by_cases hj:j < 33
 ·rw[dP hj,cN,Yk6 hp j hj]
 ·rw[bm (by simp;omega),bm (by rw[Pt.len];omega)]
structure PE where
 key:Pt
 val:Value
 born:Nat
def PE.e(x:PE):MapEntry:=⟨.agg ⟨x.key.cells⟩,x.val,x.born⟩
def Q28(p:Pt):List PE->Nat->Option (Nat × Value)
 | [],_=>none
 | x::l,j=>if p=x.key then some (j,x.val)else Q28 p l (j+1)
def Zv2(p:Pt):∀ (l:List PE) (j:Nat),Xsz L53 p.cells (l.map PE.e) j=some (Q28 p l j)
 | [],_=>rfl
 | x::l,j=>by
  have hc:Zda x.e.key=some x.key.cells:=rfl;simp only[aR,Xsz,hc,Jk5,Q28];by_cases h:p=x.key
  ·simp[h];rfl
  ·simp only[h,decide_false,if_false];exact Zv2 p l (j+1)
def Zcy(p:Pt)(l:List PE):Yeb R53 (.agg ⟨p.cells⟩) (l.map PE.e)=some (Q28 p l 0):=by
 obtain⟨fs,hd⟩:∃ fs,R53.desc=.struct fs:=⟨(match R53.desc with | .struct fs=>fs | _ => #[]),by kernel_rfl⟩;have hl:R53.leaf=1::List.replicate 32 1:=kR
 have h0:=Zv2 p l 0;rw[show L53=1::List.replicate 32 1 by kernel_rfl]at h0;have hb:Nat.beq p.cells.length (1::List.replicate 32 1).length=true:=by rw[p.len];rfl
 simp only[Yeb,hd,hl,hb];exact h0
def Yjf{p:Pt}:∀ {l:List PE} {j:Nat},Q28 p l j=none ↔ ∀ x ∈ l,x.key≠p
 | [],_=>by simp[Q28]
 | x::l,j=>by
  unfold Q28;by_cases h:p=x.key
  ·simp[h]
  ·rw[if_neg h,Yjf];simp;exact fun _ q=>h q.symm
def Xlp{p:Pt}:∀ {l:List PE} {j i:Nat} {v:Value},Q28 p l j=some (i,v)->∃ x,l[i-j]? = some x/\j<=i/\x.key=p/\x.val=v
 | [],_,_,_,h=>by cases h
 | x::l,j,i,v,h=>by
  unfold Q28 at h;by_cases hk:p=x.key
  ·rw[if_pos hk]at h;cases h;exact⟨x,by simp,ae _,hk.symm,rfl⟩
  ·rw[if_neg hk]at h;obtain⟨y,h1,h2,h3,h4⟩:=Xlp h;refine⟨y,?_,by omega,h3,h4⟩;rw[show i-j=(i-(j+1))+1 by omega,bY];exact h1
def Zmf(p:Pt):∀ v ∈ p.cells,∃ k z,v=.int k z:=by
 intro v hv;rcases ac.1 hv with h | h
 ·obtain⟨n,_,rfl⟩:=ao.1 h;exact⟨_,_,rfl⟩
 ·simp at h;exact⟨_,_,h⟩
def Zk1:∀ {l:List Value},(∀ v ∈ l,∃ k z,v=.int k z)->flatL l=true/\l.all (·.oneCell')=true
 | [],_=>⟨by simp[flatL],rfl⟩
 | v::l,h=>by
  obtain⟨k,z,rfl⟩:=h v (by simp);obtain⟨h1,h2⟩:=Zk1 (l:=l) fun w hw=>h w (by simp[hw]);exact⟨by simp[flatL,flat,h1],by simpa[Value.oneCell']using h2⟩
def Zas(p:Pt):flat (.agg ⟨p.cells⟩)=true:=by
 obtain⟨h1,h2⟩:=Zk1 (Zmf p);simp only[flat,flatA,h1,h2,Bool.and_self]
def Jbj(p:Pt):Instr.sameBits 10000 (.agg ⟨p.cells⟩) (.agg ⟨p.cells⟩)=true:=by
 show Instr.sameBits (9999+1) (.agg _) (.agg _)=true;simp only[Instr.sameBits,beq_self_eq_true,dC,dh];have key:∀ (l:List Value) (x:Value × Value),x ∈ l.zip l->x.1=x.2/\x.1 ∈ l:=by
  intro l;induction l with
  | nil=>intro x hx;simp at hx
  | cons a l ih =>
   intro x hx;simp only[List.zip_cons_cons,ax]at hx;rcases hx with rfl | hx
   ·exact⟨rfl,by simp⟩
   ·exact⟨(ih x hx).1,by simp[(ih x hx).2]⟩
 rintro⟨a,c⟩ hx;obtain⟨h1,h2⟩:=key _ _ hx;simp only at h1 h2;subst h1;obtain⟨k,z,rfl⟩:=Zmf p a h2;simp[Instr.sameBits]
def Z1l(p:Pt)(v:Value):List PE->List PE
 | []=>[]
 | x::l=>if p=x.key then {x with val:=v}::l else x::Z1l p v l
def Yzq{p:Pt}(v:Value):∀ {l:List PE} {j i:Nat} {w:Value},Q28 p l j=some (i,w)->(l.map PE.e).modify (i-j) (fun e=>{e with key:=.agg ⟨p.cells⟩,val:=v})=(Z1l p v l).map PE.e
 | [],_,_,_,h=>by cases h
 | x::l,j,i,w,h=>by
  unfold Q28 at h;unfold Z1l;by_cases hk:p=x.key
  ·rw[if_pos hk]at h ⊢;cases h;rw[Nat.sub_self];simp[PE.e,hk]
  ·rw[if_neg hk]at h ⊢;obtain⟨y,h1,h2,h3,h4⟩:=Xlp h;rw[show i-j=(i-(j+1))+1 by omega,aR,List.modify_succ_cons,Yzq v h,aR]
section
variable{b:Nat}{tm te:TypeId}{rm:TyRec}(he:(E b).toEnv.ty.get tm=some rm)(hd:rm.desc=.map 53 te)
include he hd
def Z47{h:Heap}{mb clk:Nat}{l:List PE}(hm:h.get mb=some (.map ⟨l.map PE.e⟩ clk)){p:Pt}(hf:Q28 p l 0=none)(v:Value) :
  Qgl (E b).toEnv tm (.map (some mb)) (.agg ⟨p.cells⟩) v h=some (h.set mb (some (.map ⟨(l ++ [(⟨p,v,clk⟩:PE)]).map PE.e⟩ (clk+1)))):=by
 have hq:=Zcy p l;rw[hf]at hq;simp only[Qgl,he,hd,hm,Ymv,Zas,hq];simp[PE.e]
def Zly{h:Heap}{mb clk:Nat}{l:List PE}(hm:h.get mb=some (.map ⟨l.map PE.e⟩ clk)){p:Pt}{i:Nat}{w:Value}(hf:Q28 p l 0=some (i,w))(v:Value) :
  Qgl (E b).toEnv tm (.map (some mb)) (.agg ⟨p.cells⟩) v h=some (h.set mb (some (.map ⟨(Z1l p v l).map PE.e⟩ clk))):=by
 have hq:=Zcy p l;obtain⟨x,hx, -,hk, -⟩:=Xlp hf;rw[dq]at hx;have e0:(((⟨l.map PE.e⟩:Array MapEntry)[i]?).map (·.key)).getD (.agg ⟨p.cells⟩)=.agg ⟨p.cells⟩:=by
  have : (⟨l.map PE.e⟩:Array MapEntry)[i]? = some x.e:=by
   show(l.map PE.e).toArray[i]? = _;rw[List.getElem?_toArray,bf,hx];rfl
  rw[this];simp[PE.e,hk]
 have e1:=Yzq v hf;rw[dq]at e1;rw[hf]at hq;simp only[Qgl,he,hd,hm,Ymv,Zas,hq,e0,Jbj];congr 4;rw[<- e1];simp
def Jet{h:Heap}{mb clk:Nat}{l:List PE}(hm:h.get mb=some (.map ⟨l.map PE.e⟩ clk)){re:TyRec}(hee:(E b).toEnv.ty.get te=some re)(p:Pt) :
  Qoh (E b).toEnv tm (.map (some mb)) (.agg ⟨p.cells⟩) false h=some (match Q28 p l 0 with | some q=>q.2 | none=>re.zero) /\
  Qoh (E b).toEnv tm (.map (some mb)) (.agg ⟨p.cells⟩) true h=some (match Q28 p l 0 with | some q => .tuple #[q.2,.bool true] | none => .tuple #[re.zero,.bool false]):=by
 have hf:=Zcy p l;constructor
 ·simp only[Qoh,he,hd,Ymv,hee,Q2z,hm,hf];cases Q28 p l 0 <;> simp
 ·simp only[Qoh,he,hd,Ymv,hee,Q2z,hm,hf];cases Q28 p l 0 <;> simp
def Jcf{h:Heap}{mb clk:Nat}{es:Array MapEntry}(hm:h.get mb=some (.map es clk)):Qne (E b).toEnv tm (.map (some mb)) h=some (.int .i64 es.size):=by
 simp only[Qne,he,hd,hm]
def Zvj{h:Heap}:Q4s (E b).toEnv tm none h=some (.map (some h.next),h.push (.map #[] 0)):=by
 simp only[Q4s,he,hd]
end
structure PIn where
 pt:Pt
 wit:List (List Int)
structure POut where
 value:Int
 script:List Int
structure PTx where
 ins:List PIn
 outs:List POut
 lock:Int
def inF(n least most:Int):Bool:=decide (least<=n/\n<=most)
def X2c:List POut->Int->Bool
 | [],_=>true
 | o::l,left=>if o.value < 1∨left < o.value then false else X2c l (left-o.value)
def Z75(x:PIn):Bool := !inF x.pt.n 0 8
def Y44(o:POut):Bool:=decide (256 < o.script.length)
def Y3m(x:PIn):Bool:=decide (16 < x.wit.length) || x.wit.any fun w=>decide (64 < w.length)
def Qu2(t:PTx):Int :=
 if !inF t.ins.length 1 8 || !inF t.outs.length 1 8 then 3
 else if t.ins.any Z75 || !inF t.lock 0 1073741824 then 1
 else if !decide (t.ins.map (·.pt)).Nodup then 13
 else if !X2c t.outs 1125899906842624 then 15
 else if t.outs.any Y44 || t.ins.any Y3m then 5
 else 0
def leN:Nat->Nat->List Int
 | 0,_=>[]
 | k+1,n=>((n % 256:Nat):Int)::leN k (n / 256)
def Yd9(n:Nat):List Int:=if n < 253 then [(n:Int)]else if n < 65536 then 253::leN 2 n else if n < 4294967296 then 254::leN 4 n else 255::leN 8 n
def Zbw:∀ k n,(leN k n).length=k
 | 0,_=>rfl
 | k+1,n=>by simp[leN,Zbw k]
def Ye5:∀ k n,∀ z ∈ leN k n,0<=z/\z < 256
 | 0,_,z,h=>by cases h
 | k+1,n,z,h=>by
  rcases ax.1 h with rfl | h
  ·omega
  ·exact Ye5 k _ z h
def Q4m(n:Nat):(Yd9 n).length<=9:=by
 unfold Yd9;split
 ·simp
 ·split
  ·simp[Zbw]
  ·split <;> simp[Zbw]
def Xah(n:Nat):Bytes (Yd9 n):=by
 unfold Yd9 Bytes;intro z hz;split at hz
 ·simp at hz;omega
 ·split at hz
  ·rcases ax.1 hz with rfl | hz
   ·omega
   ·exact Ye5 _ _ z hz
  ·split at hz
   ·rcases ax.1 hz with rfl | hz
    ·omega
    ·exact Ye5 _ _ z hz
   ·rcases ax.1 hz with rfl | hz
    ·omega
    ·exact Ye5 _ _ z hz
def inB(x:PIn):List Int:=x.pt.id.map Int.ofNat++Yd9 x.pt.n.toNat
def Zt1(l:List Int):List Int:=Yd9 l.length++l
def Z5p(o:POut):List Int:=Yd9 o.value.toNat++Zt1 o.script
def Yk5(t:PTx):List Int:=Yd9 t.ins.length++t.ins.flatMap inB++(Yd9 t.outs.length++t.outs.flatMap Z5p)++Yd9 t.lock.toNat
structure InV where
 pt:Pt
 wv:Value
 its:List (Value × List Int)
def InV.cells(x:InV):List Value:=x.pt.cells ++ [x.wv]
def InV.p(x:InV):PIn:=⟨x.pt,x.its.map (·.2)⟩
structure OutV where
 value:Int
 sv:Value
 script:List Int
def OutV.cells(o:OutV):List Value:=[.int .i64 o.value,o.sv]
def OutV.p(o:OutV):POut:=⟨o.value,o.script⟩
def Qd3(l:List InV):List Value:=l.flatMap InV.cells
def Qna(l:List OutV):List Value:=l.flatMap OutV.cells
def InV.len(x:InV):x.cells.length=34:=by simp[InV.cells,Pt.len]
def OutV.len(x:OutV):x.cells.length=2:=rfl
def Ya7(l:List InV):(Qd3 l).length=l.length*34:=by
 induction l with
 | nil=>rfl
 | cons p l ih=>simp[Qd3,InV.len]at ih ⊢;omega
structure InAt (h:Heap) (x:InV):Prop where
 w:Sl h 1 x.wv x.its.length (x.its.map (·.1))
 i:ItsAt h x.its
 n:x.its.length < 1000000
 l:∀ p ∈ x.its,p.2.length < 1000000
structure OutAt (h:Heap) (x:OutV):Prop where
 s:SB h x.sv x.script
 b:Bytes x.script
 l:x.script.length < 1000000
def InAt.old{h h':Heap}{x:InV}(a:InAt h x)(o:Old h h'):InAt h' x:=⟨a.w.old o,a.i.old o,a.n,a.l⟩
def OutAt.old{h h':Heap}{x:OutV}(a:OutAt h x)(o:Old h h'):OutAt h' x:=⟨a.s.old o,a.b,a.l⟩
structure Ins (h:Heap) (v:Value) (l:List InV):Prop where
 s:Sl h 34 v l.length (Qd3 l)
 n:l.length < 1000000
 a:∀ x ∈ l,InAt h x
structure Outs (h:Heap) (v:Value) (l:List OutV):Prop where
 s:Sl h 2 v l.length (Qna l)
 n:l.length < 1000000
 a:∀ x ∈ l,OutAt h x
def Ins.old{h h':Heap}{v:Value}{l:List InV}(a:Ins h v l)(o:Old h h'):Ins h' v l:=⟨a.s.old o,a.n,fun x hx=>(a.a x hx).old o⟩
def Outs.old{h h':Heap}{v:Value}{l:List OutV}(a:Outs h v l)(o:Old h h'):Outs h' v l:=⟨a.s.old o,a.n,fun x hx=>(a.a x hx).old o⟩
def txC(iv ov:Value)(lock:Int):List Value:=[iv,ov,.int .i64 lock]
def ptx(ins:List InV)(outs:List OutV)(lock:Int):PTx:=⟨ins.map InV.p,outs.map OutV.p,lock⟩
def Yi1{A:Type}{f:A->List Value}{z:Nat}(hf:∀ x,(f x).length=z):∀ {l:List A} {i:Nat} {x:A},l[i]? = some x->((l.flatMap f).drop (i*z)).take z=f x
 | y::l,0,x,h=>by
  simp at h;subst h;rw[Nat.zero_mul,bX,List.flatMap_cons,bD (by rw[hf];omega),aJ (by rw[hf];omega)]
 | y::l,i+1,x,h=>by
  rw[List.flatMap_cons,show(i+1)*z=z+i*z by rw[cf];omega,<- cB];have : (f y++l.flatMap f).drop z=l.flatMap f:=by
   rw[<- hf y,cy]
  rw[this];exact Yi1 hf (by simpa using h)
def Znb{A:Type}{f:A->List Value}{z:Nat}(hf:∀ x,(f x).length=z){l:List A}{i:Nat}{x:A}(h:l[i]? = some x){j:Nat}(hj:j < z):(l.flatMap f)[i*z+j]? = (f x)[j]? := by
 rw[<- Yi1 hf h,dP hj,cN]
def Yd2{b:Nat}{te ts:TypeId}{re rs:TyRec}(T:SlTy (E b).toEnv te ts re rs)(hz:re.size=34){h:Heap}{v:Value}{l:List InV}(s:Sl h 34 v l.length (Qd3 l)){i:Nat}{x:InV}(hp:l[i]? = some x) :
  ∃ bk off,J6 v=some bk/\Jx (E b).toEnv ts v (.int .i64 (i:Int))=some (.pointer (some ⟨bk,off,none⟩))/\Qb9 h bk off 34=some (.agg ⟨x.cells⟩)/\(∀ j,j < 34->J3 h bk (off+j)=x.cells[j]?):=by
 have hl:=(au.1 hp).1;obtain⟨bk,off,q1,q2,q3,q4⟩:=Xc9 T hz s (k:=.i64) (i:=(i:Int)) (by omega) (by omega);refine⟨bk,off,q1,q2,?_,fun j hj => ?_⟩
 ·rw[q4,bo,Qd3,Yi1 InV.len hp]
 ·rw[q3 j hj,bo,Qd3,Znb InV.len hp hj]
def Xhg{b:Nat}{te ts:TypeId}{re rs:TyRec}(T:SlTy (E b).toEnv te ts re rs)(hz:re.size=2){h:Heap}{v:Value}{l:List OutV}(s:Sl h 2 v l.length (Qna l)){i:Nat}{x:OutV}(hp:l[i]? = some x) :
  ∃ bk off,J6 v=some bk/\Jx (E b).toEnv ts v (.int .i64 (i:Int))=some (.pointer (some ⟨bk,off,none⟩))/\Qb9 h bk off 2=some (.agg ⟨x.cells⟩)/\J3 h bk off=some (.int .i64 x.value)/\J3 h bk (off+1)=some x.sv:=by
 have hl:=(au.1 hp).1;obtain⟨bk,off,q1,q2,q3,q4⟩:=Xc9 T hz s (k:=.i64) (i:=(i:Int)) (by omega) (by omega);have q5:∀ j,j < 2->J3 h bk (off+j)=x.cells[j]? := fun j hj=>by rw[q3 j hj,bo,Qna,Znb OutV.len hp hj]
 refine⟨bk,off,q1,q2,?_,?_,?_⟩
 ·rw[q4,bo,Qna,Yi1 OutV.len hp]
 ·have:=q5 0 (by omega);simpa[OutV.cells]using this
 ·have:=q5 1 (by omega);simpa[OutV.cells]using this
def Yrf(x:InV):x.cells.take 33=x.pt.cells:=by
 rw[InV.cells,bD (by rw[Pt.len];omega),aJ (by rw[Pt.len];omega)]
def Zfo{A:Type}{q:A->Bool}{l:List A}{i:Nat}{x:A}(hx:l[i]? = some x)(h0:(l.take i).any q=false):(l.take (i+1)).any q=q x:=by
 rw[bn,hx];simp[h0]
def Z4i{A:Type}{q:A->Bool}{l:List A}{i:Nat}{x:A}(hx:l[i]? = some x)(hq:q x=true):l.any q=true:=List.any_eq_true.2 ⟨x,ak hx,hq⟩
def Jj4(v fv:Value)(l:List InV)(q:InV->Bool)(h:Heap)(k:Nat)(s:St):Prop:=∃ (t:Tr Value) (h1:Heap) (i:Nat),s=⟨⟨19,t⟩,[],h1⟩/\t.get 0=some v/\t.get 1=some fv/\t.get 7=some (.int .i64 (l.length:Int))/\t.get 8=some (.int .i64 (i:Int))/\i<=l.length/\k=l.length-i/\(l.take i).any q=false/\Old h h1
attribute [local simp] Xn kON kOC Xp kNN kNP kRR kRP kEN kER Q4 Xb Z5 Yk aop Qe nth Ab.g0 gv gs Qb Qa aev evs evO Qf Tr.get_put St.put Tm.put flat flatA Yj Qk Qn Ql Qm Qi Qj Qh Qr Qg Q5 Q6 kTN kTR kTX kTP kBN kBR kBX kBP kCS kCR kCE kAM Xo.putAll Qy Q9 Q3 Q0 Q8 Qc Qd Q1 Q2 Q7 Ya Wl Yx ldv Nat.testBit Z7 loadAt Ab.runT U2 J1 Zc Yr Vh
section
attribute [local simp] Ub
def Jch(b:Nat){h:Heap}{v:Value}{l:List InV}{f:FuncId}{F:Func}(hF:(E b).fn.get f=some F){cap:List Value}(s:Sl h 34 v l.length (Qd3 l))(hn:l.length < 1000000)(q:InV->Bool)
  (hf:∀ h1,Old h h1->∀ x ∈ l,∀ K,(∀ h2,Old h1 h2->K (.ret (.bool (q x))) h2)->FK b f (.agg ⟨x.cells⟩::cap) h1 K)
  (K:KP) (hk:∀ (i:Int) h',Old h h'->(0<=i↔l.any q=true)->K (.ret (.int .i64 i)) h') :
  FK b 97 [v,.func (.func f) #[] cap.toArray] h K:=by
 refine F3 b (Ub b) Qym rfl ?_;have len:∀ hx,Qne (E b).toEnv 30 v hx=some (.int .i64 (l.length:Int)):=fun hx=>Qbq (T30 b) s;simp[W7,Qbf,Qb3,W6,Xt,Qav,Qay,Qo0,Qai,Xv,Qaj,Qak,len];refine Qfs (Jj4 v (.func (.func f) #[] cap.toArray) l q h) l.length ⟨_,h,0,rfl,by simp,by simp,by simp,by simp,by omega,rfl,by simp,Old.refl _⟩ ?_;rintro k s' ⟨t,h1,i,rfl,t0,t1,t7,t8,hi,rfl,hno,hold⟩ _;by_cases hlt:i < l.length
 ·have hlt':(i:Int) < (l.length:Int):=by omega
  obtain⟨x,hx⟩:∃ x,l[i]? = some x:=⟨_,ab hlt⟩;have hw:=wS (i:=i) (by omega);obtain⟨bk,off, -,x1,x2, -⟩:=Yd2 (b:=b) (T30 b) Qma (s.old hold) hx;simp[W7,Qbf,Qb3,W6,Xt,Qav,Qay,Qo0,Qai,Xv,Qaj,Qak,t0,t1,t7,t8,hlt',x1,x2,hF];refine hf h1 hold x (ak hx) _ fun h2 a2 => ?_;cases hq:q x with
  | true =>
   simp[W7,Qbf,Qb3,W6,Xt,Qav,Qay,Qo0,Qai,Xv,Qaj,Qak,t0,t1,t7,t8];exact hk i h2 (hold.trans a2) ⟨fun _=>Z4i hx hq,fun _=>by omega⟩
  | false =>
   simp[W7,Qbf,Qb3,W6,Xt,Qav,Qay,Qo0,Qai,Xv,Qaj,Qak,t0,t1,t7,t8,hw];exact⟨l.length-(i+1),by omega,_,h2,i+1,rfl,by simp[t0],by simp[t1],by simp[t7],by simp,by omega,rfl,by rw[Zfo hx hno,hq],hold.trans a2⟩
 ·have hlt':¬ (i:Int) < (l.length:Int):=by omega
  have : i=l.length:=by omega
  subst this;rw[bJ]at hno;simp[W7,Qbf,Qb3,W6,Xt,Qav,Qay,Qo0,Qai,Xv,Qaj,Qak,t0,t1,t7,t8];exact hk (-1) h1 hold ⟨fun e=>by omega,fun e=>by rw[hno]at e;cases e⟩
def Y8j(b:Nat){h:Heap}{v:Value}{l:List InV}{f:FuncId}{F:Func}(hF:(E b).fn.get f=some F){cap:List Value}(s:Sl h 34 v l.length (Qd3 l))(hn:l.length < 1000000)(q:InV->Bool)
  (hf:∀ h1,Old h h1->∀ x ∈ l,∀ K,(∀ h2,Old h1 h2->K (.ret (.bool (q x))) h2)->FK b f (.agg ⟨x.cells⟩::cap) h1 K)
  (K:KP) (hk:∀ h',Old h h'->K (.ret (.bool (l.any q))) h') :
  FK b 74 [v,.func (.func f) #[] cap.toArray] h K:=by
 refine F3 b (Yf b) Qv0 rfl ?_;simp[Qfm,Qn1,Yf,Qlp,Qro];refine Jch b hF s hn q hf _ fun i h1 a1 hi => ?_;simp[Qfm,Qn1,Yf,Qlp,Qro];have:=hk h1 a1;cases hq:l.any q with
 | true =>
  have h0:=hi.2 hq;rw[hq]at this;simpa[h0]using this
 | false =>
  have h0:¬ 0<=i:=fun e=>by have:=hi.1 e;rw[hq]at this;cases this
  rw[hq]at this;simpa[h0]using this
end
def Jed(v fv:Value)(l:List OutV)(q:OutV->Bool)(h:Heap)(k:Nat)(s:St):Prop:=∃ (t:Tr Value) (h1:Heap) (i:Nat),s=⟨⟨19,t⟩,[],h1⟩/\t.get 0=some v/\t.get 1=some fv/\t.get 7=some (.int .i64 (l.length:Int))/\t.get 8=some (.int .i64 (i:Int))/\i<=l.length/\k=l.length-i/\(l.take i).any q=false/\Old h h1
section
attribute [local simp] Vs
def Z60(b:Nat){h:Heap}{v:Value}{l:List OutV}{f:FuncId}{F:Func}(hF:(E b).fn.get f=some F){cap:List Value}(s:Sl h 2 v l.length (Qna l))(hn:l.length < 1000000)(q:OutV->Bool)
  (hf:∀ h1,Old h h1->∀ x ∈ l,∀ K,(∀ h2,Old h1 h2->K (.ret (.bool (q x))) h2)->FK b f (.agg ⟨x.cells⟩::cap) h1 K)
  (K:KP) (hk:∀ (i:Int) h',Old h h'->(0<=i↔l.any q=true)->K (.ret (.int .i64 i)) h') :
  FK b 98 [v,.func (.func f) #[] cap.toArray] h K:=by
 refine F3 b (Vs b) Qw6 rfl ?_;have len:∀ hx,Qne (E b).toEnv 27 v hx=some (.int .i64 (l.length:Int)):=fun hx=>Qbq (T27 b) s;simp[Us,Qas,Qa4,Qbm,Xt,Qa6,Qa7,Qfp,Wz,Xv,Wx,Wv,len];refine Qfs (Jed v (.func (.func f) #[] cap.toArray) l q h) l.length ⟨_,h,0,rfl,by simp,by simp,by simp,by simp,by omega,rfl,by simp,Old.refl _⟩ ?_;rintro k s' ⟨t,h1,i,rfl,t0,t1,t7,t8,hi,rfl,hno,hold⟩ _;by_cases hlt:i < l.length
 ·have hlt':(i:Int) < (l.length:Int):=by omega
  obtain⟨x,hx⟩:∃ x,l[i]? = some x:=⟨_,ab hlt⟩;have hw:=wS (i:=i) (by omega);obtain⟨bk,off, -,x1,x2, -⟩:=Xhg (b:=b) (T27 b) Qi0 (s.old hold) hx;simp[Us,Qas,Qa4,Qbm,Xt,Qa6,Qa7,Qfp,Wz,Xv,Wx,Wv,t0,t1,t7,t8,hlt',x1,x2,hF];refine hf h1 hold x (ak hx) _ fun h2 a2 => ?_;cases hq:q x with
  | true =>
   simp[Us,Qas,Qa4,Qbm,Xt,Qa6,Qa7,Qfp,Wz,Xv,Wx,Wv,t0,t1,t7,t8];exact hk i h2 (hold.trans a2) ⟨fun _=>Z4i hx hq,fun _=>by omega⟩
  | false =>
   simp[Us,Qas,Qa4,Qbm,Xt,Qa6,Qa7,Qfp,Wz,Xv,Wx,Wv,t0,t1,t7,t8,hw];exact⟨l.length-(i+1),by omega,_,h2,i+1,rfl,by simp[t0],by simp[t1],by simp[t7],by simp,by omega,rfl,by rw[Zfo hx hno,hq],hold.trans a2⟩
 ·have hlt':¬ (i:Int) < (l.length:Int):=by omega
  have : i=l.length:=by omega
  subst this;rw[bJ]at hno;simp[Us,Qas,Qa4,Qbm,Xt,Qa6,Qa7,Qfp,Wz,Xv,Wx,Wv,t0,t1,t7,t8];exact hk (-1) h1 hold ⟨fun e=>by omega,fun e=>by rw[hno]at e;cases e⟩
def Zsd(b:Nat){h:Heap}{v:Value}{l:List OutV}{f:FuncId}{F:Func}(hF:(E b).fn.get f=some F){cap:List Value}(s:Sl h 2 v l.length (Qna l))(hn:l.length < 1000000)(q:OutV->Bool)
  (hf:∀ h1,Old h h1->∀ x ∈ l,∀ K,(∀ h2,Old h1 h2->K (.ret (.bool (q x))) h2)->FK b f (.agg ⟨x.cells⟩::cap) h1 K)
  (K:KP) (hk:∀ h',Old h h'->K (.ret (.bool (l.any q))) h') :
  FK b 77 [v,.func (.func f) #[] cap.toArray] h K:=by
 refine F3 b (Y9 b) Qtw rfl ?_;simp[Qen,Qlo,Y9,Qkm,Qro];refine Z60 b hF s hn q hf _ fun i h1 a1 hi => ?_;simp[Qen,Qlo,Y9,Qkm,Qro];have:=hk h1 a1;cases hq:l.any q with
 | true =>
  have h0:=hi.2 hq;rw[hq]at this;simpa[h0]using this
 | false =>
  have h0:¬ 0<=i:=fun e=>by have:=hi.1 e;rw[hq]at this;cases this
  rw[hq]at this;simpa[h0]using this
end
def Jjl(v fv:Value)(l:List (Value × List Int))(q:(Value × List Int)->Bool)(h:Heap)(k:Nat)(s:St):Prop:=∃ (t:Tr Value) (h1:Heap) (i:Nat),s=⟨⟨19,t⟩,[],h1⟩/\t.get 0=some v/\t.get 1=some fv/\t.get 7=some (.int .i64 (l.length:Int))/\t.get 8=some (.int .i64 (i:Int))/\i<=l.length/\k=l.length-i/\(l.take i).any q=false/\Old h h1
section
attribute [local simp] Uv
def Jcd(b:Nat){h:Heap}{v:Value}{l:List (Value × List Int)}{f:FuncId}{F:Func}(hF:(E b).fn.get f=some F){cap:List Value}(s:Sl h 1 v l.length (l.map (·.1)))(hn:l.length < 1000000)(q:(Value × List Int)->Bool)
  (hf:∀ h1,Old h h1->∀ x ∈ l,∀ K,(∀ h2,Old h1 h2->K (.ret (.bool (q x))) h2)->FK b f (x.1::cap) h1 K)
  (K:KP) (hk:∀ (i:Int) h',Old h h'->(0<=i↔l.any q=true)->K (.ret (.int .i64 i)) h') :
  FK b 96 [v,.func (.func f) #[] cap.toArray] h K:=by
 refine F3 b (Uv b) Q27 rfl ?_;have len:∀ hx,Qne (E b).toEnv 69 v hx=some (.int .i64 (l.length:Int)):=fun hx=>Qbq (T69 b) s;simp[Qam,Qd8,Qip,Xt,J7,Xv,len];refine Qfs (Jjl v (.func (.func f) #[] cap.toArray) l q h) l.length ⟨_,h,0,rfl,by simp,by simp,by simp,by simp,by omega,rfl,by simp,Old.refl _⟩ ?_;rintro k s' ⟨t,h1,i,rfl,t0,t1,t7,t8,hi,rfl,hno,hold⟩ _;by_cases hlt:i < l.length
 ·have hlt':(i:Int) < (l.length:Int):=by omega
  obtain⟨x,hx⟩:∃ x,l[i]? = some x:=⟨_,ab hlt⟩;have hw:=wS (i:=i) (by omega);obtain⟨bk,off, -,x1,x3, -⟩:=Xc9 (T69 b) Qpr (s.old hold) (k:=.i64) (i:=(i:Int)) (by omega) (by omega);have x2:J3 h1 bk off=some x.1:=by
   have:=x3 0 (by omega);simpa[hx]using this
  simp[Qam,Qd8,Qip,Xt,J7,Xv,t0,t1,t7,t8,hlt',x1,x2,hF];refine hf h1 hold x (ak hx) _ fun h2 a2 => ?_;cases hq:q x with
  | true =>
   simp[Qam,Qd8,Qip,Xt,J7,Xv,t0,t1,t7,t8];exact hk i h2 (hold.trans a2) ⟨fun _=>Z4i hx hq,fun _=>by omega⟩
  | false =>
   simp[Qam,Qd8,Qip,Xt,J7,Xv,t0,t1,t7,t8,hw];exact⟨l.length-(i+1),by omega,_,h2,i+1,rfl,by simp[t0],by simp[t1],by simp[t7],by simp,by omega,rfl,by rw[Zfo hx hno,hq],hold.trans a2⟩
 ·have hlt':¬ (i:Int) < (l.length:Int):=by omega
  have : i=l.length:=by omega
  subst this;rw[bJ]at hno;simp[Qam,Qd8,Qip,Xt,J7,Xv,t0,t1,t7,t8];exact hk (-1) h1 hold ⟨fun e=>by omega,fun e=>by rw[hno]at e;cases e⟩
def Zyh(b:Nat){h:Heap}{v:Value}{l:List (Value × List Int)}{f:FuncId}{F:Func}(hF:(E b).fn.get f=some F){cap:List Value}(s:Sl h 1 v l.length (l.map (·.1)))(hn:l.length < 1000000)(q:(Value × List Int)->Bool)
  (hf:∀ h1,Old h h1->∀ x ∈ l,∀ K,(∀ h2,Old h1 h2->K (.ret (.bool (q x))) h2)->FK b f (x.1::cap) h1 K)
  (K:KP) (hk:∀ h',Old h h'->K (.ret (.bool (l.any q))) h') :
  FK b 72 [v,.func (.func f) #[] cap.toArray] h K:=by
 refine F3 b (Qa8 b) Qzv rfl ?_;simp[Qha,Qpp,Qa8,Qro];refine Jcd b hF s hn q hf _ fun i h1 a1 hi => ?_;simp[Qha,Qpp,Qa8,Qro];have:=hk h1 a1;cases hq:l.any q with
 | true =>
  have h0:=hi.2 hq;rw[hq]at this;simpa[h0]using this
 | false =>
  have h0:¬ 0<=i:=fun e=>by have:=hi.1 e;rw[hq]at this;cases this
  rw[hq]at this;simpa[h0]using this
end
section
def Yg1(b:Nat)(n lo hi:Int)(h:Heap)(K:KP)(hk:K (.ret (.bool (inF n lo hi))) h):FK b 69 [.int .i64 n,.int .i64 lo,.int .i64 hi] h K:=by
 refine F3 b (Wy b) Y20 rfl ?_;unfold inF at hk;by_cases h1:lo<=n
 ·by_cases h2:n<=hi
  ·simp[Q4o,Xxt,Wy,Qro,Qvq,Xhu,Xdr,h1,h2];simpa[h1,h2]using hk
  ·simp[Q4o,Xxt,Wy,Qro,Qvq,Xhu,Xdr,h1,h2];simpa[h1,h2]using hk
 ·simp[Q4o,Xxt,Wy,Qro,Qvq,Xhu,Xdr,h1];simpa[h1]using hk
def Jk6(x:InV):x.cells[32]? = some (.int .i64 x.pt.n):=by
 have : (x.pt.id.map u8v++([.int .i64 x.pt.n] ++ [x.wv]))[32]? = some (.int .i64 x.pt.n):=by
  rw[aS (by simp[x.pt.hd])];simp[x.pt.hd]
 simpa[InV.cells,Pt.cells]using this
def Jib(x:InV):x.cells[33]? = some x.wv:=by
 rw[InV.cells,aS (by rw[Pt.len];omega),Pt.len];rfl
def Z4l(x:InV)(h:Heap):∃ h',h'=h.push (.cells true 1 x.cells)/\Zqi (.agg ⟨x.cells⟩) h=some (.pointer (some ⟨h.next,0,none⟩),h')/\Old h h'/\h'.next=h.next+1/\h'.get h.next=some (.cells true 1 x.cells)/\J3 h' h.next 32=some (.int .i64 x.pt.n)/\J3 h' h.next 33=some x.wv:=by
 have g:(h.push (.cells true 1 x.cells)).get h.next=some (.cells true 1 x.cells):=by rw[Heap.get_push,if_pos rfl]
 exact⟨_,rfl,rfl,Old.push _ _,rfl,g,by rw[Za g,Jk6],by rw[Za g,Jib]⟩
def Jfm(b:Nat)(x:InV)(h:Heap)(K:KP)(hk:∀ h',Old h h'->K (.ret (.bool (Z75 x.p))) h'):FK b 68 [.agg ⟨x.cells⟩] h K:=by
 refine F3 b (Q9f b) Yro rfl ?_;obtain⟨hA, -,bx,aA, -, -,c32, -⟩:=Z4l x h;simp[Xdd,Ycz,Q9f,V9,Xh1,U2,Wy,bx,c32];refine Yg1 b x.pt.n 0 8 hA _ ?_;simp[Xdd,Ycz,Q9f,V9,Xh1,U2,Wy];exact hk hA aA
def Jd2(b:Nat){v:Value}{xs:List Int}{h:Heap}(s:SB h v xs)(K:KP)(hk:K (.ret (.bool (decide (64 < xs.length)))) h):FK b 70 [v] h K:=by
 refine F3 b (Xpv b) Yxo rfl ?_;have len:=fun hx=>Qoa (b:=b) (h1:=hx) s;simp[X1d,Zbu,Xpv,Jw,Zo,len];have e:decide ((64:Int) < (xs.length:Int))=decide (64 < xs.length):=by rw[decide_eq_decide];omega
 rw[e];exact hk
def Jcg(b:Nat){x:InV}{h:Heap}(a:InAt h x){C:Nat}{z:Nat}(gC:h.get C=some (.cells true z [.func (.func 70) #[] #[]]))(K:KP)(hk:∀ h',Old h h'->K (.ret (.bool (Y3m x.p))) h') :
  FK b 71 [.agg ⟨x.cells⟩,.pointer (some ⟨C,0,none⟩)] h K:=by
 refine F3 b (Q24 b) Yu0 rfl ?_;obtain⟨hA, -,bx,aA, -, -, -,c33⟩:=Z4l x h;have len:∀ hx,Qne (E b).toEnv 69 x.wv hx=some (.int .i64 (x.its.length:Int)):=fun hx=>Qbq (T69 b) a.w;have cC:J3 hA C 0=some (.func (.func 70) #[] #[]):=by rw[Za (aA.get gC)];rfl
 unfold Y3m at hk;by_cases hl:16 < x.its.length
 ·have hl':(16:Int) < (x.its.length:Int):=by omega
  simp[Q0x,Xn2,Q24,Qd4,Qh8,Qip,Zo,Z13,Qa8,Xbm,Q6x,bx,c33,len,hl'];have:=hk hA aA;simpa[InV.p,hl]using this
 ·have hl':¬ (16:Int) < (x.its.length:Int):=by omega
  simp[Q0x,Xn2,Q24,Qd4,Qh8,Qip,Zo,Z13,Qa8,Xbm,Q6x,bx,c33,len,hl',cC];refine Zyh b (Xpv b) (cap:=[]) (a.w.old aA) a.n (fun p=>decide (64 < p.2.length)) (fun h1 a1 p hp K hk=>Jd2 b (((a.i.old aA).old a1) p hp).1 K (hk h1 (Old.refl _))) _ fun h1 a1 => ?_;simp[Q0x,Xn2,Q24,Qd4,Qh8,Qip,Zo,Z13,Qa8,Xbm,Q6x];have:=hk h1 (aA.trans a1);have e:(x.p.wit.any fun w=>decide (64 < w.length))=x.its.any fun p=>decide (64 < p.2.length):=by
   simp[InV.p,List.any_map];rfl
  rw[e]at this;simpa[InV.p,hl]using this
def Jbd(b:Nat){o:OutV}{h:Heap}(a:OutAt h o)(K:KP)(hk:∀ h',Old h h'->K (.ret (.bool (Y44 o.p))) h'):FK b 73 [.agg ⟨o.cells⟩] h K:=by
 refine F3 b (Xs6 b) Yzl rfl ?_;obtain⟨hA,eA,aA,gA⟩:=Q5u h o.cells;have bx:=Q0e eA;have c1:J3 hA h.next 1=some o.sv:=by rw[Za gA];rfl
 have len:=fun hx=>Qoa (b:=b) (h1:=hx) a.s;simp[Xx9,Zb1,Xs6,Ve,J7,Jw,Zo,bx,c1,len];have e:decide ((256:Int) < (o.script.length:Int))=Y44 o.p:=by
  show _=decide (256 < o.script.length);rw[decide_eq_decide];omega
 rw[e];exact hk hA aA
end
def VLI(v:Value)(l:List OutV)(h:Heap)(k:Nat)(s:St):Prop:=∃ (t:Tr Value) (h1:Heap) (i:Nat) (left:Int),s=⟨⟨26,t⟩,[],h1⟩/\t.get 3=some (.int .i64 left)/\t.get 6=some v/\t.get 7=some (.int .i64 (l.length:Int))/\t.get 8=some (.int .i64 (i:Int))/\i<=l.length/\k=l.length-i/\Old h h1/\0<=left/\left<=1125899906842624/\X2c (l.map OutV.p) 1125899906842624=X2c ((l.drop i).map OutV.p) left
section
attribute [local simp] Qtk Q5j Wt Qxq Qbm Qyk Xt Qxr Qfp Qah V7 Zo Qv8 Qt0 Qv6 Jl Xv
def Z2b(b:Nat){h:Heap}{v:Value}{l:List OutV}(s:Outs h v l)(K:KP)(hk:∀ h',Old h h'->K (.ret (.bool (X2c (l.map OutV.p) 1125899906842624))) h'):FK b 76 [v] h K:=by
 refine F3 b (Wt b) Y2b rfl ?_;have hn:=s.n;have len:∀ hx,Qne (E b).toEnv 27 v hx=some (.int .i64 (l.length:Int)):=fun hx=>Qbq (T27 b) s.s;simp[W8,len];refine Qfs (VLI v l h) l.length ⟨_,h,0,1125899906842624,rfl,by simp,by simp,by simp,by simp,by omega,rfl,Old.refl _,by omega,by omega,by simp⟩ ?_;rintro k s' ⟨t,h1,i,left,rfl,t3,t6,t7,t8,hi,rfl,hold,l0,l1,hF⟩ _;by_cases hlt:i < l.length
 ·have hlt':(i:Int) < (l.length:Int):=by omega
  obtain⟨x,hx⟩:∃ x,l[i]? = some x:=⟨_,ab hlt⟩;have hd:l.drop i=x::l.drop (i+1):=by
   rw[bF hlt];rw[ab hlt]at hx;rw[bE hx]
  rw[hd]at hF;simp only[aR,X2c]at hF;have hw:=wS (i:=i) (by omega);obtain⟨bk,off, -,x1,x2, -⟩:=Xhg (b:=b) (T27 b) Qi0 (s.s.old hold) hx;obtain⟨zz,ez⟩:∃ zz:List Value,zz=[.int .i64 0,.slice none 0 0]:=⟨_,rfl⟩;obtain⟨hA,eA⟩:∃ hA,hA=h1.push (.cells true 1 zz):=⟨_,rfl⟩;have alA:Qbd (E b).toEnv 60 h1=some (.pointer (some ⟨h1.next,0,none⟩),hA):=by rw[eA,ez];exact W8 b h1
  have gA:hA.get h1.next=some (.cells true 1 zz):=by rw[eA,Heap.get_push,if_pos rfl]
  have lA:=Heap.get_lt gA;obtain⟨hB,eB⟩:∃ hB,hB=hA.set h1.next (some (.cells true 1 x.cells)):=⟨_,rfl⟩;have st:Ul hA h1.next 0 x.cells=some hB:=by
   rw[Ur gA (by rw[ez,OutV.len];simp),eB];congr 4;rw[ez,OutV.len];simp
  have gB:hB.get h1.next=some (.cells true 1 x.cells):=by rw[eB,gY lA,if_pos rfl]
  have c0:J3 hB h1.next 0=some (.int .i64 x.value):=by rw[Za gB];rfl
  have aB:Old h hB:=by rw[eB,eA];exact(hold.push' _).set _ hold.1 (by rw[<- eA];exact lA)
  have xl:x.cells.length=2:=rfl;by_cases h1':x.value < 1
  ·simp[W8,t3,t6,t7,t8,hlt',x1,x2,-W8,alA,xl,st,c0,h1'];have:=hk hB aB;rw[hF]at this;simpa[OutV.p,h1']using this
  ·by_cases h2':left < x.value
   ·simp[W8,t3,t6,t7,t8,hlt',x1,x2,-W8,alA,xl,st,c0,h1',h2'];have:=hk hB aB;rw[hF]at this;simpa[OutV.p,h1',h2']using this
   ·have hw2:IntKind.i64.wrap (left-x.value)=left-x.value:=W3 (by omega) (by omega);simp[W8,t3,t6,t7,t8,hlt',x1,x2,-W8,alA,xl,st,c0,h1',h2',hw,hw2];refine⟨l.length-(i+1),by omega,_,hB,i+1,left-x.value,rfl,by simp,by simp[t6],by simp[t7],by simp,by omega,rfl,aB,by omega,by omega,?_⟩;rw[hF,if_neg (by simp only[OutV.p];omega)];rfl
 ·have hlt':¬ (i:Int) < (l.length:Int):=by omega
  have : i=l.length:=by omega
  subst this;simp[W8,t3,t6,t7,t8];have:=hk h1 hold;rw[hF,dz]at this;exact this
end
def Yh7{A:Type}{l:List A}{p:A}:(l ++ [p]).Nodup↔l.Nodup/\p ∉ l:=by
 rw[dM];constructor
 ·rintro⟨h1, -,h2⟩;exact⟨h1,fun hp=>h2 p hp p (by simp) rfl⟩
 ·rintro⟨h1,h2⟩;refine⟨h1,by simp,fun a ha c hc e => ?_⟩;simp at hc;subst hc;exact h2 (e ▸ ha)
def PTI(v:Value)(l:List InV)(h:Heap)(mb:Nat)(k:Nat)(s:St):Prop:=∃ (t:Tr Value) (h1:Heap) (i:Nat) (es:List PE) (clk:Nat),s=⟨⟨22,t⟩,[],h1⟩/\t.get 0=some v/\t.get 3=some (.map (some mb))/\t.get 7=some v/\t.get 8=some (.int .i64 (l.length:Int))/\t.get 9=some (.int .i64 (i:Int))/\i<=l.length/\k=l.length-i/\Old h h1 /\
 h1.get mb=some (.map ⟨es.map PE.e⟩ clk)/\(∀ p,p ∈ es.map (·.key)↔p ∈ (l.take i).map (·.pt))/\(es.length=i/\((l.take i).map (·.pt)).Nodup∨es.length < i/\¬ ((l.take i).map (·.pt)).Nodup)
section
attribute [local simp] Q4v X14 Qb0 Xgs W6 Xt Qo0 Qqd V9 W5 Xv Y2
def Z3s(b:Nat){h:Heap}{v:Value}{l:List InV}(s:Ins h v l)(K:KP)(hk:∀ h',Old h h'->K (.ret (.bool (decide (l.map (·.pt)).Nodup))) h'):FK b 75 [v] h K:=by
 refine F3 b (Qb0 b) Y5t rfl ?_;have hn:=s.n;have len:∀ hx,Qne (E b).toEnv 30 v hx=some (.int .i64 (l.length:Int)):=fun hx=>Qbq (T30 b) s.s;obtain⟨rm,me,md⟩:∃ rm,(E b).toEnv.ty.get 176=some rm/\rm.desc=.map 53 3:=⟨((E b).toEnv.ty.get 176).getD ⟨.invalid,0,0,.bool false,[]⟩,by kernel_rfl,by kernel_rfl⟩;obtain⟨hM,eM⟩:∃ hM,hM=h.push (.map #[] 0):=⟨_,rfl⟩;have aM':=Qpm eM;have gM:hM.get h.next=some (.map ⟨([]:List PE).map PE.e⟩ 0):=by rw[eM,Heap.get_push,if_pos rfl];rfl
 have mk:Q4s (E b).toEnv 176 none h=some (.map (some h.next),hM):=by rw[eM];exact Zvj (b:=b) me md
 simp[Qo4,len,mk];refine Qfs (PTI v l h h.next) l.length ⟨_,hM,0,[],0,rfl,by simp,by simp,by simp,by simp,by simp,by omega,rfl,aM',gM,by simp,.inl ⟨rfl,by simp⟩⟩ ?_;rintro k s' ⟨t,h1,i,es,clk,rfl,t0,t3,t7,t8,t9,hi,rfl,hold,g1,hmem,hnd⟩ _;by_cases hlt:i < l.length
 ·have hlt':(i:Int) < (l.length:Int):=by omega
  obtain⟨x,hx⟩:∃ x,l[i]? = some x:=⟨_,ab hlt⟩;have hw:=wS (i:=i) (by omega);obtain⟨bk,off, -,x1,x2, -⟩:=Yd2 (b:=b) (T30 b) Qma (s.s.old hold) hx;obtain⟨zz,ez⟩:∃ zz:List Value,zz=R71.zero.cells.toList:=⟨_,rfl⟩;have zl:zz.length=34:=by rw[ez];kernel_rfl
  obtain⟨hA,eA⟩:∃ hA,hA=h1.push (.cells true 1 zz):=⟨_,rfl⟩;have alA:Qbd (E b).toEnv 71 h1=some (.pointer (some ⟨h1.next,0,none⟩),hA):=by rw[eA,ez];simp only[Qbd,Zb2]
  have gA:hA.get h1.next=some (.cells true 1 zz):=by rw[eA,Heap.get_push,if_pos rfl]
  have lA:=Heap.get_lt gA;have lM:h.next < h1.next:=Heap.get_lt g1;obtain⟨hB,eB⟩:∃ hB,hB=hA.set h1.next (some (.cells true 1 x.cells)):=⟨_,rfl⟩;have st:Ul hA h1.next 0 x.cells=some hB:=by
   rw[Ur gA (by rw[zl,InV.len];omega),eB];congr 4;rw[InV.len];simp[zl]
  have gB:hB.get h1.next=some (.cells true 1 x.cells):=by rw[eB,gY lA,if_pos rfl]
  have aB:Old h1 hB:=by rw[eB,eA];exact(Old.push _ _).set _ (ae _) (by rw[<- eA];exact lA)
  have gMB:=aB.get g1;have ldp:Qb9 hB h1.next 0 33=some (.agg ⟨x.pt.cells⟩):=by rw[Vf gB (by rw[InV.len];omega),bX,Yrf]
  have hB1:(l.take (i+1)).map (·.pt)=(l.take i).map (·.pt) ++ [x.pt]:=by rw[bn,hx];simp
  have lMB:=Heap.get_lt gMB;have step:∃ (h2:Heap) (es':List PE) (clk':Nat),Qgl (E b).toEnv 176 (.map (some h.next)) (.agg ⟨x.pt.cells⟩) (.int .i64 1) hB=some h2/\h2.get h.next=some (.map ⟨es'.map PE.e⟩ clk')/\Old h h2/\(∀ p,p ∈ es'.map (·.key)↔p ∈ (l.take (i+1)).map (·.pt))/\(es'.length=i+1/\((l.take (i+1)).map (·.pt)).Nodup∨es'.length < i+1/\¬ ((l.take (i+1)).map (·.pt)).Nodup):=by
   cases hf:Q28 x.pt es 0 with
   | none =>
    have hno:=Yjf.1 hf;have hnot:x.pt ∉ (l.take i).map (·.pt):=fun e=>by
     obtain⟨y,hy,e2⟩:=ao.1 ((hmem _).2 e);exact hno y hy e2
    refine⟨_,es ++ [⟨x.pt,.int .i64 1,clk⟩],clk+1,Z47 me md gMB hf _,by rw[gY lMB,if_pos rfl],(hold.trans aB).set _ (ae _) lMB,fun p => ?_,?_⟩
    ·rw[hB1,bc,ac,ac,hmem p];simp
    ·rw[hB1,Yh7];rcases hnd with⟨q1,q2⟩ | ⟨q1,q2⟩
     ·exact .inl ⟨by simp[q1],q2,hnot⟩
     ·exact .inr ⟨by simp;omega,fun e=>q2 e.1⟩
   | some q =>
    obtain⟨j,w⟩:=q;obtain⟨y,hy, -,hyk, -⟩:=Xlp hf;have hin:x.pt ∈ (l.take i).map (·.pt):=(hmem _).1 (ao.2 ⟨y,ak hy,hyk⟩);have keys:∀ es:List PE,(Z1l x.pt (.int .i64 1) es).map (·.key)=es.map (·.key):=by
     intro es;induction es with
     | nil=>rfl
     | cons a es ih=>unfold Z1l;split <;> simp[ih]
    refine⟨_,Z1l x.pt (.int .i64 1) es,clk,Zly me md gMB hf _,by rw[gY lMB,if_pos rfl],(hold.trans aB).set _ (ae _) lMB,fun p => ?_,?_⟩
    ·rw[keys,hB1,ac,hmem p];simp;rintro rfl;simpa using hin
    ·have hl:(Z1l x.pt (.int .i64 1) es).length=es.length:=by have:=congrArg List.length (keys es);simpa using this
     rw[hB1,Yh7,hl];refine .inr ⟨by rcases hnd with⟨q1,_⟩ | ⟨q1,_⟩ <;> omega,fun e=>e.2 hin⟩
  obtain⟨h2,es',clk',up,g2,a2,m2,n2⟩:=step;simp[Qo4,t0,t3,t7,t8,t9,hlt',x1,x2,-Qo4,alA,InV.len,st,ldp,up,hw];exact⟨l.length-(i+1),by omega,_,h2,i+1,es',clk',rfl,by simp[t0],by simp[t3],by simp[t7],by simp[t8],by simp,by omega,rfl,a2,g2,m2,n2⟩
 ·have hlt':¬ (i:Int) < (l.length:Int):=by omega
  have : i=l.length:=by omega
  subst this;rw[bJ]at hnd;have ml:Qne (E b).toEnv 176 (.map (some h.next)) h1=some (.int .i64 ((es.length:Nat):Int)):=by
   rw[Jcf (b:=b) me md g1];simp
  simp[Qo4,t0,t3,t7,t8,t9,ml,len];have:=hk h1 hold;rcases hnd with⟨q1,q2⟩ | ⟨q1,q2⟩
  ·have e:(es.length:Int)=(l.length:Int):=by omega
   rw[decide_eq_true q2]at this;simpa[e]using this
  ·have e:¬ (es.length:Int)=(l.length:Int):=by omega
   rw[decide_eq_false q2]at this;simpa[e]using this
end
def any_map' {A B:Type}(f:A->B)(q:B->Bool)(l:List A):(l.map f).any q=l.any fun x=>q (f x):=by
 rw[List.any_map];rfl
def Z9i(l:List InV):(l.map InV.p).map (·.pt)=l.map (·.pt):=by
 rw[ca];rfl
section
attribute [local simp] Qb8 Qfi Jv Qq3 Jb Qa2 W6 Wy Zf Qb7 Qbm Qax Wu Yf Qb5 Qaz Qa0 Qb0 Wt Y9 Qaw Ww
def Zux(b:Nat){h:Heap}{iv ov:Value}{ins:List InV}{outs:List OutV}{lock:Int}(si:Ins h iv ins)(so:Outs h ov outs)(K:KP)(hk:∀ h',Old h h'->K (.ret (.int .i64 (Qu2 (ptx ins outs lock)))) h') :
  FK b 49 [.agg ⟨txC iv ov lock⟩] h K:=by
 refine F3 b (Jv b) Zgd rfl ?_;obtain⟨hA,eA,aA,gA⟩:=Q5u h ((txC iv ov lock));have nA:=Q8z eA;have bx:=Q0e eA;obtain⟨z,hz⟩:∃ z,Qbd (E b).toEnv 136 hA=some (.pointer (some ⟨hA.next,0,none⟩),hA.push (.cells true 1 [z])):=⟨_,Q11 b hA⟩;obtain⟨hB,eB⟩:∃ hB,hB=(hA.push (.cells true 1 [z])).set hA.next (some (.cells true 1 [.func (.func 70) #[] #[]])):=⟨_,rfl⟩;have gZ:(hA.push (.cells true 1 [z])).get hA.next=some (.cells true 1 [z]):=by rw[Heap.get_push,if_pos rfl]
 have st:Ul (hA.push (.cells true 1 [z])) hA.next 0 [.func (.func 70) #[] #[]]=some hB:=by rw[Qhv gZ (by simp),eB];rfl
 have gC:hB.get hA.next=some (.cells true 1 [.func (.func 70) #[] #[]]):=by rw[eB,gY (Heap.get_lt gZ),if_pos rfl]
 have aB':Old hA hB:=by rw[eB];exact(Old.push _ _).set _ (ae _) (Heap.get_lt gZ)
 have aB:Old h hB:=aA.trans aB';have gT:hB.get h.next=some (.cells true 1 (txC iv ov lock)):=aB'.get gA;have cs:∀ {hx:Heap},Old hB hx->J3 hx h.next 0=some iv/\J3 hx h.next 1=some ov/\J3 hx h.next 2=some (.int .i64 lock):=fun {hx} o=>by
  have:=o.get gT;exact⟨by rw[Za this];rfl,by rw[Za this];rfl,by rw[Za this];rfl⟩
 have lenI:∀ hx,Qne (E b).toEnv 30 iv hx=some (.int .i64 (ins.length:Int)):=fun hx=>Qbq (T30 b) si.s;have lenO:∀ hx,Qne (E b).toEnv 27 ov hx=some (.int .i64 (outs.length:Int)):=fun hx=>Qbq (T27 b) so.s;obtain⟨c0,c1,c2⟩:=cs (Old.refl hB);simp[Q11,bx,-Q11,hz,Jb7,st,c0,lenI];refine Yg1 b _ 1 8 hB _ ?_;unfold Qu2 ptx at hk;simp only[aT,any_map',Z9i]at hk;have done:∀ (c:Int) hx,Old h hx->(∀ h',Old h h'->K (.ret (.int .i64 c)) h')->K (.ret (.int .i64 c)) hx:=fun c hx o q=>q hx o;cases q1:inF (ins.length:Int) 1 8 with
 | false =>
  simp only[q1,dw,Bool.true_or,if_true]at hk;simp[Q11];exact hk hB aB
 | true =>
 simp[Q11,c1,lenO];refine Yg1 b _ 1 8 hB _ ?_;cases q2:inF (outs.length:Int) 1 8 with
 | false =>
  simp only[q1,q2,dw,Bool.or_true,if_true]at hk;simp[Q11];exact hk hB aB
 | true =>
 simp only[q1,q2,cx,Bool.or_false,if_false,aL]at hk;simp[Q11,c0];refine Y8j b (Q9f b) (cap:=[]) (si.s.old aB) si.n (fun x=>Z75 x.p) (fun h1 _ x _ K hk=>Jfm b x h1 K hk) _ fun h1 a1 => ?_;obtain⟨d0,d1,d2⟩:=cs a1;have aH1:=aB.trans a1;cases q3:ins.any (fun x=>Z75 x.p)with
 | true =>
  simp only[q3,Bool.true_or,if_true]at hk;simp[Q11];exact hk h1 aH1
 | false =>
 simp[Q11,d2];refine Yg1 b _ 0 1073741824 h1 _ ?_;cases q4:inF lock 0 1073741824 with
 | false =>
  simp only[q3,q4,dw,Bool.or_true,if_true]at hk;simp[Q11];exact hk h1 aH1
 | true =>
 simp only[q3,q4,cx,Bool.or_false,if_false,aL]at hk;simp[Q11,d0];refine Z3s b (si.old aH1) _ fun h2 a2 => ?_;obtain⟨e0,e1,e2⟩:=cs (a1.trans a2);have aH2:=aH1.trans a2;by_cases q5:(ins.map (·.pt)).Nodup
 case neg =>
  rw[decide_eq_false q5]at hk ⊢;simp only[dw,if_true]at hk;simp[Q11];exact hk h2 aH2
 rw[decide_eq_true q5]at hk ⊢;simp only[cx,if_false,aL]at hk;simp[Q11,e1];refine Z2b b (so.old aH2) _ fun h3 a3 => ?_;obtain⟨f0,f1,f2⟩:=cs ((a1.trans a2).trans a3);have aH3:=aH2.trans a3;cases q6:X2c (outs.map OutV.p) 1125899906842624 with
 | false =>
  simp only[q6,dw,if_true]at hk;simp[Q11];exact hk h3 aH3
 | true =>
 simp only[q6,cx,if_false,aL]at hk;simp[Q11,f1];refine Zsd b (Xs6 b) (cap:=[]) (so.s.old aH3) so.n (fun x=>Y44 x.p) (fun h4 a4 x hx K hk=>Jbd b (((so.old aH3).old a4).a x hx) K hk) _ fun h4 a4 => ?_;obtain⟨g0,g1,g2⟩:=cs (((a1.trans a2).trans a3).trans a4);have aH4:=aH3.trans a4;cases q7:outs.any (fun x=>Y44 x.p)with
 | true =>
  simp only[q7,Bool.true_or,if_true]at hk;simp[Q11];exact hk h4 aH4
 | false =>
 simp[Q11,g0];have gC4:=(((a1.trans a2).trans a3).trans a4).get gC;refine Y8j b (Q24 b) (cap:=[.pointer (some ⟨hA.next,0,none⟩)]) (si.s.old aH4) si.n (fun x=>Y3m x.p) (fun h5 a5 x hx K hk=>Jcg b (((si.old aH4).old a5).a x hx) (a5.get gC4) K hk) _ fun h5 a5 => ?_;have aH5:=aH4.trans a5;simp only[q7,Bool.false_or]at hk;cases q8:ins.any (fun x=>Y3m x.p)with
 | true =>
  simp only[q8,if_true]at hk;simp[Q11];exact hk h5 aH5
 | false =>
 simp only[q8,if_false,aL]at hk;simp[Q11];exact hk h5 aH5
end
def Q5n:Nat->List Value
 | 0=>[.int .u8 253,.int .i64 2,.int .u64 253]
 | 1=>[.int .u8 254,.int .i64 4,.int .u64 65536]
 | _=>[.int .u8 255,.int .i64 8,.int .u64 4294967296]
def Xhw:Nat->Nat
 | 0=>253
 | 1=>65536
 | _=>4294967296
def Xam:Nat->Nat
 | 0=>2
 | 1=>4
 | _=>8
def Yb4:Nat->Int
 | 0=>253
 | 1=>254
 | _=>255
def Ygs(n:Nat):Nat->Nat
 | 0=>0
 | i+1=>if Xhw (i+1)<=n then i+1 else Ygs n i
def Zx3(n:Nat):∀ i,Ygs n i<=i
 | 0=>ae _
 | i+1=>by unfold Ygs;split;exact ae _;exact du (Zx3 n i)
def Ysx(j:Nat)(h:j<=2):Q5n j=[.int .u8 (Yb4 j),.int .i64 (Xam j:Int),.int .u64 (Xhw j:Int)]:=by
 match j,h with
 | 0,_=>rfl
 | 1,_=>rfl
 | 2,_=>rfl
def Z1m{n:Nat}(h:¬ n < 253):Yd9 n=Yb4 (Ygs n 2)::leN (Xam (Ygs n 2)) n:=by
 unfold Yd9 Ygs;rw[if_neg h];by_cases h2:n < 4294967296
 ·rw[if_neg (show ¬ Xhw 2<=n from fun e=>by have : (4294967296:Nat)<=n:=e;omega)];unfold Ygs;by_cases h1:n < 65536
  ·rw[if_neg (show ¬ Xhw (0+1)<=n from fun e=>by have : (65536:Nat)<=n:=e;omega),if_pos h1];rfl
  ·rw[if_pos (show Xhw (0+1)<=n from(by omega:(65536:Nat)<=n)),if_neg h1,if_pos h2];rfl
 ·rw[if_pos (show Xhw 2<=n from(by omega:(4294967296:Nat)<=n)),if_neg (by omega),if_neg h2];rfl
def Jgz(x y:Int)(h:y=0∨y=8∨y=16∨y=24∨y=32∨y=40∨y=48∨y=56):Qgb (binOp .shr 159 (.int .u64 x) (.int .i64 y))=some (.int .u64 (x.fdiv (2 ^ y.toNat))):=by
 rcases h with rfl | rfl | rfl | rfl | rfl | rfl | rfl | rfl
 ·exact(by kernel_rfl:Qgb (binOp .shr 159 (.int .u64 x) (.int .i64 0))=some (.int .u64 (x.fdiv (2 ^ 0))))
 ·exact(by kernel_rfl:Qgb (binOp .shr 159 (.int .u64 x) (.int .i64 8))=some (.int .u64 (x.fdiv (2 ^ 8))))
 ·exact(by kernel_rfl:Qgb (binOp .shr 159 (.int .u64 x) (.int .i64 16))=some (.int .u64 (x.fdiv (2 ^ 16))))
 ·exact(by kernel_rfl:Qgb (binOp .shr 159 (.int .u64 x) (.int .i64 24))=some (.int .u64 (x.fdiv (2 ^ 24))))
 ·exact(by kernel_rfl:Qgb (binOp .shr 159 (.int .u64 x) (.int .i64 32))=some (.int .u64 (x.fdiv (2 ^ 32))))
 ·exact(by kernel_rfl:Qgb (binOp .shr 159 (.int .u64 x) (.int .i64 40))=some (.int .u64 (x.fdiv (2 ^ 40))))
 ·exact(by kernel_rfl:Qgb (binOp .shr 159 (.int .u64 x) (.int .i64 48))=some (.int .u64 (x.fdiv (2 ^ 48))))
 ·exact(by kernel_rfl:Qgb (binOp .shr 159 (.int .u64 x) (.int .i64 56))=some (.int .u64 (x.fdiv (2 ^ 56))))
def Z46:∀ (k n i:Nat),i < k->(leN k n)[i]? = some (((n / 256 ^ i) % 256:Nat):Int)
 | 0,_,_,h=>by omega
 | k+1,n,0,_=>by simp[leN]
 | k+1,n,i+1,h=>by
  simp only[leN,bY];rw[Z46 k (n / 256) i (by omega),Nat.div_div_eq_div_mul,Nat.pow_succ,dJ 256]
def Z8p(n i:Nat):IntKind.u8.wrap ((n:Int).fdiv (2 ^ (8*(i:Int)).toNat))=(((n / 256 ^ i) % 256:Nat):Int):=by
 have e:(8*(i:Int)).toNat=8*i:=by omega
 rw[e,show(256:Nat) ^ i=2 ^ (8*i) by rw[Nat.pow_mul]];have e2:((2:Int) ^ (8*i))=((2 ^ (8*i):Nat):Int):=by rw[Int.natCast_pow];rfl
 rw[e2,de _ (Int.natCast_nonneg _),<- Int.natCast_ediv];show(((n / 2 ^ (8*i):Nat):Int) % (2 ^ 8:Int))=_;omega
def IN1(bv:Value)(n:Nat)(h:Heap)(A:Nat)(k:Nat)(s:St):Prop:=∃ (t:Tr Value) (h1:Heap) (i:Nat),s=⟨⟨57,t⟩,[],h1⟩/\t.get 0=some bv/\t.get 5=some (.int .u64 (n:Int))/\t.get 6=some (.pointer (some ⟨A,0,none⟩))/\t.get 25=some (.slice (some ⟨1,3,none⟩) 2 2)/\t.get 26=some (.int .i64 2)/\t.get 27=some (.int .i64 (i:Int))/\i<=2/\k=2-i/\Old h h1/\h1.get A=some (.cells true 1 (Q5n (Ygs n i)))
def IN2(n w:Nat)(p:List Int)(h:Heap)(k:Nat)(s:St):Prop:=∃ (t:Tr Value) (h1:Heap) (o:Value) (i:Nat),s=⟨⟨57,t⟩,[],h1⟩/\t.get 5=some (.int .u64 (n:Int))/\t.get 9=some o/\t.get 43=some (.int .i64 (w:Int))/\t.get 44=some (.int .i64 (i:Int))/\i<=w/\k=w-i/\Old h h1/\OB h1 h.next o (p++(leN w n).take i)
section
attribute [local simp] Qli Qs6 V8 Ql9 Qlh Xwz Q9g Yef Q8x Vv Vu Qd0 Ygn Ycr Ygv Xt X6p Xaa Xv Q8b Qvx Q8k Qms Q9u Q8l
def Y9l(b:Nat){h:Heap}(laid:Ab.LaidIn h laidAll){bv:Value}{xs:List Int}(s:SB h bv xs){n:Nat}(hn:n < 9223372036854775808)(hl:xs.length < 999999000)(K:KP)(hk:∀ v h',OB h' h.next v (xs++Yd9 n)->Old h h'->K (.ret v) h') :
  FK b 60 [bv,.int .i64 (n:Int)] h K:=by
 by_cases h253:n < 253
 ·have e:Yd9 n=[(n:Int)]:=by unfold Yd9;rw[if_pos h253]
  rw[e]at hk;exact Zjo b laid s h253 (by omega) K hk
 refine F3 b (V8 b) Ygi rfl ?_;rw[Z1m h253]at hk;have g1:h.get 1=some (.cells false 0 Qxu):=laid (1,Qxu) (by simp[laidAll]);have l1:=Heap.get_lt g1;have ld:J3 h 1 2=some (.int .u64 253):=by rw[Za g1];rfl
 have ldf:Qb9 h 1 0 3=some (.agg ⟨Q5n 0⟩):=by rw[Vf g1 (by simp[Qxu])];rfl
 have hx:Jx (E b).toEnv 165 (.pointer (some ⟨1,0,none⟩)) (.int .i64 0)=some (.pointer (some ⟨1,0,none⟩)):=by simpa using Xwz b (bk:=1) (o:=0) (k:=.i64) (i:=0) ⟨by omega,by omega⟩
 have w1:IntKind.u64.wrap (n:Int)=(n:Int):=Zdt (by omega) (by omega);have c1:¬ (n:Int) < 253:=by omega
 obtain⟨zz,ez⟩:∃ zz:List Value,zz=[.int .u8 0,.int .i64 0,.int .u64 0]:=⟨_,rfl⟩;obtain⟨hA,eA⟩:∃ hA,hA=h.push (.cells true 1 zz):=⟨_,rfl⟩;have alA:Qbd (E b).toEnv 164 h=some (.pointer (some ⟨h.next,0,none⟩),hA):=by rw[eA,ez];exact Xgj b h
 have gA:hA.get h.next=some (.cells true 1 zz):=by rw[eA,Heap.get_push,if_pos rfl]
 have lA:=Heap.get_lt gA;obtain⟨hB,eB⟩:∃ hB,hB=hA.set h.next (some (.cells true 1 (Q5n 0))):=⟨_,rfl⟩;have stB:Ul hA h.next 0 (Q5n 0)=some hB:=by rw[Ur gA (by simp[ez,Q5n]),eB,ez];rfl
 have gB:hB.get h.next=some (.cells true 1 (Q5n 0)):=by rw[eB,gY lA,if_pos rfl]
 have aB:Old h hB:=by rw[eB];exact(by rw[eA];exact Old.push _ _:Old h hA).set _ (ae _) lA
 have sl:∀ hx,Qhk (E b).toEnv 165 (.pointer (some ⟨1,0,none⟩)) (some (.int .i64 1)) none none hx=some (.slice (some ⟨1,3,none⟩) 2 2,hx):=fun hx=>by kernel_rfl
 have f3:∀ j,(Q5n j).length=3:=fun j=>by unfold Q5n;split <;> rfl
 simp[Xgj,gn1,hx,ld,ldf,w1,c1,h253,-Xgj,alA,f3,stB,sl];refine Qfs (IN1 bv n h h.next) 2 ⟨_,hB,0,rfl,by simp,by simp,by simp,by simp,by simp,by simp,by omega,rfl,aB,gB⟩ ?_;rintro k s' ⟨t,h1,i,rfl,t0,t5,t6,t25,t26,t27,hi,rfl,hold,gf⟩ _;by_cases hlt:i < 2
 ·have hlt':(i:Int) < 2:=by omega
  have hw:=wS (i:=i) (by omega);have gG:h1.get 1=some (.cells false 0 Qxu):=hold.get g1;have ixf:Jx (E b).toEnv 167 (.slice (some ⟨1,3,none⟩) 2 2) (.int .i64 (i:Int))=some (.pointer (some ⟨1,(i+1)*3,none⟩)):=by
   rw[X6p b ⟨by omega,by omega⟩,bo,show 3+i*3=(i+1)*3 by omega]
  have ldx:Qb9 h1 1 ((i+1)*3) 3=some (.agg ⟨Q5n (i+1)⟩):=by
   rw[Vf gG (by simp[Qxu];omega)]
   match i,hlt with
   | 0,_=>rfl
   | 1,_=>rfl
  obtain⟨h2,e2⟩:∃ h2,h2=h1.push (.cells true 1 zz):=⟨_,rfl⟩;have al2:Qbd (E b).toEnv 164 h1=some (.pointer (some ⟨h1.next,0,none⟩),h2):=by rw[e2,ez];exact Xgj b h1
  have g2:h2.get h1.next=some (.cells true 1 zz):=by rw[e2,Heap.get_push,if_pos rfl]
  have lf:=Heap.get_lt gf;have l2:=Heap.get_lt g2;obtain⟨h3,e3⟩:∃ h3,h3=h2.set h1.next (some (.cells true 1 (Q5n (i+1)))):=⟨_,rfl⟩;have st3:Ul h2 h1.next 0 (Q5n (i+1))=some h3:=by
   rw[Ur g2 (by simp[ez,f3]),e3,ez];congr 4;simp[f3]
  have g3:h3.get h1.next=some (.cells true 1 (Q5n (i+1))):=by rw[e3,gY l2,if_pos rfl]
  have o3:Old h1 h3:=by rw[e3];exact(by rw[e2];exact Old.push _ _:Old h1 h2).set _ (ae _) l2
  have gf3:=o3.get gf;have lf3:=Heap.get_lt gf3;have c3:J3 h3 h1.next 2=some (.int .u64 (Xhw (i+1):Int)):=by rw[Za g3,Ysx _ (by omega)];rfl
  by_cases hc:Xhw (i+1)<=n
  ·have hc':(Xhw (i+1):Int)<=(n:Int):=by omega
   have ldg:Qb9 h3 h1.next 0 3=some (.agg ⟨Q5n (i+1)⟩):=agW g3 (by rw[f3];omega) (by rw[f3];omega);obtain⟨h4,e4⟩:∃ h4,h4=h3.set h.next (some (.cells true 1 (Q5n (i+1)))):=⟨_,rfl⟩;have st4:Ul h3 h.next 0 (Q5n (i+1))=some h4:=by
    rw[Ur gf3 (by simp[f3]),e4];congr 4;simp[f3]
   have g4:h4.get h.next=some (.cells true 1 (Q5n (Ygs n (i+1)))):=by
    rw[e4,gY lf3,if_pos rfl];unfold Ygs;rw[if_pos hc]
   simp[Xgj,t0,t5,t6,t25,t26,t27,hlt',ixf,ldx,-Xgj,al2,f3,st3,c3,hc,hc',ldg,st4,hw];exact⟨2-(i+1),by omega,_,h4,i+1,rfl,by simp[t0],by simp[t5],by simp[t6],by simp[t25],by simp[t26],by simp,by omega,rfl,by rw[e4];exact(hold.trans o3).set _ (ae _) lf3,g4⟩
  ·have hc':¬ (Xhw (i+1):Int)<=(n:Int):=by omega
   simp[Xgj,t0,t5,t6,t25,t26,t27,hlt',ixf,ldx,-Xgj,al2,f3,st3,c3,hc,hc',hw];refine⟨2-(i+1),by omega,_,h3,i+1,rfl,by simp[t0],by simp[t5],by simp[t6],by simp[t25],by simp[t26],by simp,by omega,rfl,hold.trans o3,?_⟩;rw[gf3];have : Ygs n (i+1)=Ygs n i:=by
    conv=>lhs;unfold Ygs
    rw[if_neg hc]
   rw[this]
 ·have : i=2:=by omega
  subst this;have hlt':¬ ((2:Nat):Int) < 2:=by omega
  obtain⟨j,hj⟩:∃ j,j=Ygs n 2:=⟨_,rfl⟩;have hj2:j<=2:=by rw[hj];exact Zx3 n 2
  rw[<- hj]at gf hk;have cA:J3 h1 h.next 0=some (.int .u8 (Yb4 j)):=by rw[Za gf,Ysx _ hj2];rfl
  have cW:∀ {hx},Old h1 hx->J3 hx h.next 1=some (.int .i64 (Xam j:Int)):=fun o=>by rw[Za (o.get gf),Ysx _ hj2];rfl
  have sB:SB (h1.push (.cells true 1 [i8 (Yb4 j)])) (.slice (some ⟨h1.next,0,none⟩) 1 1) [Yb4 j]:=SB.push (xs:=[Yb4 j]) (by simp);simp[Xgj,t0,t5,t6,t25,t26,t27,cA,Xfo];refine Yvn b ((s.old hold).old (Old.push _ _)) sB (by simp;omega) _ fun v h2 o2 a2 => ?_;have a12:Old h1 h2:=(Old.push _ _).trans a2;have cW2:=cW a12;have w8:Xam j<=8:=by unfold Xam;split <;> omega
  simp[Xgj,t0,t5,t6,t25,t26,t27,cW2];refine Qfs (IN2 n (Xam j) (xs ++ [Yb4 j]) h) (Xam j) ⟨_,h2,v,0,rfl,by simp[t5],by simp,by simp,by simp,by omega,rfl,hold.trans a12,by rw[List.take_zero,dj];exact o2.low (al hold.1 (bL _))⟩ ?_;rintro k s' ⟨t,h3,o,i,rfl,t5,t9,t43,t44,hi,rfl,hold3,ob⟩ _;by_cases hlt:i < Xam j
  ·have hlt':(i:Int) < (Xam j:Int):=by omega
   have hw:=wS (i:=i) (by omega);have hm:IntKind.i64.wrap (8*(i:Int))=8*(i:Int):=W3 (by omega) (by omega);have sh:=Jgz (n:Int) (8*(i:Int)) (by omega);have by8':=Z8p n i;have gi:=Z46 (Xam j) n i hlt;obtain⟨d,hd⟩:∃ d:Int,d=(n:Int).fdiv (2 ^ (8*(i:Int)).toNat):=⟨_,rfl⟩;rw[<- hd]at sh by8';obtain⟨c,hc⟩:∃ c:Int,c=(((n / 256 ^ i) % 256:Nat):Int):=⟨_,rfl⟩;rw[<- hc]at by8' gi;have tk:(leN (Xam j) n).take (i+1)=(leN (Xam j) n).take i ++ [c]:=by rw[bn,gi];rfl
   obtain⟨v',h4,k1,k2,k3⟩:=Zqx (b:=b) ob hold3.1 (by simp;omega) c;simp only[i8]at k1;simp[Xgj,t5,t9,t43,t44,hlt',hm,sh,by8',Xfo,i8,k1,hw];exact⟨Xam j-(i+1),by omega,_,h4,v',i+1,rfl,by simp[t5],by simp,by simp[t43],by simp,by omega,rfl,k3.old hold3 ob,by rw[tk,<- ba];exact k2⟩
  ·have hlt':¬ (i:Int) < (Xam j:Int):=by omega
   have : i=Xam j:=by omega
   subst this;simp[Xgj,t5,t9,t43,t44];refine hk o h3 ?_ hold3;rw[aJ (by rw[Zbw];exact ae _),ba]at ob;exact ob
end
section
def Jbs(b:Nat){h:Heap}{bv:Value}{xs:List Int}(s:SB h bv xs){d:List Nat}(hd:d.length=32)(hl:xs.length < 999999000)(K:KP)(hk:∀ v h',OB h' h.next v (xs++X53 d)->Old h h'->K (.ret v) h') :
  FK b 121 [bv,.agg ⟨d.map u8v⟩] h K:=by
 refine F3 b (Qux b) Y53 rfl ?_;obtain⟨hA,eA,aA,gA⟩:=Q5u h ((d.map u8v));have bx:=Q0e eA;have sd:SB hA (.slice (some ⟨h.next,0,none⟩) 32 32) (X53 d):=by
  have:=Jhc gA (by omega);rwa [hd]at this
 have ld:(X53 d).length=32:=by simp[X53,hd]
 simp[Xhr,Yks,Qux,Qd0,bx,Yrb];refine Yvn b (s.old aA) sd (by omega) _ fun v h' o a => ?_;simp[Xhr,Yks,Qux,Qd0];exact hk v h' (o.low aA.1) (aA.trans a)
def Jaq(b:Nat){h:Heap}(laid:Ab.LaidIn h laidAll){bv pv:Value}{xs ys:List Int}(s:SB h bv xs)(sp:SB h pv ys)(hl:xs.length < 999990000)(hp:ys.length < 1000000)(K:KP)(hk:∀ v h',OB h' h.next v (xs++Zt1 ys)->Old h h'->K (.ret v) h') :
  FK b 124 [bv,pv] h K:=by
 refine F3 b (Qur b) Y3o rfl ?_;have len:=fun hx=>Qoa (b:=b) (h1:=hx) sp;simp[Xil,Yl3,Qur,Jw,V8,len];refine Y9l b laid s (n:=ys.length) (by omega) (by omega) _ fun v h1 o1 a1 => ?_;have il:=Q4m ys.length;obtain⟨v',h2,k1,k2,k3⟩:=Zw6 (b:=b) o1 a1.1 (sp.old a1) (by rw[aj];omega);simp[Xil,Yl3,Qur,Jw,V8,k1];refine hk v' h2 ?_ (k3.old a1 o1);rw[Zt1,<- ba];exact k2
end
def Zpw{A:Type}{g:A->List Int}{l:List A}{i:Nat}{x:A}(hx:l[i]? = some x):(l.take (i+1)).flatMap g=(l.take i).flatMap g++g x:=by
 rw[bn,hx];simp
def Z3v{A:Type}(g:A->List Int)(l:List A)(i:Nat):((l.take i).flatMap g).length<=(l.flatMap g).length:=by
 conv=>rhs;rw[<- bA i l]
 rw[List.flatMap_append,aj];omega
def Jjd(v fv:Value)(l:List InV)(g:InV->List Int)(p:List Int)(h:Heap)(k:Nat)(s:St):Prop:=∃ (t:Tr Value) (h1:Heap) (o:Value) (i:Nat),s=⟨⟨25,t⟩,[],h1⟩/\t.get 0=some o/\t.get 2=some fv/\t.get 13=some v/\t.get 14=some (.int .i64 (l.length:Int))/\t.get 15=some (.int .i64 (i:Int))/\i<=l.length/\k=l.length-i/\Old h h1/\OB h1 h.next o (p++(l.take i).flatMap g)
section
attribute [local simp] Qj5 Qpy Qb6 W6 V8 Xt Qo0 Qqd Xv
def Jgd(b:Nat){h:Heap}(laid:Ab.LaidIn h laidAll){bv v:Value}{xs:List Int}{l:List InV}(sb:SB h bv xs)(s:Sl h 34 v l.length (Qd3 l))(hn:l.length < 1000000)(g:InV->List Int){f:FuncId}{F:Func}(hF:(E b).fn.get f=some F)(hl:xs.length+(l.flatMap g).length < 900000000)
  (hf:∀ h1,Old h h1->∀ x ∈ l,∀ bv1 ys,SB h1 bv1 ys->ys.length < 900000010->∀ K,(∀ w h2,OB h2 h1.next w (ys++g x)->Old h1 h2->K (.ret w) h2)->FK b f [bv1,.agg ⟨x.cells⟩] h1 K)
  (K:KP) (hk:∀ w h',OB h' h.next w (xs++(Yd9 l.length++l.flatMap g))->Old h h'->K (.ret w) h') :
  FK b 119 [bv,v,.func (.func f) #[] #[]] h K:=by
 refine F3 b (Qb6 b) X3d rfl ?_;have len:∀ hx,Qne (E b).toEnv 30 v hx=some (.int .i64 (l.length:Int)):=fun hx=>Qbq (T30 b) s;simp[Qo4,len];refine Y9l b laid sb (n:=l.length) (by omega) (by omega) _ fun v0 h0 o0 a0 => ?_;have il:=Q4m l.length;simp[Qo4,len];refine Qfs (Jjd v (.func (.func f) #[] #[]) l g (xs++Yd9 l.length) h) l.length ⟨_,h0,v0,0,rfl,by simp,by simp,by simp,by simp,by simp,by omega,rfl,a0,by simpa using o0⟩ ?_;rintro k s' ⟨t,h1,o,i,rfl,t0,t2,t13,t14,t15,hi,rfl,hold,ob⟩ _;have fl:=Z3v g l i;by_cases hlt:i < l.length
 ·have hlt':(i:Int) < (l.length:Int):=by omega
  obtain⟨x,hx⟩:∃ x,l[i]? = some x:=⟨_,ab hlt⟩;have hw:=wS (i:=i) (by omega);obtain⟨bk,off, -,x1,x2, -⟩:=Yd2 (b:=b) (T30 b) Qma (s.old hold) hx;obtain⟨zz,ez⟩:∃ zz:List Value,zz=R71.zero.cells.toList:=⟨_,rfl⟩;have zl:zz.length=34:=by rw[ez];kernel_rfl
  obtain⟨hA,eA⟩:∃ hA,hA=h1.push (.cells true 1 zz):=⟨_,rfl⟩;have alA:Qbd (E b).toEnv 71 h1=some (.pointer (some ⟨h1.next,0,none⟩),hA):=by rw[eA,ez];simp only[Qbd,Zb2]
  have gA:hA.get h1.next=some (.cells true 1 zz):=by rw[eA,Heap.get_push,if_pos rfl]
  have lA:=Heap.get_lt gA;obtain⟨hB,eB⟩:∃ hB,hB=hA.set h1.next (some (.cells true 1 x.cells)):=⟨_,rfl⟩;have xl:x.cells.length=34:=InV.len x;have st:Ul hA h1.next 0 x.cells=some hB:=by
   rw[Ur gA (by rw[zl,xl];omega),eB];congr 4;rw[xl];simp[zl]
  have gB:hB.get h1.next=some (.cells true 1 x.cells):=by rw[eB,gY lA,if_pos rfl]
  have aB:Old h1 hB:=by rw[eB,eA];exact(Old.push _ _).set _ (ae _) (by rw[<- eA];exact lA)
  have ldx:Qb9 hB h1.next 0 34=some (.agg ⟨x.cells⟩):=agW gB (by omega) (by omega);simp[Qo4,t0,t2,t13,t14,t15,hlt',x1,x2,-Qo4,alA,xl,st,ldx,hF];refine hf hB (hold.trans aB) x (ak hx) o _ (ob.sl.old aB) (by simp only[aj];omega) _ fun w h2 o2 a2 => ?_;simp[Qo4,t0,t2,t13,t14,t15,hw];refine⟨l.length-(i+1),by omega,_,h2,w,i+1,rfl,by simp,by simp[t2],by simp[t13],by simp[t14],by simp,by omega,rfl,(hold.trans aB).trans a2,?_⟩;rw[Zpw hx,<- ba];exact o2.low (al hold.1 aB.1)
 ·have hlt':¬ (i:Int) < (l.length:Int):=by omega
  have : i=l.length:=by omega
  subst this;rw[bJ,ba]at ob;simp[Qo4,t0,t2,t13,t14,t15];exact hk o h1 ob hold
end
def Je9(v fv:Value)(l:List OutV)(g:OutV->List Int)(p:List Int)(h:Heap)(k:Nat)(s:St):Prop:=∃ (t:Tr Value) (h1:Heap) (o:Value) (i:Nat),s=⟨⟨25,t⟩,[],h1⟩/\t.get 0=some o/\t.get 2=some fv/\t.get 13=some v/\t.get 14=some (.int .i64 (l.length:Int))/\t.get 15=some (.int .i64 (i:Int))/\i<=l.length/\k=l.length-i/\Old h h1/\OB h1 h.next o (p++(l.take i).flatMap g)
section
attribute [local simp] V8
def Jbp(b:Nat){h:Heap}(laid:Ab.LaidIn h laidAll){bv v:Value}{xs:List Int}{l:List OutV}(sb:SB h bv xs)(s:Sl h 2 v l.length (Qna l))(hn:l.length < 1000000)(g:OutV->List Int){f:FuncId}{F:Func}(hF:(E b).fn.get f=some F)(hl:xs.length+(l.flatMap g).length < 900000000)
  (hf:∀ h1,Old h h1->∀ x ∈ l,∀ bv1 ys,SB h1 bv1 ys->ys.length < 900000010->∀ K,(∀ w h2,OB h2 h1.next w (ys++g x)->Old h1 h2->K (.ret w) h2)->FK b f [bv1,.agg ⟨x.cells⟩] h1 K)
  (K:KP) (hk:∀ w h',OB h' h.next w (xs++(Yd9 l.length++l.flatMap g))->Old h h'->K (.ret w) h') :
  FK b 122 [bv,v,.func (.func f) #[] #[]] h K:=by
 refine F3 b (Qae b) Xz7 rfl ?_;have len:∀ hx,Qne (E b).toEnv 27 v hx=some (.int .i64 (l.length:Int)):=fun hx=>Qbq (T27 b) s;simp[Qhl,Qoo,Qae,Qlw,Qbm,Xt,Qm0,Qfp,W8,Qah,Xv,Qka,Qke,len];refine Y9l b laid sb (n:=l.length) (by omega) (by omega) _ fun v0 h0 o0 a0 => ?_;have il:=Q4m l.length;simp[Qhl,Qoo,Qae,Qlw,Qbm,Xt,Qm0,Qfp,W8,Qah,Xv,Qka,Qke,len];refine Qfs (Je9 v (.func (.func f) #[] #[]) l g (xs++Yd9 l.length) h) l.length ⟨_,h0,v0,0,rfl,by simp,by simp,by simp,by simp,by simp,by omega,rfl,a0,by simpa using o0⟩ ?_;rintro k s' ⟨t,h1,o,i,rfl,t0,t2,t13,t14,t15,hi,rfl,hold,ob⟩ _;have fl:=Z3v g l i;by_cases hlt:i < l.length
 ·have hlt':(i:Int) < (l.length:Int):=by omega
  obtain⟨x,hx⟩:∃ x,l[i]? = some x:=⟨_,ab hlt⟩;have hw:=wS (i:=i) (by omega);obtain⟨bk,off, -,x1,x2, -⟩:=Xhg (b:=b) (T27 b) Qi0 (s.old hold) hx;obtain⟨zz,ez⟩:∃ zz:List Value,zz=R60.zero.cells.toList:=⟨_,rfl⟩;have zl:zz.length=2:=by rw[ez];kernel_rfl
  obtain⟨hA,eA⟩:∃ hA,hA=h1.push (.cells true 1 zz):=⟨_,rfl⟩;have alA:Qbd (E b).toEnv 60 h1=some (.pointer (some ⟨h1.next,0,none⟩),hA):=by rw[eA,ez];simp only[Qbd,Yte]
  have gA:hA.get h1.next=some (.cells true 1 zz):=by rw[eA,Heap.get_push,if_pos rfl]
  have lA:=Heap.get_lt gA;obtain⟨hB,eB⟩:∃ hB,hB=hA.set h1.next (some (.cells true 1 x.cells)):=⟨_,rfl⟩;have xl:x.cells.length=2:=OutV.len x;have st:Ul hA h1.next 0 x.cells=some hB:=by
   rw[Ur gA (by rw[zl,xl];omega),eB];congr 4;rw[xl];simp[zl]
  have gB:hB.get h1.next=some (.cells true 1 x.cells):=by rw[eB,gY lA,if_pos rfl]
  have aB:Old h1 hB:=by rw[eB,eA];exact(Old.push _ _).set _ (ae _) (by rw[<- eA];exact lA)
  have ldx:Qb9 hB h1.next 0 2=some (.agg ⟨x.cells⟩):=agW gB (by omega) (by omega);simp[Qhl,Qoo,Qae,Qlw,Qbm,Xt,Qm0,Qfp,W8,Qah,Xv,Qka,Qke,t0,t2,t13,t14,t15,hlt',x1,x2,-W8,alA,xl,st,ldx,hF];refine hf hB (hold.trans aB) x (ak hx) o _ (ob.sl.old aB) (by simp only[aj];omega) _ fun w h2 o2 a2 => ?_;simp[Qhl,Qoo,Qae,Qlw,Qbm,Xt,Qm0,Qfp,W8,Qah,Xv,Qka,Qke,t0,t2,t13,t14,t15,hw];refine⟨l.length-(i+1),by omega,_,h2,w,i+1,rfl,by simp,by simp[t2],by simp[t13],by simp[t14],by simp,by omega,rfl,(hold.trans aB).trans a2,?_⟩;rw[Zpw hx,<- ba];exact o2.low (al hold.1 aB.1)
 ·have hlt':¬ (i:Int) < (l.length:Int):=by omega
  have : i=l.length:=by omega
  subst this;rw[bJ,ba]at ob;simp[Qhl,Qoo,Qae,Qlw,Qbm,Xt,Qm0,Qfp,W8,Qah,Xv,Qka,Qke,t0,t2,t13,t14,t15];exact hk o h1 ob hold
def Jh1(b:Nat){h:Heap}(laid:Ab.LaidIn h laidAll){bv:Value}{ys:List Int}(x:InV)(hx:0<=x.pt.n/\x.pt.n<=8)(s:SB h bv ys)(hl:ys.length < 900000010)(K:KP)(hk:∀ w h',OB h' h.next w (ys++inB x.p)->Old h h'->K (.ret w) h') :
  FK b 120 [bv,.agg ⟨x.cells⟩] h K:=by
 refine F3 b (Qv3 b) Y5v rfl ?_;obtain⟨hA, -,bx,aA, -,gA,c32, -⟩:=Z4l x h;have ldh:∀ {hx},Old hA hx->Qb9 hx h.next 0 32=some (.agg ⟨x.pt.id.map u8v⟩):=fun {hx} o=>by
  rw[Vf (o.get gA) (by rw[InV.len];omega),bX];have : x.cells.take 32=x.pt.id.map u8v:=by
   rw[InV.cells,Pt.cells,ba,bD (by simp[x.pt.hd]),aJ (by simp[x.pt.hd])]
  rw[this]
 have ldn:∀ {hx},Old hA hx->J3 hx h.next 32=some (.int .i64 x.pt.n):=fun {hx} o=>by rw[Za (o.get gA),Jk6]
 have idl:(X53 x.pt.id).length=32:=by simp[X53,x.pt.hd]
 obtain⟨_,hC,q1,n1,v1,rfl,o1,a1⟩:=Jbs b (s.old aA) x.pt.hd (by omega) (fun r h' => ∃ v,r=.ret v/\OB h' hA.next v (ys++X53 x.pt.id)/\Old hA h') (fun v h' o a=>⟨v,rfl,o,a⟩);obtain⟨m,hm⟩:∃ m:Nat,x.pt.n=(m:Int):=⟨x.pt.n.toNat,by omega⟩;obtain⟨_,hD,q2,n2,v2,rfl,o2,a2⟩:=Y9l b (Laid.old laid (aA.trans a1)) o1.sl (n:=m) (by omega) (by rw[aj];omega) (fun r h' => ∃ v,r=.ret v/\OB h' hC.next v (ys++X53 x.pt.id++Yd9 m)/\Old hC h') (fun v h' o a=>⟨v,rfl,o,a⟩);have d0:=ldh (Old.refl hA);have d1:=ldn (Old.refl hA);have d2:=ldn a1;rw[hm]at d1 d2;simp[Qxn,Xfy,Qv3,V9,Xx8,Qiz,Qux,Xh1,U2,bx];refine Qg6 [⟨121,[bv,.agg ⟨x.pt.id.map u8v⟩],hA,v1,hC,true⟩,⟨60,[v1,.int .i64 (m:Int)],hC,v2,hD,true⟩] ?_ Ye4 Yi7 Yds (by simp[Ypg,Ywf,Yvd,Qxn,Xfy,Qv3,V9,Xx8,Qiz,Qux,Xh1,d0,d1,d2,Qok];exact⟨rfl,rfl⟩) ?_ ?_
 ·exact zk2 ⟨q1,n1,fun _ c hc=>a1.2 c hc⟩ ⟨q2,n2,fun _ c hc=>a2.2 c hc⟩
 ·simp[Qlj,Qxn,Xfy,Qv3,V9,Xx8,Qiz,Qux,Xh1,d1,d2,Q5a]
 simp[Qxn,Xfy,Qv3,V9,Xx8,Qiz,Qux,Xh1,U2];refine hk v2 hD ?_ (aA.trans (a1.trans a2));have e:inB x.p=X53 x.pt.id++Yd9 m:=by
  show x.pt.id.map Int.ofNat++Yd9 x.pt.n.toNat=_;rw[hm];rfl
 rw[e,<- ba];exact o2.low (aA.trans a1).1
def Jd3(b:Nat){h:Heap}(laid:Ab.LaidIn h laidAll){bv:Value}{ys:List Int}{x:OutV}(hx:0<=x.value/\x.value<=1125899906842624)(a:OutAt h x)(s:SB h bv ys)(hl:ys.length < 900000010)(K:KP)(hk:∀ w h',OB h' h.next w (ys++Z5p x.p)->Old h h'->K (.ret w) h') :
  FK b 123 [bv,.agg ⟨x.cells⟩] h K:=by
 refine F3 b (Qvb b) Y82 rfl ?_;obtain⟨hA,eA,aA,gA⟩:=Q5u h x.cells;have bx:=Q0e eA;obtain⟨m,hm⟩:∃ m:Nat,x.value=(m:Int):=⟨x.value.toNat,by omega⟩;have il:=Q4m m;have ld0:∀ {hx},Old hA hx->J3 hx h.next 0=some (.int .i64 (m:Int)):=fun {hx} o=>by rw[Za (o.get gA),<- hm];rfl
 have ld1:∀ {hx},Old hA hx->J3 hx h.next 1=some x.sv:=fun {hx} o=>by rw[Za (o.get gA)];rfl
 obtain⟨_,hC,q1,n1,v1,rfl,o1,a1⟩:=Y9l b (Laid.old laid aA) (s.old aA) (n:=m) (by omega) (by omega) (fun r h' => ∃ v,r=.ret v/\OB h' hA.next v (ys++Yd9 m)/\Old hA h') (fun v h' o a=>⟨v,rfl,o,a⟩);obtain⟨_,hD,q2,n2,v2,rfl,o2,a2⟩:=Jaq b (Laid.old laid (aA.trans a1)) o1.sl ((a.s.old aA).old a1) (by rw[aj];omega) a.l (fun r h' => ∃ v,r=.ret v/\OB h' hC.next v (ys++Yd9 m++Zt1 x.script)/\Old hC h') (fun v h' o a=>⟨v,rfl,o,a⟩);have d0:=ld0 (Old.refl hA);have d1:=ld1 (Old.refl hA);have d2:=ld1 a1;simp[Qxs,Xfp,Qvb,V7,U2,Ve,J7,Qur,bx];refine Qg6 [⟨60,[bv,.int .i64 (m:Int)],hA,v1,hC,true⟩,⟨124,[v1,x.sv],hC,v2,hD,true⟩] ?_ Ydm Yju Yfx (by simp[Ymi,Yz6,Ysm,Qxs,Xfp,Qvb,V7,Ve,J7,Qur,d0,d1,d2,Qok];exact⟨rfl,rfl⟩) ?_ ?_
 ·exact zk2 ⟨q1,n1,fun _ c hc=>a1.2 c hc⟩ ⟨q2,n2,fun _ c hc=>a2.2 c hc⟩
 ·simp[Qlc,Qxs,Xfp,Qvb,V7,Ve,J7,Qur,d1,d2,X1i a.s]
 simp[Qxs,Xfp,Qvb,V7,U2,Ve,J7,Qur];refine hk v2 hD ?_ (aA.trans (a1.trans a2));have e:Z5p x.p=Yd9 m++Zt1 x.script:=by
  show Yd9 x.value.toNat++Zt1 x.script=_;rw[hm];rfl
 rw[e,<- ba];exact o2.low (aA.trans a1).1
end
structure TxOk (t:PTx):Prop where
 insN:1<=t.ins.length/\t.ins.length<=8
 outsN:1<=t.outs.length/\t.outs.length<=8
 far:∀ x ∈ t.ins,0<=x.pt.n/\x.pt.n<=8
 lock:0<=t.lock/\t.lock<=1073741824
 pts:(t.ins.map (·.pt)).Nodup
 vals:X2c t.outs 1125899906842624=true
 script:∀ o ∈ t.outs,o.script.length<=256
 wit:∀ x ∈ t.ins,x.wit.length<=16/\∀ w ∈ x.wit,w.length<=64
def Yj5{n a b:Int}:inF n a b=true↔a<=n/\n<=b:=by simp[inF]
def Ydw{t:PTx}(h:Qu2 t=0):TxOk t:=by
 unfold Qu2 at h;split at h
 ·cases h
 rename_i h1;split at h
 ·cases h
 rename_i h2;split at h
 ·cases h
 rename_i h3;split at h
 ·cases h
 rename_i h4;split at h
 ·cases h
 rename_i h5;simp only[cd,cD,not_or,dO,Bool.not_eq_true,Yj5]at h1 h2 h3 h4 h5;have hf:∀ x ∈ t.ins,Z75 x=false:=fun x hx=>by
  have:=cY.1 h2.1 x hx;simpa using this
 have hl:∀ x ∈ t.outs,Y44 x=false:=fun x hx=>by
  have:=cY.1 h5.1 x hx;simpa using this
 have hw:∀ x ∈ t.ins,Y3m x=false:=fun x hx=>by
  have:=cY.1 h5.2 x hx;simpa using this
 refine⟨by omega,by omega,fun x hx => ?_,h2.2,by simpa using h3,h4,fun o ho => ?_,fun x hx => ?_⟩
 ·have:=hf x hx;simpa[Z75,Yj5]using this
 ·have:=hl o ho;simp only[Y44,decide_eq_false_iff_not]at this;omega
 ·have:=hw x hx;simp only[Y3m,Bool.or_eq_false_iff,decide_eq_false_iff_not]at this;refine⟨by omega,fun w hw => ?_⟩;have:=cY.1 this.2 w hw;simp only[decide_eq_true_eq]at this;omega
def Zcj:∀ {l:List POut} {left:Int},X2c l left=true->left<=1125899906842624->∀ o ∈ l,1<=o.value/\o.value<=1125899906842624
 | [],_,_,_,o,ho=>by cases ho
 | p::l,left,h,hle,o,ho=>by
  unfold X2c at h;split at h
  ·cases h
  ·rename_i hp;rcases ax.1 ho with rfl | ho
   ·omega
   ·exact Zcj h (by omega) o ho
def Yhk{A:Type}{g:A->List Int}{m:Nat}:∀ {l:List A},(∀ x ∈ l,(g x).length<=m)->(l.flatMap g).length<=l.length*m
 | [],_=>by simp
 | x::l,h=>by
  have h1:=h x (by simp);have h2:=Yhk (g:=g) (l:=l) fun y hy=>h y (by simp[hy]);rw[List.flatMap_cons,aj,bH,cf];omega
def Jc4(x:PIn):(inB x).length<=41:=by
 have:=Q4m x.pt.n.toNat;simp[inB,x.pt.hd];omega
def Z7p{o:POut}(h:o.script.length<=256):(Z5p o).length<=274:=by
 have:=Q4m o.value.toNat;have:=Q4m o.script.length;simp[Z5p,Zt1];omega
def flat_map' {A B:Type}(f:A->B)(g:B->List Int)(l:List A):(l.map f).flatMap g=l.flatMap fun x=>g (f x):=by
 rw[List.flatMap_map]
def Xd6{xs ys:List Int}(h1:Bytes xs)(h2:Bytes ys):Bytes (xs++ys):=fun z hz=>by
 rcases ac.1 hz with q | q
 ·exact h1 z q
 ·exact h2 z q
def Zlz{t:PTx}(k:TxOk t):(Yk5 t).length<=4096:=by
 have h1:=Q4m t.ins.length;have h2:=Q4m t.outs.length;have h3:=Q4m t.lock.toNat;have h4:=Yhk (g:=inB) (l:=t.ins) (m:=41) fun x _=>Jc4 x;have h5:=Yhk (g:=Z5p) (l:=t.outs) (m:=274) fun x hx=>Z7p (k.script x hx);have h6:=k.insN;have h7:=k.outsN;simp only[Yk5,aj];omega
section
attribute [local simp] Qvd Xag Qrd Vy Jv Qf8 Jb Qa2 Qb6 Zf Qb7 Qae Qb5 V8
def Jb3(b:Nat){h:Heap}(laid:Ab.LaidIn h laidAll){iv ov:Value}{ins:List InV}{outs:List OutV}{lock:Int}(si:Ins h iv ins)(so:Outs h ov outs)(K:KP)
  (hbad:∀ h',Qu2 (ptx ins outs lock)≠0->Old h h'->K (.ret (.tuple #[.slice none 0 0,.int .i64 (Qu2 (ptx ins outs lock))])) h')
  (hk:∀ v h',Qu2 (ptx ins outs lock)=0->OB h' h.next v (Yk5 (ptx ins outs lock))->Old h h'->K (.ret (.tuple #[v,.int .i64 0])) h') :
  FK b 94 [.agg ⟨txC iv ov lock⟩] h K:=by
 refine F3 b (Qrd b) Zp3 rfl ?_;obtain⟨hA,eA,aA,gA⟩:=Q5u h ((txC iv ov lock));have bx:=Q0e eA;have ldt:Qb9 hA h.next 0 3=some (.agg ⟨txC iv ov lock⟩):=by rw[Vf gA (by simp[txC])];rfl
 have cs:∀ {hx:Heap},Old hA hx->J3 hx h.next 0=some iv/\J3 hx h.next 1=some ov/\J3 hx h.next 2=some (.int .i64 lock):=fun {hx} o=>by
  have:=o.get gA;exact⟨by rw[Za this];rfl,by rw[Za this];rfl,by rw[Za this];rfl⟩
 simp[bx,ldt];refine Zux b (si.old aA) (so.old aA) _ fun h1 a1 => ?_;by_cases hc:Qu2 (ptx ins outs lock)=0
 case neg =>
  simp[hc];exact hbad h1 hc (aA.trans a1)
 have k:=Ydw hc;rw[hc];obtain⟨c0, -, -⟩:=cs a1;simp[c0,Qv3];have kl:=Zlz k;have e1:(ptx ins outs lock).ins.flatMap inB=ins.flatMap fun x=>inB x.p:=flat_map' _ _ _;have e2:(ptx ins outs lock).outs.flatMap Z5p=outs.flatMap fun x=>Z5p x.p:=flat_map' _ _ _;have n1:(ptx ins outs lock).ins.length=ins.length:=by simp[ptx]
 have n2:(ptx ins outs lock).outs.length=outs.length:=by simp[ptx]
 have e3:Yk5 (ptx ins outs lock)=Yd9 ins.length++(ins.flatMap fun x=>inB x.p)++(Yd9 outs.length++outs.flatMap fun x=>Z5p x.p)++Yd9 lock.toNat:=by
  unfold Yk5;rw[e1,e2,n1,n2];rfl
 rw[e3]at kl;simp only[aj]at kl;have a01:=aA.trans a1;refine Jgd b (Laid.old laid a01) (xs:=[]) Sl.nil (si.s.old a01) si.n (fun x=>inB x.p) (Qv3 b) (by simp only[cX];omega) (fun h2 a2 x hx bv1 ys s1 hl K hk=>Jh1 b (Laid.old laid (a01.trans a2)) x (k.far x.p (ao.2 ⟨x,hx,rfl⟩)) s1 hl K hk) _ fun v2 h2 o2 a2 => ?_;obtain⟨-,c1, -⟩:=cs (a1.trans a2);simp[c1,Qvb];have a02:=a01.trans a2;refine Jbp b (Laid.old laid a02) o2.sl (so.s.old a02) so.n (fun x=>Z5p x.p) (Qvb b) (by simp only[aj,cX];omega) (fun h3 a3 x hx bv1 ys s1 hl K hk=>Jd3 b (Laid.old laid (a02.trans a3)) (by have:=Zcj k.vals (Int.le_refl _) x.p (ao.2 ⟨x,hx,rfl⟩);exact⟨by have:=this.1;show(0:Int)<=x.p.value;omega,this.2⟩) (((so.old a02).old a3).a x hx) s1 hl K hk) _ fun v3 h3 o3 a3 => ?_;obtain⟨-, -,c2⟩:=cs ((a1.trans a2).trans a3);obtain⟨m,hm⟩:∃ m:Nat,lock=(m:Int):=⟨lock.toNat,by have:=k.lock.1;show lock=_;simp only[ptx]at this;omega⟩;rw[hm]at c2;have hlk:=k.lock.2;simp only[ptx]at hlk;simp[c2];have a03:=a02.trans a3;refine Y9l b (Laid.old laid a03) o3.sl (n:=m) (by omega) (by simp only[aj,cX];omega) _ fun v4 h4 o4 a4 => ?_;simp;refine hk v4 h4 hc ?_ (a03.trans a4);rw[e3,show lock.toNat=m by omega];have q:=o4.low (a03.1);rw[List.nil_append]at q;exact q
end
def Jen(s:List Nat)(l:List Nat):List Nat:=Bl.keyed1 [] (Bl.keyed1 [] s++l)
def Za4(s l:List Nat):(Jen s l).length=32:=Qsa _
def Zxd(s:ByteArray):(Xtl s).length=s.size:=by
 simp[Xtl]
def Z86(b:Nat){s:ByteArray}{l:List Nat}(hs:Xtl s=l.map u8v)(h:Heap):Xis (E b).toEnv 9 57 (.string s) h=some (.slice (some ⟨h.next,0,none⟩) l.length Qm5,h.push (.cells true 1 (l.map u8v))):=by
 obtain⟨rs,hrs⟩:∃ rs,(E b).toEnv.ty.get 9=some rs:=⟨((E b).toEnv.ty.get 9).getD ⟨.invalid,0,0,.bool false,[]⟩,by kernel_rfl⟩;have h1:R57.desc=.slice 5:=(T57 b).d;have h3:R5.desc=.int .u8:=kR
 have hl:s.size=l.length:=by rw[<- Zxd,hs,aT]
 simp only[Xis,hrs,Xwa,h1,Zve,h3,hs,hl]
section
attribute [local simp] Qwp Xcg Qlx Zur Xy Uf
def Zzz(b:Nat){h:Heap}(laid:Ab.LaidIn h laidAll){s:ByteArray}{l d:List Nat}(hs:Xtl s=l.map u8v)(hl:l.length < 1000){v:Value}(sv:SN h v d)(hd:d.length < 1000000)(K:KP)(hk:∀ h',Old h h'->K (.ret (.agg ⟨(Jen l d).map u8v⟩)) h') :
  FK b 95 [.string s,v] h K:=by
 refine F3 b (Qlx b) Yij rfl ?_;obtain⟨hA,eA,aA,gA⟩:=Q5u h z32;have alA:Qbd (E b).toEnv 51 h=some (.pointer (some ⟨h.next,0,none⟩),hA):=by rw[eA];exact Vo b h
 obtain⟨hB,eB,aB,gB⟩:=Q5u hA ((l.map u8v));have cv:=Z86 b hs hA;rw[<- eB]at cv;have sB:SN hB (.slice (some ⟨hA.next,0,none⟩) l.length Qm5) l:=(Own.new (n0:=0) (z:=1) (bz _) gB (by simp) (by unfold Qm5;omega) (.inl ⟨rfl,rfl⟩)).sl;simp[Vo,-Vo,alA,cv];have aAB:=aA.trans aB;refine Zvf b (Xku (Laid.old laid aAB)) sB (by omega) _ fun h1 a1 => ?_;obtain⟨dg,hdg⟩:∃ dg,dg=Bl.keyed1 [] l:=⟨_,rfl⟩;have dl:dg.length=32:=by rw[hdg];exact Qsa _
 rw[<- hdg];have a01:=aAB.trans a1;obtain⟨hC,eC⟩:∃ hC,hC=h1.push (.cells true 1 z32):=⟨_,rfl⟩;have alC:Qbd (E b).toEnv 51 h1=some (.pointer (some ⟨h1.next,0,none⟩),hC):=by rw[eC];exact Vo b h1
 have gC:hC.get h1.next=some (.cells true 1 z32):=by rw[eC,Heap.get_push,if_pos rfl]
 have lC:=Heap.get_lt gC;obtain⟨hD,eD⟩:∃ hD,hD=hC.set h1.next (some (.cells true 1 (dg.map u8v))):=⟨_,rfl⟩;have stD:Ul hC h1.next 0 (dg.map u8v)=some hD:=by
  rw[Ur gC (by simp[z32,dl]),eD];congr 4;simp[z32,dl]
 have gD:hD.get h1.next=some (.cells true 1 (dg.map u8v)):=by rw[eD,gY lC,if_pos rfl]
 have aD:Old h1 hD:=by rw[eD,eC];exact(Old.push _ _).set _ (ae _) (by rw[<- eC];exact lC)
 have a0D:=a01.trans aD;have oD:Own hD h1.next 1 (.slice (some ⟨h1.next,0,none⟩) 32 32) 32 (dg.map u8v):=Own.new (ae _) gD (by simp[dl]) (by decide) (.inr rfl);obtain⟨v',h2,k1,k2,k3⟩:=Qwh (T57 b) (tx:=57) (m:=d.length) Qk6 (by omega) oD aD.1 (Xbl (T57 b) Qk6 (sv.old a0D)) (by simp) (by rw[Q4k];omega) (by omega);have a2:Old h1 h2:=k3.old aD oD;simp[Vo,-Vo,alC,dl,stD,Yrb,k1];have s2:SN h2 v' (dg++d):=by
  have:=k2.sl;rw[SN,aj,bc,dl];exact this
 have a02:=a01.trans a2;refine Zvf b (Xku (Laid.old laid a02)) s2 (by simp[dl];omega) _ fun h3 a3 => ?_;obtain⟨dt,hdt⟩:∃ dt,dt=Bl.keyed1 [] (dg++d):=⟨_,rfl⟩;have tl:dt.length=32:=by rw[hdt];exact Qsa _
 have te:dt=Jen l d:=by rw[hdt,hdg];rfl
 rw[<- hdt];have a03:=a02.trans a3;have g3:h3.get h.next=some (.cells true 1 z32):=(((aB.trans a1).trans a2).trans a3).get gA;have l3:=Heap.get_lt g3;have st3:Ul h3 h.next 0 (dt.map u8v)=some (h3.set h.next (some (.cells true 1 (dt.map u8v)))):=by
  rw[Ur g3 (by simp[z32,tl])];congr 4;simp[z32,tl]
 have ld3:Qb9 (h3.set h.next (some (.cells true 1 (dt.map u8v)))) h.next 0 32=some (.agg ⟨dt.map u8v⟩):=by
  rw[Vf (by rw[gY l3,if_pos rfl]) (by simp[tl]),bX,aJ (by simp[tl])]
 simp[Vo,Qiz,tl,st3,ld3];rw[te];exact hk _ (a03.set _ (ae _) l3)
end
def dgF(s:List Nat)(t:PTx):List Nat:=if Qu2 t=0 then Jen s (Zhf (Yk5 t))else List.replicate 32 0
def Yb3(s:List Nat)(t:PTx):(dgF s t).length=32:=by
 unfold dgF;split
 ·exact Za4 _ _
 ·simp
def Y8v(l:List Nat)(h:∀ n ∈ l,n < 256):Bytes (X53 l):=fun z hz=>by
 obtain⟨n,hn,rfl⟩:=ao.1 hz;have:=h n hn;show(0:Int)<=(n:Int)/\(n:Int) < 256;omega
def PtB(p:Pt):Prop:=∀ n ∈ p.id,n < 256
def Zsv{t:PTx}(hi:∀ x ∈ t.ins,PtB x.pt)(ho:∀ o ∈ t.outs,Bytes o.script):Bytes (Yk5 t):=by
 have fm:∀ {A:Type} (g:A->List Int) (l:List A),(∀ x ∈ l,Bytes (g x))->Bytes (l.flatMap g):=fun g l h z hz=>by
  obtain⟨x,hx,hz⟩:=cJ.1 hz;exact h x hx z hz
 unfold Yk5;refine Xd6 (Xd6 (Xd6 (Xah _) (fm _ _ fun x hx => ?_)) (Xd6 (Xah _) (fm _ _ fun o h => ?_))) (Xah _)
 ·exact Xd6 (Y8v _ (hi x hx)) (Xah _)
 ·exact Xd6 (Xah _) (Xd6 (Xah _) (ho o h))
section
attribute [local simp] Qyn Xfg Qq1 Vy Qrd Wq Qlx Uf
def Zvr(b:Nat){h:Heap}(laid:Ab.LaidIn h laidAll){s:ByteArray}{l:List Nat}(hs:Xtl s=l.map u8v)(hl:l.length < 1000){iv ov:Value}{ins:List InV}{outs:List OutV}{lock:Int}(si:Ins h iv ins)(so:Outs h ov outs)(hp:∀ x ∈ ins,PtB x.pt)(K:KP)
  (hk:∀ h',Old h h'->K (.ret (.agg ⟨(dgF l (ptx ins outs lock)).map u8v⟩)) h'):FK b 67 [.string s,.agg ⟨txC iv ov lock⟩] h K:=by
 refine F3 b (Qq1 b) Y7i rfl ?_;obtain⟨hA,eA,aA,gA⟩:=Q5u h ((txC iv ov lock));have nA:=Q8z eA;have bx:=Q0e eA;obtain⟨hB,eB,aB,gB⟩:=Q5u hA z32;have alB:Qbd (E b).toEnv 51 hA=some (.pointer (some ⟨hA.next,0,none⟩),hB):=by rw[eB];exact Vo b hA
 have aAB:=aA.trans aB;have ldt:Qb9 hB h.next 0 3=some (.agg ⟨txC iv ov lock⟩):=by rw[Vf (aB.get gA) (by simp[txC])];rfl
 simp[Vo,bx,-Vo,alB,ldt];have fin:∀ (h1:Heap) (dt:List Nat),Old hB h1->dt.length=32->∃ h2,Ul h1 hA.next 0 (dt.map u8v)=some h2/\Qb9 h2 hA.next 0 32=some (.agg ⟨dt.map u8v⟩)/\Old h h2:=by
  intro h1 dt a1 tl;have g3:=a1.get gB;have l3:=Heap.get_lt g3;refine⟨h1.set hA.next (some (.cells true 1 (dt.map u8v))),?_,?_,(aAB.trans a1).set _ (by omega) l3⟩
  ·rw[Ur g3 (by simp[z32,tl])];congr 4;simp[z32,tl]
  ·rw[Vf (by rw[gY l3,if_pos rfl]) (by simp[tl]),bX,aJ (by simp[tl])]
 refine Jb3 b (Laid.old laid aAB) (si.old aAB) (so.old aAB) _ (fun h1 hc a1 => ?_) (fun v h1 hc o1 a1 => ?_)
 ·obtain⟨zd,ezd⟩:∃ zd:List Nat,zd=List.replicate 32 0:=⟨_,rfl⟩;obtain⟨h2,k1,k2,k3⟩:=fin h1 zd a1 (by rw[ezd];simp);have zh:Qm8 (E b).toEnv 51 []=some (.agg ⟨zd.map u8v⟩):=by rw[ezd];kernel_rfl
  have rl:zd.length=32:=by rw[ezd];simp
  simp[Vo,hc,zh,rl,k1,Qiz,k2];have:=hk h2 k3;unfold dgF at this;rw[if_neg hc,<- ezd]at this;exact this
 ·have k:=Ydw hc;have kl:=Zlz k;have kb:Bytes (Yk5 (ptx ins outs lock)):=Zsv (fun x hx=>by
   obtain⟨y,hy,rfl⟩:=ao.1 hx;exact hp y hy) (fun o ho=>by
   obtain⟨y,hy,rfl⟩:=ao.1 ho;exact(so.a y hy).b)
  simp[Vo];refine Zzz b (Laid.old laid (aAB.trans a1)) hs hl (SN.of o1.sl kb) (by simp;omega) _ fun h2 a2 => ?_;obtain⟨h3,k1,k2,k3⟩:=fin h2 _ (a1.trans a2) (Za4 l ((Yk5 (ptx ins outs lock)).map Int.toNat));simp[Vo,Qiz,Za4,k1,k2];have:=hk h3 k3;unfold dgF at this;rw[if_pos hc]at this;exact this
end
def X06:List Nat:=[115,105,103,110]
section
attribute [local simp] Xio Yla Vi Vy Qq1 Uf
def Zit(b:Nat){h:Heap}(laid:Ab.LaidIn h laidAll){iv ov:Value}{ins:List InV}{outs:List OutV}{lock:Int}(si:Ins h iv ins)(so:Outs h ov outs)(hp:∀ x ∈ ins,PtB x.pt)(K:KP)
  (hk:∀ h',Old h h'->K (.ret (.agg ⟨(dgF X06 (ptx ins outs lock)).map u8v⟩)) h'):FK b 47 [.agg ⟨txC iv ov lock⟩] h K:=by
 refine F3 b (Vi b) Y11 rfl ?_;obtain⟨hA,eA,aA,gA⟩:=Q5u h ((txC iv ov lock));have nA:=Q8z eA;have bx:=Q0e eA;obtain⟨hB,eB,aB,gB⟩:=Q5u hA z32;have alB:Qbd (E b).toEnv 51 hA=some (.pointer (some ⟨hA.next,0,none⟩),hB):=by rw[eB];exact Vo b hA
 have aAB:=aA.trans aB;have ldt:Qb9 hB h.next 0 3=some (.agg ⟨txC iv ov lock⟩):=by rw[Vf (aB.get gA) (by simp[txC])];rfl
 simp[Vo,bx,-Vo,alB,ldt];refine Zvr b (l:=X06) (Laid.old laid aAB) rfl (by simp[X06]) (si.old aAB) (so.old aAB) hp _ fun h1 a1 => ?_;obtain⟨dt,hdt⟩:∃ dt,dt=dgF X06 (ptx ins outs lock):=⟨_,rfl⟩;have tl:dt.length=32:=by rw[hdt];exact Yb3 _ _
 rw[<- hdt]at hk ⊢;have g3:=a1.get gB;have l3:=Heap.get_lt g3;have st3:Ul h1 hA.next 0 (dt.map u8v)=some (h1.set hA.next (some (.cells true 1 (dt.map u8v)))):=by
  rw[Ur g3 (by simp[z32,tl])];congr 4;simp[z32,tl]
 have ld3:Qb9 (h1.set hA.next (some (.cells true 1 (dt.map u8v)))) hA.next 0 32=some (.agg ⟨dt.map u8v⟩):=by
  rw[Vf (by rw[gY l3,if_pos rfl]) (by simp[tl]),bX,aJ (by simp[tl])]
 simp[Vo,Qiz,tl,st3,ld3];exact hk _ ((aAB.trans a1).set _ (by omega) l3)
end
end Go.Proofs.YtijagoebdgohnaaGreatDoor
end
