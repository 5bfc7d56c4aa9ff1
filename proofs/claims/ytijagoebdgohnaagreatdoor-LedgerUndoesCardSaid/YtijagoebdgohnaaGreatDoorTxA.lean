import Derived.Test.YtijagoebdgohnaaGreatDoorFA
import Derived.Test.YtijagoebdgohnaaGreatDoorScB
set_option linter.all false
noncomputable section
namespace Go.Proofs.YtijagoebdgohnaaGreatDoor
open Go Go.Ab
set_option maxRecDepth 100000
structure Pt where
 id:List Nat
 n:Int
 hd:id.length=32
def Pt.cells(p:Pt):List Value:=p.id.map u8v ++ [.int .i64 p.n]
def Pt.len(p:Pt):p.cells.length=33:=by simp[Pt.cells,p.hd]
def Pt.ext' {p q:Pt}(h1:p.id=q.id)(h2:p.n=q.n):p=q:=by
 cases p;cases q;simp only at h1 h2;subst h1;subst h2;rfl
instance : DecidableEq Pt:=fun p q=>if h:p.id=q.id/\p.n=q.n then isTrue (Pt.ext' h.1 h.2)else isFalse fun e=>h (by rw[e];exact⟨rfl,rfl⟩)
def Qn4(l:List Pt):List Value:=l.flatMap Pt.cells
def Yah(l:List Pt):(Qn4 l).length=l.length*33:=by
 induction l with
 | nil=>rfl
 | cons p l ih=>simp[Qn4,Pt.len]at ih ⊢;omega
def X7r:∀ (xs ys:List Nat) (l:List Nat) (r s:List Value),xs.length=ys.length->Qap (List.replicate xs.length 1++l) (xs.map u8v++r) (ys.map u8v++s)=(Qap l r s).map (decide (xs=ys) && ·)
 | [],[],l,r,s,_=>by
  simp
 | x::xs,y::ys,l,r,s,h=>by
  have ih:=X7r xs ys l r s (by simpa using h);simp only[bI,cZ,aR,List.cons_append,Qap,ih];have : Ykp 1 (u8v x) (u8v y)=some (decide (x=y)):=by
   show(if IntKind.u8=IntKind.u8 then some ((x:Int) == (y:Int))else none)=_;simp only[if_true];congr 1;by_cases e:x=y
   ·subst e;simp
   ·simp[e];omega
  rw[this];cases Qap l r s with
  | none=>rfl
  | some c=>simp[Bool.and_assoc]
def Ji9(p q:Pt):Qap L53 p.cells q.cells=some (decide (p=q)):=by
 have:=X7r p.id q.id [1] [.int .i64 p.n] [.int .i64 q.n] (by rw[p.hd,q.hd]);rw[p.hd]at this;have e:Qap L53 p.cells q.cells=Qap (List.replicate 32 1 ++ [1]) (p.id.map u8v ++ [.int .i64 p.n]) (q.id.map u8v ++ [.int .i64 q.n]):=by
  congr 1
  kernel_rfl
 rw[e,this];have e2:Qap [1] [Value.int .i64 p.n] [.int .i64 q.n]=some (decide (p.n=q.n)):=by
  show(match some (p.n == q.n),some true with | some a,some b=>some (a && b) | _,_=>none)=_;simp;rfl
 rw[e2];show some (decide (p.id=q.id) && decide (p.n=q.n))=_;congr 1;by_cases h:p=q
 ·subst h;simp
 ·have : ¬ (p.id=q.id/\p.n=q.n):=fun⟨a,c⟩=>h (Pt.ext' a c);simp[h];intro a c;exact this ⟨a,c⟩
def peq(b:Nat)(p q:Pt):Y2l (E b).toEnv .eql 53 (.agg ⟨p.cells⟩) (.agg ⟨q.cells⟩)=some (.bool (decide (p=q))):=by
 have e:Y2l (E b).toEnv .eql 53 (.agg ⟨p.cells⟩) (.agg ⟨q.cells⟩)=(Qap L53 p.cells q.cells).map .bool:=by kernel_rfl
 rw[e,Ji9];rfl
def Yjb:∀ {l:List Pt} {i:Nat} {p:Pt},l[i]? = some p->∀ j,j < 33->(Qn4 l)[i*33+j]? = p.cells[j]?
 | q::l,0,p,h,j,hj=>by
  simp at h;subst h;show(q.cells++Qn4 l)[0*33+j]? = _;rw[aL (by rw[Pt.len];omega)];congr 1;omega
 | q::l,i+1,p,h,j,hj=>by
  have ih:=Yjb (l:=l) (i:=i) (p:=p) (by simpa using h) j hj;show(q.cells++Qn4 l)[(i+1)*33+j]? = _;rw[aS (by rw[Pt.len];omega),Pt.len,show(i+1)*33+j-33=i*33+j by omega];exact ih
def Z6b{b:Nat}{te ts:TypeId}{re rs:TyRec}(T:SlTy (E b).toEnv te ts re rs)(hz:re.size=33){h:Heap}{v:Value}{l:List Pt}(s:Sl h 33 v l.length (Qn4 l)){i:Nat}{p:Pt}(hp:l[i]? = some p) :
  ∃ bk off,Jz (E b).toEnv ts v (.int .i64 (i:Int))=some (.pointer (some ⟨bk,off,none⟩))/\Qbn h bk off 33=some (.agg ⟨p.cells⟩):=by
 have hl:=(aq.1 hp).1;obtain⟨bk,off,q1,q2,q3,q4⟩:=Q96 T hz s (k:=.i64) (i:=(i:Int)) (by omega) (by omega);refine⟨bk,off,q2,?_⟩;rw[q4];congr 3;rw[bn];apply dP;intro j;by_cases hj:j < 33
 ·rw[dR hj,cR,Yjb hp j hj]
 ·rw[bg (by simp;omega),bg (by rw[Pt.len];omega)]
structure PE where
 key:Pt
 val:Value
 born:Nat
def PE.e(x:PE):MapEntry:=⟨.agg ⟨x.key.cells⟩,x.val,x.born⟩
def Q1t(p:Pt):List PE->Nat->Option (Nat × Value)
 | [],_=>none
 | x::l,j=>if p=x.key then some (j,x.val)else Q1t p l (j+1)
def Zt8(p:Pt):∀ (l:List PE) (j:Nat),Xsu L53 p.cells (l.map PE.e) j=some (Q1t p l j)
 | [],_=>rfl
 | x::l,j=>by
  have hc:Zbj x.e.key=some x.key.cells:=rfl;simp only[aR,Xsu,hc,Ji9,Q1t];by_cases h:p=x.key
  ·simp[h];rfl
  ·simp only[h,decide_false,if_false];exact Zt8 p l (j+1)
def Zb8(p:Pt)(l:List PE):Ydj R53 (.agg ⟨p.cells⟩) (l.map PE.e)=some (Q1t p l 0):=by
 obtain⟨fs,hd⟩:∃ fs,R53.desc=.struct fs:=⟨(match R53.desc with | .struct fs=>fs | _ => #[]),by kernel_rfl⟩;have hl:R53.leaf=1::List.replicate 32 1:=by kernel_rfl
 have h0:=Zt8 p l 0;rw[show L53=1::List.replicate 32 1 by kernel_rfl]at h0;have hb:Nat.beq p.cells.length (1::List.replicate 32 1).length=true:=by rw[p.len];rfl
 simp only[Ydj,hd,hl,hb];exact h0
def Yik{p:Pt}:∀ {l:List PE} {j:Nat},Q1t p l j=none ↔ ∀ x ∈ l,x.key≠p
 | [],_=>by simp[Q1t]
 | x::l,j=>by
  unfold Q1t;by_cases h:p=x.key
  ·simp[h]
  ·rw[if_neg h,Yik];simp;exact fun _ q=>h q.symm
def Xl8{p:Pt}:∀ {l:List PE} {j i:Nat} {v:Value},Q1t p l j=some (i,v)->∃ x,l[i-j]? = some x/\j<=i/\x.key=p/\x.val=v
 | [],_,_,_,h=>by cases h
 | x::l,j,i,v,h=>by
  unfold Q1t at h;by_cases hk:p=x.key
  ·rw[if_pos hk]at h;cases h;exact⟨x,by simp,ae _,hk.symm,rfl⟩
  ·rw[if_neg hk]at h;obtain⟨y,h1,h2,h3,h4⟩:=Xl8 h;refine⟨y,?_,by omega,h3,h4⟩;rw[show i-j=(i-(j+1))+1 by omega,bZ];exact h1
def Zkj(p:Pt):∀ v ∈ p.cells,∃ k z,v=.int k z:=by
 intro v hv;rcases ac.1 hv with h | h
 ·obtain⟨n,_,rfl⟩:=av.1 h;exact⟨_,_,rfl⟩
 ·simp at h;exact⟨_,_,h⟩
def Zi3:∀ {l:List Value},(∀ v ∈ l,∃ k z,v=.int k z)->flatL l=true/\l.all (·.oneCell')=true
 | [],_=>⟨by simp[flatL],rfl⟩
 | v::l,h=>by
  obtain⟨k,z,rfl⟩:=h v (by simp);obtain⟨h1,h2⟩:=Zi3 (l:=l) fun w hw=>h w (by simp[hw]);exact⟨by simp[flatL,flat,h1],by simpa[Value.oneCell']using h2⟩
def Y93(p:Pt):flat (.agg ⟨p.cells⟩)=true:=by
 obtain⟨h1,h2⟩:=Zi3 (Zkj p);simp only[flat,flatA,h1,h2,Bool.and_self]
def Z9q(p:Pt):Instr.sameBits 10000 (.agg ⟨p.cells⟩) (.agg ⟨p.cells⟩)=true:=by
 show Instr.sameBits (9999+1) (.agg _) (.agg _)=true;simp only[Instr.sameBits,beq_self_eq_true,dD,dA];have key:∀ (l:List Value) (x:Value × Value),x ∈ l.zip l->x.1=x.2/\x.1 ∈ l:=by
  intro l;induction l with
  | nil=>intro x hx;simp at hx
  | cons a l ih =>
   intro x hx;simp only[List.zip_cons_cons,ax]at hx;rcases hx with rfl | hx
   ·exact⟨rfl,by simp⟩
   ·exact⟨(ih x hx).1,by simp[(ih x hx).2]⟩
 rintro⟨a,c⟩ hx;obtain⟨h1,h2⟩:=key _ _ hx;simp only at h1 h2;subst h1;obtain⟨k,z,rfl⟩:=Zkj p a h2;simp[Instr.sameBits]
def Zzq(p:Pt)(v:Value):List PE->List PE
 | []=>[]
 | x::l=>if p=x.key then {x with val:=v}::l else x::Zzq p v l
def Yyg{p:Pt}(v:Value):∀ {l:List PE} {j i:Nat} {w:Value},Q1t p l j=some (i,w)->(l.map PE.e).modify (i-j) (fun e=>{e with key:=.agg ⟨p.cells⟩,val:=v})=(Zzq p v l).map PE.e
 | [],_,_,_,h=>by cases h
 | x::l,j,i,w,h=>by
  unfold Q1t at h;unfold Zzq;by_cases hk:p=x.key
  ·rw[if_pos hk]at h ⊢;cases h;rw[Nat.sub_self];simp[PE.e,hk]
  ·rw[if_neg hk]at h ⊢;obtain⟨y,h1,h2,h3,h4⟩:=Xl8 h;rw[show i-j=(i-(j+1))+1 by omega,aR,List.modify_succ_cons,Yyg v h,aR]
section
variable{b:Nat}{tm te:TypeId}{rm:TyRec}(he:(E b).toEnv.ty.get tm=some rm)(hd:rm.desc=.map 53 te)
include he hd
def Z2c{h:Heap}{mb clk:Nat}{l:List PE}(hm:h.get mb=some (.map ⟨l.map PE.e⟩ clk)){p:Pt}(hf:Q1t p l 0=none)(v:Value) :
  Qgp (E b).toEnv tm (.map (some mb)) (.agg ⟨p.cells⟩) v h=some (h.set mb (some (.map ⟨(l ++ [(⟨p,v,clk⟩:PE)]).map PE.e⟩ (clk+1)))):=by
 have hq:=Zb8 p l;rw[hf]at hq;simp only[Qgp,he,hd,hm,Ym2,Y93,hq];simp[PE.e]
def Zk1{h:Heap}{mb clk:Nat}{l:List PE}(hm:h.get mb=some (.map ⟨l.map PE.e⟩ clk)){p:Pt}{i:Nat}{w:Value}(hf:Q1t p l 0=some (i,w))(v:Value) :
  Qgp (E b).toEnv tm (.map (some mb)) (.agg ⟨p.cells⟩) v h=some (h.set mb (some (.map ⟨(Zzq p v l).map PE.e⟩ clk))):=by
 have hq:=Zb8 p l;obtain⟨x,hx, -,hk, -⟩:=Xl8 hf;rw[dm]at hx;have e0:(((⟨l.map PE.e⟩:Array MapEntry)[i]?).map (·.key)).getD (.agg ⟨p.cells⟩)=.agg ⟨p.cells⟩:=by
  have : (⟨l.map PE.e⟩:Array MapEntry)[i]? = some x.e:=by
   show(l.map PE.e).toArray[i]? = _;rw[List.getElem?_toArray,bc,hx];rfl
  rw[this];simp[PE.e,hk]
 have e1:=Yyg v hf;rw[dm]at e1;rw[hf]at hq;simp only[Qgp,he,hd,hm,Ym2,Y93,hq,e0,Z9q];congr 4;rw[<- e1];simp
def Jcy{h:Heap}{mb clk:Nat}{l:List PE}(hm:h.get mb=some (.map ⟨l.map PE.e⟩ clk)){re:TyRec}(hee:(E b).toEnv.ty.get te=some re)(p:Pt) :
  Qo6 (E b).toEnv tm (.map (some mb)) (.agg ⟨p.cells⟩) false h=some (match Q1t p l 0 with | some q=>q.2 | none=>re.zero) /\
  Qo6 (E b).toEnv tm (.map (some mb)) (.agg ⟨p.cells⟩) true h=some (match Q1t p l 0 with | some q => .tuple #[q.2,.bool true] | none => .tuple #[re.zero,.bool false]):=by
 have hf:=Zb8 p l;constructor
 ·simp only[Qo6,he,hd,Ym2,hee,Q2z,hm,hf];cases Q1t p l 0 <;> simp
 ·simp only[Qo6,he,hd,Ym2,hee,Q2z,hm,hf];cases Q1t p l 0 <;> simp
def Jam{h:Heap}{mb clk:Nat}{es:Array MapEntry}(hm:h.get mb=some (.map es clk)):Qnm (E b).toEnv tm (.map (some mb)) h=some (.int .i64 es.size):=by
 simp only[Qnm,he,hd,hm]
def Ztp{h:Heap}:Q4w (E b).toEnv tm none h=some (.map (some h.next),h.push (.map #[] 0)):=by
 simp only[Q4w,he,hd]
end
structure PIn where
 pt:Pt
 wit:List (List Int)
structure POut where
 value:Int
 script:List Int
structure PTx where
 ins:List PIn
 outs:List POut
 lock:Int
def inF(n least most:Int):Bool:=decide (least<=n/\n<=most)
def X89:List POut->Int->Bool
 | [],_=>true
 | o::l,left=>if o.value < 1∨left < o.value then false else X89 l (left-o.value)
def Z5b(x:PIn):Bool := !inF x.pt.n 0 8
def Y2p(o:POut):Bool:=decide (256 < o.script.length)
def Y27(x:PIn):Bool:=decide (16 < x.wit.length) || x.wit.any fun w=>decide (64 < w.length)
def Qzf(t:PTx):Int :=
 if !inF t.ins.length 1 8 || !inF t.outs.length 1 8 then 3
 else if t.ins.any Z5b || !inF t.lock 0 1073741824 then 1
 else if !decide (t.ins.map (·.pt)).Nodup then 13
 else if !X89 t.outs 1125899906842624 then 15
 else if t.outs.any Y2p || t.ins.any Y27 then 5
 else 0
def leN:Nat->Nat->List Int
 | 0,_=>[]
 | k+1,n=>((n % 256:Nat):Int)::leN k (n / 256)
def Ych(n:Nat):List Int:=if n < 253 then [(n:Int)]else if n < 65536 then 253::leN 2 n else if n < 4294967296 then 254::leN 4 n else 255::leN 8 n
def Za8:∀ k n,(leN k n).length=k
 | 0,_=>rfl
 | k+1,n=>by simp[leN,Za8 k]
def Ydd:∀ k n,∀ z ∈ leN k n,0<=z/\z < 256
 | 0,_,z,h=>by cases h
 | k+1,n,z,h=>by
  rcases ax.1 h with rfl | h
  ·omega
  ·exact Ydd k _ z h
def Q4q(n:Nat):(Ych n).length<=9:=by
 unfold Ych;split
 ·simp
 ·split
  ·simp[Za8]
  ·split <;> simp[Za8]
def Xab(n:Nat):Bytes (Ych n):=by
 unfold Ych Bytes;intro z hz;split at hz
 ·simp at hz;omega
 ·split at hz
  ·rcases ax.1 hz with rfl | hz
   ·omega
   ·exact Ydd _ _ z hz
  ·split at hz
   ·rcases ax.1 hz with rfl | hz
    ·omega
    ·exact Ydd _ _ z hz
   ·rcases ax.1 hz with rfl | hz
    ·omega
    ·exact Ydd _ _ z hz
def inB(x:PIn):List Int:=x.pt.id.map Int.ofNat++Ych x.pt.n.toNat
def Zr8(l:List Int):List Int:=Ych l.length++l
def Z3w(o:POut):List Int:=Ych o.value.toNat++Zr8 o.script
def Yja(t:PTx):List Int:=Ych t.ins.length++t.ins.flatMap inB++(Ych t.outs.length++t.outs.flatMap Z3w)++Ych t.lock.toNat
structure InV where
 pt:Pt
 wv:Value
 its:List (Value × List Int)
def InV.cells(x:InV):List Value:=x.pt.cells ++ [x.wv]
def InV.p(x:InV):PIn:=⟨x.pt,x.its.map (·.2)⟩
structure OutV where
 value:Int
 sv:Value
 script:List Int
def OutV.cells(o:OutV):List Value:=[.int .i64 o.value,o.sv]
def OutV.p(o:OutV):POut:=⟨o.value,o.script⟩
def Qek(l:List InV):List Value:=l.flatMap InV.cells
def Qpe(l:List OutV):List Value:=l.flatMap OutV.cells
def InV.len(x:InV):x.cells.length=34:=by simp[InV.cells,Pt.len]
def OutV.len(x:OutV):x.cells.length=2:=rfl
def X9j(l:List InV):(Qek l).length=l.length*34:=by
 induction l with
 | nil=>rfl
 | cons p l ih=>simp[Qek,InV.len]at ih ⊢;omega
structure InAt (h:Heap) (x:InV):Prop where
 w:Sl h 1 x.wv x.its.length (x.its.map (·.1))
 i:ItsAt h x.its
 n:x.its.length < 1000000
 l:∀ p ∈ x.its,p.2.length < 1000000
structure OutAt (h:Heap) (x:OutV):Prop where
 s:SB h x.sv x.script
 b:Bytes x.script
 l:x.script.length < 1000000
def InAt.old{h h':Heap}{x:InV}(a:InAt h x)(o:Old h h'):InAt h' x:=⟨a.w.old o,a.i.old o,a.n,a.l⟩
def OutAt.old{h h':Heap}{x:OutV}(a:OutAt h x)(o:Old h h'):OutAt h' x:=⟨a.s.old o,a.b,a.l⟩
structure Ins (h:Heap) (v:Value) (l:List InV):Prop where
 s:Sl h 34 v l.length (Qek l)
 n:l.length < 1000000
 a:∀ x ∈ l,InAt h x
structure Outs (h:Heap) (v:Value) (l:List OutV):Prop where
 s:Sl h 2 v l.length (Qpe l)
 n:l.length < 1000000
 a:∀ x ∈ l,OutAt h x
def Ins.old{h h':Heap}{v:Value}{l:List InV}(a:Ins h v l)(o:Old h h'):Ins h' v l:=⟨a.s.old o,a.n,fun x hx=>(a.a x hx).old o⟩
def Outs.old{h h':Heap}{v:Value}{l:List OutV}(a:Outs h v l)(o:Old h h'):Outs h' v l:=⟨a.s.old o,a.n,fun x hx=>(a.a x hx).old o⟩
def txC(iv ov:Value)(lock:Int):List Value:=[iv,ov,.int .i64 lock]
def ptx(ins:List InV)(outs:List OutV)(lock:Int):PTx:=⟨ins.map InV.p,outs.map OutV.p,lock⟩
def Yh8{A:Type}{f:A->List Value}{z:Nat}(hf:∀ x,(f x).length=z):∀ {l:List A} {i:Nat} {x:A},l[i]? = some x->((l.flatMap f).drop (i*z)).take z=f x
 | y::l,0,x,h=>by
  simp at h;subst h;rw[Nat.zero_mul,bY,List.flatMap_cons,bM (by rw[hf];omega),aJ (by rw[hf];omega)]
 | y::l,i+1,x,h=>by
  rw[List.flatMap_cons,show(i+1)*z=z+i*z by rw[cj];omega,<- cD];have : (f y++l.flatMap f).drop z=l.flatMap f:=by
   rw[<- hf y,cM]
  rw[this];exact Yh8 hf (by simpa using h)
def Zld{A:Type}{f:A->List Value}{z:Nat}(hf:∀ x,(f x).length=z){l:List A}{i:Nat}{x:A}(h:l[i]? = some x){j:Nat}(hj:j < z):(l.flatMap f)[i*z+j]? = (f x)[j]? := by
 rw[<- Yh8 hf h,dR hj,cR]
def Ycb{b:Nat}{te ts:TypeId}{re rs:TyRec}(T:SlTy (E b).toEnv te ts re rs)(hz:re.size=34){h:Heap}{v:Value}{l:List InV}(s:Sl h 34 v l.length (Qek l)){i:Nat}{x:InV}(hp:l[i]? = some x) :
  ∃ bk off,Jp v=some bk/\Jz (E b).toEnv ts v (.int .i64 (i:Int))=some (.pointer (some ⟨bk,off,none⟩))/\Qbn h bk off 34=some (.agg ⟨x.cells⟩)/\(∀ j,j < 34->J6 h bk (off+j)=x.cells[j]?):=by
 have hl:=(aq.1 hp).1;obtain⟨bk,off,q1,q2,q3,q4⟩:=Q96 T hz s (k:=.i64) (i:=(i:Int)) (by omega) (by omega);refine⟨bk,off,q1,q2,?_,fun j hj => ?_⟩
 ·rw[q4,bn,Qek,Yh8 InV.len hp]
 ·rw[q3 j hj,bn,Qek,Zld InV.len hp hj]
def Xh4{b:Nat}{te ts:TypeId}{re rs:TyRec}(T:SlTy (E b).toEnv te ts re rs)(hz:re.size=2){h:Heap}{v:Value}{l:List OutV}(s:Sl h 2 v l.length (Qpe l)){i:Nat}{x:OutV}(hp:l[i]? = some x) :
  ∃ bk off,Jp v=some bk/\Jz (E b).toEnv ts v (.int .i64 (i:Int))=some (.pointer (some ⟨bk,off,none⟩))/\Qbn h bk off 2=some (.agg ⟨x.cells⟩)/\J6 h bk off=some (.int .i64 x.value)/\J6 h bk (off+1)=some x.sv:=by
 have hl:=(aq.1 hp).1;obtain⟨bk,off,q1,q2,q3,q4⟩:=Q96 T hz s (k:=.i64) (i:=(i:Int)) (by omega) (by omega);have q5:∀ j,j < 2->J6 h bk (off+j)=x.cells[j]? := fun j hj=>by rw[q3 j hj,bn,Qpe,Zld OutV.len hp hj]
 refine⟨bk,off,q1,q2,?_,?_,?_⟩
 ·rw[q4,bn,Qpe,Yh8 OutV.len hp]
 ·have:=q5 0 (by omega);simpa[OutV.cells]using this
 ·have:=q5 1 (by omega);simpa[OutV.cells]using this
def Yqh(x:InV):x.cells.take 33=x.pt.cells:=by
 rw[InV.cells,bM (by rw[Pt.len];omega),aJ (by rw[Pt.len];omega)]
def Zds{A:Type}{q:A->Bool}{l:List A}{i:Nat}{x:A}(hx:l[i]? = some x)(h0:(l.take i).any q=false):(l.take (i+1)).any q=q x:=by
 rw[bm,hx];simp[h0]
def Z2m{A:Type}{q:A->Bool}{l:List A}{i:Nat}{x:A}(hx:l[i]? = some x)(hq:q x=true):l.any q=true:=List.any_eq_true.2 ⟨x,ak hx,hq⟩
def Jh7(v fv:Value)(l:List InV)(q:InV->Bool)(h:Heap)(k:Nat)(s:St):Prop:=∃ (t:Tr Value) (h1:Heap) (i:Nat),s=⟨⟨19,t⟩,[],h1⟩/\t.get 0=some v/\t.get 1=some fv/\t.get 7=some (.int .i64 (l.length:Int))/\t.get 8=some (.int .i64 (i:Int))/\i<=l.length/\k=l.length-i/\(l.take i).any q=false/\Old h h1
attribute [local simp] Xn kON kOC Xp kNN kNP kRR kRP kEN kER Q4 Xa Za Yi aop Qe nth Ab.g0 gv gs Qb Qa aev evs evO Qf Tr.get_put St.put Tm.put flat flatA Yh Ql Qo Qm Qn Qj Qk Qi Qr Qg Q5 Q6 kTN kTR kTX kTP kBN kBR kBX kBP kCS kCR kCE kAM Xo.putAll Qz Q9 Q3 Q0 Q8 Qc Qd Q1 Q2 Q7 Yx Ut ldv Nat.testBit Zg Yc loadAt Ab.runT Z8 Je Vr Qaa Zk
section
attribute [local simp] Uc
def Jao(b:Nat){h:Heap}{v:Value}{l:List InV}{f:FuncId}{F:Func}(hF:(E b).fn.get f=some F){cap:List Value}(s:Sl h 34 v l.length (Qek l))(hn:l.length < 1000000)(q:InV->Bool)
  (hf:∀ h1,Old h h1->∀ x ∈ l,∀ K,(∀ h2,Old h1 h2->K (.ret (.bool (q x))) h2)->FK b f (.agg ⟨x.cells⟩::cap) h1 K)
  (K:KP) (hk:∀ (i:Int) h',Old h h'->(0<=i↔l.any q=true)->K (.ret (.int .i64 i)) h') :
  FK b 97 [v,.func (.func f) #[] cap.toArray] h K:=by
 refine FF b (Uc b) Qy3 Q0g Qzx rfl ?_;have len:∀ hx,Qnm (E b).toEnv 30 v hx=some (.int .i64 (l.length:Int)):=fun hx=>Qca (T30 b) s;simp[Wa,Qbh,Qb6,W9,Xt,Qay,Qb1,Qnr,Qam,Xx,Qan,Qao,len];refine Qfw (Jh7 v (.func (.func f) #[] cap.toArray) l q h) l.length ⟨_,h,0,rfl,by simp,by simp,by simp,by simp,by omega,rfl,by simp,Old.refl _⟩ ?_;rintro k s' ⟨t,h1,i,rfl,t0,t1,t7,t8,hi,rfl,hno,hold⟩ _;by_cases hlt:i < l.length
 ·have hlt':(i:Int) < (l.length:Int):=by omega
  obtain⟨x,hx⟩:∃ x,l[i]? = some x:=⟨_,ab hlt⟩;have hw:=wS (i:=i) (by omega);obtain⟨bk,off, -,x1,x2, -⟩:=Ycb (b:=b) (T30 b) Qn3 (s.old hold) hx;simp[Wa,Qbh,Qb6,W9,Xt,Qay,Qb1,Qnr,Qam,Xx,Qan,Qao,t0,t1,t7,t8,hlt',x1,x2,hF];refine hf h1 hold x (ak hx) _ fun h2 a2 => ?_;cases hq:q x with
  | true =>
   simp[Wa,Qbh,Qb6,W9,Xt,Qay,Qb1,Qnr,Qam,Xx,Qan,Qao,t0,t1,t7,t8];exact hk i h2 (hold.trans a2) ⟨fun _=>Z2m hx hq,fun _=>by omega⟩
  | false =>
   simp[Wa,Qbh,Qb6,W9,Xt,Qay,Qb1,Qnr,Qam,Xx,Qan,Qao,t0,t1,t7,t8,hw];exact⟨l.length-(i+1),by omega,_,h2,i+1,rfl,by simp[t0],by simp[t1],by simp[t7],by simp,by omega,rfl,by rw[Zds hx hno,hq],hold.trans a2⟩
 ·have hlt':¬ (i:Int) < (l.length:Int):=by omega
  have : i=l.length:=by omega
  subst this;rw[bO]at hno;simp[Wa,Qbh,Qb6,W9,Xt,Qay,Qb1,Qnr,Qam,Xx,Qan,Qao,t0,t1,t7,t8];exact hk (-1) h1 hold ⟨fun e=>by omega,fun e=>by rw[hno]at e;cases e⟩
def Y6x(b:Nat){h:Heap}{v:Value}{l:List InV}{f:FuncId}{F:Func}(hF:(E b).fn.get f=some F){cap:List Value}(s:Sl h 34 v l.length (Qek l))(hn:l.length < 1000000)(q:InV->Bool)
  (hf:∀ h1,Old h h1->∀ x ∈ l,∀ K,(∀ h2,Old h1 h2->K (.ret (.bool (q x))) h2)->FK b f (.agg ⟨x.cells⟩::cap) h1 K)
  (K:KP) (hk:∀ h',Old h h'->K (.ret (.bool (l.any q))) h') :
  FK b 74 [v,.func (.func f) #[] cap.toArray] h K:=by
 refine FF b (Yb b) Quq Qy0 Qx3 rfl ?_;simp[Qfq,Qmr,Yb,Qlj,Qre];refine Jao b hF s hn q hf _ fun i h1 a1 hi => ?_;simp[Qfq,Qmr,Yb,Qlj,Qre];have:=hk h1 a1;cases hq:l.any q with
 | true =>
  have h0:=hi.2 hq;rw[hq]at this;simpa[h0]using this
 | false =>
  have h0:¬ 0<=i:=fun e=>by have:=hi.1 e;rw[hq]at this;cases this
  rw[hq]at this;simpa[h0]using this
end
def Jcj(v fv:Value)(l:List OutV)(q:OutV->Bool)(h:Heap)(k:Nat)(s:St):Prop:=∃ (t:Tr Value) (h1:Heap) (i:Nat),s=⟨⟨19,t⟩,[],h1⟩/\t.get 0=some v/\t.get 1=some fv/\t.get 7=some (.int .i64 (l.length:Int))/\t.get 8=some (.int .i64 (i:Int))/\i<=l.length/\k=l.length-i/\(l.take i).any q=false/\Old h h1
section
attribute [local simp] Vw
def Z47(b:Nat){h:Heap}{v:Value}{l:List OutV}{f:FuncId}{F:Func}(hF:(E b).fn.get f=some F){cap:List Value}(s:Sl h 2 v l.length (Qpe l))(hn:l.length < 1000000)(q:OutV->Bool)
  (hf:∀ h1,Old h h1->∀ x ∈ l,∀ K,(∀ h2,Old h1 h2->K (.ret (.bool (q x))) h2)->FK b f (.agg ⟨x.cells⟩::cap) h1 K)
  (K:KP) (hk:∀ (i:Int) h',Old h h'->(0<=i↔l.any q=true)->K (.ret (.int .i64 i)) h') :
  FK b 98 [v,.func (.func f) #[] cap.toArray] h K:=by
 refine FF b (Vw b) Qvw Qyy Qxr rfl ?_;have len:∀ hx,Qnm (E b).toEnv 27 v hx=some (.int .i64 (l.length:Int)):=fun hx=>Qca (T27 b) s;simp[Ux,Qav,Qa6,Qbp,Xt,Qa8,Qa9,Qft,Qa2,Xx,Qa0,Wy,len];refine Qfw (Jcj v (.func (.func f) #[] cap.toArray) l q h) l.length ⟨_,h,0,rfl,by simp,by simp,by simp,by simp,by omega,rfl,by simp,Old.refl _⟩ ?_;rintro k s' ⟨t,h1,i,rfl,t0,t1,t7,t8,hi,rfl,hno,hold⟩ _;by_cases hlt:i < l.length
 ·have hlt':(i:Int) < (l.length:Int):=by omega
  obtain⟨x,hx⟩:∃ x,l[i]? = some x:=⟨_,ab hlt⟩;have hw:=wS (i:=i) (by omega);obtain⟨bk,off, -,x1,x2, -⟩:=Xh4 (b:=b) (T27 b) Qi0 (s.old hold) hx;simp[Ux,Qav,Qa6,Qbp,Xt,Qa8,Qa9,Qft,Qa2,Xx,Qa0,Wy,t0,t1,t7,t8,hlt',x1,x2,hF];refine hf h1 hold x (ak hx) _ fun h2 a2 => ?_;cases hq:q x with
  | true =>
   simp[Ux,Qav,Qa6,Qbp,Xt,Qa8,Qa9,Qft,Qa2,Xx,Qa0,Wy,t0,t1,t7,t8];exact hk i h2 (hold.trans a2) ⟨fun _=>Z2m hx hq,fun _=>by omega⟩
  | false =>
   simp[Ux,Qav,Qa6,Qbp,Xt,Qa8,Qa9,Qft,Qa2,Xx,Qa0,Wy,t0,t1,t7,t8,hw];exact⟨l.length-(i+1),by omega,_,h2,i+1,rfl,by simp[t0],by simp[t1],by simp[t7],by simp,by omega,rfl,by rw[Zds hx hno,hq],hold.trans a2⟩
 ·have hlt':¬ (i:Int) < (l.length:Int):=by omega
  have : i=l.length:=by omega
  subst this;rw[bO]at hno;simp[Ux,Qav,Qa6,Qbp,Xt,Qa8,Qa9,Qft,Qa2,Xx,Qa0,Wy,t0,t1,t7,t8];exact hk (-1) h1 hold ⟨fun e=>by omega,fun e=>by rw[hno]at e;cases e⟩
def Zqj(b:Nat){h:Heap}{v:Value}{l:List OutV}{f:FuncId}{F:Func}(hF:(E b).fn.get f=some F){cap:List Value}(s:Sl h 2 v l.length (Qpe l))(hn:l.length < 1000000)(q:OutV->Bool)
  (hf:∀ h1,Old h h1->∀ x ∈ l,∀ K,(∀ h2,Old h1 h2->K (.ret (.bool (q x))) h2)->FK b f (.agg ⟨x.cells⟩::cap) h1 K)
  (K:KP) (hk:∀ h',Old h h'->K (.ret (.bool (l.any q))) h') :
  FK b 77 [v,.func (.func f) #[] cap.toArray] h K:=by
 refine FF b (Y9 b) Qtm Qvt Qv6 rfl ?_;simp[Qep,Qli,Y9,Qki,Qre];refine Z47 b hF s hn q hf _ fun i h1 a1 hi => ?_;simp[Qep,Qli,Y9,Qki,Qre];have:=hk h1 a1;cases hq:l.any q with
 | true =>
  have h0:=hi.2 hq;rw[hq]at this;simpa[h0]using this
 | false =>
  have h0:¬ 0<=i:=fun e=>by have:=hi.1 e;rw[hq]at this;cases this
  rw[hq]at this;simpa[h0]using this
end
def Jho(v fv:Value)(l:List (Value × List Int))(q:(Value × List Int)->Bool)(h:Heap)(k:Nat)(s:St):Prop:=∃ (t:Tr Value) (h1:Heap) (i:Nat),s=⟨⟨19,t⟩,[],h1⟩/\t.get 0=some v/\t.get 1=some fv/\t.get 7=some (.int .i64 (l.length:Int))/\t.get 8=some (.int .i64 (i:Int))/\i<=l.length/\k=l.length-i/\(l.take i).any q=false/\Old h h1
section
attribute [local simp] W0
def Jak(b:Nat){h:Heap}{v:Value}{l:List (Value × List Int)}{f:FuncId}{F:Func}(hF:(E b).fn.get f=some F){cap:List Value}(s:Sl h 1 v l.length (l.map (·.1)))(hn:l.length < 1000000)(q:(Value × List Int)->Bool)
  (hf:∀ h1,Old h h1->∀ x ∈ l,∀ K,(∀ h2,Old h1 h2->K (.ret (.bool (q x))) h2)->FK b f (x.1::cap) h1 K)
  (K:KP) (hk:∀ (i:Int) h',Old h h'->(0<=i↔l.any q=true)->K (.ret (.int .i64 i)) h') :
  FK b 96 [v,.func (.func f) #[] cap.toArray] h K:=by
 refine FF b (W0 b) Q1s Q6l Q6a rfl ?_;have len:∀ hx,Qnm (E b).toEnv 69 v hx=some (.int .i64 (l.length:Int)):=fun hx=>Qca (T69 b) s;simp[Qaq,Qdc,Qiq,Xt,J7,Xx,len];refine Qfw (Jho v (.func (.func f) #[] cap.toArray) l q h) l.length ⟨_,h,0,rfl,by simp,by simp,by simp,by simp,by omega,rfl,by simp,Old.refl _⟩ ?_;rintro k s' ⟨t,h1,i,rfl,t0,t1,t7,t8,hi,rfl,hno,hold⟩ _;by_cases hlt:i < l.length
 ·have hlt':(i:Int) < (l.length:Int):=by omega
  obtain⟨x,hx⟩:∃ x,l[i]? = some x:=⟨_,ab hlt⟩;have hw:=wS (i:=i) (by omega);obtain⟨bk,off, -,x1,x3, -⟩:=Q96 (T69 b) Qpj (s.old hold) (k:=.i64) (i:=(i:Int)) (by omega) (by omega);have x2:J6 h1 bk off=some x.1:=by
   have:=x3 0 (by omega);simpa[hx]using this
  simp[Qaq,Qdc,Qiq,Xt,J7,Xx,t0,t1,t7,t8,hlt',x1,x2,hF];refine hf h1 hold x (ak hx) _ fun h2 a2 => ?_;cases hq:q x with
  | true =>
   simp[Qaq,Qdc,Qiq,Xt,J7,Xx,t0,t1,t7,t8];exact hk i h2 (hold.trans a2) ⟨fun _=>Z2m hx hq,fun _=>by omega⟩
  | false =>
   simp[Qaq,Qdc,Qiq,Xt,J7,Xx,t0,t1,t7,t8,hw];exact⟨l.length-(i+1),by omega,_,h2,i+1,rfl,by simp[t0],by simp[t1],by simp[t7],by simp,by omega,rfl,by rw[Zds hx hno,hq],hold.trans a2⟩
 ·have hlt':¬ (i:Int) < (l.length:Int):=by omega
  have : i=l.length:=by omega
  subst this;rw[bO]at hno;simp[Qaq,Qdc,Qiq,Xt,J7,Xx,t0,t1,t7,t8];exact hk (-1) h1 hold ⟨fun e=>by omega,fun e=>by rw[hno]at e;cases e⟩
def Zwn(b:Nat){h:Heap}{v:Value}{l:List (Value × List Int)}{f:FuncId}{F:Func}(hF:(E b).fn.get f=some F){cap:List Value}(s:Sl h 1 v l.length (l.map (·.1)))(hn:l.length < 1000000)(q:(Value × List Int)->Bool)
  (hf:∀ h1,Old h h1->∀ x ∈ l,∀ K,(∀ h2,Old h1 h2->K (.ret (.bool (q x))) h2)->FK b f (x.1::cap) h1 K)
  (K:KP) (hk:∀ h',Old h h'->K (.ret (.bool (l.any q))) h') :
  FK b 72 [v,.func (.func f) #[] cap.toArray] h K:=by
 refine FF b (Qab b) Qz9 Q1w Q03 rfl ?_;simp[Qha,Qph,Qab,Qre];refine Jak b hF s hn q hf _ fun i h1 a1 hi => ?_;simp[Qha,Qph,Qab,Qre];have:=hk h1 a1;cases hq:l.any q with
 | true =>
  have h0:=hi.2 hq;rw[hq]at this;simpa[h0]using this
 | false =>
  have h0:¬ 0<=i:=fun e=>by have:=hi.1 e;rw[hq]at this;cases this
  rw[hq]at this;simpa[h0]using this
end
section
def Yf6(b:Nat)(n lo hi:Int)(h:Heap)(K:KP)(hk:K (.ret (.bool (inF n lo hi))) h):FK b 69 [.int .i64 n,.int .i64 lo,.int .i64 hi] h K:=by
 refine FF b (Qa1 b) Y0o Zrf Zla rfl ?_;unfold inF at hk;by_cases h1:lo<=n
 ·by_cases h2:n<=hi
  ·simp[Q4s,Xyv,Qa1,Qre,Qve,Xhh,Xdj,h1,h2];simpa[h1,h2]using hk
  ·simp[Q4s,Xyv,Qa1,Qre,Qve,Xhh,Xdj,h1,h2];simpa[h1,h2]using hk
 ·simp[Q4s,Xyv,Qa1,Qre,Qve,Xhh,Xdj,h1];simpa[h1]using hk
def Jia(x:InV):x.cells[32]? = some (.int .i64 x.pt.n):=by
 have : (x.pt.id.map u8v++([.int .i64 x.pt.n] ++ [x.wv]))[32]? = some (.int .i64 x.pt.n):=by
  rw[aS (by simp[x.pt.hd])];simp[x.pt.hd]
 simpa[InV.cells,Pt.cells]using this
def Jgg(x:InV):x.cells[33]? = some x.wv:=by
 rw[InV.cells,aS (by rw[Pt.len];omega),Pt.len];rfl
def Z2p(x:InV)(h:Heap):∃ h',h'=h.push (.cells true 1 x.cells)/\Zol (.agg ⟨x.cells⟩) h=some (.pointer (some ⟨h.next,0,none⟩),h')/\Old h h'/\h'.next=h.next+1/\h'.get h.next=some (.cells true 1 x.cells)/\J6 h' h.next 32=some (.int .i64 x.pt.n)/\J6 h' h.next 33=some x.wv:=by
 have g:(h.push (.cells true 1 x.cells)).get h.next=some (.cells true 1 x.cells):=by rw[Heap.get_push,if_pos rfl]
 exact⟨_,rfl,rfl,Old.push _ _,rfl,g,by rw[Zd g,Jia],by rw[Zd g,Jgg]⟩
def Jdr(b:Nat)(x:InV)(h:Heap)(K:KP)(hk:∀ h',Old h h'->K (.ret (.bool (Z5b x.p))) h'):FK b 68 [.agg ⟨x.cells⟩] h K:=by
 refine FF b (Q9b b) Yqq Znf Za3 rfl ?_;obtain⟨hA, -,bx,aA, -, -,c32, -⟩:=Z2p x h;simp[Xd5,Yc9,Q9b,Vd,Xgo,Ut,Qa1,bx,c32];refine Yf6 b x.pt.n 0 8 hA _ ?_;simp[Xd5,Yc9,Q9b,Vd,Xgo,Ut,Qa1];exact hk hA aA
def Jba(b:Nat){v:Value}{xs:List Int}{h:Heap}(s:SB h v xs)(K:KP)(hk:K (.ret (.bool (decide (64 < xs.length)))) h):FK b 70 [v] h K:=by
 refine FF b (Xpl b) Ywi Zfo Zfb rfl ?_;have len:=fun hx=>Qo0 (b:=b) (h1:=hx) s;simp[X2f,Za6,Xpl,V3,Zt,len];have e:decide ((64:Int) < (xs.length:Int))=decide (64 < xs.length):=by rw[decide_eq_decide];omega
 rw[e];exact hk
def Jan(b:Nat){x:InV}{h:Heap}(a:InAt h x){C:Nat}{z:Nat}(gC:h.get C=some (.cells true z [.func (.func 70) #[] #[]]))(K:KP)(hk:∀ h',Old h h'->K (.ret (.bool (Y27 x.p))) h') :
  FK b 71 [.agg ⟨x.cells⟩,.pointer (some ⟨C,0,none⟩)] h K:=by
 refine FF b (Q1o b) Yt1 Zn6 Zdc rfl ?_;obtain⟨hA, -,bx,aA, -, -, -,c33⟩:=Z2p x h;have len:∀ hx,Qnm (E b).toEnv 69 x.wv hx=some (.int .i64 (x.its.length:Int)):=fun hx=>Qca (T69 b) a.w;have cC:J6 hA C 0=some (.func (.func 70) #[] #[]):=by rw[Zd (aA.get gC)];rfl
 unfold Y27 at hk;by_cases hl:16 < x.its.length
 ·have hl':(16:Int) < (x.its.length:Int):=by omega
  simp[Q0d,Xml,Q1o,Qd7,Qh9,Qiq,Zt,Zz8,Qab,Xbh,Q76,bx,c33,len,hl'];have:=hk hA aA;simpa[InV.p,hl]using this
 ·have hl':¬ (16:Int) < (x.its.length:Int):=by omega
  simp[Q0d,Xml,Q1o,Qd7,Qh9,Qiq,Zt,Zz8,Qab,Xbh,Q76,bx,c33,len,hl',cC];refine Zwn b (Xpl b) (cap:=[]) (a.w.old aA) a.n (fun p=>decide (64 < p.2.length)) (fun h1 a1 p hp K hk=>Jba b (((a.i.old aA).old a1) p hp).1 K (hk h1 (Old.refl _))) _ fun h1 a1 => ?_;simp[Q0d,Xml,Q1o,Qd7,Qh9,Qiq,Zt,Zz8,Qab,Xbh,Q76];have:=hk h1 (aA.trans a1);have e:(x.p.wit.any fun w=>decide (64 < w.length))=x.its.any fun p=>decide (64 < p.2.length):=by
   simp[InV.p,List.any_map];rfl
  rw[e]at this;simpa[InV.p,hl]using this
def Z9k(b:Nat){o:OutV}{h:Heap}(a:OutAt h o)(K:KP)(hk:∀ h',Old h h'->K (.ret (.bool (Y2p o.p))) h'):FK b 73 [.agg ⟨o.cells⟩] h K:=by
 refine FF b (Xs0 b) Yyc Zo6 Y8n rfl ?_;obtain⟨hA,eA,aA,gA⟩:=Xcl h o.cells;have bx:=Q1v eA;have c1:J6 hA h.next 1=some o.sv:=by rw[Zd gA];rfl
 have len:=fun hx=>Qo0 (b:=b) (h1:=hx) a.s;simp[Xya,Y9c,Xs0,Vi,J7,V3,Zt,bx,c1,len];have e:decide ((256:Int) < (o.script.length:Int))=Y2p o.p:=by
  show _=decide (256 < o.script.length);rw[decide_eq_decide];omega
 rw[e];exact hk hA aA
end
def VLI(v:Value)(l:List OutV)(h:Heap)(k:Nat)(s:St):Prop:=∃ (t:Tr Value) (h1:Heap) (i:Nat) (left:Int),s=⟨⟨26,t⟩,[],h1⟩/\t.get 3=some (.int .i64 left)/\t.get 6=some v/\t.get 7=some (.int .i64 (l.length:Int))/\t.get 8=some (.int .i64 (i:Int))/\i<=l.length/\k=l.length-i/\Old h h1/\0<=left/\left<=1125899906842624/\X89 (l.map OutV.p) 1125899906842624=X89 ((l.drop i).map OutV.p) left
section
attribute [local simp] Qt9 Q5o Ww Qx8 Qbp Qy1 Xt Qx9 Qft Qal Vb Zt Quy Qsp Quw Jk Xx
def Z0h(b:Nat){h:Heap}{v:Value}{l:List OutV}(s:Outs h v l)(K:KP)(hk:∀ h',Old h h'->K (.ret (.bool (X89 (l.map OutV.p) 1125899906842624))) h'):FK b 76 [v] h K:=by
 refine FF b (Ww b) Y0z Zq4 Zmq rfl ?_;have hn:=s.n;have len:∀ hx,Qnm (E b).toEnv 27 v hx=some (.int .i64 (l.length:Int)):=fun hx=>Qca (T27 b) s.s;simp[Wb,len];refine Qfw (VLI v l h) l.length ⟨_,h,0,1125899906842624,rfl,by simp,by simp,by simp,by simp,by omega,rfl,Old.refl _,by omega,by omega,by simp⟩ ?_;rintro k s' ⟨t,h1,i,left,rfl,t3,t6,t7,t8,hi,rfl,hold,l0,l1,hF⟩ _;by_cases hlt:i < l.length
 ·have hlt':(i:Int) < (l.length:Int):=by omega
  obtain⟨x,hx⟩:∃ x,l[i]? = some x:=⟨_,ab hlt⟩;have hd:l.drop i=x::l.drop (i+1):=by
   rw[bD hlt];rw[ab hlt]at hx;rw[bB hx]
  rw[hd]at hF;simp only[aR,X89]at hF;have hw:=wS (i:=i) (by omega);obtain⟨bk,off, -,x1,x2, -⟩:=Xh4 (b:=b) (T27 b) Qi0 (s.s.old hold) hx;obtain⟨zz,ez⟩:∃ zz:List Value,zz=[.int .i64 0,.slice none 0 0]:=⟨_,rfl⟩;obtain⟨hA,eA⟩:∃ hA,hA=h1.push (.cells true 1 zz):=⟨_,rfl⟩;have alA:Qbi (E b).toEnv 60 h1=some (.pointer (some ⟨h1.next,0,none⟩),hA):=by rw[eA,ez];exact Wb b h1
  have gA:hA.get h1.next=some (.cells true 1 zz):=by rw[eA,Heap.get_push,if_pos rfl]
  have lA:=Heap.get_lt gA;obtain⟨hB,eB⟩:∃ hB,hB=hA.set h1.next (some (.cells true 1 x.cells)):=⟨_,rfl⟩;have st:Ur hA h1.next 0 x.cells=some hB:=by
   rw[W8 gA (by rw[ez,OutV.len];simp),eB];congr 4;rw[ez,OutV.len];simp
  have gB:hB.get h1.next=some (.cells true 1 x.cells):=by rw[eB,Heap.get_set _ _ _ _ lA,if_pos rfl]
  have c0:J6 hB h1.next 0=some (.int .i64 x.value):=by rw[Zd gB];rfl
  have aB:Old h hB:=by rw[eB,eA];exact(hold.push' _).set _ hold.1 (by rw[<- eA];exact lA)
  have xl:x.cells.length=2:=rfl;by_cases h1':x.value < 1
  ·simp[Wb,t3,t6,t7,t8,hlt',x1,x2,-Wb,alA,xl,st,c0,h1'];have:=hk hB aB;rw[hF]at this;simpa[OutV.p,h1']using this
  ·by_cases h2':left < x.value
   ·simp[Wb,t3,t6,t7,t8,hlt',x1,x2,-Wb,alA,xl,st,c0,h1',h2'];have:=hk hB aB;rw[hF]at this;simpa[OutV.p,h1',h2']using this
   ·have hw2:IntKind.i64.wrap (left-x.value)=left-x.value:=W2 (by omega) (by omega);simp[Wb,t3,t6,t7,t8,hlt',x1,x2,-Wb,alA,xl,st,c0,h1',h2',hw,hw2];refine⟨l.length-(i+1),by omega,_,hB,i+1,left-x.value,rfl,by simp,by simp[t6],by simp[t7],by simp,by omega,rfl,aB,by omega,by omega,?_⟩;rw[hF,if_neg (by simp only[OutV.p];omega)];rfl
 ·have hlt':¬ (i:Int) < (l.length:Int):=by omega
  have : i=l.length:=by omega
  subst this;simp[Wb,t3,t6,t7,t8];have:=hk h1 hold;rw[hF,dz]at this;exact this
end
def Yge{A:Type}{l:List A}{p:A}:(l ++ [p]).Nodup↔l.Nodup/\p ∉ l:=by
 rw[dO];constructor
 ·rintro⟨h1, -,h2⟩;exact⟨h1,fun hp=>h2 p hp p (by simp) rfl⟩
 ·rintro⟨h1,h2⟩;refine⟨h1,by simp,fun a ha c hc e => ?_⟩;simp at hc;subst hc;exact h2 (e ▸ ha)
def PTI(v:Value)(l:List InV)(h:Heap)(mb:Nat)(k:Nat)(s:St):Prop:=∃ (t:Tr Value) (h1:Heap) (i:Nat) (es:List PE) (clk:Nat),s=⟨⟨22,t⟩,[],h1⟩/\t.get 0=some v/\t.get 3=some (.map (some mb))/\t.get 7=some v/\t.get 8=some (.int .i64 (l.length:Int))/\t.get 9=some (.int .i64 (i:Int))/\i<=l.length/\k=l.length-i/\Old h h1 /\
 h1.get mb=some (.map ⟨es.map PE.e⟩ clk)/\(∀ p,p ∈ es.map (·.key)↔p ∈ (l.take i).map (·.pt))/\(es.length=i/\((l.take i).map (·.pt)).Nodup∨es.length < i/\¬ ((l.take i).map (·.pt)).Nodup)
section
attribute [local simp] Q4y X22 Qb3 Xgf W9 Xt Qnr Qq1 Vd Wn Xx Y2
def Z1x(b:Nat){h:Heap}{v:Value}{l:List InV}(s:Ins h v l)(K:KP)(hk:∀ h',Old h h'->K (.ret (.bool (decide (l.map (·.pt)).Nodup))) h'):FK b 75 [v] h K:=by
 refine FF b (Qb3 b) Y4a Zpt Zmx rfl ?_;have hn:=s.n;have len:∀ hx,Qnm (E b).toEnv 30 v hx=some (.int .i64 (l.length:Int)):=fun hx=>Qca (T30 b) s.s;obtain⟨rm,me,md⟩:∃ rm,(E b).toEnv.ty.get 176=some rm/\rm.desc=.map 53 3:=⟨((E b).toEnv.ty.get 176).getD ⟨.invalid,0,0,.bool false,[]⟩,by kernel_rfl,by kernel_rfl⟩;obtain⟨hM,eM⟩:∃ hM,hM=h.push (.map #[] 0):=⟨_,rfl⟩;have aM':=Qqr eM;have gM:hM.get h.next=some (.map ⟨([]:List PE).map PE.e⟩ 0):=by rw[eM,Heap.get_push,if_pos rfl];rfl
 have mk:Q4w (E b).toEnv 176 none h=some (.map (some h.next),hM):=by rw[eM];exact Ztp (b:=b) me md
 simp[Qnu,len,mk];refine Qfw (PTI v l h h.next) l.length ⟨_,hM,0,[],0,rfl,by simp,by simp,by simp,by simp,by simp,by omega,rfl,aM',gM,by simp,.inl ⟨rfl,by simp⟩⟩ ?_;rintro k s' ⟨t,h1,i,es,clk,rfl,t0,t3,t7,t8,t9,hi,rfl,hold,g1,hmem,hnd⟩ _;by_cases hlt:i < l.length
 ·have hlt':(i:Int) < (l.length:Int):=by omega
  obtain⟨x,hx⟩:∃ x,l[i]? = some x:=⟨_,ab hlt⟩;have hw:=wS (i:=i) (by omega);obtain⟨bk,off, -,x1,x2, -⟩:=Ycb (b:=b) (T30 b) Qn3 (s.s.old hold) hx;obtain⟨zz,ez⟩:∃ zz:List Value,zz=R71.zero.cells.toList:=⟨_,rfl⟩;have zl:zz.length=34:=by rw[ez];kernel_rfl
  obtain⟨hA,eA⟩:∃ hA,hA=h1.push (.cells true 1 zz):=⟨_,rfl⟩;have alA:Qbi (E b).toEnv 71 h1=some (.pointer (some ⟨h1.next,0,none⟩),hA):=by rw[eA,ez];simp only[Qbi,Y9d]
  have gA:hA.get h1.next=some (.cells true 1 zz):=by rw[eA,Heap.get_push,if_pos rfl]
  have lA:=Heap.get_lt gA;have lM:h.next < h1.next:=Heap.get_lt g1;obtain⟨hB,eB⟩:∃ hB,hB=hA.set h1.next (some (.cells true 1 x.cells)):=⟨_,rfl⟩;have st:Ur hA h1.next 0 x.cells=some hB:=by
   rw[W8 gA (by rw[zl,InV.len];omega),eB];congr 4;rw[InV.len];simp[zl]
  have gB:hB.get h1.next=some (.cells true 1 x.cells):=by rw[eB,Heap.get_set _ _ _ _ lA,if_pos rfl]
  have aB:Old h1 hB:=by rw[eB,eA];exact(Old.push _ _).set _ (ae _) (by rw[<- eA];exact lA)
  have gMB:=aB.get g1;have ldp:Qbn hB h1.next 0 33=some (.agg ⟨x.pt.cells⟩):=by rw[Vm gB (by rw[InV.len];omega),bY,Yqh]
  have hB1:(l.take (i+1)).map (·.pt)=(l.take i).map (·.pt) ++ [x.pt]:=by rw[bm,hx];simp
  have lMB:=Heap.get_lt gMB;have step:∃ (h2:Heap) (es':List PE) (clk':Nat),Qgp (E b).toEnv 176 (.map (some h.next)) (.agg ⟨x.pt.cells⟩) (.int .i64 1) hB=some h2/\h2.get h.next=some (.map ⟨es'.map PE.e⟩ clk')/\Old h h2/\(∀ p,p ∈ es'.map (·.key)↔p ∈ (l.take (i+1)).map (·.pt))/\(es'.length=i+1/\((l.take (i+1)).map (·.pt)).Nodup∨es'.length < i+1/\¬ ((l.take (i+1)).map (·.pt)).Nodup):=by
   cases hf:Q1t x.pt es 0 with
   | none =>
    have hno:=Yik.1 hf;have hnot:x.pt ∉ (l.take i).map (·.pt):=fun e=>by
     obtain⟨y,hy,e2⟩:=av.1 ((hmem _).2 e);exact hno y hy e2
    refine⟨_,es ++ [⟨x.pt,.int .i64 1,clk⟩],clk+1,Z2c me md gMB hf _,by rw[Heap.get_set _ _ _ _ lMB,if_pos rfl],(hold.trans aB).set _ (ae _) lMB,fun p => ?_,?_⟩
    ·rw[hB1,bw,ac,ac,hmem p];simp
    ·rw[hB1,Yge];rcases hnd with⟨q1,q2⟩ | ⟨q1,q2⟩
     ·exact .inl ⟨by simp[q1],q2,hnot⟩
     ·exact .inr ⟨by simp;omega,fun e=>q2 e.1⟩
   | some q =>
    obtain⟨j,w⟩:=q;obtain⟨y,hy, -,hyk, -⟩:=Xl8 hf;have hin:x.pt ∈ (l.take i).map (·.pt):=(hmem _).1 (av.2 ⟨y,ak hy,hyk⟩);have keys:∀ es:List PE,(Zzq x.pt (.int .i64 1) es).map (·.key)=es.map (·.key):=by
     intro es;induction es with
     | nil=>rfl
     | cons a es ih=>unfold Zzq;split <;> simp[ih]
    refine⟨_,Zzq x.pt (.int .i64 1) es,clk,Zk1 me md gMB hf _,by rw[Heap.get_set _ _ _ _ lMB,if_pos rfl],(hold.trans aB).set _ (ae _) lMB,fun p => ?_,?_⟩
    ·rw[keys,hB1,ac,hmem p];simp;rintro rfl;simpa using hin
    ·have hl:(Zzq x.pt (.int .i64 1) es).length=es.length:=by have:=congrArg List.length (keys es);simpa using this
     rw[hB1,Yge,hl];refine .inr ⟨by rcases hnd with⟨q1,_⟩ | ⟨q1,_⟩ <;> omega,fun e=>e.2 hin⟩
  obtain⟨h2,es',clk',up,g2,a2,m2,n2⟩:=step;simp[Qnu,t0,t3,t7,t8,t9,hlt',x1,x2,-Qnu,alA,InV.len,st,ldp,up,hw];exact⟨l.length-(i+1),by omega,_,h2,i+1,es',clk',rfl,by simp[t0],by simp[t3],by simp[t7],by simp[t8],by simp,by omega,rfl,a2,g2,m2,n2⟩
 ·have hlt':¬ (i:Int) < (l.length:Int):=by omega
  have : i=l.length:=by omega
  subst this;rw[bO]at hnd;have ml:Qnm (E b).toEnv 176 (.map (some h.next)) h1=some (.int .i64 ((es.length:Nat):Int)):=by
   rw[Jam (b:=b) me md g1];simp
  simp[Qnu,t0,t3,t7,t8,t9,ml,len];have:=hk h1 hold;rcases hnd with⟨q1,q2⟩ | ⟨q1,q2⟩
  ·have e:(es.length:Int)=(l.length:Int):=by omega
   rw[decide_eq_true q2]at this;simpa[e]using this
  ·have e:¬ (es.length:Int)=(l.length:Int):=by omega
   rw[decide_eq_false q2]at this;simpa[e]using this
end
def any_map' {A B:Type}(f:A->B)(q:B->Bool)(l:List A):(l.map f).any q=l.any fun x=>q (f x):=by
 rw[List.any_map];rfl
def Z7q(l:List InV):(l.map InV.p).map (·.pt)=l.map (·.pt):=by
 rw[ce];rfl
section
attribute [local simp] Qbc Qfl V2 Qpu Jc Qa5 W9 Qa1 Jt Qba Qbp Qb0 Wx Yb Qb8 Qb2 Qa3 Qb3 Ww Y9 Qaz Wz
def Zt3(b:Nat){h:Heap}{iv ov:Value}{ins:List InV}{outs:List OutV}{lock:Int}(si:Ins h iv ins)(so:Outs h ov outs)(K:KP)(hk:∀ h',Old h h'->K (.ret (.int .i64 (Qzf (ptx ins outs lock)))) h') :
  FK b 49 [.agg ⟨txC iv ov lock⟩] h K:=by
 refine FF b (V2 b) Zei Zw3 Zs4 rfl ?_;obtain⟨hA,eA,aA,gA⟩:=Xcl h ((txC iv ov lock));have nA:=Xbt eA;have bx:=Q1v eA;obtain⟨z,hz⟩:∃ z,Qbi (E b).toEnv 136 hA=some (.pointer (some ⟨hA.next,0,none⟩),hA.push (.cells true 1 [z])):=⟨_,Q0h b hA⟩;obtain⟨hB,eB⟩:∃ hB,hB=(hA.push (.cells true 1 [z])).set hA.next (some (.cells true 1 [.func (.func 70) #[] #[]])):=⟨_,rfl⟩;have gZ:(hA.push (.cells true 1 [z])).get hA.next=some (.cells true 1 [z]):=by rw[Heap.get_push,if_pos rfl]
 have st:Ur (hA.push (.cells true 1 [z])) hA.next 0 [.func (.func 70) #[] #[]]=some hB:=by rw[Qhv gZ (by simp),eB];rfl
 have gC:hB.get hA.next=some (.cells true 1 [.func (.func 70) #[] #[]]):=by rw[eB,Heap.get_set _ _ _ _ (Heap.get_lt gZ),if_pos rfl]
 have aB':Old hA hB:=by rw[eB];exact(Old.push _ _).set _ (ae _) (Heap.get_lt gZ)
 have aB:Old h hB:=aA.trans aB';have gT:hB.get h.next=some (.cells true 1 (txC iv ov lock)):=aB'.get gA;have cs:∀ {hx:Heap},Old hB hx->J6 hx h.next 0=some iv/\J6 hx h.next 1=some ov/\J6 hx h.next 2=some (.int .i64 lock):=fun {hx} o=>by
  have:=o.get gT;exact⟨by rw[Zd this];rfl,by rw[Zd this];rfl,by rw[Zd this];rfl⟩
 have lenI:∀ hx,Qnm (E b).toEnv 30 iv hx=some (.int .i64 (ins.length:Int)):=fun hx=>Qca (T30 b) si.s;have lenO:∀ hx,Qnm (E b).toEnv 27 ov hx=some (.int .i64 (outs.length:Int)):=fun hx=>Qca (T27 b) so.s;obtain⟨c0,c1,c2⟩:=cs (Old.refl hB);simp[Q0h,bx,-Q0h,hz,Z9e,st,c0,lenI];refine Yf6 b _ 1 8 hB _ ?_;unfold Qzf ptx at hk;simp only[aU,any_map',Z7q]at hk;have done:∀ (c:Int) hx,Old h hx->(∀ h',Old h h'->K (.ret (.int .i64 c)) h')->K (.ret (.int .i64 c)) hx:=fun c hx o q=>q hx o;cases q1:inF (ins.length:Int) 1 8 with
 | false =>
  simp only[q1,du,Bool.true_or,if_true]at hk;simp[Q0h];exact hk hB aB
 | true =>
 simp[Q0h,c1,lenO];refine Yf6 b _ 1 8 hB _ ?_;cases q2:inF (outs.length:Int) 1 8 with
 | false =>
  simp only[q1,q2,du,Bool.or_true,if_true]at hk;simp[Q0h];exact hk hB aB
 | true =>
 simp only[q1,q2,cz,Bool.or_false,if_false,aK]at hk;simp[Q0h,c0];refine Y6x b (Q9b b) (cap:=[]) (si.s.old aB) si.n (fun x=>Z5b x.p) (fun h1 _ x _ K hk=>Jdr b x h1 K hk) _ fun h1 a1 => ?_;obtain⟨d0,d1,d2⟩:=cs a1;have aH1:=aB.trans a1;cases q3:ins.any (fun x=>Z5b x.p)with
 | true =>
  simp only[q3,Bool.true_or,if_true]at hk;simp[Q0h];exact hk h1 aH1
 | false =>
 simp[Q0h,d2];refine Yf6 b _ 0 1073741824 h1 _ ?_;cases q4:inF lock 0 1073741824 with
 | false =>
  simp only[q3,q4,du,Bool.or_true,if_true]at hk;simp[Q0h];exact hk h1 aH1
 | true =>
 simp only[q3,q4,cz,Bool.or_false,if_false,aK]at hk;simp[Q0h,d0];refine Z1x b (si.old aH1) _ fun h2 a2 => ?_;obtain⟨e0,e1,e2⟩:=cs (a1.trans a2);have aH2:=aH1.trans a2;by_cases q5:(ins.map (·.pt)).Nodup
 case neg =>
  rw[decide_eq_false q5]at hk ⊢;simp only[du,if_true]at hk;simp[Q0h];exact hk h2 aH2
 rw[decide_eq_true q5]at hk ⊢;simp only[cz,if_false,aK]at hk;simp[Q0h,e1];refine Z0h b (so.old aH2) _ fun h3 a3 => ?_;obtain⟨f0,f1,f2⟩:=cs ((a1.trans a2).trans a3);have aH3:=aH2.trans a3;cases q6:X89 (outs.map OutV.p) 1125899906842624 with
 | false =>
  simp only[q6,du,if_true]at hk;simp[Q0h];exact hk h3 aH3
 | true =>
 simp only[q6,cz,if_false,aK]at hk;simp[Q0h,f1];refine Zqj b (Xs0 b) (cap:=[]) (so.s.old aH3) so.n (fun x=>Y2p x.p) (fun h4 a4 x hx K hk=>Z9k b (((so.old aH3).old a4).a x hx) K hk) _ fun h4 a4 => ?_;obtain⟨g0,g1,g2⟩:=cs (((a1.trans a2).trans a3).trans a4);have aH4:=aH3.trans a4;cases q7:outs.any (fun x=>Y2p x.p)with
 | true =>
  simp only[q7,Bool.true_or,if_true]at hk;simp[Q0h];exact hk h4 aH4
 | false =>
 simp[Q0h,g0];have gC4:=(((a1.trans a2).trans a3).trans a4).get gC;refine Y6x b (Q1o b) (cap:=[.pointer (some ⟨hA.next,0,none⟩)]) (si.s.old aH4) si.n (fun x=>Y27 x.p) (fun h5 a5 x hx K hk=>Jan b (((si.old aH4).old a5).a x hx) (a5.get gC4) K hk) _ fun h5 a5 => ?_;have aH5:=aH4.trans a5;simp only[q7,Bool.false_or]at hk;cases q8:ins.any (fun x=>Y27 x.p)with
 | true =>
  simp only[q8,if_true]at hk;simp[Q0h];exact hk h5 aH5
 | false =>
 simp only[q8,if_false,aK]at hk;simp[Q0h];exact hk h5 aH5
end
def Q5t:Nat->List Value
 | 0=>[.int .u8 253,.int .i64 2,.int .u64 253]
 | 1=>[.int .u8 254,.int .i64 4,.int .u64 65536]
 | _=>[.int .u8 255,.int .i64 8,.int .u64 4294967296]
def Xhj:Nat->Nat
 | 0=>253
 | 1=>65536
 | _=>4294967296
def Xah:Nat->Nat
 | 0=>2
 | 1=>4
 | _=>8
def Yag:Nat->Int
 | 0=>253
 | 1=>254
 | _=>255
def Yfz(n:Nat):Nat->Nat
 | 0=>0
 | i+1=>if Xhj (i+1)<=n then i+1 else Yfz n i
def Zvb(n:Nat):∀ i,Yfz n i<=i
 | 0=>ae _
 | i+1=>by unfold Yfz;split;exact ae _;exact dn (Zvb n i)
def Yry(j:Nat)(h:j<=2):Q5t j=[.int .u8 (Yag j),.int .i64 (Xah j:Int),.int .u64 (Xhj j:Int)]:=by
 match j,h with
 | 0,_=>rfl
 | 1,_=>rfl
 | 2,_=>rfl
def Zzs{n:Nat}(h:¬ n < 253):Ych n=Yag (Yfz n 2)::leN (Xah (Yfz n 2)) n:=by
 unfold Ych Yfz;rw[if_neg h];by_cases h2:n < 4294967296
 ·rw[if_neg (show ¬ Xhj 2<=n from fun e=>by have : (4294967296:Nat)<=n:=e;omega)];unfold Yfz;by_cases h1:n < 65536
  ·rw[if_neg (show ¬ Xhj (0+1)<=n from fun e=>by have : (65536:Nat)<=n:=e;omega),if_pos h1];rfl
  ·rw[if_pos (show Xhj (0+1)<=n from(by omega:(65536:Nat)<=n)),if_neg h1,if_pos h2];rfl
 ·rw[if_pos (show Xhj 2<=n from(by omega:(4294967296:Nat)<=n)),if_neg (by omega),if_neg h2];rfl
def Jf5(x y:Int)(h:y=0∨y=8∨y=16∨y=24∨y=32∨y=40∨y=48∨y=56):Qgg (binOp .shr 159 (.int .u64 x) (.int .i64 y))=some (.int .u64 (x.fdiv (2 ^ y.toNat))):=by
 rcases h with rfl | rfl | rfl | rfl | rfl | rfl | rfl | rfl
 ·exact(by kernel_rfl:Qgg (binOp .shr 159 (.int .u64 x) (.int .i64 0))=some (.int .u64 (x.fdiv (2 ^ 0))))
 ·exact(by kernel_rfl:Qgg (binOp .shr 159 (.int .u64 x) (.int .i64 8))=some (.int .u64 (x.fdiv (2 ^ 8))))
 ·exact(by kernel_rfl:Qgg (binOp .shr 159 (.int .u64 x) (.int .i64 16))=some (.int .u64 (x.fdiv (2 ^ 16))))
 ·exact(by kernel_rfl:Qgg (binOp .shr 159 (.int .u64 x) (.int .i64 24))=some (.int .u64 (x.fdiv (2 ^ 24))))
 ·exact(by kernel_rfl:Qgg (binOp .shr 159 (.int .u64 x) (.int .i64 32))=some (.int .u64 (x.fdiv (2 ^ 32))))
 ·exact(by kernel_rfl:Qgg (binOp .shr 159 (.int .u64 x) (.int .i64 40))=some (.int .u64 (x.fdiv (2 ^ 40))))
 ·exact(by kernel_rfl:Qgg (binOp .shr 159 (.int .u64 x) (.int .i64 48))=some (.int .u64 (x.fdiv (2 ^ 48))))
 ·exact(by kernel_rfl:Qgg (binOp .shr 159 (.int .u64 x) (.int .i64 56))=some (.int .u64 (x.fdiv (2 ^ 56))))
def Z2b:∀ (k n i:Nat),i < k->(leN k n)[i]? = some (((n / 256 ^ i) % 256:Nat):Int)
 | 0,_,_,h=>by omega
 | k+1,n,0,_=>by simp[leN]
 | k+1,n,i+1,h=>by
  simp only[leN,bZ];rw[Z2b k (n / 256) i (by omega),Nat.div_div_eq_div_mul,Nat.pow_succ,dL 256]
def Z6w(n i:Nat):IntKind.u8.wrap ((n:Int).fdiv (2 ^ (8*(i:Int)).toNat))=(((n / 256 ^ i) % 256:Nat):Int):=by
 have e:(8*(i:Int)).toNat=8*i:=by omega
 rw[e,show(256:Nat) ^ i=2 ^ (8*i) by rw[Nat.pow_mul]];have e2:((2:Int) ^ (8*i))=((2 ^ (8*i):Nat):Int):=by rw[Int.natCast_pow];rfl
 rw[e2,de _ (Int.natCast_nonneg _),<- Int.natCast_ediv];show(((n / 2 ^ (8*i):Nat):Int) % (2 ^ 8:Int))=_;omega
def IN1(bv:Value)(n:Nat)(h:Heap)(A:Nat)(k:Nat)(s:St):Prop:=∃ (t:Tr Value) (h1:Heap) (i:Nat),s=⟨⟨57,t⟩,[],h1⟩/\t.get 0=some bv/\t.get 5=some (.int .u64 (n:Int))/\t.get 6=some (.pointer (some ⟨A,0,none⟩))/\t.get 25=some (.slice (some ⟨1,3,none⟩) 2 2)/\t.get 26=some (.int .i64 2)/\t.get 27=some (.int .i64 (i:Int))/\i<=2/\k=2-i/\Old h h1/\h1.get A=some (.cells true 1 (Q5t (Yfz n i)))
def IN2(n w:Nat)(p:List Int)(h:Heap)(k:Nat)(s:St):Prop:=∃ (t:Tr Value) (h1:Heap) (o:Value) (i:Nat),s=⟨⟨57,t⟩,[],h1⟩/\t.get 5=some (.int .u64 (n:Int))/\t.get 9=some o/\t.get 43=some (.int .i64 (w:Int))/\t.get 44=some (.int .i64 (i:Int))/\i<=w/\k=w-i/\Old h h1/\OB h1 h.next o (p++(leN w n).take i)
section
attribute [local simp] Qld Qrv Vc Ql4 Qlc Xy3 Q9c Ydn Q8t U0 Vz Qd4 Yfv Yc2 Yg2 Xt X6h Xa5 Xx Q88 Qvn Q8h Qmh Q9p Q8i
def Y7y(b:Nat){h:Heap}(laid:Ab.LaidIn h laidAll){bv:Value}{xs:List Int}(s:SB h bv xs){n:Nat}(hn:n < 9223372036854775808)(hl:xs.length < 999999000)(K:KP)(hk:∀ v h',OB h' h.next v (xs++Ych n)->Old h h'->K (.ret v) h') :
  FK b 60 [bv,.int .i64 (n:Int)] h K:=by
 by_cases h253:n < 253
 ·have e:Ych n=[(n:Int)]:=by unfold Ych;rw[if_pos h253]
  rw[e]at hk;exact Zhq b laid s h253 (by omega) K hk
 refine FF b (Vc b) Yfq Y7k Ys5 rfl ?_;rw[Zzs h253]at hk;have g1:h.get 1=some (.cells false 0 Qxb):=laid (1,Qxb) (by simp[laidAll]);have l1:=Heap.get_lt g1;have ld:J6 h 1 2=some (.int .u64 253):=by rw[Zd g1];rfl
 have ldf:Qbn h 1 0 3=some (.agg ⟨Q5t 0⟩):=by rw[Vm g1 (by simp[Qxb])];rfl
 have hx:Jz (E b).toEnv 165 (.pointer (some ⟨1,0,none⟩)) (.int .i64 0)=some (.pointer (some ⟨1,0,none⟩)):=by simpa using Xy3 b (bk:=1) (o:=0) (k:=.i64) (i:=0) ⟨by omega,by omega⟩
 have w1:IntKind.u64.wrap (n:Int)=(n:Int):=Zc1 (by omega) (by omega);have c1:¬ (n:Int) < 253:=by omega
 obtain⟨zz,ez⟩:∃ zz:List Value,zz=[.int .u8 0,.int .i64 0,.int .u64 0]:=⟨_,rfl⟩;obtain⟨hA,eA⟩:∃ hA,hA=h.push (.cells true 1 zz):=⟨_,rfl⟩;have alA:Qbi (E b).toEnv 164 h=some (.pointer (some ⟨h.next,0,none⟩),hA):=by rw[eA,ez];exact Xg7 b h
 have gA:hA.get h.next=some (.cells true 1 zz):=by rw[eA,Heap.get_push,if_pos rfl]
 have lA:=Heap.get_lt gA;obtain⟨hB,eB⟩:∃ hB,hB=hA.set h.next (some (.cells true 1 (Q5t 0))):=⟨_,rfl⟩;have stB:Ur hA h.next 0 (Q5t 0)=some hB:=by rw[W8 gA (by simp[ez,Q5t]),eB,ez];rfl
 have gB:hB.get h.next=some (.cells true 1 (Q5t 0)):=by rw[eB,Heap.get_set _ _ _ _ lA,if_pos rfl]
 have aB:Old h hB:=by rw[eB];exact(by rw[eA];exact Old.push _ _:Old h hA).set _ (ae _) lA
 have sl:∀ hx,Qgc (E b).toEnv 165 (.pointer (some ⟨1,0,none⟩)) (some (.int .i64 1)) none none hx=some (.slice (some ⟨1,3,none⟩) 2 2,hx):=fun hx=>by kernel_rfl
 have f3:∀ j,(Q5t j).length=3:=fun j=>by unfold Q5t;split <;> rfl
 simp[Xg7,gn1,hx,ld,ldf,w1,c1,h253,-Xg7,alA,f3,stB,sl];refine Qfw (IN1 bv n h h.next) 2 ⟨_,hB,0,rfl,by simp,by simp,by simp,by simp,by simp,by simp,by omega,rfl,aB,gB⟩ ?_;rintro k s' ⟨t,h1,i,rfl,t0,t5,t6,t25,t26,t27,hi,rfl,hold,gf⟩ _;by_cases hlt:i < 2
 ·have hlt':(i:Int) < 2:=by omega
  have hw:=wS (i:=i) (by omega);have gG:h1.get 1=some (.cells false 0 Qxb):=hold.get g1;have ixf:Jz (E b).toEnv 167 (.slice (some ⟨1,3,none⟩) 2 2) (.int .i64 (i:Int))=some (.pointer (some ⟨1,(i+1)*3,none⟩)):=by
   rw[X6h b ⟨by omega,by omega⟩,bn,show 3+i*3=(i+1)*3 by omega]
  have ldx:Qbn h1 1 ((i+1)*3) 3=some (.agg ⟨Q5t (i+1)⟩):=by
   rw[Vm gG (by simp[Qxb];omega)]
   match i,hlt with
   | 0,_=>rfl
   | 1,_=>rfl
  obtain⟨h2,e2⟩:∃ h2,h2=h1.push (.cells true 1 zz):=⟨_,rfl⟩;have al2:Qbi (E b).toEnv 164 h1=some (.pointer (some ⟨h1.next,0,none⟩),h2):=by rw[e2,ez];exact Xg7 b h1
  have g2:h2.get h1.next=some (.cells true 1 zz):=by rw[e2,Heap.get_push,if_pos rfl]
  have lf:=Heap.get_lt gf;have l2:=Heap.get_lt g2;obtain⟨h3,e3⟩:∃ h3,h3=h2.set h1.next (some (.cells true 1 (Q5t (i+1)))):=⟨_,rfl⟩;have st3:Ur h2 h1.next 0 (Q5t (i+1))=some h3:=by
   rw[W8 g2 (by simp[ez,f3]),e3,ez];congr 4;simp[f3]
  have g3:h3.get h1.next=some (.cells true 1 (Q5t (i+1))):=by rw[e3,Heap.get_set _ _ _ _ l2,if_pos rfl]
  have o3:Old h1 h3:=by rw[e3];exact(by rw[e2];exact Old.push _ _:Old h1 h2).set _ (ae _) l2
  have gf3:=o3.get gf;have lf3:=Heap.get_lt gf3;have c3:J6 h3 h1.next 2=some (.int .u64 (Xhj (i+1):Int)):=by rw[Zd g3,Yry _ (by omega)];rfl
  by_cases hc:Xhj (i+1)<=n
  ·have hc':(Xhj (i+1):Int)<=(n:Int):=by omega
   have ldg:Qbn h3 h1.next 0 3=some (.agg ⟨Q5t (i+1)⟩):=agW g3 (by rw[f3];omega) (by rw[f3];omega);obtain⟨h4,e4⟩:∃ h4,h4=h3.set h.next (some (.cells true 1 (Q5t (i+1)))):=⟨_,rfl⟩;have st4:Ur h3 h.next 0 (Q5t (i+1))=some h4:=by
    rw[W8 gf3 (by simp[f3]),e4];congr 4;simp[f3]
   have g4:h4.get h.next=some (.cells true 1 (Q5t (Yfz n (i+1)))):=by
    rw[e4,Heap.get_set _ _ _ _ lf3,if_pos rfl];unfold Yfz;rw[if_pos hc]
   simp[Xg7,t0,t5,t6,t25,t26,t27,hlt',ixf,ldx,-Xg7,al2,f3,st3,c3,hc,hc',ldg,st4,hw];exact⟨2-(i+1),by omega,_,h4,i+1,rfl,by simp[t0],by simp[t5],by simp[t6],by simp[t25],by simp[t26],by simp,by omega,rfl,by rw[e4];exact(hold.trans o3).set _ (ae _) lf3,g4⟩
  ·have hc':¬ (Xhj (i+1):Int)<=(n:Int):=by omega
   simp[Xg7,t0,t5,t6,t25,t26,t27,hlt',ixf,ldx,-Xg7,al2,f3,st3,c3,hc,hc',hw];refine⟨2-(i+1),by omega,_,h3,i+1,rfl,by simp[t0],by simp[t5],by simp[t6],by simp[t25],by simp[t26],by simp,by omega,rfl,hold.trans o3,?_⟩;rw[gf3];have : Yfz n (i+1)=Yfz n i:=by
    conv=>lhs;unfold Yfz
    rw[if_neg hc]
   rw[this]
 ·have : i=2:=by omega
  subst this;have hlt':¬ ((2:Nat):Int) < 2:=by omega
  obtain⟨j,hj⟩:∃ j,j=Yfz n 2:=⟨_,rfl⟩;have hj2:j<=2:=by rw[hj];exact Zvb n 2
  rw[<- hj]at gf hk;have cA:J6 h1 h.next 0=some (.int .u8 (Yag j)):=by rw[Zd gf,Yry _ hj2];rfl
  have cW:∀ {hx},Old h1 hx->J6 hx h.next 1=some (.int .i64 (Xah j:Int)):=fun o=>by rw[Zd (o.get gf),Yry _ hj2];rfl
  have sB:SB (h1.push (.cells true 1 [i8 (Yag j)])) (.slice (some ⟨h1.next,0,none⟩) 1 1) [Yag j]:=SB.push (xs:=[Yag j]) (by simp);simp[Xg7,t0,t5,t6,t25,t26,t27,cA,Xfc];refine Yul b ((s.old hold).old (Old.push _ _)) sB (by simp;omega) _ fun v h2 o2 a2 => ?_;have a12:Old h1 h2:=(Old.push _ _).trans a2;have cW2:=cW a12;have w8:Xah j<=8:=by unfold Xah;split <;> omega
  simp[Xg7,t0,t5,t6,t25,t26,t27,cW2];refine Qfw (IN2 n (Xah j) (xs ++ [Yag j]) h) (Xah j) ⟨_,h2,v,0,rfl,by simp[t5],by simp,by simp,by simp,by omega,rfl,hold.trans a12,by rw[List.take_zero,dh];exact o2.low (al hold.1 (bF _))⟩ ?_;rintro k s' ⟨t,h3,o,i,rfl,t5,t9,t43,t44,hi,rfl,hold3,ob⟩ _;by_cases hlt:i < Xah j
  ·have hlt':(i:Int) < (Xah j:Int):=by omega
   have hw:=wS (i:=i) (by omega);have hm:IntKind.i64.wrap (8*(i:Int))=8*(i:Int):=W2 (by omega) (by omega);have sh:=Jf5 (n:Int) (8*(i:Int)) (by omega);have by8':=Z6w n i;have gi:=Z2b (Xah j) n i hlt;obtain⟨d,hd⟩:∃ d:Int,d=(n:Int).fdiv (2 ^ (8*(i:Int)).toNat):=⟨_,rfl⟩;rw[<- hd]at sh by8';obtain⟨c,hc⟩:∃ c:Int,c=(((n / 256 ^ i) % 256:Nat):Int):=⟨_,rfl⟩;rw[<- hc]at by8' gi;have tk:(leN (Xah j) n).take (i+1)=(leN (Xah j) n).take i ++ [c]:=by rw[bm,gi];rfl
   obtain⟨v',h4,k1,k2,k3⟩:=Zp0 (b:=b) ob hold3.1 (by simp;omega) c;simp only[i8]at k1;simp[Xg7,t5,t9,t43,t44,hlt',hm,sh,by8',Xfc,i8,k1,hw];exact⟨Xah j-(i+1),by omega,_,h4,v',i+1,rfl,by simp[t5],by simp,by simp[t43],by simp,by omega,rfl,k3.old hold3 ob,by rw[tk,<- aY];exact k2⟩
  ·have hlt':¬ (i:Int) < (Xah j:Int):=by omega
   have : i=Xah j:=by omega
   subst this;simp[Xg7,t5,t9,t43,t44];refine hk o h3 ?_ hold3;rw[aJ (by rw[Za8];exact ae _),aY]at ob;exact ob
end
section
def Z9z(b:Nat){h:Heap}{bv:Value}{xs:List Int}(s:SB h bv xs){d:List Nat}(hd:d.length=32)(hl:xs.length < 999999000)(K:KP)(hk:∀ v h',OB h' h.next v (xs++X5g d)->Old h h'->K (.ret v) h') :
  FK b 121 [bv,.agg ⟨d.map u8v⟩] h K:=by
 refine FF b (Qun b) Y3m Zor Zfl rfl ?_;obtain⟨hA,eA,aA,gA⟩:=Xcl h ((d.map u8v));have bx:=Q1v eA;have sd:SB hA (.slice (some ⟨h.next,0,none⟩) 32 32) (X5g d):=by
  have:=Jfh gA (by omega);rwa [hd]at this
 have ld:(X5g d).length=32:=by simp[X5g,hd]
 simp[Xhf,Yjy,Qun,Qd4,bx,Yqe];refine Yul b (s.old aA) sd (by omega) _ fun v h' o a => ?_;simp[Xhf,Yjy,Qun,Qd4];exact hk v h' (o.low aA.1) (aA.trans a)
def Z8t(b:Nat){h:Heap}(laid:Ab.LaidIn h laidAll){bv pv:Value}{xs ys:List Int}(s:SB h bv xs)(sp:SB h pv ys)(hl:xs.length < 999990000)(hp:ys.length < 1000000)(K:KP)(hk:∀ v h',OB h' h.next v (xs++Zr8 ys)->Old h h'->K (.ret v) h') :
  FK b 124 [bv,pv] h K:=by
 refine FF b (Qui b) Y29 Zqf Zix rfl ?_;have len:=fun hx=>Qo0 (b:=b) (h1:=hx) sp;simp[Xi7,Yk9,Qui,V3,Vc,len];refine Y7y b laid s (n:=ys.length) (by omega) (by omega) _ fun v h1 o1 a1 => ?_;have il:=Q4q ys.length;obtain⟨v',h2,k1,k2,k3⟩:=Zuc (b:=b) o1 a1.1 (sp.old a1) (by rw[aj];omega);simp[Xi7,Yk9,Qui,V3,Vc,k1];refine hk v' h2 ?_ (k3.old a1 o1);rw[Zr8,<- aY];exact k2
end
def Znx{A:Type}{g:A->List Int}{l:List A}{i:Nat}{x:A}(hx:l[i]? = some x):(l.take (i+1)).flatMap g=(l.take i).flatMap g++g x:=by
 rw[bm,hx];simp
def Z20{A:Type}(g:A->List Int)(l:List A)(i:Nat):((l.take i).flatMap g).length<=(l.flatMap g).length:=by
 conv=>rhs;rw[<- bA i l]
 rw[List.flatMap_append,aj];omega
def Jhg(v fv:Value)(l:List InV)(g:InV->List Int)(p:List Int)(h:Heap)(k:Nat)(s:St):Prop:=∃ (t:Tr Value) (h1:Heap) (o:Value) (i:Nat),s=⟨⟨25,t⟩,[],h1⟩/\t.get 0=some o/\t.get 2=some fv/\t.get 13=some v/\t.get 14=some (.int .i64 (l.length:Int))/\t.get 15=some (.int .i64 (i:Int))/\i<=l.length/\k=l.length-i/\Old h h1/\OB h1 h.next o (p++(l.take i).flatMap g)
section
attribute [local simp] Qj4 Qpq Qb9 W9 Vc Xt Qnr Qq1 Xx
def Jei(b:Nat){h:Heap}(laid:Ab.LaidIn h laidAll){bv v:Value}{xs:List Int}{l:List InV}(sb:SB h bv xs)(s:Sl h 34 v l.length (Qek l))(hn:l.length < 1000000)(g:InV->List Int){f:FuncId}{F:Func}(hF:(E b).fn.get f=some F)(hl:xs.length+(l.flatMap g).length < 900000000)
  (hf:∀ h1,Old h h1->∀ x ∈ l,∀ bv1 ys,SB h1 bv1 ys->ys.length < 900000010->∀ K,(∀ w h2,OB h2 h1.next w (ys++g x)->Old h1 h2->K (.ret w) h2)->FK b f [bv1,.agg ⟨x.cells⟩] h1 K)
  (K:KP) (hk:∀ w h',OB h' h.next w (xs++(Ych l.length++l.flatMap g))->Old h h'->K (.ret w) h') :
  FK b 119 [bv,v,.func (.func f) #[] #[]] h K:=by
 refine FF b (Qb9 b) X45 Yi7 Ydf rfl ?_;have len:∀ hx,Qnm (E b).toEnv 30 v hx=some (.int .i64 (l.length:Int)):=fun hx=>Qca (T30 b) s;simp[Qnu,len];refine Y7y b laid sb (n:=l.length) (by omega) (by omega) _ fun v0 h0 o0 a0 => ?_;have il:=Q4q l.length;simp[Qnu,len];refine Qfw (Jhg v (.func (.func f) #[] #[]) l g (xs++Ych l.length) h) l.length ⟨_,h0,v0,0,rfl,by simp,by simp,by simp,by simp,by simp,by omega,rfl,a0,by simpa using o0⟩ ?_;rintro k s' ⟨t,h1,o,i,rfl,t0,t2,t13,t14,t15,hi,rfl,hold,ob⟩ _;have fl:=Z20 g l i;by_cases hlt:i < l.length
 ·have hlt':(i:Int) < (l.length:Int):=by omega
  obtain⟨x,hx⟩:∃ x,l[i]? = some x:=⟨_,ab hlt⟩;have hw:=wS (i:=i) (by omega);obtain⟨bk,off, -,x1,x2, -⟩:=Ycb (b:=b) (T30 b) Qn3 (s.old hold) hx;obtain⟨zz,ez⟩:∃ zz:List Value,zz=R71.zero.cells.toList:=⟨_,rfl⟩;have zl:zz.length=34:=by rw[ez];kernel_rfl
  obtain⟨hA,eA⟩:∃ hA,hA=h1.push (.cells true 1 zz):=⟨_,rfl⟩;have alA:Qbi (E b).toEnv 71 h1=some (.pointer (some ⟨h1.next,0,none⟩),hA):=by rw[eA,ez];simp only[Qbi,Y9d]
  have gA:hA.get h1.next=some (.cells true 1 zz):=by rw[eA,Heap.get_push,if_pos rfl]
  have lA:=Heap.get_lt gA;obtain⟨hB,eB⟩:∃ hB,hB=hA.set h1.next (some (.cells true 1 x.cells)):=⟨_,rfl⟩;have xl:x.cells.length=34:=InV.len x;have st:Ur hA h1.next 0 x.cells=some hB:=by
   rw[W8 gA (by rw[zl,xl];omega),eB];congr 4;rw[xl];simp[zl]
  have gB:hB.get h1.next=some (.cells true 1 x.cells):=by rw[eB,Heap.get_set _ _ _ _ lA,if_pos rfl]
  have aB:Old h1 hB:=by rw[eB,eA];exact(Old.push _ _).set _ (ae _) (by rw[<- eA];exact lA)
  have ldx:Qbn hB h1.next 0 34=some (.agg ⟨x.cells⟩):=agW gB (by omega) (by omega);simp[Qnu,t0,t2,t13,t14,t15,hlt',x1,x2,-Qnu,alA,xl,st,ldx,hF];refine hf hB (hold.trans aB) x (ak hx) o _ (ob.sl.old aB) (by simp only[aj];omega) _ fun w h2 o2 a2 => ?_;simp[Qnu,t0,t2,t13,t14,t15,hw];refine⟨l.length-(i+1),by omega,_,h2,w,i+1,rfl,by simp,by simp[t2],by simp[t13],by simp[t14],by simp,by omega,rfl,(hold.trans aB).trans a2,?_⟩;rw[Znx hx,<- aY];exact o2.low (al hold.1 aB.1)
 ·have hlt':¬ (i:Int) < (l.length:Int):=by omega
  have : i=l.length:=by omega
  subst this;rw[bO,aY]at ob;simp[Qnu,t0,t2,t13,t14,t15];exact hk o h1 ob hold
end
def Jcf(v fv:Value)(l:List OutV)(g:OutV->List Int)(p:List Int)(h:Heap)(k:Nat)(s:St):Prop:=∃ (t:Tr Value) (h1:Heap) (o:Value) (i:Nat),s=⟨⟨25,t⟩,[],h1⟩/\t.get 0=some o/\t.get 2=some fv/\t.get 13=some v/\t.get 14=some (.int .i64 (l.length:Int))/\t.get 15=some (.int .i64 (i:Int))/\i<=l.length/\k=l.length-i/\Old h h1/\OB h1 h.next o (p++(l.take i).flatMap g)
section
attribute [local simp] Vc
def Z9w(b:Nat){h:Heap}(laid:Ab.LaidIn h laidAll){bv v:Value}{xs:List Int}{l:List OutV}(sb:SB h bv xs)(s:Sl h 2 v l.length (Qpe l))(hn:l.length < 1000000)(g:OutV->List Int){f:FuncId}{F:Func}(hF:(E b).fn.get f=some F)(hl:xs.length+(l.flatMap g).length < 900000000)
  (hf:∀ h1,Old h h1->∀ x ∈ l,∀ bv1 ys,SB h1 bv1 ys->ys.length < 900000010->∀ K,(∀ w h2,OB h2 h1.next w (ys++g x)->Old h1 h2->K (.ret w) h2)->FK b f [bv1,.agg ⟨x.cells⟩] h1 K)
  (K:KP) (hk:∀ w h',OB h' h.next w (xs++(Ych l.length++l.flatMap g))->Old h h'->K (.ret w) h') :
  FK b 122 [bv,v,.func (.func f) #[] #[]] h K:=by
 refine FF b (Qai b) X06 Yeq Yak rfl ?_;have len:∀ hx,Qnm (E b).toEnv 27 v hx=some (.int .i64 (l.length:Int)):=fun hx=>Qca (T27 b) s;simp[Qhj,Qoc,Qai,Qlp,Qbp,Xt,Qlt,Qft,Wb,Qal,Xx,Qk6,Qk9,len];refine Y7y b laid sb (n:=l.length) (by omega) (by omega) _ fun v0 h0 o0 a0 => ?_;have il:=Q4q l.length;simp[Qhj,Qoc,Qai,Qlp,Qbp,Xt,Qlt,Qft,Wb,Qal,Xx,Qk6,Qk9,len];refine Qfw (Jcf v (.func (.func f) #[] #[]) l g (xs++Ych l.length) h) l.length ⟨_,h0,v0,0,rfl,by simp,by simp,by simp,by simp,by simp,by omega,rfl,a0,by simpa using o0⟩ ?_;rintro k s' ⟨t,h1,o,i,rfl,t0,t2,t13,t14,t15,hi,rfl,hold,ob⟩ _;have fl:=Z20 g l i;by_cases hlt:i < l.length
 ·have hlt':(i:Int) < (l.length:Int):=by omega
  obtain⟨x,hx⟩:∃ x,l[i]? = some x:=⟨_,ab hlt⟩;have hw:=wS (i:=i) (by omega);obtain⟨bk,off, -,x1,x2, -⟩:=Xh4 (b:=b) (T27 b) Qi0 (s.old hold) hx;obtain⟨zz,ez⟩:∃ zz:List Value,zz=R60.zero.cells.toList:=⟨_,rfl⟩;have zl:zz.length=2:=by rw[ez];kernel_rfl
  obtain⟨hA,eA⟩:∃ hA,hA=h1.push (.cells true 1 zz):=⟨_,rfl⟩;have alA:Qbi (E b).toEnv 60 h1=some (.pointer (some ⟨h1.next,0,none⟩),hA):=by rw[eA,ez];simp only[Qbi,Yse]
  have gA:hA.get h1.next=some (.cells true 1 zz):=by rw[eA,Heap.get_push,if_pos rfl]
  have lA:=Heap.get_lt gA;obtain⟨hB,eB⟩:∃ hB,hB=hA.set h1.next (some (.cells true 1 x.cells)):=⟨_,rfl⟩;have xl:x.cells.length=2:=OutV.len x;have st:Ur hA h1.next 0 x.cells=some hB:=by
   rw[W8 gA (by rw[zl,xl];omega),eB];congr 4;rw[xl];simp[zl]
  have gB:hB.get h1.next=some (.cells true 1 x.cells):=by rw[eB,Heap.get_set _ _ _ _ lA,if_pos rfl]
  have aB:Old h1 hB:=by rw[eB,eA];exact(Old.push _ _).set _ (ae _) (by rw[<- eA];exact lA)
  have ldx:Qbn hB h1.next 0 2=some (.agg ⟨x.cells⟩):=agW gB (by omega) (by omega);simp[Qhj,Qoc,Qai,Qlp,Qbp,Xt,Qlt,Qft,Wb,Qal,Xx,Qk6,Qk9,t0,t2,t13,t14,t15,hlt',x1,x2,-Wb,alA,xl,st,ldx,hF];refine hf hB (hold.trans aB) x (ak hx) o _ (ob.sl.old aB) (by simp only[aj];omega) _ fun w h2 o2 a2 => ?_;simp[Qhj,Qoc,Qai,Qlp,Qbp,Xt,Qlt,Qft,Wb,Qal,Xx,Qk6,Qk9,t0,t2,t13,t14,t15,hw];refine⟨l.length-(i+1),by omega,_,h2,w,i+1,rfl,by simp,by simp[t2],by simp[t13],by simp[t14],by simp,by omega,rfl,(hold.trans aB).trans a2,?_⟩;rw[Znx hx,<- aY];exact o2.low (al hold.1 aB.1)
 ·have hlt':¬ (i:Int) < (l.length:Int):=by omega
  have : i=l.length:=by omega
  subst this;rw[bO,aY]at ob;simp[Qhj,Qoc,Qai,Qlp,Qbp,Xt,Qlt,Qft,Wb,Qal,Xx,Qk6,Qk9,t0,t2,t13,t14,t15];exact hk o h1 ob hold
def Jf7(b:Nat){h:Heap}(laid:Ab.LaidIn h laidAll){bv:Value}{ys:List Int}(x:InV)(hx:0<=x.pt.n/\x.pt.n<=8)(s:SB h bv ys)(hl:ys.length < 900000010)(K:KP)(hk:∀ w h',OB h' h.next w (ys++inB x.p)->Old h h'->K (.ret w) h') :
  FK b 120 [bv,.agg ⟨x.cells⟩] h K:=by
 refine FF b (Qut b) Y4c Zqq Zj5 rfl ?_;obtain⟨hA, -,bx,aA, -,gA,c32, -⟩:=Z2p x h;have ldh:∀ {hx},Old hA hx->Qbn hx h.next 0 32=some (.agg ⟨x.pt.id.map u8v⟩):=fun {hx} o=>by
  rw[Vm (o.get gA) (by rw[InV.len];omega),bY];have : x.cells.take 32=x.pt.id.map u8v:=by
   rw[InV.cells,Pt.cells,aY,bM (by simp[x.pt.hd]),aJ (by simp[x.pt.hd])]
  rw[this]
 have ldn:∀ {hx},Old hA hx->J6 hx h.next 32=some (.int .i64 x.pt.n):=fun {hx} o=>by rw[Zd (o.get gA),Jia]
 have idl:(X5g x.pt.id).length=32:=by simp[X5g,x.pt.hd]
 obtain⟨_,hC,q1,n1,v1,rfl,o1,a1⟩:=Z9z b (s.old aA) x.pt.hd (by omega) (fun r h' => ∃ v,r=.ret v/\OB h' hA.next v (ys++X5g x.pt.id)/\Old hA h') (fun v h' o a=>⟨v,rfl,o,a⟩);obtain⟨m,hm⟩:∃ m:Nat,x.pt.n=(m:Int):=⟨x.pt.n.toNat,by omega⟩;obtain⟨_,hD,q2,n2,v2,rfl,o2,a2⟩:=Y7y b (Laid.old laid (aA.trans a1)) o1.sl (n:=m) (by omega) (by rw[aj];omega) (fun r h' => ∃ v,r=.ret v/\OB h' hC.next v (ys++X5g x.pt.id++Ych m)/\Old hC h') (fun v h' o a=>⟨v,rfl,o,a⟩);have d0:=ldh (Old.refl hA);have d1:=ldn (Old.refl hA);have d2:=ldn a1;rw[hm]at d1 d2;simp[Qx5,Xfl,Qut,Vd,Xy9,Qiz,Qun,Xgo,Ut,bx];refine Qh6 [⟨121,[bv,.agg ⟨x.pt.id.map u8v⟩],hA,v1,hC,true⟩,⟨60,[v1,.int .i64 (m:Int)],hC,v2,hD,true⟩] ?_ Ydc Yhe Ycz (by simp[Yok,Yva,Yuc,Qx5,Xfl,Qut,Vd,Xy9,Qiz,Qun,Xgo,d0,d1,d2,Qq5];exact⟨rfl,rfl⟩) ?_ ?_
 ·exact zk2 ⟨q1,n1,fun _ c hc=>a1.2 c hc⟩ ⟨q2,n2,fun _ c hc=>a2.2 c hc⟩
 ·simp[Qle,Qx5,Xfl,Qut,Vd,Xy9,Qiz,Qun,Xgo,d1,d2,Q5c]
 simp[Qx5,Xfl,Qut,Vd,Xy9,Qiz,Qun,Xgo,Ut];refine hk v2 hD ?_ (aA.trans (a1.trans a2));have e:inB x.p=X5g x.pt.id++Ych m:=by
  show x.pt.id.map Int.ofNat++Ych x.pt.n.toNat=_;rw[hm];rfl
 rw[e,<- aY];exact o2.low (aA.trans a1).1
def Jbb(b:Nat){h:Heap}(laid:Ab.LaidIn h laidAll){bv:Value}{ys:List Int}{x:OutV}(hx:0<=x.value/\x.value<=1125899906842624)(a:OutAt h x)(s:SB h bv ys)(hl:ys.length < 900000010)(K:KP)(hk:∀ w h',OB h' h.next w (ys++Z3w x.p)->Old h h'->K (.ret w) h') :
  FK b 123 [bv,.agg ⟨x.cells⟩] h K:=by
 refine FF b (Qv1 b) Y6g Zsp Zod rfl ?_;obtain⟨hA,eA,aA,gA⟩:=Xcl h x.cells;have bx:=Q1v eA;obtain⟨m,hm⟩:∃ m:Nat,x.value=(m:Int):=⟨x.value.toNat,by omega⟩;have il:=Q4q m;have ld0:∀ {hx},Old hA hx->J6 hx h.next 0=some (.int .i64 (m:Int)):=fun {hx} o=>by rw[Zd (o.get gA),<- hm];rfl
 have ld1:∀ {hx},Old hA hx->J6 hx h.next 1=some x.sv:=fun {hx} o=>by rw[Zd (o.get gA)];rfl
 obtain⟨_,hC,q1,n1,v1,rfl,o1,a1⟩:=Y7y b (Laid.old laid aA) (s.old aA) (n:=m) (by omega) (by omega) (fun r h' => ∃ v,r=.ret v/\OB h' hA.next v (ys++Ych m)/\Old hA h') (fun v h' o a=>⟨v,rfl,o,a⟩);obtain⟨_,hD,q2,n2,v2,rfl,o2,a2⟩:=Z8t b (Laid.old laid (aA.trans a1)) o1.sl ((a.s.old aA).old a1) (by rw[aj];omega) a.l (fun r h' => ∃ v,r=.ret v/\OB h' hC.next v (ys++Ych m++Zr8 x.script)/\Old hC h') (fun v h' o a=>⟨v,rfl,o,a⟩);have d0:=ld0 (Old.refl hA);have d1:=ld1 (Old.refl hA);have d2:=ld1 a1;simp[Qxa,Xfd,Qv1,Vb,Ut,Vi,J7,Qui,bx];refine Qh6 [⟨60,[bv,.int .i64 (m:Int)],hA,v1,hC,true⟩,⟨124,[v1,x.sv],hC,v2,hD,true⟩] ?_ Yct Yiz Yf2 (by simp[Ylq,Yxz,Yrn,Qxa,Xfd,Qv1,Vb,Vi,J7,Qui,d0,d1,d2,Qq5];exact⟨rfl,rfl⟩) ?_ ?_
 ·exact zk2 ⟨q1,n1,fun _ c hc=>a1.2 c hc⟩ ⟨q2,n2,fun _ c hc=>a2.2 c hc⟩
 ·simp[Ql7,Qxa,Xfd,Qv1,Vb,Vi,J7,Qui,d1,d2,X2k a.s]
 simp[Qxa,Xfd,Qv1,Vb,Ut,Vi,J7,Qui];refine hk v2 hD ?_ (aA.trans (a1.trans a2));have e:Z3w x.p=Ych m++Zr8 x.script:=by
  show Ych x.value.toNat++Zr8 x.script=_;rw[hm];rfl
 rw[e,<- aY];exact o2.low (aA.trans a1).1
end
structure TxOk (t:PTx):Prop where
 insN:1<=t.ins.length/\t.ins.length<=8
 outsN:1<=t.outs.length/\t.outs.length<=8
 far:∀ x ∈ t.ins,0<=x.pt.n/\x.pt.n<=8
 lock:0<=t.lock/\t.lock<=1073741824
 pts:(t.ins.map (·.pt)).Nodup
 vals:X89 t.outs 1125899906842624=true
 script:∀ o ∈ t.outs,o.script.length<=256
 wit:∀ x ∈ t.ins,x.wit.length<=16/\∀ w ∈ x.wit,w.length<=64
def Yib{n a b:Int}:inF n a b=true↔a<=n/\n<=b:=by simp[inF]
def Yd3{t:PTx}(h:Qzf t=0):TxOk t:=by
 unfold Qzf at h;split at h
 ·cases h
 rename_i h1;split at h
 ·cases h
 rename_i h2;split at h
 ·cases h
 rename_i h3;split at h
 ·cases h
 rename_i h4;split at h
 ·cases h
 rename_i h5;simp only[cf,cE,not_or,dQ,Bool.not_eq_true,Yib]at h1 h2 h3 h4 h5;have hf:∀ x ∈ t.ins,Z5b x=false:=fun x hx=>by
  have:=cY.1 h2.1 x hx;simpa using this
 have hl:∀ x ∈ t.outs,Y2p x=false:=fun x hx=>by
  have:=cY.1 h5.1 x hx;simpa using this
 have hw:∀ x ∈ t.ins,Y27 x=false:=fun x hx=>by
  have:=cY.1 h5.2 x hx;simpa using this
 refine⟨by omega,by omega,fun x hx => ?_,h2.2,by simpa using h3,h4,fun o ho => ?_,fun x hx => ?_⟩
 ·have:=hf x hx;simpa[Z5b,Yib]using this
 ·have:=hl o ho;simp only[Y2p,decide_eq_false_iff_not]at this;omega
 ·have:=hw x hx;simp only[Y27,Bool.or_eq_false_iff,decide_eq_false_iff_not]at this;refine⟨by omega,fun w hw => ?_⟩;have:=cY.1 this.2 w hw;simp only[decide_eq_true_eq]at this;omega
def Zat:∀ {l:List POut} {left:Int},X89 l left=true->left<=1125899906842624->∀ o ∈ l,1<=o.value/\o.value<=1125899906842624
 | [],_,_,_,o,ho=>by cases ho
 | p::l,left,h,hle,o,ho=>by
  unfold X89 at h;split at h
  ·cases h
  ·rename_i hp;rcases ax.1 ho with rfl | ho
   ·omega
   ·exact Zat h (by omega) o ho
def Ygr{A:Type}{g:A->List Int}{m:Nat}:∀ {l:List A},(∀ x ∈ l,(g x).length<=m)->(l.flatMap g).length<=l.length*m
 | [],_=>by simp
 | x::l,h=>by
  have h1:=h x (by simp);have h2:=Ygr (g:=g) (l:=l) fun y hy=>h y (by simp[hy]);rw[List.flatMap_cons,aj,bI,cj];omega
def Jab(x:PIn):(inB x).length<=41:=by
 have:=Q4q x.pt.n.toNat;simp[inB,x.pt.hd];omega
def Z5t{o:POut}(h:o.script.length<=256):(Z3w o).length<=274:=by
 have:=Q4q o.value.toNat;have:=Q4q o.script.length;simp[Z3w,Zr8];omega
def flat_map' {A B:Type}(f:A->B)(g:B->List Int)(l:List A):(l.map f).flatMap g=l.flatMap fun x=>g (f x):=by
 rw[List.flatMap_map]
def Xcy{xs ys:List Int}(h1:Bytes xs)(h2:Bytes ys):Bytes (xs++ys):=fun z hz=>by
 rcases ac.1 hz with q | q
 ·exact h1 z q
 ·exact h2 z q
def Zk2{t:PTx}(k:TxOk t):(Yja t).length<=4096:=by
 have h1:=Q4q t.ins.length;have h2:=Q4q t.outs.length;have h3:=Q4q t.lock.toNat;have h4:=Ygr (g:=inB) (l:=t.ins) (m:=41) fun x _=>Jab x;have h5:=Ygr (g:=Z3w) (l:=t.outs) (m:=274) fun x hx=>Z5t (k.script x hx);have h6:=k.insN;have h7:=k.outsN;simp only[Yja,aj];omega
section
attribute [local simp] Qv3 Xaa Qr2 Uf V2 Us Jc Qa5 Qb9 Jt Qba Qai Qb8 Vc
def Z9a(b:Nat){h:Heap}(laid:Ab.LaidIn h laidAll){iv ov:Value}{ins:List InV}{outs:List OutV}{lock:Int}(si:Ins h iv ins)(so:Outs h ov outs)(K:KP)
  (hbad:∀ h',Qzf (ptx ins outs lock)≠0->Old h h'->K (.ret (.tuple #[.slice none 0 0,.int .i64 (Qzf (ptx ins outs lock))])) h')
  (hk:∀ v h',Qzf (ptx ins outs lock)=0->OB h' h.next v (Yja (ptx ins outs lock))->Old h h'->K (.ret (.tuple #[v,.int .i64 0])) h') :
  FK b 94 [.agg ⟨txC iv ov lock⟩] h K:=by
 refine FF b (Qr2 b) Zn4 Zyd Zwr rfl ?_;obtain⟨hA,eA,aA,gA⟩:=Xcl h ((txC iv ov lock));have bx:=Q1v eA;have ldt:Qbn hA h.next 0 3=some (.agg ⟨txC iv ov lock⟩):=by rw[Vm gA (by simp[txC])];rfl
 have cs:∀ {hx:Heap},Old hA hx->J6 hx h.next 0=some iv/\J6 hx h.next 1=some ov/\J6 hx h.next 2=some (.int .i64 lock):=fun {hx} o=>by
  have:=o.get gA;exact⟨by rw[Zd this];rfl,by rw[Zd this];rfl,by rw[Zd this];rfl⟩
 simp[bx,ldt];refine Zt3 b (si.old aA) (so.old aA) _ fun h1 a1 => ?_;by_cases hc:Qzf (ptx ins outs lock)=0
 case neg =>
  simp[hc];exact hbad h1 hc (aA.trans a1)
 have k:=Yd3 hc;rw[hc];obtain⟨c0, -, -⟩:=cs a1;simp[c0,Qut];have kl:=Zk2 k;have e1:(ptx ins outs lock).ins.flatMap inB=ins.flatMap fun x=>inB x.p:=flat_map' _ _ _;have e2:(ptx ins outs lock).outs.flatMap Z3w=outs.flatMap fun x=>Z3w x.p:=flat_map' _ _ _;have n1:(ptx ins outs lock).ins.length=ins.length:=by simp[ptx]
 have n2:(ptx ins outs lock).outs.length=outs.length:=by simp[ptx]
 have e3:Yja (ptx ins outs lock)=Ych ins.length++(ins.flatMap fun x=>inB x.p)++(Ych outs.length++outs.flatMap fun x=>Z3w x.p)++Ych lock.toNat:=by
  unfold Yja;rw[e1,e2,n1,n2];rfl
 rw[e3]at kl;simp only[aj]at kl;have a01:=aA.trans a1;refine Jei b (Laid.old laid a01) (xs:=[]) Sl.nil (si.s.old a01) si.n (fun x=>inB x.p) (Qut b) (by simp only[cX];omega) (fun h2 a2 x hx bv1 ys s1 hl K hk=>Jf7 b (Laid.old laid (a01.trans a2)) x (k.far x.p (av.2 ⟨x,hx,rfl⟩)) s1 hl K hk) _ fun v2 h2 o2 a2 => ?_;obtain⟨-,c1, -⟩:=cs (a1.trans a2);simp[c1,Qv1];have a02:=a01.trans a2;refine Z9w b (Laid.old laid a02) o2.sl (so.s.old a02) so.n (fun x=>Z3w x.p) (Qv1 b) (by simp only[aj,cX];omega) (fun h3 a3 x hx bv1 ys s1 hl K hk=>Jbb b (Laid.old laid (a02.trans a3)) (by have:=Zat k.vals (Int.le_refl _) x.p (av.2 ⟨x,hx,rfl⟩);exact⟨by have:=this.1;show(0:Int)<=x.p.value;omega,this.2⟩) (((so.old a02).old a3).a x hx) s1 hl K hk) _ fun v3 h3 o3 a3 => ?_;obtain⟨-, -,c2⟩:=cs ((a1.trans a2).trans a3);obtain⟨m,hm⟩:∃ m:Nat,lock=(m:Int):=⟨lock.toNat,by have:=k.lock.1;show lock=_;simp only[ptx]at this;omega⟩;rw[hm]at c2;have hlk:=k.lock.2;simp only[ptx]at hlk;simp[c2];have a03:=a02.trans a3;refine Y7y b (Laid.old laid a03) o3.sl (n:=m) (by omega) (by simp only[aj,cX];omega) _ fun v4 h4 o4 a4 => ?_;simp;refine hk v4 h4 hc ?_ (a03.trans a4);rw[e3,show lock.toNat=m by omega];have q:=o4.low (a03.1);rw[List.nil_append]at q;exact q
end
def Jcs(s:List Nat)(l:List Nat):List Nat:=Bl.keyed1 [] (Bl.keyed1 [] s++l)
def Y8f(s l:List Nat):(Jcs s l).length=32:=Qs0 _
def Zvj(s:ByteArray):(Xtg s).length=s.size:=by
 simp[Xtg]
def Z6c(b:Nat){s:ByteArray}{l:List Nat}(hs:Xtg s=l.map u8v)(h:Heap):Xie (E b).toEnv 9 57 (.string s) h=some (.slice (some ⟨h.next,0,none⟩) l.length Qkk,h.push (.cells true 1 (l.map u8v))):=by
 obtain⟨rs,hrs⟩:∃ rs,(E b).toEnv.ty.get 9=some rs:=⟨((E b).toEnv.ty.get 9).getD ⟨.invalid,0,0,.bool false,[]⟩,by kernel_rfl⟩;have h1:R57.desc=.slice 5:=(T57 b).d;have h3:R5.desc=.int .u8:=by kernel_rfl
 have hl:s.size=l.length:=by rw[<- Zvj,hs,aU]
 simp only[Xie,hrs,Xxf,h1,Ztk,h3,hs,hl]
section
attribute [local simp] Qwd Xc8 Qlq Zsx Xz Uj
def Zy2(b:Nat){h:Heap}(laid:Ab.LaidIn h laidAll){s:ByteArray}{l d:List Nat}(hs:Xtg s=l.map u8v)(hl:l.length < 1000){v:Value}(sv:SN h v d)(hd:d.length < 1000000)(K:KP)(hk:∀ h',Old h h'->K (.ret (.agg ⟨(Jcs l d).map u8v⟩)) h') :
  FK b 95 [.string s,v] h K:=by
 refine FF b (Qlq b) Yhq Y33 Yvw rfl ?_;obtain⟨hA,eA,aA,gA⟩:=Xcl h z32;have alA:Qbi (E b).toEnv 51 h=some (.pointer (some ⟨h.next,0,none⟩),hA):=by rw[eA];exact Vs b h
 obtain⟨hB,eB,aB,gB⟩:=Xcl hA ((l.map u8v));have cv:=Z6c b hs hA;rw[<- eB]at cv;have sB:SN hB (.slice (some ⟨hA.next,0,none⟩) l.length Qkk) l:=(Own.new (n0:=0) (z:=1) (bz _) gB (by simp) (by unfold Qkk;omega) (.inl ⟨rfl,rfl⟩)).sl;simp[Vs,-Vs,alA,cv];have aAB:=aA.trans aB;refine Ztl b (Xkd (Laid.old laid aAB)) sB (by omega) _ fun h1 a1 => ?_;obtain⟨dg,hdg⟩:∃ dg,dg=Bl.keyed1 [] l:=⟨_,rfl⟩;have dl:dg.length=32:=by rw[hdg];exact Qs0 _
 rw[<- hdg];have a01:=aAB.trans a1;obtain⟨hC,eC⟩:∃ hC,hC=h1.push (.cells true 1 z32):=⟨_,rfl⟩;have alC:Qbi (E b).toEnv 51 h1=some (.pointer (some ⟨h1.next,0,none⟩),hC):=by rw[eC];exact Vs b h1
 have gC:hC.get h1.next=some (.cells true 1 z32):=by rw[eC,Heap.get_push,if_pos rfl]
 have lC:=Heap.get_lt gC;obtain⟨hD,eD⟩:∃ hD,hD=hC.set h1.next (some (.cells true 1 (dg.map u8v))):=⟨_,rfl⟩;have stD:Ur hC h1.next 0 (dg.map u8v)=some hD:=by
  rw[W8 gC (by simp[z32,dl]),eD];congr 4;simp[z32,dl]
 have gD:hD.get h1.next=some (.cells true 1 (dg.map u8v)):=by rw[eD,Heap.get_set _ _ _ _ lC,if_pos rfl]
 have aD:Old h1 hD:=by rw[eD,eC];exact(Old.push _ _).set _ (ae _) (by rw[<- eC];exact lC)
 have a0D:=a01.trans aD;have oD:Own hD h1.next 1 (.slice (some ⟨h1.next,0,none⟩) 32 32) 32 (dg.map u8v):=Own.new (ae _) gD (by simp[dl]) (by decide) (.inr rfl);obtain⟨v',h2,k1,k2,k3⟩:=Q3u (T57 b) (tx:=57) (m:=d.length) Qk2 (by omega) oD aD.1 (Xns (T57 b) Qk2 (sv.old a0D)) (by simp) (by rw[Q4o];omega) (by omega);have a2:Old h1 h2:=k3.old aD oD;simp[Vs,-Vs,alC,dl,stD,Yqe,k1];have s2:SN h2 v' (dg++d):=by
  have:=k2.sl;rw[SN,aj,bw,dl];exact this
 have a02:=a01.trans a2;refine Ztl b (Xkd (Laid.old laid a02)) s2 (by simp[dl];omega) _ fun h3 a3 => ?_;obtain⟨dt,hdt⟩:∃ dt,dt=Bl.keyed1 [] (dg++d):=⟨_,rfl⟩;have tl:dt.length=32:=by rw[hdt];exact Qs0 _
 have te:dt=Jcs l d:=by rw[hdt,hdg];rfl
 rw[<- hdt];have a03:=a02.trans a3;have g3:h3.get h.next=some (.cells true 1 z32):=(((aB.trans a1).trans a2).trans a3).get gA;have l3:=Heap.get_lt g3;have st3:Ur h3 h.next 0 (dt.map u8v)=some (h3.set h.next (some (.cells true 1 (dt.map u8v)))):=by
  rw[W8 g3 (by simp[z32,tl])];congr 4;simp[z32,tl]
 have ld3:Qbn (h3.set h.next (some (.cells true 1 (dt.map u8v)))) h.next 0 32=some (.agg ⟨dt.map u8v⟩):=by
  rw[Vm (by rw[Heap.get_set _ _ _ _ l3,if_pos rfl]) (by simp[tl]),bY,aJ (by simp[tl])]
 simp[Vs,Qiz,tl,st3,ld3];rw[te];exact hk _ (a03.set _ (ae _) l3)
end
def dgF(s:List Nat)(t:PTx):List Nat:=if Qzf t=0 then Jcs s (Zfj (Yja t))else List.replicate 32 0
def Yaf(s:List Nat)(t:PTx):(dgF s t).length=32:=by
 unfold dgF;split
 ·exact Y8f _ _
 ·simp
def Y77(l:List Nat)(h:∀ n ∈ l,n < 256):Bytes (X5g l):=fun z hz=>by
 obtain⟨n,hn,rfl⟩:=av.1 hz;have:=h n hn;show(0:Int)<=(n:Int)/\(n:Int) < 256;omega
def PtB(p:Pt):Prop:=∀ n ∈ p.id,n < 256
def Zr2{t:PTx}(hi:∀ x ∈ t.ins,PtB x.pt)(ho:∀ o ∈ t.outs,Bytes o.script):Bytes (Yja t):=by
 have fm:∀ {A:Type} (g:A->List Int) (l:List A),(∀ x ∈ l,Bytes (g x))->Bytes (l.flatMap g):=fun g l h z hz=>by
  obtain⟨x,hx,hz⟩:=dx.1 hz;exact h x hx z hz
 unfold Yja;refine Xcy (Xcy (Xcy (Xab _) (fm _ _ fun x hx => ?_)) (Xcy (Xab _) (fm _ _ fun o h => ?_))) (Xab _)
 ·exact Xcy (Y77 _ (hi x hx)) (Xab _)
 ·exact Xcy (Xab _) (Xcy (Xab _) (ho o h))
section
attribute [local simp] Qy4 Xf6 Qpt Uf Qr2 Qoe Qlq Uj
def Ztw(b:Nat){h:Heap}(laid:Ab.LaidIn h laidAll){s:ByteArray}{l:List Nat}(hs:Xtg s=l.map u8v)(hl:l.length < 1000){iv ov:Value}{ins:List InV}{outs:List OutV}{lock:Int}(si:Ins h iv ins)(so:Outs h ov outs)(hp:∀ x ∈ ins,PtB x.pt)(K:KP)
  (hk:∀ h',Old h h'->K (.ret (.agg ⟨(dgF l (ptx ins outs lock)).map u8v⟩)) h'):FK b 67 [.string s,.agg ⟨txC iv ov lock⟩] h K:=by
 refine FF b (Qpt b) Y5w Zru Zkv rfl ?_;obtain⟨hA,eA,aA,gA⟩:=Xcl h ((txC iv ov lock));have nA:=Xbt eA;have bx:=Q1v eA;obtain⟨hB,eB,aB,gB⟩:=Xcl hA z32;have alB:Qbi (E b).toEnv 51 hA=some (.pointer (some ⟨hA.next,0,none⟩),hB):=by rw[eB];exact Vs b hA
 have aAB:=aA.trans aB;have ldt:Qbn hB h.next 0 3=some (.agg ⟨txC iv ov lock⟩):=by rw[Vm (aB.get gA) (by simp[txC])];rfl
 simp[Vs,bx,-Vs,alB,ldt];have fin:∀ (h1:Heap) (dt:List Nat),Old hB h1->dt.length=32->∃ h2,Ur h1 hA.next 0 (dt.map u8v)=some h2/\Qbn h2 hA.next 0 32=some (.agg ⟨dt.map u8v⟩)/\Old h h2:=by
  intro h1 dt a1 tl;have g3:=a1.get gB;have l3:=Heap.get_lt g3;refine⟨h1.set hA.next (some (.cells true 1 (dt.map u8v))),?_,?_,(aAB.trans a1).set _ (by omega) l3⟩
  ·rw[W8 g3 (by simp[z32,tl])];congr 4;simp[z32,tl]
  ·rw[Vm (by rw[Heap.get_set _ _ _ _ l3,if_pos rfl]) (by simp[tl]),bY,aJ (by simp[tl])]
 refine Z9a b (Laid.old laid aAB) (si.old aAB) (so.old aAB) _ (fun h1 hc a1 => ?_) (fun v h1 hc o1 a1 => ?_)
 ·obtain⟨zd,ezd⟩:∃ zd:List Nat,zd=List.replicate 32 0:=⟨_,rfl⟩;obtain⟨h2,k1,k2,k3⟩:=fin h1 zd a1 (by rw[ezd];simp);have zh:Qmn (E b).toEnv 51 []=some (.agg ⟨zd.map u8v⟩):=by rw[ezd];kernel_rfl
  have rl:zd.length=32:=by rw[ezd];simp
  simp[Vs,hc,zh,rl,k1,Qiz,k2];have:=hk h2 k3;unfold dgF at this;rw[if_neg hc,<- ezd]at this;exact this
 ·have k:=Yd3 hc;have kl:=Zk2 k;have kb:Bytes (Yja (ptx ins outs lock)):=Zr2 (fun x hx=>by
   obtain⟨y,hy,rfl⟩:=av.1 hx;exact hp y hy) (fun o ho=>by
   obtain⟨y,hy,rfl⟩:=av.1 ho;exact(so.a y hy).b)
  simp[Vs];refine Zy2 b (Laid.old laid (aAB.trans a1)) hs hl (SN.of o1.sl kb) (by simp;omega) _ fun h2 a2 => ?_;obtain⟨h3,k1,k2,k3⟩:=fin h2 _ (a1.trans a2) (Y8f l ((Yja (ptx ins outs lock)).map Int.toNat));simp[Vs,Qiz,Y8f,k1,k2];have:=hk h3 k3;unfold dgF at this;rw[if_pos hc]at this;exact this
end
def X5i:List Nat:=[115,105,103,110]
section
attribute [local simp] Xia Ykg Vl Uf Qpt Uj
def Zgx(b:Nat){h:Heap}(laid:Ab.LaidIn h laidAll){iv ov:Value}{ins:List InV}{outs:List OutV}{lock:Int}(si:Ins h iv ins)(so:Outs h ov outs)(hp:∀ x ∈ ins,PtB x.pt)(K:KP)
  (hk:∀ h',Old h h'->K (.ret (.agg ⟨(dgF X5i (ptx ins outs lock)).map u8v⟩)) h'):FK b 47 [.agg ⟨txC iv ov lock⟩] h K:=by
 refine FF b (Vl b) Yzq Zr6 Zhx rfl ?_;obtain⟨hA,eA,aA,gA⟩:=Xcl h ((txC iv ov lock));have nA:=Xbt eA;have bx:=Q1v eA;obtain⟨hB,eB,aB,gB⟩:=Xcl hA z32;have alB:Qbi (E b).toEnv 51 hA=some (.pointer (some ⟨hA.next,0,none⟩),hB):=by rw[eB];exact Vs b hA
 have aAB:=aA.trans aB;have ldt:Qbn hB h.next 0 3=some (.agg ⟨txC iv ov lock⟩):=by rw[Vm (aB.get gA) (by simp[txC])];rfl
 simp[Vs,bx,-Vs,alB,ldt];refine Ztw b (l:=X5i) (Laid.old laid aAB) rfl (by simp[X5i]) (si.old aAB) (so.old aAB) hp _ fun h1 a1 => ?_;obtain⟨dt,hdt⟩:∃ dt,dt=dgF X5i (ptx ins outs lock):=⟨_,rfl⟩;have tl:dt.length=32:=by rw[hdt];exact Yaf _ _
 rw[<- hdt]at hk ⊢;have g3:=a1.get gB;have l3:=Heap.get_lt g3;have st3:Ur h1 hA.next 0 (dt.map u8v)=some (h1.set hA.next (some (.cells true 1 (dt.map u8v)))):=by
  rw[W8 g3 (by simp[z32,tl])];congr 4;simp[z32,tl]
 have ld3:Qbn (h1.set hA.next (some (.cells true 1 (dt.map u8v)))) hA.next 0 32=some (.agg ⟨dt.map u8v⟩):=by
  rw[Vm (by rw[Heap.get_set _ _ _ _ l3,if_pos rfl]) (by simp[tl]),bY,aJ (by simp[tl])]
 simp[Vs,Qiz,tl,st3,ld3];exact hk _ ((aAB.trans a1).set _ (by omega) l3)
end
end Go.Proofs.YtijagoebdgohnaaGreatDoor
end
