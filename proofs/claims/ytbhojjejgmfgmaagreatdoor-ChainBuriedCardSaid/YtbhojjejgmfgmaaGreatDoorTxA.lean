import Derived.Test.YtbhojjejgmfgmaaGreatDoorFA
import Derived.Test.YtbhojjejgmfgmaaGreatDoorScB
set_option linter.all false
open List renaming length→L
open Option renaming some→U,none→O
open Bool renaming true→Y,false→J
open Go renaming Value→V
open Go.Value renaming int→I,slice→M
open Go.IntKind renaming i64→X
open Go.Ab.Blk renaming cells→S
noncomputable section
namespace Go.Proofs.YtbhojjejgmfgmaaGreatDoor
open Go Go.Ab
set_option maxRecDepth 100000
variable(s:List Nat)(l:List Nat)(n:Nat)(b:Nat){h:N}{h':N}
structure Pt where
 id:List Nat
 n:Int
 hd:L id=32
def Pt.cells(p:Pt):List V:=p.id.map ax ++ [I X p.n]
def Pt.len(p:Pt):L p.cells=33:=by simp[Pt.cells,p.hd]
def Pt.ext' {p q:Pt}(h1:p.id=q.id)(C:p.n=q.n):p=q:=by
 cases p;cases q;simp only at h1 C;subst h1;subst C;rfl
instance : DecidableEq Pt:=fun p q=>if h:p.id=q.id/\p.n=q.n then isTrue (Pt.ext' h.1 h.2)else isFalse fun e=>h (by rw[e];exact⟨rfl,rfl⟩)
def pI(l:List Pt):List V:=l.flatMap Pt.cells
def Rh(l:List Pt):L (pI l)=L l*33:=by
 induction l with
 | nil=>rfl
 | cons p l ih=>simp[pI,Pt.len]at ih ⊢;omega
def H7:∀ (xs ys:List Nat) (l:List Nat) (r s:List V),L xs=L ys->jz (List.replicate (L xs) 1++l) (xs.map ax++r) (ys.map ax++s)=(jz l r s).map (decide (xs=ys) && ·)
 | [],[],l,r,s,_=>by
  simp
 | x::xs,y::ys,l,r,s,h=>by
  have ih:=H7 xs ys l r s (by simpa using h);simp only[bm,cZ,aK,dG,jz,ih];have : Ax 1 (ax x) (ax y)=U (decide (x=y)):=by
   show(if IntKind.u8=IntKind.u8 then U ((x:Int) == (y:Int))else O)=_;simp only[if_true];congr 1;by_cases e:x=y
   ·subst e;simp
   ·simp[e];omega
  rw[this];cases jz l r s with
  | none=>rfl
  | some c=>simp[Bool.and_assoc]
def Vld(p q:Pt):jz Kr p.cells q.cells=U (decide (p=q)):=by
 have:=H7 p.id q.id [1] [I X p.n] [I X q.n] (by rw[p.hd,q.hd]);rw[p.hd]at this;have e:jz Kr p.cells q.cells=jz (List.replicate 32 1 ++ [1]) (p.id.map ax ++ [I X p.n]) (q.id.map ax ++ [I X q.n]):=by
  congr 1
  kernel_rfl
 rw[e,this];have C:jz [1] [I X p.n] [I X q.n]=U (decide (p.n=q.n)):=by
  show(match U (p.n == q.n),U Y with | some a,U b=>U (a && b) | _,_=>O)=_;simp;rfl
 rw[C];show U (decide (p.id=q.id) && decide (p.n=q.n))=_;congr 1;by_cases h:p=q
 ·subst h;simp
 ·have : ¬ (p.id=q.id/\p.n=q.n):=fun⟨a,c⟩=>h (Pt.ext' a c);simp[h];intro a c;exact this ⟨a,c⟩
def OZ(p q:Pt):kh (E b).toiS .eql 77 (.agg ⟨p.cells⟩) (.agg ⟨q.cells⟩)=U (.bool (decide (p=q))):=by
 have e:kh (E b).toiS .eql 77 (.agg ⟨p.cells⟩) (.agg ⟨q.cells⟩)=(jz Kr p.cells q.cells).map .bool:=kR
 rw[e,Vld];rfl
def PS:∀ {l:List Pt} {i:Nat} {p:Pt},l[i]? = U p->∀ j,j < 33->(pI l)[i*33+j]? = p.cells[j]?
 | q::l,0,p,h,j,C=>by
  simp at h;subst h;show(q.cells++pI l)[0*33+j]? = _;rw[List.getElem?_append_left (by rw[Pt.len];omega)];congr 1;omega
 | q::l,i+1,p,h,j,C=>by
  have ih:=PS (l:=l) (i:=i) (p:=p) (by simpa using h) j C;show(q.cells++pI l)[(i+1)*33+j]? = _;rw[List.getElem?_append_right (by rw[Pt.len];omega),Pt.len,show(i+1)*33+j-33=i*33+j by omega];exact ih
def Vh1{b:Nat}{te ts:TypeId}{re rs:ib}(T:jQ (E b).toiS te ts re rs)(hz:re.size=33){h:N}{v:V}{l:List Pt}(s:Sl h 33 v (L l) (pI l)){i:Nat}{p:Pt}(P:l[i]? = U p) :
  ∃ bk off,Ug (E b).toiS ts v (I X (i:Int))=U (pO bk off)/\iz h bk off 33=U (.agg ⟨p.cells⟩):=by
 have hl:=(List.getElem?_eq_some_iff.1 P).1;obtain⟨bk,off,q1,q2,q3,q4⟩:=o_ T hz s (k:=.i64) (i:=(i:Int)) jA jA;refine⟨bk,off,q2,?_⟩;rw[q4];congr 3;rw[bb];apply List.ext_getElem?;intro j;by_cases C:j < 33
 ·rw[List.getElem?_take_of_lt C,List.getElem?_drop,PS P j C]
 ·rw[List.getElem?_eq_none (by simp;omega),List.getElem?_eq_none (by rw[Pt.len];omega)]
structure PE where
 key:Pt
 val:V
 born:Nat
def PE.e(x:PE):MapEntry:=⟨.agg ⟨x.key.cells⟩,x.val,x.born⟩
def nL(p:Pt):List PE->Nat->Option (Nat × V)
 | [],_=>O
 | x::l,j=>if p=x.key then U (j,x.val)else nL p l (j+1)
def Jtt(p:Pt):∀ (l:List PE) (j:Nat),uq Kr p.cells (l.map PE.e) j=U (nL p l j)
 | [],_=>rfl
 | x::l,j=>by
  have C:Lf x.e.key=U x.key.cells:=rfl;simp only[aK,uq,C,Vld,nL];by_cases h:p=x.key
  ·simp[h];rfl
  ·simp only[h,decide_false,if_false];exact Jtt p l (j+1)
def Lm(p:Pt)(l:List PE):sM uu (.agg ⟨p.cells⟩) (l.map PE.e)=U (nL p l 0):=by
 obtain⟨C,hd⟩:∃ C,uu.desc=.struct C:=⟨(match uu.desc with | .struct C=>C | _ => #[]),by kernel_rfl⟩;have hl:uu.leaf=1::List.replicate 32 1:=kR
 have h0:=Jtt p l 0;rw[show Kr=1::List.replicate 32 1 by kernel_rfl]at h0;have P:Nat.beq (L p.cells) (L (1::List.replicate 32 1))=Y:=by rw[p.len];rfl
 simp only[sM,hd,hl,P];exact h0
def PX{p:Pt}:∀ {l:List PE} {j:Nat},nL p l j=O ↔ ∀ x ∈ l,x.key≠p
 | [],_=>by simp[nL]
 | x::l,j=>by
  unfold nL;by_cases h:p=x.key
  ·simp[h]
  ·rw[if_neg h,PX];simp;exact fun _ q=>h q.symm
def H9{p:Pt}:∀ {l:List PE} {j i:Nat} {v:V},nL p l j=U (i,v)->∃ x,l[i-j]? = U x/\j<=i/\x.key=p/\x.val=v
 | [],_,_,_,h=>by cases h
 | x::l,j,i,v,h=>by
  unfold nL at h;by_cases C:p=x.key
  ·rw[if_pos C]at h;cases h;exact⟨x,kA,ac _,C.symm,rfl⟩
  ·rw[if_neg C]at h;obtain⟨y,h1,h2,P,T⟩:=H9 h;refine⟨y,?_,jA,P,T⟩;rw[show i-j=(i-(j+1))+1 by omega,List.getElem?_cons_succ];exact h1
def D8(p:Pt):∀ v ∈ p.cells,∃ k z,v=I k z:=by
 intro v hv;rcases ab.1 hv with h | h
 ·obtain⟨n,_,rfl⟩:=am.1 h;exact⟨_,_,rfl⟩
 ·simp at h;exact⟨_,_,h⟩
def Pw:∀ {l:List V},(∀ v ∈ l,∃ k z,v=I k z)->j9 l=Y/\l.all (·.oneCell')=Y
 | [],_=>⟨by simp[j9],rfl⟩
 | v::l,h=>by
  obtain⟨k,z,rfl⟩:=h v kA;obtain⟨h1,C⟩:=Pw (l:=l) fun w P=>h w (by simp[P]);exact⟨by simp[j9,flat,h1],by simpa[Value.oneCell']using C⟩
def Lu(p:Pt):flat (.agg ⟨p.cells⟩)=Y:=by
 obtain⟨h1,C⟩:=Pw (D8 p);simp only[flat,i5,h1,C,Bool.and_self]
def Vc0(p:Pt):Instr.sameBits 10000 (.agg ⟨p.cells⟩) (.agg ⟨p.cells⟩)=Y:=by
 show Instr.sameBits (9999+1) (.agg _) (.agg _)=Y;simp only[Instr.sameBits,beq_self_eq_true,dx,du];have key:∀ (l:List V) (x:V × V),x ∈ l.zip l->x.1=x.2/\x.1 ∈ l:=by
  intro l;induction l with
  | nil=>intro x C;simp at C
  | cons a l ih =>
   intro x C;simp only[List.zip_cons_cons,ao]at C;rcases C with rfl | C
   ·exact⟨rfl,kA⟩
   ·exact⟨(ih x C).1,by simp[(ih x C).2]⟩
 rintro⟨a,c⟩ C;obtain⟨h1,P⟩:=key _ _ C;simp only at h1 P;subst h1;obtain⟨k,z,rfl⟩:=D8 p a P;simp[Instr.sameBits]
def xN(p:Pt)(v:V):List PE->List PE
 | []=>[]
 | x::l=>if p=x.key then {x with val:=v}::l else x::xN p v l
def Zv6{p:Pt}(v:V):∀ {l:List PE} {j i:Nat} {w:V},nL p l j=U (i,w)->(l.map PE.e).modify (i-j) (fun e=>{e with key:=.agg ⟨p.cells⟩,val:=v})=(xN p v l).map PE.e
 | [],_,_,_,h=>by cases h
 | x::l,j,i,w,h=>by
  unfold nL at h;unfold xN;by_cases C:p=x.key
  ·rw[if_pos C]at h ⊢;cases h;rw[cO];simp[PE.e,C]
  ·rw[if_neg C]at h ⊢;obtain⟨y,h1,P,T,h4⟩:=H9 h;rw[show i-j=(i-(j+1))+1 by omega,aK,List.modify_succ_cons,Zv6 v h,aK]
section
variable{b:Nat}{tm te:TypeId}{rm:ib}(he:(E b).toiS.ty.A tm=U rm)(hd:rm.desc=.map 77 te)
include he hd
theorem J3s{h:N}{mb C:Nat}{l:List PE}(hm:h.A mb=U (.map ⟨l.map PE.e⟩ C)){p:Pt}(T:nL p l 0=O)(v:V) :
  pY (E b).toiS tm (.map (U mb)) (.agg ⟨p.cells⟩) v h=U (h.set mb (U (.map ⟨(l ++ [(⟨p,v,C⟩:PE)]).map PE.e⟩ (C+1)))):=by
 have P:=Lm p l;rw[T]at P;simp only[pY,he,hd,hm,yd,Lu,P];simp[PE.e]
theorem Jja{h:N}{mb C:Nat}{l:List PE}(hm:h.A mb=U (.map ⟨l.map PE.e⟩ C)){p:Pt}{i:Nat}{w:V}(P:nL p l 0=U (i,w))(v:V) :
  pY (E b).toiS tm (.map (U mb)) (.agg ⟨p.cells⟩) v h=U (h.set mb (U (.map ⟨(xN p v l).map PE.e⟩ C))):=by
 have hq:=Lm p l;obtain⟨x,hx, -,hk, -⟩:=H9 P;rw[dc]at hx;have e0:(((⟨l.map PE.e⟩:Array MapEntry)[i]?).map (·.key)).getD (.agg ⟨p.cells⟩)=.agg ⟨p.cells⟩:=by
  have : (⟨l.map PE.e⟩:Array MapEntry)[i]? = U x.e:=by
   show(l.map PE.e).toArray[i]? = _;rw[List.getElem?_toArray,List.getElem?_map,hx];rfl
  rw[this];simp[PE.e,hk]
 have T:=Zv6 v P;rw[dc]at T;rw[P]at hq;simp only[pY,he,hd,hm,yd,Lu,hq,e0,Vc0];congr 4;rw[<- T];simp
theorem Vfl{h:N}{mb P:Nat}{l:List PE}(hm:h.A mb=U (.map ⟨l.map PE.e⟩ P)){T:ib}(C:(E b).toiS.ty.A te=U T)(p:Pt) :
  mW (E b).toiS tm (.map (U mb)) (.agg ⟨p.cells⟩) J h=U (match nL p l 0 with | some q=>q.2 | none=>T.zero) /\
  mW (E b).toiS tm (.map (U mb)) (.agg ⟨p.cells⟩) Y h=U (match nL p l 0 with | some q => .tuple #[q.2,.bool Y] | none => .tuple #[T.zero,.bool J]):=by
 have hf:=Lm p l;constructor
 ·simp only[mW,he,hd,yd,C,qi,hm,hf];cases nL p l 0 <;> simp
 ·simp only[mW,he,hd,yd,C,qi,hm,hf];cases nL p l 0 <;> simp
theorem Vcv{h:N}{mb C:Nat}{P:Array MapEntry}(T:h.A mb=U (.map P C)):iP (E b).toiS tm (.map (U mb)) h=U (I X P.size):=by
 simp only[iP,he,hd,T]
theorem Jud{h:N}:uC (E b).toiS tm O h=U (.map (U h.Q),h.push (.map #[] 0)):=by
 simp only[uC,he,hd]
end
structure pN where
 pt:Pt
 wit:List (List Int)
structure jB where
 value:Int
 script:List Int
structure k_ where
 ins:List pN
 outs:List jB
 lock:Int
def wq(n C P:Int):Bool:=decide (C<=n/\n<=P)
def ue:List jB->Int->Bool
 | [],_=>Y
 | o::l,left=>if o.value < 1∨left < o.value then J else ue l (left-o.value)
def EO(x:pN):Bool := !wq x.pt.n 0 8
def Dn(o:jB):Bool:=decide (256 < L o.script)
def Dp(x:pN):Bool:=decide (16 < L x.wit) || x.wit.any fun w=>decide (64 < L w)
def rn(t:k_):Int :=
 if !wq (L t.ins) 1 8 || !wq (L t.outs) 1 8 then 3
 else if t.ins.any EO || !wq t.lock 0 1073741824 then 1
 else if !decide (t.ins.map (·.pt)).Nodup then 13
 else if !ue t.outs 1125899906842624 then 15
 else if t.outs.any Dn || t.ins.any Dp then 5
 else 0
def tT:Nat->Nat->List Int
 | 0,_=>[]
 | k+1,n=>((n % 256:Nat):Int)::tT k (n / 256)
def lH(n:Nat):List Int:=if n < 253 then [(n:Int)]else if n < 65536 then 253::tT 2 n else if n < 4294967296 then 254::tT 4 n else 255::tT 8 n
def Lp:∀ k n,L (tT k n)=k
 | 0,_=>rfl
 | k+1,n=>by simp[tT,Lp k]
def LZ:∀ k n,∀ z ∈ tT k n,0<=z/\z < 256
 | 0,_,z,h=>by cases h
 | k+1,n,z,h=>by
  rcases ao.1 h with rfl | h
  ·omega
  ·exact LZ k _ z h
def wQ:L (lH n)<=9:=by
 unfold lH;split
 ·simp
 ·split
  ·simp[Lp]
  ·split <;> simp[Lp]
def Ca:Bytes (lH n):=by
 unfold lH Bytes;intro z C;split at C
 ·simp at C;omega
 ·split at C
  ·rcases ao.1 C with rfl | C
   ·omega
   ·exact LZ _ _ z C
  ·split at C
   ·rcases ao.1 C with rfl | C
    ·omega
    ·exact LZ _ _ z C
   ·rcases ao.1 C with rfl | C
    ·omega
    ·exact LZ _ _ z C
def xV(x:pN):List Int:=x.pt.id.map Int.ofNat++lH x.pt.n.toNat
def Dl(l:List Int):List Int:=lH (L l)++l
def yU(o:jB):List Int:=lH o.value.toNat++Dl o.script
def ye(t:k_):List Int:=lH (L t.ins)++t.ins.flatMap xV++(lH (L t.outs)++t.outs.flatMap yU)++lH t.lock.toNat
structure ik where
 pt:Pt
 wv:V
 its:List (V × List Int)
def ik.cells(x:ik):List V:=x.pt.cells ++ [x.wv]
def ik.p(x:ik):pN:=⟨x.pt,x.its.map (·.2)⟩
structure fm where
 value:Int
 sv:V
 script:List Int
def fm.cells(o:fm):List V:=[I X o.value,o.sv]
def fm.p(o:fm):jB:=⟨o.value,o.script⟩
def mT(l:List ik):List V:=l.flatMap ik.cells
def pg(l:List fm):List V:=l.flatMap fm.cells
def ik.len(x:ik):L x.cells=34:=by simp[ik.cells,Pt.len]
def fm.len(x:fm):L x.cells=2:=rfl
def Ta(l:List ik):L (mT l)=L l*34:=by
 induction l with
 | nil=>rfl
 | cons p l ih=>simp[mT,ik.len]at ih ⊢;omega
def QV(l:List fm):L (pg l)=L l*2:=by
 induction l with
 | nil=>rfl
 | cons p l ih=>simp[pg,fm.len]at ih ⊢;omega
structure lw (h:N) (x:ik):Prop where
 w:Sl h 1 x.wv (L x.its) (x.its.map (·.1))
 i:mj h x.its
 n:L x.its < 1000000
 l:∀ p ∈ x.its,L p.2 < 1000000
structure mi (h:N) (x:fm):Prop where
 s:SB h x.sv x.script
 b:Bytes x.script
 l:L x.script < 1000000
def lw.R{x:ik}(a:lw h x)(o:a_ h h'):lw h' x:=⟨a.w.R o,a.i.R o,a.n,a.l⟩
def mi.R{x:fm}(a:mi h x)(o:a_ h h'):mi h' x:=⟨a.s.R o,a.b,a.l⟩
structure Ins (h:N) (v:V) (l:List ik):Prop where
 s:Sl h 34 v (L l) (mT l)
 n:L l < 1000000
 a:∀ x ∈ l,lw h x
structure jC (h:N) (v:V) (l:List fm):Prop where
 s:Sl h 2 v (L l) (pg l)
 n:L l < 1000000
 a:∀ x ∈ l,mi h x
def Ins.R{v:V}{l:List ik}(a:Ins h v l)(o:a_ h h'):Ins h' v l:=⟨a.s.R o,a.n,fun x C=>(a.a x C).R o⟩
def jC.R{v:V}{l:List fm}(a:jC h v l)(o:a_ h h'):jC h' v l:=⟨a.s.R o,a.n,fun x C=>(a.a x C).R o⟩
def iT(iv ov:V)(lock:Int):List V:=[iv,ov,I X lock]
def jN(ins:List ik)(outs:List fm)(lock:Int):k_:=⟨ins.map ik.p,outs.map fm.p,lock⟩
def Hj{A:Type}{f:A->List V}{z:Nat}(C:∀ x,L (f x)=z):∀ {l:List A} {i:Nat} {x:A},l[i]? = U x->((l.flatMap f).drop (i*z)).take z=f x
 | y::l,0,x,h=>by
  simp at h;subst h;rw[dN,bw,dT,aP (by rw[C];omega),ai (by rw[C];omega)]
 | y::l,i+1,x,h=>by
  rw[dT,show(i+1)*z=z+i*z by rw[cr];omega,<- cD];have : (f y++l.flatMap f).drop z=l.flatMap f:=by
   rw[<- C y,cd]
  rw[this];exact Hj C (by simpa using h)
def Jkw{A:Type}{f:A->List V}{z:Nat}(C:∀ x,L (f x)=z){l:List A}{i:Nat}{x:A}(h:l[i]? = U x){j:Nat}(P:j < z):(l.flatMap f)[i*z+j]? = (f x)[j]? := by
 rw[<- Hj C h,List.getElem?_take_of_lt P,List.getElem?_drop]
def wI{b:Nat}{te ts:TypeId}{re rs:ib}(T:jQ (E b).toiS te ts re rs)(hz:re.size=34){h:N}{v:V}{l:List ik}(s:Sl h 34 v (L l) (mT l)){i:Nat}{x:ik}(C:l[i]? = U x) :
  ∃ bk off,Vn v=U bk/\Ug (E b).toiS ts v (I X (i:Int))=U (pO bk off)/\iz h bk off 34=U (.agg ⟨x.cells⟩)/\(∀ j,j < 34->Jr h bk (off+j)=x.cells[j]?):=by
 have hl:=(List.getElem?_eq_some_iff.1 C).1;obtain⟨bk,off,q1,q2,q3,q4⟩:=o_ T hz s (k:=.i64) (i:=(i:Int)) jA jA;refine⟨bk,off,q1,q2,?_,fun j P => ?_⟩
 ·rw[q4,bb,mT,Hj ik.len C]
 ·rw[q3 j P,bb,mT,Jkw ik.len C P]
def yp{b:Nat}{te ts:TypeId}{re rs:ib}(T:jQ (E b).toiS te ts re rs)(hz:re.size=2){h:N}{v:V}{l:List fm}(s:Sl h 2 v (L l) (pg l)){i:Nat}{x:fm}(C:l[i]? = U x) :
  ∃ bk off,Vn v=U bk/\Ug (E b).toiS ts v (I X (i:Int))=U (pO bk off)/\iz h bk off 2=U (.agg ⟨x.cells⟩)/\Jr h bk off=U (I X x.value)/\Jr h bk (off+1)=U x.sv:=by
 have hl:=(List.getElem?_eq_some_iff.1 C).1;obtain⟨bk,off,q1,q2,q3,q4⟩:=o_ T hz s (k:=.i64) (i:=(i:Int)) jA jA;have q5:∀ j,j < 2->Jr h bk (off+j)=x.cells[j]? := fun j P=>by rw[q3 j P,bb,pg,Jkw fm.len C P]
 refine⟨bk,off,q1,q2,?_,?_,?_⟩
 ·rw[q4,bb,pg,Hj fm.len C]
 ·have:=q5 0 jA;simpa[fm.cells]using this
 ·have:=q5 1 jA;simpa[fm.cells]using this
def K9(x:ik):x.cells.take 33=x.pt.cells:=by
 rw[ik.cells,aP (by rw[Pt.len];omega),ai (by rw[Pt.len];omega)]
def Jcz{A:Type}{q:A->Bool}{l:List A}{i:Nat}{x:A}(C:l[i]? = U x)(h0:(l.take i).any q=J):(l.take (i+1)).any q=q x:=by
 rw[bH,C];simp[h0]
def J41{A:Type}{q:A->Bool}{l:List A}{i:Nat}{x:A}(P:l[i]? = U x)(C:q x=Y):l.any q=Y:=List.any_eq_true.2 ⟨x,List.mem_of_getElem? P,C⟩
def Vjx(v C:V)(l:List ik)(q:ik->Bool)(h:N)(k:Nat)(s:St):Prop:=∃ (t:Tr V) (h1:N) (i:Nat),s=⟨⟨19,t⟩,[],h1⟩/\t.A 0=U v/\t.A 1=U C/\t.A 7=U (I X (L l:Int))/\t.A 8=U (I X (i:Int))/\i<=L l/\k=L l-i/\(l.take i).any q=J/\a_ h h1
attribute [local simp] Xd qS qT Xu qV qU qR qX qW Q6 Qv Zk Z6 iN Qg gS Ab.g0 gv gs Q7 Qd g_ kH kU Qh Tr.H St.put Tm.put flat i5 Xa Yx Qm Qp Qn Qo Qk Ql Qj Qq Qi Q9 Q8 qQ qO qN qP ri rh rc qY qZ q_ rj Xs.putAll Qr Q0 Qb Qa kQ Zj Zo kT mX U9 J0 J4 Nat.testBit loadAt Ab.runT Je Ym uM
section
attribute [local simp] Qaz
def Vcz{v:V}{l:List ik}{f:FuncId}{F:Func}(hF:(E b).fn.A f=U F){cap:List V}(s:Sl h 34 v (L l) (mT l))(hn:L l < 1000000)(q:ik->Bool)(hf:∀ h1,a_ h h1->∀ x ∈ l,∀ K,(∀ h2,a_ h1 h2->K (.ret (.bool (q x))) h2)->FK b f (.agg ⟨x.cells⟩::cap) h1 K)(K:KP)(hk:∀ (i:Int) h',a_ h h'->(0<=i↔l.any q=Y)->K (.ret (I X i)) h') :
  FK b 120 [v,.func (.func f) #[] cap.toArray] h K:=by
 refine iI b (Qaz b) Xaa rfl ?_;have len:∀ hx,iP (E b).toiS 90 v hx=U (I X (L l:Int)):=fun hx=>ja (nT b) s;simp[Gw,JJ,JL,JN,JM,zY,JS,JR,JP,len];refine jE (Vjx v (.func (.func f) #[] cap.toArray) l q h) (L l) ⟨_,h,0,rfl,kA,kA,kA,kA,jA,rfl,kA,a_.refl _⟩ ?_;rintro k s' ⟨t,h1,i,rfl,t0,t1,t7,t8,hi,rfl,T,C⟩ _;by_cases hc:i < L l
 ·have P:(i:Int) < (L l:Int):=jA
  obtain⟨x,hx⟩:∃ x,l[i]? = U x:=⟨_,List.getElem?_eq_getElem hc⟩;have hw:=wS (i:=i) jA;obtain⟨bk,off, -,x1,x2, -⟩:=wI (b:=b) (nT b) rp (s.R C) hx;simp[Gw,JJ,JL,JN,JM,zY,JS,JR,JP,t0,t1,t7,t8,P,x1,x2,hF];refine hf h1 C x (List.mem_of_getElem? hx) _ fun h2 a2 => ?_;cases hq:q x with
  | true =>
   simp[Gw,JJ,JL,JN,JM,zY,JS,JR,JP,t0,t1,t7,t8];exact hk i h2 (C.trans a2) ⟨fun _=>J41 hx hq,fun _=>by omega⟩
  | false =>
   simp[Gw,JJ,JL,JN,JM,zY,JS,JR,JP,t0,t1,t7,t8,hw];exact⟨L l-(i+1),jA,_,h2,i+1,rfl,by simp[t0],by simp[t1],by simp[t7],kA,jA,rfl,by rw[Jcz hx T,hq],C.trans a2⟩
 ·have P:¬ (i:Int) < (L l:Int):=jA
  have : i=L l:=jA
  subst this;rw[bO]at T;simp[Gw,JJ,JL,JN,JM,zY,JS,JR,JP,t0,t1,t7,t8];exact hk (-1) h1 C ⟨fun e=>by omega,fun e=>by rw[T]at e;cases e⟩
def Z49{v:V}{l:List ik}{f:FuncId}{F:Func}(hF:(E b).fn.A f=U F){cap:List V}(s:Sl h 34 v (L l) (mT l))(hn:L l < 1000000)(q:ik->Bool)(hf:∀ h1,a_ h h1->∀ x ∈ l,∀ K,(∀ P,a_ h1 P->K (.ret (.bool (q x))) P)->FK b f (.agg ⟨x.cells⟩::cap) h1 K)(K:KP)(hk:∀ h',a_ h h'->K (.ret (.bool (l.any q))) h') :
  FK b 87 [v,.func (.func f) #[] cap.toArray] h K:=by
 refine iI b (J3 b) Q5n rfl ?_;simp[V',Qte,J3,Qs2];refine Vcz b hF s hn q hf _ fun i h1 T hi => ?_;simp[V',Qte,J3,Qs2];have:=hk h1 T;cases C:l.any q with
 | true =>
  have h0:=hi.2 C;rw[C]at this;simpa[h0]using this
 | false =>
  have h0:¬ 0<=i:=fun e=>by have:=hi.1 e;rw[C]at this;cases this
  rw[C]at this;simpa[h0]using this
end
def Vf6(v C:V)(l:List fm)(q:fm->Bool)(h:N)(k:Nat)(s:St):Prop:=∃ (t:Tr V) (h1:N) (i:Nat),s=⟨⟨19,t⟩,[],h1⟩/\t.A 0=U v/\t.A 1=U C/\t.A 7=U (I X (L l:Int))/\t.A 8=U (I X (i:Int))/\i<=L l/\k=L l-i/\(l.take i).any q=J/\a_ h h1
section
attribute [local simp] Qah
def J5p{v:V}{l:List fm}{f:FuncId}{F:Func}(hF:(E b).fn.A f=U F){cap:List V}(s:Sl h 2 v (L l) (pg l))(hn:L l < 1000000)(q:fm->Bool)(hf:∀ h1,a_ h h1->∀ x ∈ l,∀ K,(∀ h2,a_ h1 h2->K (.ret (.bool (q x))) h2)->FK b f (.agg ⟨x.cells⟩::cap) h1 K)(K:KP)(hk:∀ (i:Int) h',a_ h h'->(0<=i↔l.any q=Y)->K (.ret (I X i)) h') :
  FK b 121 [v,.func (.func f) #[] cap.toArray] h K:=by
 refine iI b (Qah b) Q72 rfl ?_;have len:∀ hx,iP (E b).toiS 31 v hx=U (I X (L l:Int)):=fun hx=>ja (nU b) s;simp[Gx,JO,JX,JW,JV,tF,JY,JZ,J',len];refine jE (Vf6 v (.func (.func f) #[] cap.toArray) l q h) (L l) ⟨_,h,0,rfl,kA,kA,kA,kA,jA,rfl,kA,a_.refl _⟩ ?_;rintro k s' ⟨t,h1,i,rfl,t0,t1,t7,t8,hi,rfl,T,C⟩ _;by_cases hc:i < L l
 ·have P:(i:Int) < (L l:Int):=jA
  obtain⟨x,hx⟩:∃ x,l[i]? = U x:=⟨_,List.getElem?_eq_getElem hc⟩;have hw:=wS (i:=i) jA;obtain⟨bk,off, -,x1,x2, -⟩:=yp (b:=b) (nU b) qF (s.R C) hx;simp[Gx,JO,JX,JW,JV,tF,JY,JZ,J',t0,t1,t7,t8,P,x1,x2,hF];refine hf h1 C x (List.mem_of_getElem? hx) _ fun h2 a2 => ?_;cases hq:q x with
  | true =>
   simp[Gx,JO,JX,JW,JV,tF,JY,JZ,J',t0,t1,t7,t8];exact hk i h2 (C.trans a2) ⟨fun _=>J41 hx hq,fun _=>by omega⟩
  | false =>
   simp[Gx,JO,JX,JW,JV,tF,JY,JZ,J',t0,t1,t7,t8,hw];exact⟨L l-(i+1),jA,_,h2,i+1,rfl,by simp[t0],by simp[t1],by simp[t7],kA,jA,rfl,by rw[Jcz hx T,hq],C.trans a2⟩
 ·have P:¬ (i:Int) < (L l:Int):=jA
  have : i=L l:=jA
  subst this;rw[bO]at T;simp[Gx,JO,JX,JW,JV,tF,JY,JZ,J',t0,t1,t7,t8];exact hk (-1) h1 C ⟨fun e=>by omega,fun e=>by rw[T]at e;cases e⟩
def Jqv{v:V}{l:List fm}{f:FuncId}{F:Func}(hF:(E b).fn.A f=U F){cap:List V}(s:Sl h 2 v (L l) (pg l))(hn:L l < 1000000)(q:fm->Bool)(hf:∀ h1,a_ h h1->∀ x ∈ l,∀ K,(∀ P,a_ h1 P->K (.ret (.bool (q x))) P)->FK b f (.agg ⟨x.cells⟩::cap) h1 K)(K:KP)(hk:∀ h',a_ h h'->K (.ret (.bool (l.any q))) h') :
  FK b 90 [v,.func (.func f) #[] cap.toArray] h K:=by
 refine iI b (Zx b) Q3i rfl ?_;simp[WE,Qs1,Zx,Qqk];refine J5p b hF s hn q hf _ fun i h1 T hi => ?_;simp[WE,Qs1,Zx,Qqk];have:=hk h1 T;cases C:l.any q with
 | true =>
  have h0:=hi.2 C;rw[C]at this;simpa[h0]using this
 | false =>
  have h0:¬ 0<=i:=fun e=>by have:=hi.1 e;rw[C]at this;cases this
  rw[C]at this;simpa[h0]using this
end
def Vkj(v C:V)(l:List (V × List Int))(q:(V × List Int)->Bool)(h:N)(k:Nat)(s:St):Prop:=∃ (t:Tr V) (h1:N) (i:Nat),s=⟨⟨19,t⟩,[],h1⟩/\t.A 0=U v/\t.A 1=U C/\t.A 7=U (I X (L l:Int))/\t.A 8=U (I X (i:Int))/\i<=L l/\k=L l-i/\(l.take i).any q=J/\a_ h h1
section
attribute [local simp] Qc2
def Vct{v:V}{l:List (V × List Int)}{f:FuncId}{F:Func}(hF:(E b).fn.A f=U F){cap:List V}(s:Sl h 1 v (L l) (l.map (·.1)))(hn:L l < 1000000)(q:(V × List Int)->Bool)(hf:∀ h1,a_ h h1->∀ x ∈ l,∀ K,(∀ h2,a_ h1 h2->K (.ret (.bool (q x))) h2)->FK b f (x.1::cap) h1 K)(K:KP)(hk:∀ (i:Int) h',a_ h h'->(0<=i↔l.any q=Y)->K (.ret (I X i)) h') :
  FK b 119 [v,.func (.func f) #[] cap.toArray] h K:=by
 refine iI b (Qc2 b) Xfe rfl ?_;have len:∀ hx,iP (E b).toiS 141 v hx=U (I X (L l:Int)):=fun hx=>ja (mK b) s;simp[Gr,JF,U7,len];refine jE (Vkj v (.func (.func f) #[] cap.toArray) l q h) (L l) ⟨_,h,0,rfl,kA,kA,kA,kA,jA,rfl,kA,a_.refl _⟩ ?_;rintro k s' ⟨t,h1,i,rfl,t0,t1,t7,t8,hi,rfl,T,C⟩ _;by_cases hc:i < L l
 ·have P:(i:Int) < (L l:Int):=jA
  obtain⟨x,hx⟩:∃ x,l[i]? = U x:=⟨_,List.getElem?_eq_getElem hc⟩;have hw:=wS (i:=i) jA;obtain⟨bk,off, -,x1,x3, -⟩:=o_ (mK b) qE (s.R C) (k:=.i64) (i:=(i:Int)) jA jA;have x2:Jr h1 bk off=U x.1:=by
   have:=x3 0 jA;simpa[hx]using this
  simp[Gr,JF,U7,t0,t1,t7,t8,P,x1,x2,hF];refine hf h1 C x (List.mem_of_getElem? hx) _ fun h2 a2 => ?_;cases hq:q x with
  | true =>
   simp[Gr,JF,U7,t0,t1,t7,t8];exact hk i h2 (C.trans a2) ⟨fun _=>J41 hx hq,fun _=>by omega⟩
  | false =>
   simp[Gr,JF,U7,t0,t1,t7,t8,hw];exact⟨L l-(i+1),jA,_,h2,i+1,rfl,by simp[t0],by simp[t1],by simp[t7],kA,jA,rfl,by rw[Jcz hx T,hq],C.trans a2⟩
 ·have P:¬ (i:Int) < (L l:Int):=jA
  have : i=L l:=jA
  subst this;rw[bO]at T;simp[Gr,JF,U7,t0,t1,t7,t8];exact hk (-1) h1 C ⟨fun e=>by omega,fun e=>by rw[T]at e;cases e⟩
def Jxp{v:V}{l:List (V × List Int)}{f:FuncId}{F:Func}(hF:(E b).fn.A f=U F){cap:List V}(s:Sl h 1 v (L l) (l.map (·.1)))(hn:L l < 1000000)(q:(V × List Int)->Bool)(hf:∀ h1,a_ h h1->∀ x ∈ l,∀ K,(∀ P,a_ h1 P->K (.ret (.bool (q x))) P)->FK b f (x.1::cap) h1 K)(K:KP)(hk:∀ h',a_ h h'->K (.ret (.bool (l.any q))) h') :
  FK b 85 [v,.func (.func f) #[] cap.toArray] h K:=by
 refine iI b (Gu b) Xbt rfl ?_;simp[VT,Qwk,Gu];refine Vct b hF s hn q hf _ fun i h1 T hi => ?_;simp[VT,Qwk,Gu];have:=hk h1 T;cases C:l.any q with
 | true =>
  have h0:=hi.2 C;rw[C]at this;simpa[h0]using this
 | false =>
  have h0:¬ 0<=i:=fun e=>by have:=hi.1 e;rw[C]at this;cases this
  rw[C]at this;simpa[h0]using this
end
section
def LQ(n lo hi:Int)(h:N)(K:KP)(P:K (.ret (.bool (wq n lo hi))) h):FK b 82 [I X n,I X lo,I X hi] h K:=by
 refine iI b (C3 b) Zxs rfl ?_;unfold wq at P;by_cases h1:lo<=n
 ·by_cases C:n<=hi
  ·simp[Mp,QW,C3,Rl,Rw,h1,C];simpa[h1,C]using P
  ·simp[Mp,QW,C3,Rl,Rw,h1,C];simpa[h1,C]using P
 ·simp[Mp,QW,C3,Rl,Rw,h1];simpa[h1]using P
def Vlf(x:ik):x.cells[32]? = U (I X x.pt.n):=by
 have : (x.pt.id.map ax++([I X x.pt.n] ++ [x.wv]))[32]? = U (I X x.pt.n):=by
  rw[List.getElem?_append_right (by simp[x.pt.hd])];simp[x.pt.hd]
 simpa[ik.cells,Pt.cells]using this
def EP(x:ik):x.cells[33]? = U x.wv:=by
 rw[ik.cells,List.getElem?_append_right (by rw[Pt.len];omega),Pt.len];rfl
def J44(x:ik)(h:N):∃ h',h'=h.push (S Y 1 x.cells)/\jP (.agg ⟨x.cells⟩) h=U (pO h.Q 0,h')/\a_ h h'/\h'.Q=h.Q+1/\h'.A h.Q=U (S Y 1 x.cells)/\Jr h' h.Q 32=U (I X x.pt.n)/\Jr h' h.Q 33=U x.wv:=by
 have g:(h.push (S Y 1 x.cells)).A h.Q=U (S Y 1 x.cells):=by rw[N.F,if_pos rfl]
 exact⟨_,rfl,pk (by rw[x.len];omega),a_.push _ _,rfl,g,by rw[Zy g,Vlf],by rw[Zy g,EP]⟩
def Vgj(x:ik)(h:N)(K:KP)(hk:∀ h',a_ h h'->K (.ret (.bool (EO x.p))) h'):FK b 81 [.agg ⟨x.cells⟩] h K:=by
 refine iI b (Mm b) Zm2 rfl ?_;obtain⟨P, -,bx,T, -, -,C, -⟩:=J44 x h;simp[RC,Y3k,Mm,yM,yr,kQ,C3,bx,C];refine LQ b x.pt.n 0 8 P _ ?_;simp[RC,Y3k,Mm,yM,yr,kQ,C3];exact hk P T
def Vdj{v:V}{xs:List Int}{h:N}(s:SB h v xs)(K:KP)(C:K (.ret (.bool (decide (64 < L xs)))) h):FK b 83 [v] h K:=by
 refine iI b (S9 b) Zt1 rfl ?_;have len:=fun P=>m_ (b:=b) (h1:=P) s;simp[Yp8,Z8d,S9,len];have e:decide ((64:Int) < (L xs:Int))=decide (64 < L xs):=by rw[decide_eq_decide];omega
 rw[e];exact C
def Vcw{x:ik}{h:N}(a:lw h x){C:Nat}{z:Nat}(gC:h.A C=U (S Y z [.func (.func 83) #[] #[]]))(K:KP)(hk:∀ h',a_ h h'->K (.ret (.bool (Dp x.p))) h') :
  FK b 84 [.agg ⟨x.cells⟩,pO C 0] h K:=by
 refine iI b (HY b) Zoi rfl ?_;obtain⟨hA, -,bx,T, -, -, -,hc⟩:=J44 x h;have len:∀ hx,iP (E b).toiS 141 x.wv hx=U (I X (L x.its:Int)):=fun hx=>ja (mK b) a.w;have cC:Jr hA C 0=U (.func (.func 83) #[] #[]):=by rw[Zy (T.A gC)];rfl
 unfold Dp at hk;by_cases hl:16 < L x.its
 ·have P:(16:Int) < (L x.its:Int):=jA
  simp[Mt,Te,HY,Wn,ph,J39,Gu,RW,Sd,bx,hc,len,P];have:=hk hA T;simpa[ik.p,hl]using this
 ·have P:¬ (16:Int) < (L x.its:Int):=jA
  simp[Mt,Te,HY,Wn,ph,J39,Gu,RW,Sd,bx,hc,len,P,cC];refine Jxp b (S9 b) (cap:=[]) (a.w.R T) a.n (fun p=>decide (64 < L p.2)) (fun h1 a1 p hp K hk=>Vdj b (((a.i.R T).R a1) p hp).1 K (hk h1 (a_.refl _))) _ fun h1 a1 => ?_;simp[Mt,Te,HY,Wn,ph,J39,Gu,RW,Sd];have:=hk h1 (T.trans a1);have e:(x.p.wit.any fun w=>decide (64 < L w))=x.its.any fun p=>decide (64 < L p.2):=by
   simp[ik.p,List.any_map];rfl
  rw[e]at this;simpa[ik.p,hl]using this
def Vbu{o:fm}{h:N}(a:mi h o)(K:KP)(hk:∀ h',a_ h h'->K (.ret (.bool (Dn o.p))) h'):FK b 86 [.agg ⟨o.cells⟩] h K:=by
 refine iI b (Q2 b) Zv2 rfl ?_;obtain⟨C,eA,P,gA⟩:=oL h o.cells;have T:=sN eA;have c1:Jr C h.Q 1=U o.sv:=by rw[Zy gA];rfl
 have len:=fun hx=>m_ (b:=b) (h1:=hx) a.s;simp[Yix,Z70,Q2,tK,U7,T,c1,len];have e:decide ((256:Int) < (L o.script:Int))=Dn o.p:=by
  show _=decide (256 < L o.script);rw[decide_eq_decide];omega
 rw[e];exact hk C P
end
def VLI(v:V)(l:List fm)(h:N)(k:Nat)(s:St):Prop:=∃ (t:Tr V) (h1:N) (i:Nat) (left:Int),s=⟨⟨26,t⟩,[],h1⟩/\t.A 3=U (I X left)/\t.A 6=U v/\t.A 7=U (I X (L l:Int))/\t.A 8=U (I X (i:Int))/\i<=L l/\k=L l-i/\a_ h h1/\0<=left/\left<=1125899906842624/\ue (l.map fm.p) 1125899906842624=ue ((l.drop i).map fm.p) left
section
attribute [local simp] Q2v Xjj WP Q99 Xa8 Q9a tF ve vZ Q5y Q1o Q5u 
def J1m{v:V}{l:List fm}(s:jC h v l)(K:KP)(hk:∀ h',a_ h h'->K (.ret (.bool (ue (l.map fm.p) 1125899906842624))) h'):FK b 89 [v] h K:=by
 refine iI b (WP b) Zy7 rfl ?_;have hn:=s.n;have len:∀ hx,iP (E b).toiS 31 v hx=U (I X (L l:Int)):=fun hx=>ja (nU b) s.s;simp[jV,len];refine jE (VLI v l h) (L l) ⟨_,h,0,1125899906842624,rfl,kA,kA,kA,kA,jA,rfl,a_.refl _,jA,jA,kA⟩ ?_;rintro k s' ⟨t,h1,i,left,rfl,t3,t6,t7,t8,hi,rfl,P,l0,l1,hF⟩ _;by_cases hr:i < L l
 ·have C:(i:Int) < (L l:Int):=jA
  obtain⟨x,hx⟩:∃ x,l[i]? = U x:=⟨_,List.getElem?_eq_getElem hr⟩;have hd:l.drop i=x::l.drop (i+1):=by
   rw[aS hr];rw[List.getElem?_eq_getElem hr]at hx;rw[bM hx]
  rw[hd]at hF;simp only[aK,ue]at hF;have hw:=wS (i:=i) jA;obtain⟨bk,off, -,x1,x2, -⟩:=yp (b:=b) (nU b) qF (s.s.R P) hx;obtain⟨zz,ez⟩:∃ zz:List V,zz=[I X 0,M O 0 0]:=⟨_,rfl⟩;obtain⟨hA,eA⟩:∃ hA,hA=h1.push (S Y 1 zz):=⟨_,rfl⟩;have hc:jh (E b).toiS 68 h1=U (pO h1.Q 0,hA):=by rw[eA,ez];exact jV b h1
  have gA:hA.A h1.Q=U (S Y 1 zz):=by rw[eA,N.F,if_pos rfl]
  have lA:=N.D gA;obtain⟨hB,eB⟩:∃ hB,hB=hA.set h1.Q (U (S Y 1 x.cells)):=⟨_,rfl⟩;have st:Wp hA h1.Q 0 x.cells=U hB:=by
   rw[kI gA (by rw[ez,fm.len];simp),eB];congr 4;rw[ez,fm.len];simp
  have gB:hB.A h1.Q=U (S Y 1 x.cells):=by rw[eB,gY lA,if_pos rfl]
  have c0:Jr hB h1.Q 0=U (I X x.value):=by rw[Zy gB];rfl
  have aB:a_ h hB:=by rw[eB,eA];exact(P.push' _).set _ P.1 (by rw[<- eA];exact lA)
  have xl:L x.cells=2:=rfl;by_cases T:x.value < 1
  ·simp[jV,t3,t6,t7,t8,C,x1,x2,-jV,hc,xl,st,c0,T];have:=hk hB aB;rw[hF]at this;simpa[fm.p,T]using this
  ·by_cases h2:left < x.value
   ·simp[jV,t3,t6,t7,t8,C,x1,x2,-jV,hc,xl,st,c0,T,h2];have:=hk hB aB;rw[hF]at this;simpa[fm.p,T,h2]using this
   ·have hb:IntKind.i64.wrap (left-x.value)=left-x.value:=jW jA jA;simp[jV,t3,t6,t7,t8,C,x1,x2,-jV,hc,xl,st,c0,T,h2,hw,hb];refine⟨L l-(i+1),jA,_,hB,i+1,left-x.value,rfl,kA,by simp[t6],by simp[t7],kA,jA,rfl,aB,jA,jA,?_⟩;rw[hF,if_neg (by simp only[fm.p];omega)];rfl
 ·have C:¬ (i:Int) < (L l:Int):=jA
  have : i=L l:=jA
  subst this;simp[jV,t3,t6,t7,t8];have:=hk h1 P;rw[hF,cK]at this;exact this
end
def Z45{A:Type}{l:List A}{p:A}:(l ++ [p]).Nodup↔l.Nodup/\p ∉ l:=by
 rw[cG];constructor
 ·rintro⟨h1, -,C⟩;exact⟨h1,fun hp=>C p hp p kA rfl⟩
 ·rintro⟨h1,C⟩;refine⟨h1,kA,fun a T c P e => ?_⟩;simp at P;subst P;exact C (e ▸ T)
def PTI(v:V)(l:List ik)(h:N)(mb:Nat)(k:Nat)(s:St):Prop:=∃ (t:Tr V) (h1:N) (i:Nat) (C:List PE) (P:Nat),s=⟨⟨22,t⟩,[],h1⟩/\t.A 0=U v/\t.A 3=U (.map (U mb))/\t.A 7=U v/\t.A 8=U (I X (L l:Int))/\t.A 9=U (I X (i:Int))/\i<=L l/\k=L l-i/\a_ h h1 /\
 h1.A mb=U (.map ⟨C.map PE.e⟩ P)/\(∀ p,p ∈ C.map (·.key)↔p ∈ (l.take i).map (·.pt))/\(L C=i/\((l.take i).map (·.pt)).Nodup∨L C < i/\¬ ((l.take i).map (·.pt)).Nodup)
section
attribute [local simp] Xid Yoj WM Xym zY NI yM yF Z9
def J3d{v:V}{l:List ik}(s:Ins h v l)(K:KP)(hk:∀ h',a_ h h'->K (.ret (.bool (decide (l.map (·.pt)).Nodup))) h'):FK b 88 [v] h K:=by
 refine iI b (WM b) Z19 rfl ?_;have hn:=s.n;have len:∀ hx,iP (E b).toiS 90 v hx=U (I X (L l:Int)):=fun hx=>ja (nT b) s.s;obtain⟨rm,me,md⟩:∃ rm,(E b).toiS.ty.A 210=U rm/\rm.desc=.map 77 3:=⟨((E b).toiS.ty.A 210).getD ⟨.invalid,0,0,.bool J,[]⟩,by kernel_rfl,by kernel_rfl⟩;obtain⟨hM,eM⟩:∃ hM,hM=h.push (.map #[] 0):=⟨_,rfl⟩;have h4:=jt eM;have gM:hM.A h.Q=U (.map ⟨([]:List PE).map PE.e⟩ 0):=by rw[eM,N.F,if_pos rfl];rfl
 have mk:uC (E b).toiS 210 O h=U (.map (U h.Q),hM):=by rw[eM];exact Jud (b:=b) me md
 simp[len,mk];refine jE (PTI v l h h.Q) (L l) ⟨_,hM,0,[],0,rfl,kA,kA,kA,kA,kA,jA,rfl,h4,gM,kA,.inl ⟨rfl,kA⟩⟩ ?_;rintro k s' ⟨t,h1,i,C,hq,rfl,t0,t3,t7,t8,t9,hi,rfl,T,g1,P,Z'⟩ _;by_cases hC:i < L l
 ·have hb:(i:Int) < (L l:Int):=jA
  obtain⟨x,hx⟩:∃ x,l[i]? = U x:=⟨_,List.getElem?_eq_getElem hC⟩;have hw:=wS (i:=i) jA;obtain⟨bk,off, -,x1,x2, -⟩:=wI (b:=b) (nT b) rp (s.s.R T) hx;obtain⟨zz,ez⟩:∃ zz:List V,zz=Ch.zero.cells.toList:=⟨_,rfl⟩;have zl:L zz=34:=by rw[ez];kernel_rfl
  obtain⟨hA,eA⟩:∃ hA,hA=h1.push (S Y 1 zz):=⟨_,rfl⟩;have hz:jh (E b).toiS 143 h1=U (pO h1.Q 0,hA):=by rw[eA,ez];simp only[jh,AI]
  have gA:hA.A h1.Q=U (S Y 1 zz):=by rw[eA,N.F,if_pos rfl]
  have lA:=N.D gA;have lM:h.Q < h1.Q:=N.D g1;obtain⟨hB,eB⟩:∃ hB,hB=hA.set h1.Q (U (S Y 1 x.cells)):=⟨_,rfl⟩;have st:Wp hA h1.Q 0 x.cells=U hB:=by
   rw[kI gA (by rw[zl,ik.len];omega),eB];congr 4;rw[ik.len];simp[zl]
  have gB:hB.A h1.Q=U (S Y 1 x.cells):=by rw[eB,gY lA,if_pos rfl]
  have aB:a_ h1 hB:=by rw[eB,eA];exact(a_.push _ _).set _ (ac _) (by rw[<- eA];exact lA)
  have hg:=aB.A g1;have a1:iz hB h1.Q 0 33=U (.agg ⟨x.pt.cells⟩):=by rw[Uh gB (by rw[ik.len];omega),bw,K9]
  have hp:(l.take (i+1)).map (·.pt)=(l.take i).map (·.pt) ++ [x.pt]:=by rw[bH,hx];simp
  have ls:=N.D hg;have step:∃ (h2:N) (hr:List PE) (hc:Nat),pY (E b).toiS 210 (.map (U h.Q)) (.agg ⟨x.pt.cells⟩) (I X 1) hB=U h2/\h2.A h.Q=U (.map ⟨hr.map PE.e⟩ hc)/\a_ h h2/\(∀ p,p ∈ hr.map (·.key)↔p ∈ (l.take (i+1)).map (·.pt))/\(L hr=i+1/\((l.take (i+1)).map (·.pt)).Nodup∨L hr < i+1/\¬ ((l.take (i+1)).map (·.pt)).Nodup):=by
   cases hf:nL x.pt C 0 with
   | none =>
    have hm:=PX.1 hf;have e1:x.pt ∉ (l.take i).map (·.pt):=fun e=>by
     obtain⟨y,hy,e2⟩:=am.1 ((P _).2 e);exact hm y hy e2
    refine⟨_,C ++ [⟨x.pt,I X 1,hq⟩],hq+1,J3s me md hg hf _,by rw[gY ls,if_pos rfl],(T.trans aB).set _ (ac _) ls,fun p => ?_,?_⟩
    ·rw[hp,bg,ab,ab,P p];simp
    ·rw[hp,Z45];rcases Z' with⟨q1,q2⟩ | ⟨q1,q2⟩
     ·exact .inl ⟨by simp[q1],q2,e1⟩
     ·exact .inr ⟨by simp;omega,fun e=>q2 e.1⟩
   | some q =>
    obtain⟨j,w⟩:=q;obtain⟨y,hy, -,re, -⟩:=H9 hf;have s1:x.pt ∈ (l.take i).map (·.pt):=(P _).1 (am.2 ⟨y,List.mem_of_getElem? hy,re⟩);have h3:∀ C:List PE,(xN x.pt (I X 1) C).map (·.key)=C.map (·.key):=by
     intro C;induction C with
     | nil=>rfl
     | cons a C ih=>unfold xN;split <;> simp[ih]
    refine⟨_,xN x.pt (I X 1) C,hq,Jja me md hg hf _,by rw[gY ls,if_pos rfl],(T.trans aB).set _ (ac _) ls,fun p => ?_,?_⟩
    ·rw[h3,hp,ab,P p];simp;rintro rfl;simpa using s1
    ·have hl:L (xN x.pt (I X 1) C)=L C:=by have:=congrArg List.length (h3 C);simpa using this
     rw[hp,Z45,hl];refine .inr ⟨by rcases Z' with⟨q1,_⟩ | ⟨q1,_⟩ <;> omega,fun e=>e.2 s1⟩
  obtain⟨h2,hr,hc,up,g2,a2,m2,n2⟩:=step;simp[t0,t3,t7,t8,t9,hb,x1,x2,hz,ik.len,st,a1,up,hw];exact⟨L l-(i+1),jA,_,h2,i+1,hr,hc,rfl,by simp[t0],by simp[t3],by simp[t7],by simp[t8],kA,jA,rfl,a2,g2,m2,n2⟩
 ·have hb:¬ (i:Int) < (L l:Int):=jA
  have : i=L l:=jA
  subst this;rw[bO]at Z';have ml:iP (E b).toiS 210 (.map (U h.Q)) h1=U (I X ((L C:Nat):Int)):=by
   rw[Vcv (b:=b) me md g1];simp
  simp[t0,t3,t7,t8,t9,ml,len];have:=hk h1 T;rcases Z' with⟨q1,q2⟩ | ⟨q1,q2⟩
  ·have e:(L C:Int)=(L l:Int):=jA
   rw[decide_eq_true q2]at this;simpa[e]using this
  ·have e:¬ (L C:Int)=(L l:Int):=jA
   rw[decide_eq_false q2]at this;simpa[e]using this
end
def wu {A B:Type}(f:A->B)(q:B->Bool)(l:List A):(l.map f).any q=l.any fun x=>q (f x):=by
 rw[List.any_map];rfl
def J9o(l:List ik):(l.map ik.p).map (·.pt)=l.map (·.pt):=by
 rw[cE];rfl
section
attribute [local simp] Qf1 Qkl Vp Qx4 Ur Aa C3 Us z_ Qej Qd2 J3 NN Qel Qdd WM WP Zx Qeh Qd7
def QG{iv ov:V}{ins:List ik}{outs:List fm}{lock:Int}(si:Ins h iv ins)(so:jC h ov outs)(K:KP)(C:∀ h',a_ h h'->K (.ret (I X (rn (jN ins outs lock)))) h') :
  FK b 54 [.agg ⟨iT iv ov lock⟩] h K:=by
 refine iI b (Vp b) Jdw rfl ?_;obtain⟨T,eA,aA,gA⟩:=oL h ((iT iv ov lock));have nA:=nQ eA;have bx:=sN eA;obtain⟨z,hz⟩:∃ z,jh (E b).toiS 168 T=U (pO T.Q 0,T.push (S Y 1 [z])):=⟨_,rk b T⟩;obtain⟨hB,eB⟩:∃ hB,hB=(T.push (S Y 1 [z])).set T.Q (U (S Y 1 [.func (.func 83) #[] #[]])):=⟨_,rfl⟩;have gZ:(T.push (S Y 1 [z])).A T.Q=U (S Y 1 [z]):=by rw[N.F,if_pos rfl]
 have st:Wp (T.push (S Y 1 [z])) T.Q 0 [.func (.func 83) #[] #[]]=U hB:=by rw[oF gZ kA,eB];rfl
 have gC:hB.A T.Q=U (S Y 1 [.func (.func 83) #[] #[]]):=by rw[eB,gY (N.D gZ),if_pos rfl]
 have hy:a_ T hB:=by rw[eB];exact(a_.push _ _).set _ (ac _) (N.D gZ)
 have aB:a_ h hB:=aA.trans hy;have gT:hB.A h.Q=U (S Y 1 (iT iv ov lock)):=hy.A gA;have cs:∀ {P:N},a_ hB P->Jr P h.Q 0=U iv/\Jr P h.Q 1=U ov/\Jr P h.Q 2=U (I X lock):=fun {P} o=>by
  have:=o.A gT;exact⟨by rw[Zy this];rfl,by rw[Zy this];rfl,by rw[Zy this];rfl⟩
 have Z':∀ P,iP (E b).toiS 90 iv P=U (I X (L ins:Int)):=fun P=>ja (nT b) si.s;have ls:∀ P,iP (E b).toiS 31 ov P=U (I X (L outs:Int)):=fun P=>ja (nU b) so.s;obtain⟨c0,c1,c2⟩:=cs (a_.refl hB);simp[rk,bx,-rk,hz,Vbo,st,c0,Z'];refine LQ b _ 1 8 hB _ ?_;unfold rn jN at C;simp only[aM,wu,J9o]at C;have done:∀ (c:Int) P,a_ h P->(∀ h',a_ h h'->K (.ret (I X c)) h')->K (.ret (I X c)) P:=fun c P o q=>q P o;cases q1:wq (L ins:Int) 1 8 with
 | false =>
  simp only[q1,dC,fT,if_true]at C;simp[rk];exact C hB aB
 | true =>
 simp[rk,c1,ls];refine LQ b _ 1 8 hB _ ?_;cases q2:wq (L outs:Int) 1 8 with
 | false =>
  simp only[q1,q2,dC,Bool.or_true,if_true]at C;simp[rk];exact C hB aB
 | true =>
 simp only[q1,q2,cL,Bool.or_false,if_false,az]at C;simp[rk,c0];refine Z49 b (Mm b) (cap:=[]) (si.s.R aB) si.n (fun x=>EO x.p) (fun h1 _ x _ K C=>Vgj b x h1 K C) _ fun h1 a1 => ?_;obtain⟨d0,d1,d2⟩:=cs a1;have hc:=aB.trans a1;cases q3:ins.any (fun x=>EO x.p)with
 | true =>
  simp only[q3,fT,if_true]at C;simp[rk];exact C h1 hc
 | false =>
 simp[rk,d2];refine LQ b _ 0 1073741824 h1 _ ?_;cases q4:wq lock 0 1073741824 with
 | false =>
  simp only[q3,q4,dC,Bool.or_true,if_true]at C;simp[rk];exact C h1 hc
 | true =>
 simp only[q3,q4,cL,Bool.or_false,if_false,az]at C;simp[rk,d0];refine J3d b (si.R hc) _ fun h2 a2 => ?_;obtain⟨e0,e1,e2⟩:=cs (a1.trans a2);have hp:=hc.trans a2;by_cases q5:(ins.map (·.pt)).Nodup
 case neg =>
  rw[decide_eq_false q5]at C ⊢;simp only[dC,if_true]at C;simp[rk];exact C h2 hp
 rw[decide_eq_true q5]at C ⊢;simp only[cL,if_false,az]at C;simp[rk,e1];refine J1m b (so.R hp) _ fun h3 a3 => ?_;obtain⟨f0,f1,f2⟩:=cs ((a1.trans a2).trans a3);have hr:=hp.trans a3;cases q6:ue (outs.map fm.p) 1125899906842624 with
 | false =>
  simp only[q6,dC,if_true]at C;simp[rk];exact C h3 hr
 | true =>
 simp only[q6,cL,if_false,az]at C;simp[rk,f1];refine Jqv b (Q2 b) (cap:=[]) (so.s.R hr) so.n (fun x=>Dn x.p) (fun h4 a4 x P K C=>Vbu b (((so.R hr).R a4).a x P) K C) _ fun h4 a4 => ?_;obtain⟨g0,g1,g2⟩:=cs (((a1.trans a2).trans a3).trans a4);have hb:=hr.trans a4;cases q7:outs.any (fun x=>Dn x.p)with
 | true =>
  simp only[q7,fT,if_true]at C;simp[rk];exact C h4 hb
 | false =>
 simp[rk,g0];have hg:=(((a1.trans a2).trans a3).trans a4).A gC;refine Z49 b (HY b) (cap:=[pO T.Q 0]) (si.s.R hb) si.n (fun x=>Dp x.p) (fun h5 a5 x P K C=>Vcw b (((si.R hb).R a5).a x P) (a5.A hg) K C) _ fun h5 a5 => ?_;have hq:=hb.trans a5;simp only[q7,Bool.false_or]at C;cases q8:ins.any (fun x=>Dp x.p)with
 | true =>
  simp only[q8,if_true]at C;simp[rk];exact C h5 hq
 | false =>
 simp only[q8,if_false,az]at C;simp[rk];exact C h5 hq
end
def rX:Nat->List V
 | 0=>[I .u8 253,I X 2,I .u64 253]
 | 1=>[I .u8 254,I X 4,I .u64 65536]
 | _=>[I .u8 255,I X 8,I .u64 4294967296]
def yo:Nat->Nat
 | 0=>253
 | 1=>65536
 | _=>4294967296
def tD:Nat->Nat
 | 0=>2
 | 1=>4
 | _=>8
def B5:Nat->Int
 | 0=>253
 | 1=>254
 | _=>255
def tV(n:Nat):Nat->Nat
 | 0=>0
 | i+1=>if yo (i+1)<=n then i+1 else tV n i
def Jwa(n:Nat):∀ i,tV n i<=i
 | 0=>ac _
 | i+1=>by unfold tV;split;exact ac _;exact dS (Jwa n i)
def PD(j:Nat)(h:j<=2):rX j=[I .u8 (B5 j),I X (tD j:Int),I .u64 (yo j:Int)]:=by
 match j,h with
 | 0,_=>rfl
 | 1,_=>rfl
 | 2,_=>rfl
def J11{n:Nat}(h:¬ n < 253):lH n=B5 (tV n 2)::tT (tD (tV n 2)) n:=by
 unfold lH tV;rw[if_neg h];by_cases C:n < 4294967296
 ·rw[if_neg (show ¬ yo 2<=n from fun e=>by have : (4294967296:Nat)<=n:=e;omega)];unfold tV;by_cases h1:n < 65536
  ·rw[if_neg (show ¬ yo (0+1)<=n from fun e=>by have : (65536:Nat)<=n:=e;omega),if_pos h1];rfl
  ·rw[if_pos (show yo (0+1)<=n from(by omega:(65536:Nat)<=n)),if_neg h1,if_pos C];rfl
 ·rw[if_pos (show yo 2<=n from(by omega:(4294967296:Nat)<=n)),if_neg jA,if_neg C];rfl
def Vhu(x y:Int)(h:y=0∨y=8∨y=16∨y=24∨y=32∨y=40∨y=48∨y=56):jD (binOp .shr 110 (I .u64 x) (I X y))=U (I .u64 (x.fdiv (2 ^ y.toNat))):=by
 rcases h with rfl | rfl | rfl | rfl | rfl | rfl | rfl | rfl
 ·exact(by kernel_rfl:jD (binOp .shr 110 (I .u64 x) (I X 0))=U (I .u64 (x.fdiv (2 ^ 0))))
 ·exact(by kernel_rfl:jD (binOp .shr 110 (I .u64 x) (I X 8))=U (I .u64 (x.fdiv (2 ^ 8))))
 ·exact(by kernel_rfl:jD (binOp .shr 110 (I .u64 x) (I X 16))=U (I .u64 (x.fdiv (2 ^ 16))))
 ·exact(by kernel_rfl:jD (binOp .shr 110 (I .u64 x) (I X 24))=U (I .u64 (x.fdiv (2 ^ 24))))
 ·exact(by kernel_rfl:jD (binOp .shr 110 (I .u64 x) (I X 32))=U (I .u64 (x.fdiv (2 ^ 32))))
 ·exact(by kernel_rfl:jD (binOp .shr 110 (I .u64 x) (I X 40))=U (I .u64 (x.fdiv (2 ^ 40))))
 ·exact(by kernel_rfl:jD (binOp .shr 110 (I .u64 x) (I X 48))=U (I .u64 (x.fdiv (2 ^ 48))))
 ·exact(by kernel_rfl:jD (binOp .shr 110 (I .u64 x) (I X 56))=U (I .u64 (x.fdiv (2 ^ 56))))
def J3r:∀ (k n i:Nat),i < k->(tT k n)[i]? = U (((n / 256 ^ i) % 256:Nat):Int)
 | 0,_,_,h=>by omega
 | k+1,n,0,_=>by simp[tT]
 | k+1,n,i+1,h=>by
  simp only[tT,List.getElem?_cons_succ];rw[J3r k (n / 256) i jA,Nat.div_div_eq_div_mul,Nat.pow_succ,dO 256]
def J8n(i:Nat):IntKind.u8.wrap ((n:Int).fdiv (2 ^ (8*(i:Int)).toNat))=(((n / 256 ^ i) % 256:Nat):Int):=by
 have e:(8*(i:Int)).toNat=8*i:=jA
 rw[e,show(256:Nat) ^ i=2 ^ (8*i) by rw[Nat.pow_mul]];have C:((2:Int) ^ (8*i))=((2 ^ (8*i):Nat):Int):=by rw[Int.natCast_pow];rfl
 rw[C,dq _ (Int.natCast_nonneg _),<- Int.natCast_ediv];show(((n / 2 ^ (8*i):Nat):Int) % (2 ^ 8:Int))=_;omega
def IN1(bv:V)(n:Nat)(h:N)(A:Nat)(k:Nat)(s:St):Prop:=∃ (t:Tr V) (h1:N) (i:Nat),s=⟨⟨57,t⟩,[],h1⟩/\t.A 0=U bv/\t.A 5=U (I .u64 (n:Int))/\t.A 6=U (pO A 0)/\t.A 25=U (M (U ⟨1,3,O⟩) 2 2)/\t.A 26=U (I X 2)/\t.A 27=U (I X (i:Int))/\i<=2/\k=2-i/\a_ h h1/\h1.A A=U (S Y 1 (rX (tV n i)))
def IN2(n w:Nat)(p:List Int)(h:N)(k:Nat)(s:St):Prop:=∃ (t:Tr V) (h1:N) (o:V) (i:Nat),s=⟨⟨57,t⟩,[],h1⟩/\t.A 5=U (I .u64 (n:Int))/\t.A 9=U o/\t.A 43=U (I X (w:Int))/\t.A 44=U (I X (i:Int))/\i<=w/\k=w-i/\a_ h h1/\OB h1 h.Q o (p++(tT w n).take i)
section
attribute [local simp] VF Q0c Uw Fs Fu LF Xns Y52 Xof GA GD CQ Y7t Y9d Y58 QO Xny Xpd zx Xne Xpa Xo2
def BL(laid:Ab.LaidIn h laidAll){bv:V}{xs:List Int}(s:SB h bv xs){n:Nat}(hn:n < 9223372036854775808)(hl:L xs < 999999000)(K:KP)(hk:∀ v h',OB h' h.Q v (xs++lH n)->a_ h h'->K (.ret v) h') :
  FK b 28 [bv,I X (n:Int)] h K:=by
 by_cases hr:n < 253
 ·have e:lH n=[(n:Int)]:=by unfold lH;rw[if_pos hr]
  rw[e]at hk;exact Jgw b laid s hr jA K hk
 refine iI b (Uw b) Y8u rfl ?_;rw[J11 hr]at hk;have g1:h.A 1=U (S J 0 zu):=laid (1,zu) (by simp[laidAll]);have l1:=N.D g1;have ld:Jr h 1 2=U (I .u64 253):=by rw[Zy g1];rfl
 have hC:iz h 1 0 3=U (.agg ⟨rX 0⟩):=by rw[Uh g1 (by simp[zu])];rfl
 have hx:Ug (E b).toiS 116 (pO 1 0) (I X 0)=U (pO 1 0):=by simpa using LF b (bk:=1) (o:=0) (k:=.i64) (i:=0) ⟨jA,jA⟩
 have w1:IntKind.u64.wrap (n:Int)=(n:Int):=Oz jA jA;have c1:¬ (n:Int) < 253:=jA
 obtain⟨zz,ez⟩:∃ zz:List V,zz=[I .u8 0,I X 0,I .u64 0]:=⟨_,rfl⟩;obtain⟨hA,eA⟩:∃ hA,hA=h.push (S Y 1 zz):=⟨_,rfl⟩;have hf:jh (E b).toiS 115 h=U (pO h.Q 0,hA):=by rw[eA,ez];exact uT b h
 have gA:hA.A h.Q=U (S Y 1 zz):=by rw[eA,N.F,if_pos rfl]
 have lA:=N.D gA;obtain⟨hB,eB⟩:∃ hB,hB=hA.set h.Q (U (S Y 1 (rX 0))):=⟨_,rfl⟩;have a1:Wp hA h.Q 0 (rX 0)=U hB:=by rw[kI gA (by simp[ez,rX]),eB,ez];rfl
 have gB:hB.A h.Q=U (S Y 1 (rX 0)):=by rw[eB,gY lA,if_pos rfl]
 have aB:a_ h hB:=by rw[eB];exact(by rw[eA];exact a_.push _ _:a_ h hA).set _ (ac _) lA
 have sl:∀ hx,ka (E b).toiS 116 (pO 1 0) (U (I X 1)) O O hx=U (M (U ⟨1,3,O⟩) 2 2,hx):=fun hx=>by kernel_rfl
 have f3:∀ j,L (rX j)=3:=fun j=>by unfold rX;split <;> rfl
 simp[uT,gn1,hx,ld,hC,w1,c1,hr,-uT,hf,f3,a1,sl];refine jE (IN1 bv n h h.Q) 2 ⟨_,hB,0,rfl,kA,kA,kA,kA,kA,kA,jA,rfl,aB,gB⟩ ?_;rintro k s' ⟨t,h1,i,rfl,t0,t5,t6,t25,t26,t27,hi,rfl,P,gf⟩ _;by_cases ls:i < 2
 ·have C:(i:Int) < 2:=jA
  have hw:=wS (i:=i) jA;have gG:h1.A 1=U (S J 0 zu):=P.A g1;have s1:Ug (E b).toiS 118 (M (U ⟨1,3,O⟩) 2 2) (I X (i:Int))=U (.pointer (U ⟨1,(i+1)*3,O⟩)):=by
   rw[QO b ⟨jA,jA⟩,bb,show 3+i*3=(i+1)*3 by omega]
  have es:iz h1 1 ((i+1)*3) 3=U (.agg ⟨rX (i+1)⟩):=by
   rw[Uh gG (by simp[zu];omega)]
   match i,ls with
   | 0,_=>rfl
   | 1,_=>rfl
  obtain⟨h2,e2⟩:∃ h2,h2=h1.push (S Y 1 zz):=⟨_,rfl⟩;have hg:jh (E b).toiS 115 h1=U (pO h1.Q 0,h2):=by rw[e2,ez];exact uT b h1
  have g2:h2.A h1.Q=U (S Y 1 zz):=by rw[e2,N.F,if_pos rfl]
  have lf:=N.D gf;have l2:=N.D g2;obtain⟨h3,e3⟩:∃ h3,h3=h2.set h1.Q (U (S Y 1 (rX (i+1)))):=⟨_,rfl⟩;have qL:Wp h2 h1.Q 0 (rX (i+1))=U h3:=by
   rw[kI g2 (by simp[ez,f3]),e3,ez];congr 4;simp[f3]
  have g3:h3.A h1.Q=U (S Y 1 (rX (i+1))):=by rw[e3,gY l2,if_pos rfl]
  have o3:a_ h1 h3:=by rw[e3];exact(by rw[e2];exact a_.push _ _:a_ h1 h2).set _ (ac _) l2
  have hp:=o3.A gf;have q2:=N.D hp;have c3:Jr h3 h1.Q 2=U (I .u64 (yo (i+1):Int)):=by rw[Zy g3,PD _ jA];rfl
  by_cases hc:yo (i+1)<=n
  ·have Z':(yo (i+1):Int)<=(n:Int):=jA
   have re:iz h3 h1.Q 0 3=U (.agg ⟨rX (i+1)⟩):=oJ g3 (by rw[f3];omega) (by rw[f3];omega);obtain⟨h4,e4⟩:∃ h4,h4=h3.set h.Q (U (S Y 1 (rX (i+1)))):=⟨_,rfl⟩;have Av:Wp h3 h.Q 0 (rX (i+1))=U h4:=by
    rw[kI hp (by simp[f3]),e4];congr 4;simp[f3]
   have g4:h4.A h.Q=U (S Y 1 (rX (tV n (i+1)))):=by
    rw[e4,gY q2,if_pos rfl];unfold tV;rw[if_pos hc]
   simp[uT,t0,t5,t6,t25,t26,t27,C,s1,es,-uT,hg,f3,qL,c3,hc,Z',re,Av,hw];exact⟨2-(i+1),jA,_,h4,i+1,rfl,by simp[t0],by simp[t5],by simp[t6],by simp[t25],by simp[t26],kA,jA,rfl,by rw[e4];exact(P.trans o3).set _ (ac _) q2,g4⟩
  ·have Z':¬ (yo (i+1):Int)<=(n:Int):=jA
   simp[uT,t0,t5,t6,t25,t26,t27,C,s1,es,-uT,hg,f3,qL,c3,hc,Z',hw];refine⟨2-(i+1),jA,_,h3,i+1,rfl,by simp[t0],by simp[t5],by simp[t6],by simp[t25],by simp[t26],kA,jA,rfl,P.trans o3,?_⟩;rw[hp];have : tV n (i+1)=tV n i:=by
    conv=>lhs;unfold tV
    rw[if_neg hc]
   rw[this]
 ·have : i=2:=jA
  subst this;have C:¬ ((2:Nat):Int) < 2:=jA
  obtain⟨j,hj⟩:∃ j,j=tV n 2:=⟨_,rfl⟩;have e1:j<=2:=by rw[hj];exact Jwa n 2
  rw[<- hj]at gf hk;have cA:Jr h1 h.Q 0=U (I .u8 (B5 j)):=by rw[Zy gf,PD _ e1];rfl
  have cW:∀ {hx},a_ h1 hx->Jr hx h.Q 1=U (I X (tD j:Int)):=fun o=>by rw[Zy (o.A gf),PD _ e1];rfl
  have sB:SB (h1.push (S Y 1 [i8 (B5 j)])) (M (U ⟨h1.Q,0,O⟩) 1 1) [B5 j]:=SB.push (xs:=[B5 j]) kA;simp[uT,t0,t5,t6,t25,t26,t27,cA,HI];refine Pl b ((s.R P).R (a_.push _ _)) sB (by simp;omega) _ fun v h2 o2 a2 => ?_;have hq:a_ h1 h2:=(a_.push _ _).trans a2;have hz:=cW hq;have w8:tD j<=8:=by unfold tD;split <;> omega
  simp[uT,t0,t5,t6,t25,t26,t27,hz];refine jE (IN2 n (tD j) (xs ++ [B5 j]) h) (tD j) ⟨_,h2,v,0,rfl,by simp[t5],kA,kA,kA,jA,rfl,P.trans hq,by rw[eU,ct];exact o2.low (ak P.1 (bn _))⟩ ?_;rintro k s' ⟨t,h3,o,i,rfl,t5,t9,hy,q1,hi,rfl,T,ob⟩ _;by_cases ls:i < tD j
  ·have C:(i:Int) < (tD j:Int):=jA
   have hw:=wS (i:=i) jA;have hm:IntKind.i64.wrap (8*(i:Int))=8*(i:Int):=jW jA jA;have sh:=Vhu (n:Int) (8*(i:Int)) jA;have hb:=J8n n i;have gi:=J3r (tD j) n i ls;obtain⟨d,hd⟩:∃ d:Int,d=(n:Int).fdiv (2 ^ (8*(i:Int)).toNat):=⟨_,rfl⟩;rw[<- hd]at sh hb;obtain⟨c,hc⟩:∃ c:Int,c=(((n / 256 ^ i) % 256:Nat):Int):=⟨_,rfl⟩;rw[<- hc]at hb gi;have tk:(tT (tD j) n).take (i+1)=(tT (tD j) n).take i ++ [c]:=by rw[bH,gi];rfl
   obtain⟨v',h4,k1,k2,k3⟩:=Vb5 (b:=b) ob T.1 (by simp;omega) c;simp only[i8]at k1;simp[uT,t5,t9,hy,q1,C,hm,sh,hb,HI,i8,k1,hw];exact⟨tD j-(i+1),jA,_,h4,v',i+1,rfl,by simp[t5],kA,by simp[hy],kA,jA,rfl,k3.R T ob,by rw[tk,<- aQ];exact k2⟩
  ·have C:¬ (i:Int) < (tD j:Int):=jA
   have : i=tD j:=jA
   subst this;simp[uT,t5,t9,hy,q1];refine hk o h3 ?_ T;rw[ai (by rw[Lp];exact ac _),aQ]at ob;exact ob
end
section
def ZL{bv:V}{xs:List Int}(s:SB h bv xs){d:List Nat}(hd:L d=32)(hl:L xs < 999999000)(K:KP)(hk:∀ v h',OB h' h.Q v (xs++mP d)->a_ h h'->K (.ret v) h') :
  FK b 94 [bv,.agg ⟨d.map ax⟩] h K:=by
 refine iI b (wX b) Z0m rfl ?_;obtain⟨P,eA,C,gA⟩:=oL h ((d.map ax));have T:jP (.agg ⟨d.map ax⟩) h=U (pO h.Q 0,P):=by rw[eA];exact pk (by simp[hd])
 have sd:SB P (M (U ⟨h.Q,0,O⟩) 32 32) (mP d):=by
  have:=Vi3 gA jA;rwa [hd]at this
 have ld:L (mP d)=32:=by simp[mP,hd]
 simp[Rn,Zea,wX,CQ,T,HH];refine Pl b (s.R C) sd jA _ fun v h' o a => ?_;simp[Rn,Zea,wX,CQ];exact hk v h' (o.low C.1) (C.trans a)
def Vb0(laid:Ab.LaidIn h laidAll){bv T:V}{xs ys:List Int}(s:SB h bv xs)(sp:SB h T ys)(hl:L xs < 999990000)(hp:L ys < 1000000)(K:KP)(hk:∀ v h',OB h' h.Q v (xs++Dl ys)->a_ h h'->K (.ret v) h') :
  FK b 154 [bv,T] h K:=by
 refine iI b (C8 b) Zzf rfl ?_;have len:=fun hx=>m_ (b:=b) (h1:=hx) sp;simp[To,Zep,C8,Uw,len];refine BL b laid s (n:=L ys) jA jA _ fun v h1 P C => ?_;have il:=wQ (L ys);obtain⟨v',h2,k1,k2,k3⟩:=J2g (b:=b) P C.1 (sp.R C) (by rw[ah];omega);simp[To,Zep,C8,Uw,k1];refine hk v' h2 ?_ (k3.R C P);rw[Dl,<- aQ];exact k2
end
def Jnr{A:Type}{g:A->List Int}{l:List A}{i:Nat}{x:A}(C:l[i]? = U x):(l.take (i+1)).flatMap g=(l.take i).flatMap g++g x:=by
 rw[bH,C];simp
def J3g{A:Type}(g:A->List Int)(l:List A)(i:Nat):L ((l.take i).flatMap g)<=L (l.flatMap g):=by
 conv=>rhs;rw[<- bf i l]
 rw[List.flatMap_append,ah];omega
def Vk8(v C:V)(l:List ik)(g:ik->List Int)(p:List Int)(h:N)(k:Nat)(s:St):Prop:=∃ (t:Tr V) (h1:N) (o:V) (i:Nat),s=⟨⟨25,t⟩,[],h1⟩/\t.A 0=U o/\t.A 2=U C/\t.A 13=U v/\t.A 14=U (I X (L l:Int))/\t.A 15=U (I X (i:Int))/\i<=L l/\k=L l-i/\a_ h h1/\OB h1 h.Q o (p++(l.take i).flatMap g)
section
attribute [local simp] Qos Qwv WL Uw zY NI 
def Vhc(laid:Ab.LaidIn h laidAll){bv v:V}{xs:List Int}{l:List ik}(sb:SB h bv xs)(s:Sl h 34 v (L l) (mT l))(hn:L l < 1000000)(g:ik->List Int){f:FuncId}{F:Func}(hF:(E b).fn.A f=U F)(hl:L xs+L (l.flatMap g) < 900000000)(hf:∀ h1,a_ h h1->∀ x ∈ l,∀ hc ys,SB h1 hc ys->L ys < 900000010->∀ K,(∀ w h2,OB h2 h1.Q w (ys++g x)->a_ h1 h2->K (.ret w) h2)->FK b f [hc,.agg ⟨x.cells⟩] h1 K)(K:KP)(hk:∀ w h',OB h' h.Q w (xs++(lH (L l)++l.flatMap g))->a_ h h'->K (.ret w) h') :
  FK b 150 [bv,v,.func (.func f) #[] #[]] h K:=by
 refine iI b (WL b) Yrk rfl ?_;have len:∀ hx,iP (E b).toiS 90 v hx=U (I X (L l:Int)):=fun hx=>ja (nT b) s;simp[len];refine BL b laid sb (n:=L l) jA jA _ fun v0 h0 o0 a0 => ?_;have il:=wQ (L l);simp[len];refine jE (Vk8 v (.func (.func f) #[] #[]) l g (xs++lH (L l)) h) (L l) ⟨_,h0,v0,0,rfl,kA,kA,kA,kA,kA,jA,rfl,a0,by simpa using o0⟩ ?_;rintro k s' ⟨t,h1,o,i,rfl,t0,t2,t13,t14,t15,hi,rfl,C,ob⟩ _;have fl:=J3g g l i;by_cases hb:i < L l
 ·have P:(i:Int) < (L l:Int):=jA
  obtain⟨x,hx⟩:∃ x,l[i]? = U x:=⟨_,List.getElem?_eq_getElem hb⟩;have hw:=wS (i:=i) jA;obtain⟨bk,off, -,x1,x2, -⟩:=wI (b:=b) (nT b) rp (s.R C) hx;obtain⟨zz,ez⟩:∃ zz:List V,zz=Ch.zero.cells.toList:=⟨_,rfl⟩;have zl:L zz=34:=by rw[ez];kernel_rfl
  obtain⟨hA,eA⟩:∃ hA,hA=h1.push (S Y 1 zz):=⟨_,rfl⟩;have hr:jh (E b).toiS 143 h1=U (pO h1.Q 0,hA):=by rw[eA,ez];simp only[jh,AI]
  have gA:hA.A h1.Q=U (S Y 1 zz):=by rw[eA,N.F,if_pos rfl]
  have lA:=N.D gA;obtain⟨T,eB⟩:∃ T,T=hA.set h1.Q (U (S Y 1 x.cells)):=⟨_,rfl⟩;have xl:L x.cells=34:=ik.len x;have st:Wp hA h1.Q 0 x.cells=U T:=by
   rw[kI gA (by rw[zl,xl];omega),eB];congr 4;rw[xl];simp[zl]
  have gB:T.A h1.Q=U (S Y 1 x.cells):=by rw[eB,gY lA,if_pos rfl]
  have aB:a_ h1 T:=by rw[eB,eA];exact(a_.push _ _).set _ (ac _) (by rw[<- eA];exact lA)
  have h3:iz T h1.Q 0 34=U (.agg ⟨x.cells⟩):=oJ gB jA jA;simp[t0,t2,t13,t14,t15,P,x1,x2,hr,xl,st,h3,hF];refine hf T (C.trans aB) x (List.mem_of_getElem? hx) o _ (ob.sl.R aB) (by simp only[ah];omega) _ fun w h2 o2 a2 => ?_;simp[t0,t2,t13,t14,t15,hw];refine⟨L l-(i+1),jA,_,h2,w,i+1,rfl,kA,by simp[t2],by simp[t13],by simp[t14],kA,jA,rfl,(C.trans aB).trans a2,?_⟩;rw[Jnr hx,<- aQ];exact o2.low (ak C.1 aB.1)
 ·have P:¬ (i:Int) < (L l:Int):=jA
  have : i=L l:=jA
  subst this;rw[bO,aQ]at ob;simp[t0,t2,t13,t14,t15];exact hk o h1 ob C
end
def Vf3(v C:V)(l:List fm)(g:fm->List Int)(p:List Int)(h:N)(k:Nat)(s:St):Prop:=∃ (t:Tr V) (h1:N) (o:V) (i:Nat),s=⟨⟨25,t⟩,[],h1⟩/\t.A 0=U o/\t.A 2=U C/\t.A 13=U v/\t.A 14=U (I X (L l:Int))/\t.A 15=U (I X (i:Int))/\i<=L l/\k=L l-i/\a_ h h1/\OB h1 h.Q o (p++(l.take i).flatMap g)
section
attribute [local simp] Uw
def Vc9(laid:Ab.LaidIn h laidAll){bv v:V}{xs:List Int}{l:List fm}(sb:SB h bv xs)(s:Sl h 2 v (L l) (pg l))(hn:L l < 1000000)(g:fm->List Int){f:FuncId}{F:Func}(hF:(E b).fn.A f=U F)(hl:L xs+L (l.flatMap g) < 900000000)(hf:∀ h1,a_ h h1->∀ x ∈ l,∀ hc ys,SB h1 hc ys->L ys < 900000010->∀ K,(∀ w h2,OB h2 h1.Q w (ys++g x)->a_ h1 h2->K (.ret w) h2)->FK b f [hc,.agg ⟨x.cells⟩] h1 K)(K:KP)(hk:∀ w h',OB h' h.Q w (xs++(lH (L l)++l.flatMap g))->a_ h h'->K (.ret w) h') :
  FK b 152 [bv,v,.func (.func f) #[] #[]] h K:=by
 refine iI b (C1 b) Ylr rfl ?_;have len:∀ hx,iP (E b).toiS 31 v hx=U (I X (L l:Int)):=fun hx=>ja (nU b) s;simp[FX,IN,C1,I0,IY,tF,jV,ve,I6,I5,len];refine BL b laid sb (n:=L l) jA jA _ fun v0 h0 o0 a0 => ?_;have il:=wQ (L l);simp[FX,IN,C1,I0,IY,tF,jV,ve,I6,I5,len];refine jE (Vf3 v (.func (.func f) #[] #[]) l g (xs++lH (L l)) h) (L l) ⟨_,h0,v0,0,rfl,kA,kA,kA,kA,kA,jA,rfl,a0,by simpa using o0⟩ ?_;rintro k s' ⟨t,h1,o,i,rfl,t0,t2,t13,t14,t15,hi,rfl,C,ob⟩ _;have fl:=J3g g l i;by_cases hb:i < L l
 ·have P:(i:Int) < (L l:Int):=jA
  obtain⟨x,hx⟩:∃ x,l[i]? = U x:=⟨_,List.getElem?_eq_getElem hb⟩;have hw:=wS (i:=i) jA;obtain⟨bk,off, -,x1,x2, -⟩:=yp (b:=b) (nU b) qF (s.R C) hx;obtain⟨zz,ez⟩:∃ zz:List V,zz=EU.zero.cells.toList:=⟨_,rfl⟩;have zl:L zz=2:=by rw[ez];kernel_rfl
  obtain⟨hA,eA⟩:∃ hA,hA=h1.push (S Y 1 zz):=⟨_,rfl⟩;have hr:jh (E b).toiS 68 h1=U (pO h1.Q 0,hA):=by rw[eA,ez];simp only[jh,y_]
  have gA:hA.A h1.Q=U (S Y 1 zz):=by rw[eA,N.F,if_pos rfl]
  have lA:=N.D gA;obtain⟨T,eB⟩:∃ T,T=hA.set h1.Q (U (S Y 1 x.cells)):=⟨_,rfl⟩;have xl:L x.cells=2:=fm.len x;have st:Wp hA h1.Q 0 x.cells=U T:=by
   rw[kI gA (by rw[zl,xl];omega),eB];congr 4;rw[xl];simp[zl]
  have gB:T.A h1.Q=U (S Y 1 x.cells):=by rw[eB,gY lA,if_pos rfl]
  have aB:a_ h1 T:=by rw[eB,eA];exact(a_.push _ _).set _ (ac _) (by rw[<- eA];exact lA)
  have h3:iz T h1.Q 0 2=U (.agg ⟨x.cells⟩):=oJ gB jA jA;simp[FX,IN,C1,I0,IY,tF,jV,ve,I6,I5,t0,t2,t13,t14,t15,P,x1,x2,-jV,hr,xl,st,h3,hF];refine hf T (C.trans aB) x (List.mem_of_getElem? hx) o _ (ob.sl.R aB) (by simp only[ah];omega) _ fun w h2 o2 a2 => ?_;simp[FX,IN,C1,I0,IY,tF,jV,ve,I6,I5,t0,t2,t13,t14,t15,hw];refine⟨L l-(i+1),jA,_,h2,w,i+1,rfl,kA,by simp[t2],by simp[t13],by simp[t14],kA,jA,rfl,(C.trans aB).trans a2,?_⟩;rw[Jnr hx,<- aQ];exact o2.low (ak C.1 aB.1)
 ·have P:¬ (i:Int) < (L l:Int):=jA
  have : i=L l:=jA
  subst this;rw[bO,aQ]at ob;simp[FX,IN,C1,I0,IY,tF,jV,ve,I6,I5,t0,t2,t13,t14,t15];exact hk o h1 ob C
def Vhw(laid:Ab.LaidIn h laidAll){bv:V}{ys:List Int}(x:ik)(C:0<=x.pt.n/\x.pt.n<=8)(s:SB h bv ys)(hl:L ys < 900000010)(K:KP)(hk:∀ w h',OB h' h.Q w (ys++xV x.p)->a_ h h'->K (.ret w) h') :
  FK b 151 [bv,.agg ⟨x.cells⟩] h K:=by
 refine iI b (C7 b) Z1d rfl ?_;obtain⟨P, -,bx,aA, -,gA,hb, -⟩:=J44 x h;have hr:∀ {C},a_ P C->iz C h.Q 0 32=U (.agg ⟨x.pt.id.map ax⟩):=fun {C} o=>by
  rw[Uh (o.A gA) (by rw[ik.len];omega),bw];have : x.cells.take 32=x.pt.id.map ax:=by
   rw[ik.cells,Pt.cells,aQ,aP (by simp[x.pt.hd]),ai (by simp[x.pt.hd])]
  rw[this]
 have h2:∀ {C},a_ P C->Jr C h.Q 32=U (I X x.pt.n):=fun {C} o=>by rw[Zy (o.A gA),Vlf]
 have h3:L (mP x.pt.id)=32:=by simp[mP,x.pt.hd]
 obtain⟨_,hC,q1,n1,v1,rfl,o1,T⟩:=ZL b (s.R aA) x.pt.hd jA (fun r h' => ∃ v,r=.ret v/\OB h' P.Q v (ys++mP x.pt.id)/\a_ P h') (fun v h' o a=>⟨v,rfl,o,a⟩);obtain⟨m,hm⟩:∃ m:Nat,x.pt.n=(m:Int):=⟨x.pt.n.toNat,jA⟩;obtain⟨_,hD,q2,n2,v2,rfl,o2,a2⟩:=BL b (Laid.R laid (aA.trans T)) o1.sl (n:=m) jA (by rw[ah];omega) (fun r h' => ∃ v,r=.ret v/\OB h' hC.Q v (ys++mP x.pt.id++lH m)/\a_ hC h') (fun v h' o a=>⟨v,rfl,o,a⟩);have d0:=hr (a_.refl P);have d1:=h2 (a_.refl P);have d2:=h2 T;rw[hm]at d1 d2;simp[Kf,Mg,C7,yM,AP,Ua,wX,yr,kQ,bx];refine ju [⟨94,[bv,.agg ⟨x.pt.id.map ax⟩],P,v1,hC,Y⟩,⟨28,[v1,I X (m:Int)],hC,v2,hD,Y⟩] ?_ Y59 Zav Y4n (by simp[Zjs,Zrt,Zqh,Kf,Mg,C7,yM,AP,Ua,wX,yr,d0,d1,d2,r_];first | exact⟨rfl,rfl⟩ | rfl) ?_ ?_
 ·exact wm ⟨q1,n1,fun _ c hc=>T.2 c hc⟩ ⟨q2,n2,fun _ c hc=>a2.2 c hc⟩
 ·simp[zL,Kf,Mg,C7,yM,AP,Ua,wX,yr,d1,d2]
 simp[Kf,Mg,C7,yM,AP,Ua,wX,yr,kQ];refine hk v2 hD ?_ (aA.trans (T.trans a2));have e:xV x.p=mP x.pt.id++lH m:=by
  show x.pt.id.map Int.ofNat++lH x.pt.n.toNat=_;rw[hm];rfl
 rw[e,<- aQ];exact o2.low (aA.trans T).1
def Vdk(laid:Ab.LaidIn h laidAll){bv:V}{ys:List Int}{x:fm}(C:0<=x.value/\x.value<=1125899906842624)(a:mi h x)(s:SB h bv ys)(hl:L ys < 900000010)(K:KP)(hk:∀ w h',OB h' h.Q w (ys++yU x.p)->a_ h h'->K (.ret w) h') :
  FK b 153 [bv,.agg ⟨x.cells⟩] h K:=by
 refine iI b (C6 b) Z3o rfl ?_;obtain⟨P,eA,aA,gA⟩:=oL h x.cells;have bx:=sN eA;obtain⟨m,hm⟩:∃ m:Nat,x.value=(m:Int):=⟨x.value.toNat,jA⟩;have il:=wQ m;have hr:∀ {C},a_ P C->Jr C h.Q 0=U (I X (m:Int)):=fun {C} o=>by rw[Zy (o.A gA),<- hm];rfl
 have h2:∀ {C},a_ P C->Jr C h.Q 1=U x.sv:=fun {C} o=>by rw[Zy (o.A gA)];rfl
 obtain⟨_,hC,q1,n1,v1,rfl,o1,T⟩:=BL b (Laid.R laid aA) (s.R aA) (n:=m) jA jA (fun r h' => ∃ v,r=.ret v/\OB h' P.Q v (ys++lH m)/\a_ P h') (fun v h' o a=>⟨v,rfl,o,a⟩);obtain⟨_,hD,q2,n2,v2,rfl,o2,a2⟩:=Vb0 b (Laid.R laid (aA.trans T)) o1.sl ((a.s.R aA).R T) (by rw[ah];omega) a.l (fun r h' => ∃ v,r=.ret v/\OB h' hC.Q v (ys++lH m++Dl x.script)/\a_ hC h') (fun v h' o a=>⟨v,rfl,o,a⟩);have d0:=hr (a_.refl P);have d1:=h2 (a_.refl P);have d2:=h2 T;simp[Ke,Mh,C6,vZ,kQ,tK,U7,C8,bx];refine ju [⟨28,[bv,I X (m:Int)],P,v1,hC,Y⟩,⟨154,[v1,x.sv],hC,v2,hD,Y⟩] ?_ Y4b Zd2 Y7y (by simp[Zgr,Zuo,Znc,Ke,Mh,C6,vZ,tK,U7,C8,d0,d1,d2,r_];first | exact⟨rfl,rfl⟩ | rfl) ?_ ?_
 ·exact wm ⟨q1,n1,fun _ c hc=>T.2 c hc⟩ ⟨q2,n2,fun _ c hc=>a2.2 c hc⟩
 ·simp[zM,Ke,Mh,C6,vZ,tK,U7,C8,d1,d2,sV a.s]
 simp[Ke,Mh,C6,vZ,kQ,tK,U7,C8];refine hk v2 hD ?_ (aA.trans (T.trans a2));have e:yU x.p=lH m++Dl x.script:=by
  show lH x.value.toNat++Dl x.script=_;rw[hm];rfl
 rw[e,<- aQ];exact o2.low (aA.trans T).1
end
structure Iy (t:k_):Prop where
 insN:1<=L t.ins/\L t.ins<=8
 outsN:1<=L t.outs/\L t.outs<=8
 far:∀ x ∈ t.ins,0<=x.pt.n/\x.pt.n<=8
 lock:0<=t.lock/\t.lock<=1073741824
 pts:(t.ins.map (·.pt)).Nodup
 vals:ue t.outs 1125899906842624=Y
 script:∀ o ∈ t.outs,L o.script<=256
 wit:∀ x ∈ t.ins,L x.wit<=16/\∀ w ∈ x.wit,L w<=64
def J2v{n a b:Int}:wq n a b=Y↔a<=n/\n<=b:=by simp[wq]
def Hz{t:k_}(h:rn t=0):Iy t:=by
 unfold rn at h;split at h
 ·cases h
 rename_i h1;split at h
 ·cases h
 rename_i P;split at h
 ·cases h
 rename_i h3;split at h
 ·cases h
 rename_i h4;split at h
 ·cases h
 rename_i T;simp only[cx,cQ,not_or,dW,Bool.not_eq_true,J2v]at h1 P h3 h4 T;have hf:∀ x ∈ t.ins,EO x=J:=fun x C=>by
  have:=dU.1 P.1 x C;simpa using this
 have hl:∀ x ∈ t.outs,Dn x=J:=fun x C=>by
  have:=dU.1 T.1 x C;simpa using this
 have hw:∀ x ∈ t.ins,Dp x=J:=fun x C=>by
  have:=dU.1 T.2 x C;simpa using this
 refine⟨jA,jA,fun x C => ?_,P.2,by simpa using h3,h4,fun o ho => ?_,fun x C => ?_⟩
 ·have:=hf x C;simpa[EO,J2v]using this
 ·have:=hl o ho;simp only[Dn,decide_eq_false_iff_not]at this;omega
 ·have:=hw x C;simp only[Dp,fZ,decide_eq_false_iff_not]at this;refine⟨jA,fun w hw => ?_⟩;have:=dU.1 this.2 w hw;simp only[decide_eq_true_eq]at this;omega
def Ln:∀ {l:List jB} {left:Int},ue l left=Y->left<=1125899906842624->∀ o ∈ l,1<=o.value/\o.value<=1125899906842624
 | [],_,_,_,o,ho=>by cases ho
 | p::l,left,h,C,o,ho=>by
  unfold ue at h;split at h
  ·cases h
  ·rename_i P;rcases ao.1 ho with rfl | ho
   ·omega
   ·exact Ln h jA o ho
def Qf{A:Type}{g:A->List Int}{m:Nat}:∀ {l:List A},(∀ x ∈ l,L (g x)<=m)->L (l.flatMap g)<=L l*m
 | [],_=>by simp
 | x::l,h=>by
  have h1:=h x kA;have P:=Qf (g:=g) (l:=l) fun y C=>h y (by simp[C]);rw[dT,ah,bm,cr];omega
def Vcj(x:pN):L (xV x)<=41:=by
 have:=wQ x.pt.n.toNat;simp[xV,x.pt.hd];omega
def J7e{o:jB}(h:L o.script<=256):L (yU o)<=274:=by
 have:=wQ o.value.toNat;have:=wQ (L o.script);simp[yU,Dl];omega
def qu {A B:Type}(f:A->B)(g:B->List Int)(l:List A):(l.map f).flatMap g=l.flatMap fun x=>g (f x):=by
 rw[List.flatMap_map]
def B7{xs ys:List Int}(h1:Bytes xs)(C:Bytes ys):Bytes (xs++ys):=fun z P=>by
 rcases ab.1 P with q | q
 ·exact h1 z q
 ·exact C z q
def Jjb{t:k_}(k:Iy t):L (ye t)<=4096:=by
 have h1:=wQ (L t.ins);have P:=wQ (L t.outs);have T:=wQ t.lock.toNat;have h4:=Qf (g:=xV) (l:=t.ins) (m:=41) fun x _=>Vcj x;have h5:=Qf (g:=yU) (l:=t.outs) (m:=274) fun x C=>J7e (k.script x C);have h6:=k.insN;have h7:=k.outsN;simp only[ye,ah];omega
section
attribute [local simp] Q65 Xpv UR rK Vp Vd Ur Aa WL Us z_ C1 NN Uw
def Vbk(laid:Ab.LaidIn h laidAll){iv ov:V}{ins:List ik}{outs:List fm}{lock:Int}(si:Ins h iv ins)(so:jC h ov outs)(K:KP)(hb:∀ h',rn (jN ins outs lock)≠0->a_ h h'->K (.ret (.tuple #[M O 0 0,I X (rn (jN ins outs lock))])) h')(hk:∀ v h',rn (jN ins outs lock)=0->OB h' h.Q v (ye (jN ins outs lock))->a_ h h'->K (.ret (.tuple #[v,I X 0])) h') :
  FK b 126 [.agg ⟨iT iv ov lock⟩] h K:=by
 refine iI b (UR b) Jmu rfl ?_;obtain⟨hA,eA,aA,gA⟩:=oL h ((iT iv ov lock));have bx:=sN eA;have ls:iz hA h.Q 0 3=U (.agg ⟨iT iv ov lock⟩):=by rw[Uh gA (by simp[iT])];rfl
 have cs:∀ {P:N},a_ hA P->Jr P h.Q 0=U iv/\Jr P h.Q 1=U ov/\Jr P h.Q 2=U (I X lock):=fun {P} o=>by
  have:=o.A gA;exact⟨by rw[Zy this];rfl,by rw[Zy this];rfl,by rw[Zy this];rfl⟩
 simp[bx,ls];refine QG b (si.R aA) (so.R aA) _ fun h1 a1 => ?_;by_cases hc:rn (jN ins outs lock)=0
 case neg =>
  simp[hc];exact hb h1 hc (aA.trans a1)
 have k:=Hz hc;rw[hc];obtain⟨c0, -, -⟩:=cs a1;simp[c0,C7];have kl:=Jjb k;have e1:(jN ins outs lock).ins.flatMap xV=ins.flatMap fun x=>xV x.p:=qu _ _ _;have e2:(jN ins outs lock).outs.flatMap yU=outs.flatMap fun x=>yU x.p:=qu _ _ _;have n1:L (jN ins outs lock).ins=L ins:=by simp[jN]
 have n2:L (jN ins outs lock).outs=L outs:=by simp[jN]
 have e3:ye (jN ins outs lock)=lH (L ins)++(ins.flatMap fun x=>xV x.p)++(lH (L outs)++outs.flatMap fun x=>yU x.p)++lH lock.toNat:=by
  unfold ye;rw[e1,e2,n1,n2];rfl
 rw[e3]at kl;simp only[ah]at kl;have T:=aA.trans a1;refine Vhc b (Laid.R laid T) (xs:=[]) Sl.nil (si.s.R T) si.n (fun x=>xV x.p) (C7 b) (by simp only[da];omega) (fun h2 a2 x P hp ys s1 hl K hk=>Vhw b (Laid.R laid (T.trans a2)) x (k.far x.p (am.2 ⟨x,P,rfl⟩)) s1 hl K hk) _ fun v2 h2 o2 a2 => ?_;obtain⟨-,c1, -⟩:=cs (a1.trans a2);simp[c1,C6];have C:=T.trans a2;refine Vc9 b (Laid.R laid C) o2.sl (so.s.R C) so.n (fun x=>yU x.p) (C6 b) (by simp only[ah,da];omega) (fun h3 a3 x P hp ys s1 hl K hk=>Vdk b (Laid.R laid (C.trans a3)) (by have:=Ln k.vals (fu _) x.p (am.2 ⟨x,P,rfl⟩);exact⟨by have:=this.1;show(0:Int)<=x.p.value;omega,this.2⟩) (((so.R C).R a3).a x P) s1 hl K hk) _ fun v3 h3 o3 a3 => ?_;obtain⟨-, -,c2⟩:=cs ((a1.trans a2).trans a3);obtain⟨m,hm⟩:∃ m:Nat,lock=(m:Int):=⟨lock.toNat,by have:=k.lock.1;show lock=_;simp only[jN]at this;omega⟩;rw[hm]at c2;have Z':=k.lock.2;simp only[jN]at Z';simp[c2];have hr:=C.trans a3;refine BL b (Laid.R laid hr) o3.sl (n:=m) jA (by simp only[ah,da];omega) _ fun v4 h4 o4 a4 => ?_;simp;refine hk v4 h4 hc ?_ (hr.trans a4);rw[e3,show lock.toNat=m by omega];have q:=o4.low (hr.1);rw[bU]at q;exact q
end
def xJ(s:List Nat)(l:List Nat):List Nat:=Bl.keyed1 [] (Bl.keyed1 [] s++l)
def vo:L (xJ s l)=32:=rL _
def Jwm(s:ByteArray):L (vK s)=s.size:=by
 simp[vK]
def J7u{s:ByteArray}{l:List Nat}(hs:vK s=l.map ax)(h:N):wK (E b).toiS 9 28 (.string s) h=U (M (U ⟨h.Q,0,O⟩) (L l) iJ,h.push (S Y 1 (l.map ax))):=by
 obtain⟨P,C⟩:∃ P,(E b).toiS.ty.A 9=U P:=⟨((E b).toiS.ty.A 9).getD ⟨.invalid,0,0,.bool J,[]⟩,by kernel_rfl⟩;have h1:vc.desc=.slice 5:=(ma b).d;have T:R5.desc=.int .u8:=kR
 have hl:s.size=L l:=by rw[<- Jwm,hs,aM]
 simp only[wK,C,qC,h1,uI,T,hs,hl]
section
attribute [local simp] Q7s Xsn v7 Jsp Zf Vy
def PL(laid:Ab.LaidIn h laidAll){s:ByteArray}{l d:List Nat}(hs:vK s=l.map ax)(hl:L l < 1000){v:V}(sv:SN h v d)(hd:L d < 1000000)(K:KP)(hk:∀ h',a_ h h'->K (.ret (.agg ⟨(xJ l d).map ax⟩)) h') :
  FK b 57 [.string s,v] h K:=by
 refine iI b (v7 b) Zbg rfl ?_;obtain⟨hA,eA,aA,gA⟩:=oL h js;have Z':jh (E b).toiS 39 h=U (pO h.Q 0,hA):=by rw[eA];exact Vj b h
 obtain⟨hB,eB,aB,gB⟩:=oL hA ((l.map ax));have cv:=J7u b hs hA;rw[<- eB]at cv;have sB:SN hB (M (U ⟨hA.Q,0,O⟩) (L l) iJ) l:=(ig.new (n0:=0) (z:=1) (bQ _) gB kA (by unfold iJ;omega) (.inl ⟨rfl,rfl⟩)).sl;simp[Vj,-Vj,Z',cv];have hr:=aA.trans aB;refine Oj b (LB (Laid.R laid hr)) sB jA _ fun h1 a1 => ?_;obtain⟨dg,hdg⟩:∃ dg,dg=Bl.keyed1 [] l:=⟨_,rfl⟩;have dl:L dg=32:=by rw[hdg];exact rL _
 rw[<- hdg];have hx:=hr.trans a1;obtain⟨T,eC⟩:∃ T,T=h1.push (S Y 1 js):=⟨_,rfl⟩;have ls:jh (E b).toiS 39 h1=U (pO h1.Q 0,T):=by rw[eC];exact Vj b h1
 have gC:T.A h1.Q=U (S Y 1 js):=by rw[eC,N.F,if_pos rfl]
 have lC:=N.D gC;obtain⟨hD,eD⟩:∃ hD,hD=T.set h1.Q (U (S Y 1 (dg.map ax))):=⟨_,rfl⟩;have hq:Wp T h1.Q 0 (dg.map ax)=U hD:=by
  rw[kI gC (by simp[js,dl]),eD];congr 4;simp[js,dl]
 have gD:hD.A h1.Q=U (S Y 1 (dg.map ax)):=by rw[eD,gY lC,if_pos rfl]
 have aD:a_ h1 hD:=by rw[eD,eC];exact(a_.push _ _).set _ (ac _) (by rw[<- eC];exact lC)
 have hp:=hx.trans aD;have oD:ig hD h1.Q 1 (M (U ⟨h1.Q,0,O⟩) 32 32) 32 (dg.map ax):=ig.new (ac _) gD (by simp[dl]) qA (.inr rfl);obtain⟨v',h2,k1,k2,k3⟩:=wW (ma b) (tx:=28) (m:=L d) nf jA oD aD.1 (uW (ma b) nf (sv.R hp)) kA (by rw[wT];omega) jA;have a2:a_ h1 h2:=k3.R aD oD;simp[Vj,-Vj,ls,dl,hq,HH,k1];have s2:SN h2 v' (dg++d):=by
  have:=k2.sl;rw[SN,ah,bg,dl];exact this
 have hc:=hx.trans a2;refine Oj b (LB (Laid.R laid hc)) s2 (by simp[dl];omega) _ fun h3 a3 => ?_;obtain⟨C,P⟩:∃ C,C=Bl.keyed1 [] (dg++d):=⟨_,rfl⟩;have tl:L C=32:=by rw[P];exact rL _
 have te:C=xJ l d:=by rw[P,hdg];rfl
 rw[<- P];have hb:=hc.trans a3;have g3:h3.A h.Q=U (S Y 1 js):=(((aB.trans a1).trans a2).trans a3).A gA;have l3:=N.D g3;have qL:Wp h3 h.Q 0 (C.map ax)=U (h3.set h.Q (U (S Y 1 (C.map ax)))):=by
  rw[kI g3 (by simp[js,tl])];congr 4;simp[js,tl]
 have hy:iz (h3.set h.Q (U (S Y 1 (C.map ax)))) h.Q 0 32=U (.agg ⟨C.map ax⟩):=by
  rw[Uh (by rw[gY l3,if_pos rfl]) (by simp[tl]),bw,ai (by simp[tl])]
 simp[Vj,Ua,tl,qL,hy];rw[te];exact hk _ (hb.set _ (ac _) l3)
end
def oI(s:List Nat)(t:k_):List Nat:=if rn t=0 then xJ s (qe (ye t))else List.replicate 32 0
def yx(t:k_):L (oI s t)=32:=by
 unfold oI;split
 ·exact vo _ _
 ·simp
def Jxe(h:∀ n ∈ l,n < 256):Bytes (mP l):=fun z P=>by
 obtain⟨n,C,rfl⟩:=am.1 P;have:=h n C;show(0:Int)<=(n:Int)/\(n:Int) < 256;omega
def oR(p:Pt):Prop:=∀ n ∈ p.id,n < 256
def Jrg{t:k_}(hi:∀ x ∈ t.ins,oR x.pt)(ho:∀ o ∈ t.outs,Bytes o.script):Bytes (ye t):=by
 have T:∀ {A:Type} (g:A->List Int) (l:List A),(∀ x ∈ l,Bytes (g x))->Bytes (l.flatMap g):=fun g l h z P=>by
  obtain⟨x,C,P⟩:=cJ.1 P;exact h x C z P
 unfold ye;refine B7 (B7 (B7 (Ca _) (T _ _ fun x C => ?_)) (B7 (Ca _) (T _ _ fun o h => ?_))) (Ca _)
 ·exact B7 (Jxe _ (hi x C)) (Ca _)
 ·exact B7 (Ca _) (B7 (Ca _) (ho o h))
section
attribute [local simp] Xab Xwx IK rK UR U2 v7 Vy
def Juq(laid:Ab.LaidIn h laidAll){s:ByteArray}{l:List Nat}(hs:vK s=l.map ax)(hl:L l < 1000){iv ov:V}{ins:List ik}{outs:List fm}{lock:Int}(si:Ins h iv ins)(so:jC h ov outs)(hp:∀ x ∈ ins,oR x.pt)(K:KP)(hk:∀ h',a_ h h'->K (.ret (.agg ⟨(oI l (jN ins outs lock)).map ax⟩)) h'):FK b 103 [.string s,.agg ⟨iT iv ov lock⟩] h K:=by
 refine iI b (IK b) Z3b rfl ?_;obtain⟨hA,eA,aA,gA⟩:=oL h ((iT iv ov lock));have nA:=nQ eA;have bx:=sN eA;obtain⟨hB,eB,aB,gB⟩:=oL hA js;have hb:jh (E b).toiS 39 hA=U (pO hA.Q 0,hB):=by rw[eB];exact Vj b hA
 have C:=aA.trans aB;have Z':iz hB h.Q 0 3=U (.agg ⟨iT iv ov lock⟩):=by rw[Uh (aB.A gA) (by simp[iT])];rfl
 simp[Vj,bx,-Vj,hb,Z'];have hr:∀ (h1:N) (dt:List Nat),a_ hB h1->L dt=32->∃ h2,Wp h1 hA.Q 0 (dt.map ax)=U h2/\iz h2 hA.Q 0 32=U (.agg ⟨dt.map ax⟩)/\a_ h h2:=by
  intro h1 dt T tl;have g3:=T.A gB;have l3:=N.D g3;refine⟨h1.set hA.Q (U (S Y 1 (dt.map ax))),?_,?_,(C.trans T).set _ jA l3⟩
  ·rw[kI g3 (by simp[js,tl])];congr 4;simp[js,tl]
  ·rw[Uh (by rw[gY l3,if_pos rfl]) (by simp[tl]),bw,ai (by simp[tl])]
 refine Vbk b (Laid.R laid C) (si.R C) (so.R C) _ (fun h1 hc T => ?_) (fun v h1 hc o1 T => ?_)
 ·obtain⟨zd,P⟩:∃ zd:List Nat,zd=List.replicate 32 0:=⟨_,rfl⟩;obtain⟨h2,k1,k2,k3⟩:=hr h1 zd T (by rw[P];simp);have zh:lK (E b).toiS 39 []=U (.agg ⟨zd.map ax⟩):=by rw[P];kernel_rfl
  have rl:L zd=32:=by rw[P];simp
  simp[Vj,hc,zh,rl,k1,Ua,k2];have:=hk h2 k3;unfold oI at this;rw[if_neg hc,<- P]at this;exact this
 ·have k:=Hz hc;have kl:=Jjb k;have kb:Bytes (ye (jN ins outs lock)):=Jrg (fun x hx=>by
   obtain⟨y,hy,rfl⟩:=am.1 hx;exact hp y hy) (fun o ho=>by
   obtain⟨y,hy,rfl⟩:=am.1 ho;exact(so.a y hy).b)
  simp[Vj];refine PL b (Laid.R laid (C.trans T)) hs hl (SN.of o1.sl kb) (by simp;omega) _ fun h2 a2 => ?_;obtain⟨h3,k1,k2,k3⟩:=hr h2 _ (T.trans a2) (vo l ((ye (jN ins outs lock)).map Int.toNat));simp[Vj,Ua,vo,k1,k2];have:=hk h3 k3;unfold oI at this;rw[if_pos hc]at this;exact this
end
def Di:List Nat:=[115,105,103,110]
section
attribute [local simp] X0p Zf5 WS rK IK Vy
def Jzy(laid:Ab.LaidIn h laidAll){iv ov:V}{ins:List ik}{outs:List fm}{lock:Int}(si:Ins h iv ins)(so:jC h ov outs)(hp:∀ x ∈ ins,oR x.pt)(K:KP)(hk:∀ h',a_ h h'->K (.ret (.agg ⟨(oI Di (jN ins outs lock)).map ax⟩)) h'):FK b 66 [.agg ⟨iT iv ov lock⟩] h K:=by
 refine iI b (WS b) Zwk rfl ?_;obtain⟨P,eA,aA,gA⟩:=oL h ((iT iv ov lock));have nA:=nQ eA;have bx:=sN eA;obtain⟨hB,eB,aB,gB⟩:=oL P js;have hc:jh (E b).toiS 39 P=U (pO P.Q 0,hB):=by rw[eB];exact Vj b P
 have C:=aA.trans aB;have hr:iz hB h.Q 0 3=U (.agg ⟨iT iv ov lock⟩):=by rw[Uh (aB.A gA) (by simp[iT])];rfl
 simp[Vj,bx,-Vj,hc,hr];refine Juq b (l:=Di) (Laid.R laid C) rfl (by simp[Di]) (si.R C) (so.R C) hp _ fun h1 a1 => ?_;obtain⟨T,hx⟩:∃ T,T=oI Di (jN ins outs lock):=⟨_,rfl⟩;have tl:L T=32:=by rw[hx];exact yx _ _
 rw[<- hx]at hk ⊢;have g3:=a1.A gB;have l3:=N.D g3;have qL:Wp h1 P.Q 0 (T.map ax)=U (h1.set P.Q (U (S Y 1 (T.map ax)))):=by
  rw[kI g3 (by simp[js,tl])];congr 4;simp[js,tl]
 have h2:iz (h1.set P.Q (U (S Y 1 (T.map ax)))) P.Q 0 32=U (.agg ⟨T.map ax⟩):=by
  rw[Uh (by rw[gY l3,if_pos rfl]) (by simp[tl]),bw,ai (by simp[tl])]
 simp[Vj,Ua,tl,qL,h2];exact hk _ ((C.trans a1).set _ jA l3)
end
end Go.Proofs.YtbhojjejgmfgmaaGreatDoor
end
