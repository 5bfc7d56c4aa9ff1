import Derived.Test.YtmgonkaadhbnpaaGreatDoorFA
import Derived.Test.YtmgonkaadhbnpaaGreatDoorScB
set_option linter.all false
open List renaming length→L
open Option renaming some→U,none→O
open Bool renaming true→Y,false→J
open Go renaming Value→V
open Go.Value renaming int→I,slice→M
open Go.IntKind renaming i64→X
open Go.Ab.Blk renaming cells→S
noncomputable section
namespace Go.Proofs.YtmgonkaadhbnpaaGreatDoor
open Go Go.Ab
set_option maxRecDepth 100000
variable(s:List Nat)(l:List Nat)(n:Nat)(b:Nat){h:N}{h':N}
structure Pt where
 id:List Nat
 n:Int
 hd:L id=32
def Pt.cells(p:Pt):List V:=p.id.map dk ++ [I X p.n]
def Pt.len(p:Pt):L p.cells=33:=by simp[Pt.cells,p.hd]
def Pt.ext' {p q:Pt}(h1:p.id=q.id)(j:p.n=q.n):p=q:=by
 cases p;simp_all
instance : DecidableEq Pt:=fun p q=>if h:p.id=q.id/\p.n=q.n then isTrue (Pt.ext' h.1 h.2)else isFalse fun e=>h (by grind)
def mJ(l:List Pt):List V:=l.flatMap Pt.cells
def J6x(l:List Pt):L (mJ l)=L l*33:=by
 induction l with
 | nil=>rfl
 | cons p l ih=>simp[mJ,Pt.len]at ih ⊢;omega
def Td:∀ (xs ys:List Nat) (l:List Nat) (r s:List V),L xs=L ys->kw (List.replicate (L xs) 1++l) (xs.map dk++r) (ys.map dk++s)=(kw l r s).map (decide (xs=ys) && ·)
 | [],[],l,r,s,_=>by
  simp
 | x::xs,y::ys,l,r,s,h=>by
  have ih:=Td xs ys l r s (by grind);simp only[bI,cy,aH,eJ,kw,ih];have : AG 1 (dk x) (dk y)=U (decide (x=y)):=by
   show(if IntKind.u8=IntKind.u8 then U ((x:Int) == (y:Int))else O)=_;simp only[if_true];congr 1
   grind
  rw[this];cases kw l r s with
  | none=>rfl
  | some c=>simp[Bool.and_assoc]
def Ff(p q:Pt):kw DC p.cells q.cells=U (decide (p=q)):=by
 have:=Td p.id q.id [1] [I X p.n] [I X q.n] (by rw[p.hd,q.hd]);rw[p.hd]at this;have e:kw DC p.cells q.cells=kw (List.replicate 32 1 ++ [1]) (p.id.map dk ++ [I X p.n]) (q.id.map dk ++ [I X q.n]):=by
  congr 1
  kernel_rfl
 rw[e,this];have j:kw [1] [I X p.n] [I X q.n]=U (decide (p.n=q.n)):=by
  show(match U (p.n == q.n),U Y with | some a,U b=>U (a && b) | _,_=>O)=_
  grind
 rw[j];show U (decide (p.id=q.id) && decide (p.n=q.n))=_;congr 1;by_cases h:p=q
 ·grind
 ·have : ¬ (p.id=q.id/\p.n=q.n):=fun⟨a,c⟩=>h (Pt.ext' a c)
  grind
def DR(p q:Pt):oM (E b).tojo .eql 64 (.agg ⟨p.cells⟩) (.agg ⟨q.cells⟩)=U (.bool (decide (p=q))):=by
 have e:oM (E b).tojo .eql 64 (.agg ⟨p.cells⟩) (.agg ⟨q.cells⟩)=(kw DC p.cells q.cells).map .bool:=kR
 rw[e,Ff];rfl
def R8:∀ {l:List Pt} {i:Nat} {p:Pt},l[i]? = U p->∀ j,j < 33->(mJ l)[i*33+j]? = p.cells[j]?
 | q::l,0,p,h,j,C=>by
  simp at h;subst h;show(q.cells++mJ l)[0*33+j]? = _;rw[aN (by rw[Pt.len];omega)];simp
 | q::l,i+1,p,h,j,C=>by
  have ih:=R8 (l:=l) (i:=i) (p:=p) (by grind) j C;show(q.cells++mJ l)[(i+1)*33+j]? = _;rw[aL (by rw[Pt.len];omega),Pt.len,show(i+1)*33+j-33=i*33+j by omega];exact ih
def IF{b:Nat}{te ts:TypeId}{re rs:ir}(T:jF (E b).tojo te ts re rs)(hz:re.size=33){h:N}{v:V}{l:List Pt}(s:Sl h 33 v (L l) (mJ l)){i:Nat}{p:Pt}(P:l[i]? = U p) :
  ∃ bk off,J1 (E b).tojo ts v (I X (i:Int))=U (pO bk off)/\iy h bk off 33=U (.agg ⟨p.cells⟩):=by
 have hl:=(av.1 P).1;obtain⟨bk,off,q1,q2,q3,q4⟩:=mQ T hz s (k:=.i64) (i:=(i:Int)) iA iA;refine⟨bk,off,q2,?_⟩;rw[q4];congr 3;rw[bA];apply dq;intro j;by_cases C:j < 33
 ·rw[fX C,fq,R8 P j C]
 ·rw[cm (by simp;omega),cm (by rw[Pt.len];omega)]
structure PE where
 key:Pt
 val:V
 born:Nat
def PE.e(x:PE):MapEntry:=⟨.agg ⟨x.key.cells⟩,x.val,x.born⟩
def oH(p:Pt):List PE->Nat->Option (Nat × V)
 | [],_=>O
 | x::l,j=>if p=x.key then U (j,x.val)else oH p l (j+1)
def Ulj(p:Pt):∀ (l:List PE) (j:Nat),vN DC p.cells (l.map PE.e) j=U (oH p l j)
 | [],_=>rfl
 | x::l,j=>by
  have C:Ns x.e.key=U x.key.cells:=rfl;simp only[aH,vN,C,Ff,oH];by_cases h:p=x.key
  ·simp[h];rfl
  ·simp only[h,decide_false,if_false];exact Ulj p l (j+1)
def In(p:Pt)(l:List PE):wy uE (.agg ⟨p.cells⟩) (l.map PE.e)=U (oH p l 0):=by
 obtain⟨j,hd⟩:∃ j,uE.desc=.struct j:=⟨(match uE.desc with | .struct j=>j | _ => #[]),by kernel_rfl⟩;have P:uE.leaf=1::List.replicate 32 1:=kR
 have h0:=Ulj p l 0;rw[show DC=1::List.replicate 32 1 by kernel_rfl]at h0;have C:Nat.beq (L p.cells) (L (1::List.replicate 32 1))=Y:=by rw[p.len];rfl
 simp only[wy,hd,P,C];exact h0
def Sh{p:Pt}:∀ {l:List PE} {j:Nat},oH p l j=O ↔ ∀ x ∈ l,x.key≠p
 | [],_=>by simp[oH]
 | x::l,j=>by
  unfold oH;by_cases h:p=x.key
  ·simp[h]
  ·rw[if_neg h,Sh]
   grind
def Em{p:Pt}:∀ {l:List PE} {j i:Nat} {v:V},oH p l j=U (i,v)->∃ x,l[i-j]? = U x/\j<=i/\x.key=p/\x.val=v
 | [],_,_,_,h=>by cases h
 | x::l,j,i,v,h=>by
  unfold oH at h;by_cases C:p=x.key
  ·grind
  ·rw[if_neg C]at h;obtain⟨y,h1,P,T,h4⟩:=Em h
   grind
def BT(p:Pt):∀ v ∈ p.cells,∃ k z,v=I k z:=by
 intro v hv;rcases ah.1 hv with h | h
 ·obtain⟨n,_,rfl⟩:=am.1 h;exact⟨_,_,rfl⟩
 grind
def V7n:∀ {l:List V},(∀ v ∈ l,∃ k z,v=I k z)->lq l=Y/\l.all (·.oneCell')=Y
 | [],_=>⟨by simp[lq],rfl⟩
 | v::l,h=>by
  obtain⟨k,z,rfl⟩:=h v jA;obtain⟨h1,j⟩:=V7n (l:=l) fun w C=>h w (by simp[C]);exact⟨by simp[lq,flat,h1],by simpa[Value.oneCell']using j⟩
def Ir(p:Pt):flat (.agg ⟨p.cells⟩)=Y:=by
 obtain⟨h1,j⟩:=V7n (BT p);simp only[flat,iS,h1,j,Bool.and_self]
def U4m(p:Pt):Instr.sameBits 10000 (.agg ⟨p.cells⟩) (.agg ⟨p.cells⟩)=Y:=by
 show Instr.sameBits (9999+1) (.agg _) (.agg _)=Y;simp only[Instr.sameBits,beq_self_eq_true,dK,dx];have key:∀ (l:List V) (x:V × V),x ∈ l.zip l->x.1=x.2/\x.1 ∈ l:=by
  intro l;induction l with
  | nil=>simp
  | cons a l ih =>
   intro x j;simp only[List.zip_cons_cons,ar]at j
   grind
 rintro⟨a,c⟩ j;obtain⟨h1,C⟩:=key _ _ j;simp only at h1 C;subst h1;obtain⟨k,z,rfl⟩:=BT p a C;simp[Instr.sameBits]
def wU(p:Pt)(v:V):List PE->List PE
 | []=>[]
 | x::l=>if p=x.key then {x with val:=v}::l else x::wU p v l
def J8z{p:Pt}(v:V):∀ {l:List PE} {j i:Nat} {w:V},oH p l j=U (i,w)->(l.map PE.e).modify (i-j) (fun e=>{e with key:=.agg ⟨p.cells⟩,val:=v})=(wU p v l).map PE.e
 | [],_,_,_,h=>by cases h
 | x::l,j,i,w,h=>by
  unfold oH at h;unfold wU;by_cases C:p=x.key
  ·rw[if_pos C]at h ⊢;cases h;rw[dQ];simp[PE.e,C]
  ·rw[if_neg C]at h ⊢;obtain⟨y,h1,P,T,h4⟩:=Em h;rw[show i-j=(i-(j+1))+1 by omega,aH,List.modify_succ_cons,J8z v h,aH]
section
variable{b:Nat}{tm te:TypeId}{rm:ir}(he:(E b).tojo.ty.A tm=U rm)(hd:rm.desc=.map 64 te)
include he hd
theorem Uvl{h:N}{mb clk:Nat}{l:List PE}(P:h.A mb=U (.map ⟨l.map PE.e⟩ clk)){p:Pt}(C:oH p l 0=O)(v:V) :
  ta (E b).tojo tm (.map (U mb)) (.agg ⟨p.cells⟩) v h=U (h.set mb (U (.map ⟨(l ++ [(⟨p,v,clk⟩:PE)]).map PE.e⟩ (clk+1)))):=by
 have j:=In p l;rw[C]at j;simp only[ta,he,hd,P,xA,Ir,j];simp[PE.e]
theorem Ua7{h:N}{mb clk:Nat}{l:List PE}(hm:h.A mb=U (.map ⟨l.map PE.e⟩ clk)){p:Pt}{i:Nat}{w:V}(j:oH p l 0=U (i,w))(v:V) :
  ta (E b).tojo tm (.map (U mb)) (.agg ⟨p.cells⟩) v h=U (h.set mb (U (.map ⟨(wU p v l).map PE.e⟩ clk))):=by
 have C:=In p l;obtain⟨x,hx, -,hk, -⟩:=Em j;rw[dG]at hx;have P:(((⟨l.map PE.e⟩:Array MapEntry)[i]?).map (·.key)).getD (.agg ⟨p.cells⟩)=.agg ⟨p.cells⟩:=by
  have : (⟨l.map PE.e⟩:Array MapEntry)[i]? = U x.e:=by
   grind
  rw[this];simp[PE.e,hk]
 have T:=J8z v j;rw[dG]at T;rw[j]at C;simp only[ta,he,hd,hm,xA,Ir,C,P,U4m]
 grind
theorem U82{h:N}{mb clk:Nat}{l:List PE}(T:h.A mb=U (.map ⟨l.map PE.e⟩ clk)){C:ir}(j:(E b).tojo.ty.A te=U C)(p:Pt) :
  qN (E b).tojo tm (.map (U mb)) (.agg ⟨p.cells⟩) J h=U (match oH p l 0 with | some q=>q.2 | none=>C.zero) /\
  qN (E b).tojo tm (.map (U mb)) (.agg ⟨p.cells⟩) Y h=U (match oH p l 0 with | some q => .tuple #[q.2,.bool Y] | none => .tuple #[C.zero,.bool J]):=by
 have P:=In p l;constructor
 ·simp only[qN,he,hd,xA,j,rG,T,P]
  grind
 ·simp only[qN,he,hd,xA,j,rG,T,P]
  grind
theorem U5h{h:N}{mb clk:Nat}{j:Array MapEntry}(C:h.A mb=U (.map j clk)):iC (E b).tojo tm (.map (U mb)) h=U (I X j.size):=by
 simp only[iC,he,hd,C]
theorem Um2{h:N}:yO (E b).tojo tm O h=U (.map (U h.Q),h.push (.map #[] 0)):=by
 simp only[yO,he,hd]
end
structure qP where
 pt:Pt
 wit:List (List Int)
structure jx where
 value:Int
 script:List Int
structure mL where
 ins:List qP
 outs:List jx
 lock:Int
def nY(n j C:Int):Bool:=decide (j<=n/\n<=C)
def qI:List jx->Int->Bool
 | [],_=>Y
 | o::l,left=>if o.value < 1∨left < o.value then J else qI l (left-o.value)
def Aq(x:qP):Bool := !nY x.pt.n 0 8
def wC(o:jx):Bool:=decide (256 < L o.script)
def tF(x:qP):Bool:=decide (16 < L x.wit) || x.wit.any fun w=>decide (64 < L w)
def pB(t:mL):Int :=
 if !nY (L t.ins) 1 8 || !nY (L t.outs) 1 8 then 3
 else if t.ins.any Aq || !nY t.lock 0 1073741824 then 1
 else if !decide (t.ins.map (·.pt)).Nodup then 13
 else if !qI t.outs 1125899906842624 then 15
 else if t.outs.any wC || t.ins.any tF then 5
 else 0
def qV:Nat->Nat->List Int
 | 0,_=>[]
 | k+1,n=>((n % 256:Nat):Int)::qV k (n / 256)
def kJ(n:Nat):List Int:=if n < 253 then [(n:Int)]else if n < 65536 then 253::qV 2 n else if n < 4294967296 then 254::qV 4 n else 255::qV 8 n
def DN:∀ k n,L (qV k n)=k
 | 0,_=>rfl
 | k+1,n=>by simp[qV,DN k]
def G0:∀ k n,∀ z ∈ qV k n,0<=z/\z < 256
 | 0,_,z,h=>by cases h
 | k+1,n,z,h=>by
  rcases ar.1 h with rfl | h
  ·omega
  ·exact G0 k _ z h
def uw:L (kJ n)<=9:=by
 unfold kJ;split
 ·simp
 ·split
  ·simp[DN]
  ·split <;> simp[DN]
def Cm:Bytes (kJ n):=by
 unfold kJ Bytes;intro z j;split at j
 ·grind
 ·split at j
  ·rcases ar.1 j with rfl | j
   ·omega
   ·exact G0 _ _ z j
  ·split at j
   ·rcases ar.1 j with rfl | j
    ·omega
    ·exact G0 _ _ z j
   ·rcases ar.1 j with rfl | j
    ·omega
    ·exact G0 _ _ z j
def sK(x:qP):List Int:=x.pt.id.map Int.ofNat++kJ x.pt.n.toNat
def xD(l:List Int):List Int:=kJ (L l)++l
def sZ(o:jx):List Int:=kJ o.value.toNat++xD o.script
def ui(t:mL):List Int:=kJ (L t.ins)++t.ins.flatMap sK++(kJ (L t.outs)++t.outs.flatMap sZ)++kJ t.lock.toNat
structure g_ where
 pt:Pt
 wv:V
 its:List (V × List Int)
def g_.cells(x:g_):List V:=x.pt.cells ++ [x.wv]
def g_.p(x:g_):qP:=⟨x.pt,x.its.map (·.2)⟩
structure bN where
 value:Int
 sv:V
 script:List Int
def bN.cells(o:bN):List V:=[I X o.value,o.sv]
def bN.p(o:bN):jx:=⟨o.value,o.script⟩
def my(l:List g_):List V:=l.flatMap g_.cells
def qK(l:List bN):List V:=l.flatMap bN.cells
def g_.len(x:g_):L x.cells=34:=by simp[g_.cells,Pt.len]
def bN.len(x:bN):L x.cells=2:=rfl
def Lm(l:List g_):L (my l)=L l*34:=by
 induction l with
 | nil=>rfl
 | cons p l ih=>simp[my,g_.len]at ih ⊢;omega
structure ma (h:N) (x:g_):Prop where
 w:Sl h 1 x.wv (L x.its) (x.its.map (·.1))
 i:km h x.its
 n:L x.its < 5864062014805
 l:∀ p ∈ x.its,L p.2 < 140737488355328
structure mh (h:N) (x:bN):Prop where
 s:SB h x.sv x.script
 b:Bytes x.script
 l:L x.script < 140737488355328
def ma.R{x:g_}(a:ma h x)(o:a_ h h'):ma h' x:=⟨a.w.R o,a.i.R o,a.n,a.l⟩
def mh.R{x:bN}(a:mh h x)(o:a_ h h'):mh h' x:=⟨a.s.R o,a.b,a.l⟩
structure Ins (h:N) (v:V) (l:List g_):Prop where
 s:Sl h 34 v (L l) (my l)
 n:L l < 2199023255552
 a:∀ x ∈ l,ma h x
structure jg (h:N) (v:V) (l:List bN):Prop where
 s:Sl h 2 v (L l) (qK l)
 n:L l < 4398046511104
 a:∀ x ∈ l,mh h x
def Ins.R{v:V}{l:List g_}(a:Ins h v l)(o:a_ h h'):Ins h' v l:=⟨a.s.R o,a.n,fun x j=>(a.a x j).R o⟩
def jg.R{v:V}{l:List bN}(a:jg h v l)(o:a_ h h'):jg h' v l:=⟨a.s.R o,a.n,fun x j=>(a.a x j).R o⟩
def iz(iv ov:V)(lock:Int):List V:=[iv,ov,I X lock]
def iX(ins:List g_)(outs:List bN)(lock:Int):mL:=⟨ins.map g_.p,outs.map bN.p,lock⟩
def AS{A:Type}{f:A->List V}{z:Nat}(j:∀ x,L (f x)=z):∀ {l:List A} {i:Nat} {x:A},l[i]? = U x->((l.flatMap f).drop (i*z)).take z=f x
 | y::l,0,x,h=>by
  grind
 | y::l,i+1,x,h=>by
  rw[List.flatMap_cons,show(i+1)*z=z+i*z by grind,<- bU];have : (f y++l.flatMap f).drop z=l.flatMap f:=by
   grind
  rw[this];exact AS j (by grind)
def SD{A:Type}{f:A->List V}{z:Nat}(C:∀ x,L (f x)=z){l:List A}{i:Nat}{x:A}(h:l[i]? = U x){j:Nat}(P:j < z):(l.flatMap f)[i*z+j]? = (f x)[j]? := by
 rw[<- AS C h,fX P,fq]
def qF{b:Nat}{te ts:TypeId}{re rs:ir}(T:jF (E b).tojo te ts re rs)(hz:re.size=34){h:N}{v:V}{l:List g_}(s:Sl h 34 v (L l) (my l)){i:Nat}{x:g_}(C:l[i]? = U x) :
  ∃ bk off,J7 v=U bk/\J1 (E b).tojo ts v (I X (i:Int))=U (pO bk off)/\iy h bk off 34=U (.agg ⟨x.cells⟩)/\(∀ j,j < 34->Zq h bk (off+j)=x.cells[j]?):=by
 have hl:=(av.1 C).1;obtain⟨bk,off,q1,q2,q3,q4⟩:=mQ T hz s (k:=.i64) (i:=(i:Int)) iA iA;refine⟨bk,off,q1,q2,?_,fun j P => ?_⟩
 ·rw[q4,bA,my,AS g_.len C]
 ·rw[q3 j P,bA,my,SD g_.len C P]
def qO{b:Nat}{te ts:TypeId}{re rs:ir}(T:jF (E b).tojo te ts re rs)(hz:re.size=2){h:N}{v:V}{l:List bN}(s:Sl h 2 v (L l) (qK l)){i:Nat}{x:bN}(C:l[i]? = U x) :
  ∃ bk off,J7 v=U bk/\J1 (E b).tojo ts v (I X (i:Int))=U (pO bk off)/\iy h bk off 2=U (.agg ⟨x.cells⟩)/\Zq h bk off=U (I X x.value)/\Zq h bk (off+1)=U x.sv:=by
 have hl:=(av.1 C).1;obtain⟨bk,off,q1,q2,q3,q4⟩:=mQ T hz s (k:=.i64) (i:=(i:Int)) iA iA;have q5:∀ j,j < 2->Zq h bk (off+j)=x.cells[j]? := fun j P=>by rw[q3 j P,bA,qK,SD bN.len C P]
 refine⟨bk,off,q1,q2,?_,?_,?_⟩
 ·rw[q4,bA,qK,AS bN.len C]
 ·have:=q5 0 iA;simpa[bN.cells]using this
 ·have:=q5 1 iA;simpa[bN.cells]using this
def B5(x:g_):x.cells.take 33=x.pt.cells:=by
 rw[g_.cells,bm (by rw[Pt.len];omega),aj (by rw[Pt.len];omega)]
def KU{A:Type}{q:A->Bool}{l:List A}{i:Nat}{x:A}(j:l[i]? = U x)(h0:(l.take i).any q=J):(l.take (i+1)).any q=q x:=by
 rw[aT,j];simp[h0]
def AH{A:Type}{q:A->Bool}{l:List A}{i:Nat}{x:A}(C:l[i]? = U x)(j:q x=Y):l.any q=Y:=List.any_eq_true.2 ⟨x,ae C,j⟩
def Wcb(v j:V)(l:List g_)(q:g_->Bool)(h:N)(k:Nat)(s:St):Prop:=∃ (t:Tr V) (h1:N) (i:Nat),s=⟨⟨19,t⟩,[],h1⟩/\t.A 0=U v/\t.A 1=U j/\t.A 7=U (I X (L l:Int))/\t.A 8=U (I X (i:Int))/\i<=L l/\k=L l-i/\(l.take i).any q=J/\a_ h h1
attribute [local simp] Qw p6 p7 X0 p_ p9 p5 qd qc Q6 Qt Yg Y6 jm Qg iD Ab.g0 gv gs Q8 Qd iH kH lr Qh Tr.H St.put Tm.put flat iS Y5 Qm Qp Qn Qo Qk Ql Qj Qq Qi Q7 Q9 pZ pX pW pY qn qk qj qf qg qi qq Qz.putAll Qr Q0 Qa Wa ku V0 Yk Jn Yo Nat.testBit Y0 loadAt Ab.runT Ym Yb Yh
section
attribute [local simp] Qd2
def U5l{v:V}{l:List g_}{f:FuncId}{F:Func}(hF:(E b).fn.A f=U F){cap:List V}(s:Sl h 34 v (L l) (my l))(hn:L l < 2199023255552)(q:g_->Bool)(hf:∀ h1,a_ h h1->∀ x ∈ l,∀ K,(∀ T,a_ h1 T->K (.ret (.bool (q x))) T)->FK b f (.agg ⟨x.cells⟩::cap) h1 K)(K:KP)(hk:∀ (i:Int) h',a_ h h'->(0<=i↔l.any q=Y)->K (.ret (I X i)) h') :
  FK b 116 [v,.func (.func f) #[] cap.toArray] h K:=by
 refine ip b (Qd2 b) Xha rfl ?_;have len:∀ P,iC (E b).tojo 45 v P=U (I X (L l:Int)):=fun P=>iT (kK b) s;simp[Df,FQ,lN,wh,yi,yx,ym,yk,FV,len];refine iV (Wcb v (.func (.func f) #[] cap.toArray) l q h) (L l) ⟨_,h,0,rfl,jA,jA,jA,jA,iA,rfl,jA,a_.refl _⟩ ?_;rintro k s' ⟨t,h1,i,rfl,t0,t1,t7,t8,hi,rfl,hc,j⟩ _;by_cases hl:i < L l
 ·have C:(i:Int) < (L l:Int):=iA
  obtain⟨x,P⟩:∃ x,l[i]? = U x:=⟨_,ac hl⟩;have hw:=wS (i:=i) iA;obtain⟨bk,off, -,x1,x2, -⟩:=qF (b:=b) (kK b) nI (s.R j) P;simp[Df,FQ,lN,wh,yi,yx,ym,yk,FV,t0,t1,t7,t8,C,x1,x2,hF];refine hf h1 j x (ae P) _ fun T a2 => ?_;cases hq:q x with
  | true =>
   simp[Df,FQ,lN,wh,yi,yx,ym,yk,FV,t0,t1,t7,t8];exact hk i T (j.trans a2) ⟨fun _=>AH P hq,fun _=>by omega⟩
  | false =>
   simp[Df,FQ,lN,wh,yi,yx,ym,yk,FV,t0,t1,t7,t8,hw];exact⟨L l-(i+1),iA,_,T,i+1,rfl,by simp[t0],by simp[t1],by simp[t7],jA,iA,rfl,by rw[KU P hc,hq],j.trans a2⟩
 ·have C:¬ (i:Int) < (L l:Int):=iA
  have : i=L l:=iA
  subst this;rw[bH]at hc;simp[Df,FQ,lN,wh,yi,yx,ym,yk,FV,t0,t1,t7,t8]
  grind
def Vpm{v:V}{l:List g_}{f:FuncId}{F:Func}(C:(E b).fn.A f=U F){cap:List V}(s:Sl h 34 v (L l) (my l))(T:L l < 2199023255552)(q:g_->Bool)(P:∀ h1,a_ h h1->∀ x ∈ l,∀ K,(∀ j,a_ h1 j->K (.ret (.bool (q x))) j)->FK b f (.agg ⟨x.cells⟩::cap) h1 K)(K:KP)(hk:∀ h',a_ h h'->K (.ret (.bool (l.any q))) h') :
  FK b 78 [v,.func (.func f) #[] cap.toArray] h K:=by
 refine ip b (J2 b) Xck rfl ?_;simp[PV,Qzr,J2,ki];refine U5l b C s T q P _ fun i h1 a1 hi => ?_;simp[PV,Qzr,J2,ki]
 grind
end
def U7m(v j:V)(l:List bN)(q:bN->Bool)(h:N)(k:Nat)(s:St):Prop:=∃ (t:Tr V) (h1:N) (i:Nat),s=⟨⟨19,t⟩,[],h1⟩/\t.A 0=U v/\t.A 1=U j/\t.A 7=U (I X (L l:Int))/\t.A 8=U (I X (i:Int))/\i<=L l/\k=L l-i/\(l.take i).any q=J/\a_ h h1
section
attribute [local simp] Qc7
def Uxq{v:V}{l:List bN}{f:FuncId}{F:Func}(hF:(E b).fn.A f=U F){cap:List V}(s:Sl h 2 v (L l) (qK l))(hn:L l < 4398046511104)(q:bN->Bool)(hf:∀ h1,a_ h h1->∀ x ∈ l,∀ K,(∀ T,a_ h1 T->K (.ret (.bool (q x))) T)->FK b f (.agg ⟨x.cells⟩::cap) h1 K)(K:KP)(hk:∀ (i:Int) h',a_ h h'->(0<=i↔l.any q=Y)->K (.ret (I X i)) h') :
  FK b 117 [v,.func (.func f) #[] cap.toArray] h K:=by
 refine ip b (Qc7 b) Xe9 rfl ?_;have len:∀ P,iC (E b).tojo 22 v P=U (I X (L l:Int)):=fun P=>iT (kD b) s;simp[Dj,FT,lN,wh,yi,rc,ym,yk,FY,len];refine iV (U7m v (.func (.func f) #[] cap.toArray) l q h) (L l) ⟨_,h,0,rfl,jA,jA,jA,jA,iA,rfl,jA,a_.refl _⟩ ?_;rintro k s' ⟨t,h1,i,rfl,t0,t1,t7,t8,hi,rfl,hc,j⟩ _;by_cases hl:i < L l
 ·have C:(i:Int) < (L l:Int):=iA
  obtain⟨x,P⟩:∃ x,l[i]? = U x:=⟨_,ac hl⟩;have hw:=wS (i:=i) iA;obtain⟨bk,off, -,x1,x2, -⟩:=qO (b:=b) (kD b) mR (s.R j) P;simp[Dj,FT,lN,wh,yi,rc,ym,yk,FY,t0,t1,t7,t8,C,x1,x2,hF];refine hf h1 j x (ae P) _ fun T a2 => ?_;cases hq:q x with
  | true =>
   simp[Dj,FT,lN,wh,yi,rc,ym,yk,FY,t0,t1,t7,t8];exact hk i T (j.trans a2) ⟨fun _=>AH P hq,fun _=>by omega⟩
  | false =>
   simp[Dj,FT,lN,wh,yi,rc,ym,yk,FY,t0,t1,t7,t8,hw];exact⟨L l-(i+1),iA,_,T,i+1,rfl,by simp[t0],by simp[t1],by simp[t7],jA,iA,rfl,by rw[KU P hc,hq],j.trans a2⟩
 ·have C:¬ (i:Int) < (L l:Int):=iA
  have : i=L l:=iA
  subst this;rw[bH]at hc;simp[Dj,FT,lN,wh,yi,rc,ym,yk,FY,t0,t1,t7,t8]
  grind
def Ui1{v:V}{l:List bN}{f:FuncId}{F:Func}(C:(E b).fn.A f=U F){cap:List V}(s:Sl h 2 v (L l) (qK l))(T:L l < 4398046511104)(q:bN->Bool)(P:∀ h1,a_ h h1->∀ x ∈ l,∀ K,(∀ j,a_ h1 j->K (.ret (.bool (q x))) j)->FK b f (.agg ⟨x.cells⟩::cap) h1 K)(K:KP)(hk:∀ h',a_ h h'->K (.ret (.bool (l.any q))) h') :
  FK b 81 [v,.func (.func f) #[] cap.toArray] h K:=by
 refine ip b (Zx b) Xao rfl ?_;simp[P',Qy5,Zx,ki];refine Uxq b C s T q P _ fun i h1 a1 hi => ?_;simp[P',Qy5,Zx,ki]
 grind
end
def Wcv(v j:V)(l:List (V × List Int))(q:(V × List Int)->Bool)(h:N)(k:Nat)(s:St):Prop:=∃ (t:Tr V) (h1:N) (i:Nat),s=⟨⟨19,t⟩,[],h1⟩/\t.A 0=U v/\t.A 1=U j/\t.A 7=U (I X (L l:Int))/\t.A 8=U (I X (i:Int))/\i<=L l/\k=L l-i/\(l.take i).any q=J/\a_ h h1
section
attribute [local simp] Qej
def U5f{v:V}{l:List (V × List Int)}{f:FuncId}{F:Func}(hF:(E b).fn.A f=U F){cap:List V}(s:Sl h 1 v (L l) (l.map (·.1)))(hn:L l < 5864062014805)(q:(V × List Int)->Bool)(hf:∀ h1,a_ h h1->∀ x ∈ l,∀ K,(∀ T,a_ h1 T->K (.ret (.bool (q x))) T)->FK b f (x.1::cap) h1 K)(K:KP)(hk:∀ (i:Int) h',a_ h h'->(0<=i↔l.any q=Y)->K (.ret (I X i)) h') :
  FK b 115 [v,.func (.func f) #[] cap.toArray] h K:=by
 refine ip b (Qej b) Xlw rfl ?_;have len:∀ P,iC (E b).tojo 94 v P=U (I X (L l:Int)):=fun P=>iT (kB b) s;simp[Db,FO,Z8,len];refine iV (Wcv v (.func (.func f) #[] cap.toArray) l q h) (L l) ⟨_,h,0,rfl,jA,jA,jA,jA,iA,rfl,jA,a_.refl _⟩ ?_;rintro k s' ⟨t,h1,i,rfl,t0,t1,t7,t8,hi,rfl,hc,j⟩ _;by_cases hl:i < L l
 ·have C:(i:Int) < (L l:Int):=iA
  obtain⟨x,P⟩:∃ x,l[i]? = U x:=⟨_,ac hl⟩;have hw:=wS (i:=i) iA;obtain⟨bk,off, -,x1,x3, -⟩:=mQ (kB b) oT (s.R j) (k:=.i64) (i:=(i:Int)) iA iA;have x2:Zq h1 bk off=U x.1:=by
   grind
  simp[Db,FO,Z8,t0,t1,t7,t8,C,x1,x2,hF];refine hf h1 j x (ae P) _ fun T a2 => ?_;cases hq:q x with
  | true =>
   simp[Db,FO,Z8,t0,t1,t7,t8];exact hk i T (j.trans a2) ⟨fun _=>AH P hq,fun _=>by omega⟩
  | false =>
   simp[Db,FO,Z8,t0,t1,t7,t8,hw];exact⟨L l-(i+1),iA,_,T,i+1,rfl,by simp[t0],by simp[t1],by simp[t7],jA,iA,rfl,by rw[KU P hc,hq],j.trans a2⟩
 ·have C:¬ (i:Int) < (L l:Int):=iA
  have : i=L l:=iA
  subst this;rw[bH]at hc;simp[Db,FO,Z8,t0,t1,t7,t8]
  grind
def Upg{v:V}{l:List (V × List Int)}{f:FuncId}{F:Func}(C:(E b).fn.A f=U F){cap:List V}(s:Sl h 1 v (L l) (l.map (·.1)))(T:L l < 5864062014805)(q:(V × List Int)->Bool)(P:∀ h1,a_ h h1->∀ x ∈ l,∀ K,(∀ j,a_ h1 j->K (.ret (.bool (q x))) j)->FK b f (x.1::cap) h1 K)(K:KP)(hk:∀ h',a_ h h'->K (.ret (.bool (l.any q))) h') :
  FK b 76 [v,.func (.func f) #[] cap.toArray] h K:=by
 refine ip b (Dd b) Xio rfl ?_;simp[PM,Q3g,Dd];refine U5f b C s T q P _ fun i h1 a1 hi => ?_;simp[PM,Q3g,Dd]
 grind
end
section
def GV(n lo hi:Int)(h:N)(K:KP)(C:K (.ret (.bool (nY n lo hi))) h):FK b 73 [I X n,I X lo,I X hi] h K:=by
 refine ip b (BI b) Vd9 rfl ?_;unfold nY at C;by_cases h1:lo<=n
 ·by_cases j:n<=hi
  ·simp[Hn,LQ,BI,Mw,MC,h1,j]
   grind
  ·simp[Hn,LQ,BI,Mw,MC,h1,j]
   grind
 ·simp[Hn,LQ,BI,Mw,MC,h1]
  grind
def H_(x:g_):x.cells[32]? = U (I X x.pt.n):=by
 have : (x.pt.id.map dk++([I X x.pt.n] ++ [x.wv]))[32]? = U (I X x.pt.n):=by
  rw[aL (by simp[x.pt.hd])];simp[x.pt.hd]
 simpa[g_.cells,Pt.cells]using this
def Bu(x:g_):x.cells[33]? = U x.wv:=by
 rw[g_.cells,aL (by rw[Pt.len];omega),Pt.len];rfl
def NU(x:g_)(h:N):∃ h',h'=h.push (S Y 1 x.cells)/\nP (.agg ⟨x.cells⟩) h=U (pO h.Q 0,h')/\a_ h h'/\h'.Q=h.Q+1/\h'.A h.Q=U (S Y 1 x.cells)/\Zq h' h.Q 32=U (I X x.pt.n)/\Zq h' h.Q 33=U x.wv:=by
 have g:(h.push (S Y 1 x.cells)).A h.Q=U (S Y 1 x.cells):=by rw[N.F,if_pos rfl]
 exact⟨_,rfl,tB (by rw[x.len];omega),a_.push _ _,rfl,g,by rw[Z2 g,H_],by rw[Z2 g,Bu]⟩
def U93(x:g_)(h:N)(K:KP)(hk:∀ h',a_ h h'->K (.ret (.bool (Aq x.p))) h'):FK b 72 [.agg ⟨x.cells⟩] h K:=by
 refine ip b (Hh b) Jqz rfl ?_;obtain⟨C, -,T,P, -, -,j, -⟩:=NU x h;simp[MD,UA,Hh,Jt,vu,V0,BI,T,j];refine GV b x.pt.n 0 8 C _ ?_;simp[MD,UA,Hh,Jt,vu,V0,BI];exact hk C P
def U69{v:V}{xs:List Int}{h:N}(s:SB h v xs)(K:KP)(C:K (.ret (.bool (decide (64 < L xs)))) h):FK b 74 [v] h K:=by
 refine ip b (LA b) J4t rfl ?_;have len:=fun j=>j_ (b:=b) (h1:=j) s;simp[Tw,Vv0,LA,len];have e:decide ((64:Int) < (L xs:Int))=decide (64 < L xs):=by grind
 grind
def U5i{x:g_}{h:N}(a:ma h x){C:Nat}{z:Nat}(gC:h.A C=U (S Y z [.func (.func 74) #[] #[]]))(K:KP)(hk:∀ h',a_ h h'->K (.ret (.bool (tF x.p))) h') :
  FK b 75 [.agg ⟨x.cells⟩,pO C 0] h K:=by
 refine ip b (EA b) Jw5 rfl ?_;obtain⟨hA, -,bx,P, -, -, -,T⟩:=NU x h;have len:∀ hx,iC (E b).tojo 94 x.wv hx=U (I X (L x.its:Int)):=fun hx=>iT (kB b) a.w;have cC:Zq hA C 0=U (.func (.func 74) #[] #[]):=by rw[Z2 (P.A gC)];rfl
 unfold tF at hk;by_cases hl:16 < L x.its
 ·have j:(16:Int) < (L x.its:Int):=iA
  simp[HA,LD,EA,Wc,U1,NZ,Dd,MS,LY,bx,T,len,j];have:=hk hA P;simpa[g_.p,hl]using this
 ·have j:¬ (16:Int) < (L x.its:Int):=iA
  simp[HA,LD,EA,Wc,U1,NZ,Dd,MS,LY,bx,T,len,j,cC];refine Upg b (LA b) (cap:=[]) (a.w.R P) a.n (fun p=>decide (64 < L p.2)) (fun h1 a1 p hp K hk=>U69 b (((a.i.R P).R a1) p hp).1 K (hk h1 (a_.refl _))) _ fun h1 a1 => ?_;simp[HA,LD,EA,Wc,U1,NZ,Dd,MS,LY];have:=hk h1 (P.trans a1);have e:(x.p.wit.any fun w=>decide (64 < L w))=x.its.any fun p=>decide (64 < L p.2):=by
   simp[g_.p,List.any_map];rfl
  rw[e]at this;simpa[g_.p,hl]using this
def U4g{o:bN}{h:N}(a:mh h o)(K:KP)(hk:∀ h',a_ h h'->K (.ret (.bool (wC o.p))) h'):FK b 77 [.agg ⟨o.cells⟩] h K:=by
 refine ip b (Lz b) J8v rfl ?_;obtain⟨hA,P,aA,T⟩:=kQ h o.cells;have j:=kE P;have C:Zq hA h.Q 1=U o.sv:=by rw[Z2 T];rfl
 have len:=fun hx=>j_ (b:=b) (h1:=hx) a.s;simp[VJ,Vt7,Lz,J0,Z8,j,C,len];have e:decide ((256:Int) < (L o.script:Int))=wC o.p:=by
  show _=decide (256 < L o.script)
  grind
 grind
end
def VLI(v:V)(l:List bN)(h:N)(k:Nat)(s:St):Prop:=∃ (t:Tr V) (h1:N) (i:Nat) (left:Int),s=⟨⟨26,t⟩,[],h1⟩/\t.A 3=U (I X left)/\t.A 6=U v/\t.A 7=U (I X (L l:Int))/\t.A 8=U (I X (i:Int))/\i<=L l/\k=L l-i/\a_ h h1/\0<=left/\left<=1125899906842624/\qI (l.map bN.p) 1125899906842624=qI ((l.drop i).map bN.p) left
section
attribute [local simp] XX Xry QT qu Xh6 wh rc qL Jy Xcz Q97 qu 
def Utw{v:V}{l:List bN}(s:jg h v l)(K:KP)(hk:∀ h',a_ h h'->K (.ret (.bool (qI (l.map bN.p) 1125899906842624))) h'):FK b 80 [v] h K:=by
 refine ip b (QT b) Vdv rfl ?_;have hn:=s.n;have len:∀ hx,iC (E b).tojo 22 v hx=U (I X (L l:Int)):=fun hx=>iT (kD b) s.s;simp[jk,len];refine iV (VLI v l h) (L l) ⟨_,h,0,1125899906842624,rfl,jA,jA,jA,jA,iA,rfl,a_.refl _,iA,iA,jA⟩ ?_;rintro k s' ⟨t,h1,i,left,rfl,t3,t6,t7,t8,hi,rfl,C,l0,l1,hF⟩ _;by_cases hl:i < L l
 ·have j:(i:Int) < (L l:Int):=iA
  obtain⟨x,hx⟩:∃ x,l[i]? = U x:=⟨_,ac hl⟩;have hd:l.drop i=x::l.drop (i+1):=by
   rw[bh hl]
   grind
  rw[hd]at hF;simp only[aH,qI]at hF;have hw:=wS (i:=i) iA;obtain⟨bk,off, -,x1,x2, -⟩:=qO (b:=b) (kD b) mR (s.s.R C) hx;obtain⟨zz,ez⟩:∃ zz:List V,zz=[I X 0,M O 0 0]:=⟨_,rfl⟩;obtain⟨hA,eA⟩:∃ hA,hA=h1.push (S Y 1 zz):=⟨_,rfl⟩;have hc:jd (E b).tojo 39 h1=U (pO h1.Q 0,hA):=by rw[eA,ez];exact jk b h1
  have gA:hA.A h1.Q=U (S Y 1 zz):=by rw[eA,N.F,if_pos rfl]
  have lA:=N.D gA;obtain⟨T,eB⟩:∃ T,T=hA.set h1.Q (U (S Y 1 x.cells)):=⟨_,rfl⟩;have st:iN hA h1.Q 0 x.cells=U T:=by
   rw[jQ gA (by rw[ez,bN.len];simp),eB];congr 4;rw[ez,bN.len];simp
  have gB:T.A h1.Q=U (S Y 1 x.cells):=by rw[eB,gY lA,if_pos rfl]
  have c0:Zq T h1.Q 0=U (I X x.value):=by rw[Z2 gB];rfl
  have aB:a_ h T:=by rw[eB,eA];exact(C.push' _).set _ C.1 (by grind)
  have xl:L x.cells=2:=rfl;by_cases P:x.value < 1
  ·simp[jk,t3,t6,t7,t8,j,x1,x2,-jk,hc,xl,st,c0,P];have:=hk T aB;rw[hF]at this;simpa[bN.p,P]using this
  ·by_cases h2:left < x.value
   ·simp[jk,t3,t6,t7,t8,j,x1,x2,-jk,hc,xl,st,c0,P,h2];have:=hk T aB;rw[hF]at this;simpa[bN.p,P,h2]using this
   ·have hb:IntKind.i64.wrap (left-x.value)=left-x.value:=Jr iA iA;simp[jk,t3,t6,t7,t8,j,x1,x2,-jk,hc,xl,st,c0,P,h2,hw,hb];refine⟨L l-(i+1),iA,_,T,i+1,left-x.value,rfl,jA,by simp[t6],by simp[t7],jA,iA,rfl,aB,iA,iA,?_⟩;rw[hF,if_neg (by simp only[bN.p];omega)];rfl
 ·have j:¬ (i:Int) < (L l:Int):=iA
  have : i=L l:=iA
  subst this;simp[jk,t3,t6,t7,t8];have:=hk h1 C;rw[hF,cL]at this;exact this
end
def Vph{A:Type}{l:List A}{p:A}:(l ++ [p]).Nodup↔l.Nodup/\p ∉ l:=by
 grind
def PTI(v:V)(l:List g_)(h:N)(mb:Nat)(k:Nat)(s:St):Prop:=∃ (t:Tr V) (h1:N) (i:Nat) (j:List PE) (clk:Nat),s=⟨⟨22,t⟩,[],h1⟩/\t.A 0=U v/\t.A 3=U (.map (U mb))/\t.A 7=U v/\t.A 8=U (I X (L l:Int))/\t.A 9=U (I X (i:Int))/\i<=L l/\k=L l-i/\a_ h h1 /\
 h1.A mb=U (.map ⟨j.map PE.e⟩ clk)/\(∀ p,p ∈ j.map (·.key)↔p ∈ (l.take i).map (·.pt))/\(L j=i/\((l.take i).map (·.pt)).Nodup∨L j < i/\¬ ((l.take i).map (·.pt)).Nodup)
section
attribute [local simp] WK Zgr QO qu yx zI Jt ph Ya
def Uv9{v:V}{l:List g_}(s:Ins h v l)(K:KP)(hk:∀ h',a_ h h'->K (.ret (.bool (decide (l.map (·.pt)).Nodup))) h'):FK b 79 [v] h K:=by
 refine ip b (QO b) Vl3 rfl ?_;have hn:=s.n;have len:∀ hx,iC (E b).tojo 45 v hx=U (I X (L l:Int)):=fun hx=>iT (kK b) s.s;obtain⟨rm,me,md⟩:∃ rm,(E b).tojo.ty.A 199=U rm/\rm.desc=.map 64 3:=⟨((E b).tojo.ty.A 199).getD ⟨.invalid,0,0,.bool J,[]⟩,by kernel_rfl,by kernel_rfl⟩;obtain⟨hM,eM⟩:∃ hM,hM=h.push (.map #[] 0):=⟨_,rfl⟩;have e2:=jG eM;have gM:hM.A h.Q=U (.map ⟨([]:List PE).map PE.e⟩ 0):=by rw[eM,N.F,if_pos rfl];rfl
 have mk:yO (E b).tojo 199 O h=U (.map (U h.Q),hM):=by rw[eM];exact Um2 (b:=b) me md
 simp[lG,len,mk];refine iV (PTI v l h h.Q) (L l) ⟨_,hM,0,[],0,rfl,jA,jA,jA,jA,jA,iA,rfl,e2,gM,jA,.inl ⟨rfl,jA⟩⟩ ?_;rintro k s' ⟨t,h1,i,C,clk,rfl,t0,t3,t7,t8,t9,hi,rfl,P,g1,hr,e1⟩ _;by_cases hq:i < L l
 ·have hb:(i:Int) < (L l:Int):=iA
  obtain⟨x,hx⟩:∃ x,l[i]? = U x:=⟨_,ac hq⟩;have hw:=wS (i:=i) iA;obtain⟨bk,off, -,x1,x2, -⟩:=qF (b:=b) (kK b) nI (s.s.R P) hx;obtain⟨zz,ez⟩:∃ zz:List V,zz=tS.zero.cells.toList:=⟨_,rfl⟩;have zl:L zz=34:=by rw[ez];kernel_rfl
  obtain⟨hA,eA⟩:∃ hA,hA=h1.push (S Y 1 zz):=⟨_,rfl⟩;have M':jd (E b).tojo 96 h1=U (pO h1.Q 0,hA):=by rw[eA,ez];simp only[jd,yZ]
  have gA:hA.A h1.Q=U (S Y 1 zz):=by rw[eA,N.F,if_pos rfl]
  have lA:=N.D gA;have lM:h.Q < h1.Q:=N.D g1;obtain⟨hB,eB⟩:∃ hB,hB=hA.set h1.Q (U (S Y 1 x.cells)):=⟨_,rfl⟩;have st:iN hA h1.Q 0 x.cells=U hB:=by
   rw[jQ gA (by rw[zl,g_.len];omega),eB];congr 4;rw[g_.len];simp[zl]
  have gB:hB.A h1.Q=U (S Y 1 x.cells):=by rw[eB,gY lA,if_pos rfl]
  have aB:a_ h1 hB:=by rw[eB,eA];exact(a_.push _ _).set _ (ai _) (by grind)
  have ho:=aB.A g1;have hz:iy hB h1.Q 0 33=U (.agg ⟨x.pt.cells⟩):=by rw[V9 gB (by rw[g_.len];omega),ba,B5]
  have h4:(l.take (i+1)).map (·.pt)=(l.take i).map (·.pt) ++ [x.pt]:=by rw[aT,hx];simp
  have hp:=N.D ho;have step:∃ (h2:N) (T:List PE) (hc:Nat),ta (E b).tojo 199 (.map (U h.Q)) (.agg ⟨x.pt.cells⟩) (I X 1) hB=U h2/\h2.A h.Q=U (.map ⟨T.map PE.e⟩ hc)/\a_ h h2/\(∀ p,p ∈ T.map (·.key)↔p ∈ (l.take (i+1)).map (·.pt))/\(L T=i+1/\((l.take (i+1)).map (·.pt)).Nodup∨L T < i+1/\¬ ((l.take (i+1)).map (·.pt)).Nodup):=by
   cases hf:oH x.pt C 0 with
   | none =>
    have hg:=Sh.1 hf;have v':x.pt ∉ (l.take i).map (·.pt):=fun e=>by
     grind
    refine⟨_,C ++ [⟨x.pt,I X 1,clk⟩],clk+1,Uvl me md ho hf _,by rw[gY hp,if_pos rfl],(P.trans aB).set _ (ai _) hp,fun p => ?_,?_⟩
    ·grind
    grind
   | some q =>
    obtain⟨j,w⟩:=q;obtain⟨y,hy, -,a1, -⟩:=Em hf;have hu:x.pt ∈ (l.take i).map (·.pt):=(hr _).1 (am.2 ⟨y,ae hy,a1⟩);have h3:∀ C:List PE,(wU x.pt (I X 1) C).map (·.key)=C.map (·.key):=by
     intro C;induction C with
     | nil=>rfl
     | cons a C ih=>unfold wU;split <;> simp[ih]
    refine⟨_,wU x.pt (I X 1) C,clk,Ua7 me md ho hf _,by rw[gY hp,if_pos rfl],(P.trans aB).set _ (ai _) hp,fun p => ?_,?_⟩
    ·rw[h3,h4,ah,hr p];simp;rintro rfl;simpa using hu
    ·have hl:L (wU x.pt (I X 1) C)=L C:=by have:=congrArg List.length (h3 C);simpa using this
     rw[h4,Vph,hl];refine .inr ⟨by rcases e1 with⟨q1,_⟩ | ⟨q1,_⟩ <;> omega,fun e=>e.2 hu⟩
  obtain⟨h2,T,hc,up,g2,a2,m2,n2⟩:=step;simp[lG,t0,t3,t7,t8,t9,hb,x1,x2,-lG,M',g_.len,st,hz,up,hw];exact⟨L l-(i+1),iA,_,h2,i+1,T,hc,rfl,by simp[t0],by simp[t3],by simp[t7],by simp[t8],jA,iA,rfl,a2,g2,m2,n2⟩
 ·have hb:¬ (i:Int) < (L l:Int):=iA
  have : i=L l:=iA
  subst this;rw[bH]at e1;have ml:iC (E b).tojo 199 (.map (U h.Q)) h1=U (I X ((L C:Nat):Int)):=by
   rw[U5h (b:=b) me md g1];simp
  simp[lG,t0,t3,t7,t8,t9,ml,len];have:=hk h1 P;rcases e1 with⟨q1,q2⟩ | ⟨q1,q2⟩
  ·have e:(L C:Int)=(L l:Int):=iA
   rw[decide_eq_true q2]at this;simpa[e]using this
  ·have e:¬ (L C:Int)=(L l:Int):=iA
   rw[decide_eq_false q2]at this;simpa[e]using this
end
def wF {A B:Type}(f:A->B)(q:B->Bool)(l:List A):(l.map f).any q=l.any fun x=>q (f x):=by
 grind
def Of(l:List g_):(l.map g_.p).map (·.pt)=l.map (·.pt):=by
 rw[bL];rfl
section
attribute [local simp] Qi7 Qp5 Kv Q40 J4 tY BI Jc uK Qhp Qg1 J2 Ux Qhr Qg8 QO QT Zx Qho Qg4
def Ule{iv ov:V}{ins:List g_}{outs:List bN}{lock:Int}(si:Ins h iv ins)(so:jg h ov outs)(K:KP)(j:∀ h',a_ h h'->K (.ret (I X (pB (iX ins outs lock)))) h') :
  FK b 37 [.agg ⟨iz iv ov lock⟩] h K:=by
 refine ip b (Kv b) V2p rfl ?_;obtain⟨P,eA,aA,gA⟩:=kQ h ((iz iv ov lock));have nA:=lT eA;have bx:=kE eA;obtain⟨z,hz⟩:∃ z,jd (E b).tojo 142 P=U (pO P.Q 0,P.push (S Y 1 [z])):=⟨_,ro b P⟩;obtain⟨T,eB⟩:∃ T,T=(P.push (S Y 1 [z])).set P.Q (U (S Y 1 [.func (.func 74) #[] #[]])):=⟨_,rfl⟩;have gZ:(P.push (S Y 1 [z])).A P.Q=U (S Y 1 [z]):=by rw[N.F,if_pos rfl]
 have st:iN (P.push (S Y 1 [z])) P.Q 0 [.func (.func 74) #[] #[]]=U T:=by rw[nS gZ jA,eB];rfl
 have gC:T.A P.Q=U (S Y 1 [.func (.func 74) #[] #[]]):=by rw[eB,gY (N.D gZ),if_pos rfl]
 have ho:a_ P T:=by rw[eB];exact(a_.push _ _).set _ (ai _) (N.D gZ)
 have aB:a_ h T:=aA.trans ho;have gT:T.A h.Q=U (S Y 1 (iz iv ov lock)):=ho.A gA;have cs:∀ {C:N},a_ T C->Zq C h.Q 0=U iv/\Zq C h.Q 1=U ov/\Zq C h.Q 2=U (I X lock):=fun {C} o=>by
  have:=o.A gT;exact⟨by rw[Z2 this];rfl,by rw[Z2 this];rfl,by rw[Z2 this];rfl⟩
 have hp:∀ C,iC (E b).tojo 45 iv C=U (I X (L ins:Int)):=fun C=>iT (kK b) si.s;have hy:∀ C,iC (E b).tojo 22 ov C=U (I X (L outs:Int)):=fun C=>iT (kD b) so.s;obtain⟨c0,c1,c2⟩:=cs (a_.refl T);simp[ro,bx,-ro,hz,U49,st,c0,hp];refine GV b _ 1 8 T _ ?_;unfold pB iX at j;simp only[bo,wF,Of]at j;have done:∀ (c:Int) C,a_ h C->(∀ h',a_ h h'->K (.ret (I X c)) h')->K (.ret (I X c)) C:=fun c C o q=>q C o;cases q1:nY (L ins:Int) 1 8 with
 | false =>
  simp only[q1,dw,eR,if_true]at j;simp[ro]
  grind
 | true =>
 simp[ro,c1,hy];refine GV b _ 1 8 T _ ?_;cases q2:nY (L outs:Int) 1 8 with
 | false =>
  simp only[q1,q2,dw,d8,if_true]at j;simp[ro]
  grind
 | true =>
 simp only[q1,q2,bZ,fZ,if_false,az]at j;simp[ro,c0];refine Vpm b (Hh b) (cap:=[]) (si.s.R aB) si.n (fun x=>Aq x.p) (fun h1 _ x _ K j=>U93 b x h1 K j) _ fun h1 a1 => ?_;obtain⟨d0,d1,d2⟩:=cs a1;have hc:=aB.trans a1;cases q3:ins.any (fun x=>Aq x.p)with
 | true =>
  simp only[q3,eR,if_true]at j;simp[ro];exact j h1 hc
 | false =>
 simp[ro,d2];refine GV b _ 0 1073741824 h1 _ ?_;cases q4:nY lock 0 1073741824 with
 | false =>
  simp only[q3,q4,dw,d8,if_true]at j;simp[ro];exact j h1 hc
 | true =>
 simp only[q3,q4,bZ,fZ,if_false,az]at j;simp[ro,d0];refine Uv9 b (si.R hc) _ fun h2 a2 => ?_;obtain⟨e0,e1,e2⟩:=cs (a1.trans a2);have hr:=hc.trans a2;by_cases q5:(ins.map (·.pt)).Nodup
 case neg =>
  rw[decide_eq_false q5]at j ⊢;simp only[dw,if_true]at j;simp[ro];exact j h2 hr
 rw[decide_eq_true q5]at j ⊢;simp only[bZ,if_false,az]at j;simp[ro,e1];refine Utw b (so.R hr) _ fun h3 a3 => ?_;obtain⟨f0,f1,f2⟩:=cs ((a1.trans a2).trans a3);have hl:=hr.trans a3;cases q6:qI (outs.map bN.p) 1125899906842624 with
 | false =>
  simp only[q6,dw,if_true]at j;simp[ro];exact j h3 hl
 | true =>
 simp only[q6,bZ,if_false,az]at j;simp[ro,f1];refine Ui1 b (Lz b) (cap:=[]) (so.s.R hl) so.n (fun x=>wC x.p) (fun h4 a4 x C K j=>U4g b (((so.R hl).R a4).a x C) K j) _ fun h4 a4 => ?_;obtain⟨g0,g1,g2⟩:=cs (((a1.trans a2).trans a3).trans a4);have hb:=hl.trans a4;cases q7:outs.any (fun x=>wC x.p)with
 | true =>
  simp only[q7,eR,if_true]at j;simp[ro];exact j h4 hb
 | false =>
 simp[ro,g0];have hu:=(((a1.trans a2).trans a3).trans a4).A gC;refine Vpm b (EA b) (cap:=[pO P.Q 0]) (si.s.R hb) si.n (fun x=>tF x.p) (fun h5 a5 x C K j=>U5i b (((si.R hb).R a5).a x C) (a5.A hu) K j) _ fun h5 a5 => ?_;have hn:=hb.trans a5;simp only[q7,gc]at j;cases q8:ins.any (fun x=>tF x.p)with
 | true =>
  simp only[q8,if_true]at j;simp[ro];exact j h5 hn
 | false =>
 simp only[q8,if_false,az]at j;simp[ro];exact j h5 hn
end
def rZ:Nat->List V
 | 0=>[I .u8 253,I X 2,I .u64 253]
 | 1=>[I .u8 254,I X 4,I .u64 65536]
 | _=>[I .u8 255,I X 8,I .u64 4294967296]
def xT:Nat->Nat
 | 0=>253
 | 1=>65536
 | _=>4294967296
def tH:Nat->Nat
 | 0=>2
 | 1=>4
 | _=>8
def AO:Nat->Int
 | 0=>253
 | 1=>254
 | _=>255
def uh(n:Nat):Nat->Nat
 | 0=>0
 | i+1=>if xT (i+1)<=n then i+1 else uh n i
def Uns(n:Nat):∀ i,uh n i<=i
 | 0=>ai _
 | i+1=>by unfold uh;split;exact ai _;exact dY (Uns n i)
def RL(j:Nat)(h:j<=2):rZ j=[I .u8 (AO j),I X (tH j:Int),I .u64 (xT j:Int)]:=by
 match j,h with
 | 0,_=>rfl
 | 1,_=>rfl
 | 2,_=>rfl
def Ut4{n:Nat}(h:¬ n < 253):kJ n=AO (uh n 2)::qV (tH (uh n 2)) n:=by
 unfold kJ uh;rw[if_neg h];by_cases j:n < 4294967296
 ·rw[if_neg (show ¬ xT 2<=n from fun e=>by have : (4294967296:Nat)<=n:=e;omega)];unfold uh;by_cases h1:n < 65536
  ·rw[if_neg (show ¬ xT (0+1)<=n from fun e=>by have : (65536:Nat)<=n:=e;omega),if_pos h1];rfl
  ·rw[if_pos (show xT (0+1)<=n from(by omega:(65536:Nat)<=n)),if_neg h1,if_pos j];rfl
 ·rw[if_pos (show xT 2<=n from(by omega:(4294967296:Nat)<=n)),if_neg iA,if_neg j];rfl
def Wao(x y:Int)(h:y=0∨y=8∨y=16∨y=24∨y=32∨y=40∨y=48∨y=56):ja (binOp .shr 128 (I .u64 x) (I X y))=U (I .u64 (x.fdiv (2 ^ y.toNat))):=by
 rcases h with rfl | rfl | rfl | rfl | rfl | rfl | rfl | rfl
 ·exact(by kernel_rfl:ja (binOp .shr 128 (I .u64 x) (I X 0))=U (I .u64 (x.fdiv (2 ^ 0))))
 ·exact(by kernel_rfl:ja (binOp .shr 128 (I .u64 x) (I X 8))=U (I .u64 (x.fdiv (2 ^ 8))))
 ·exact(by kernel_rfl:ja (binOp .shr 128 (I .u64 x) (I X 16))=U (I .u64 (x.fdiv (2 ^ 16))))
 ·exact(by kernel_rfl:ja (binOp .shr 128 (I .u64 x) (I X 24))=U (I .u64 (x.fdiv (2 ^ 24))))
 ·exact(by kernel_rfl:ja (binOp .shr 128 (I .u64 x) (I X 32))=U (I .u64 (x.fdiv (2 ^ 32))))
 ·exact(by kernel_rfl:ja (binOp .shr 128 (I .u64 x) (I X 40))=U (I .u64 (x.fdiv (2 ^ 40))))
 ·exact(by kernel_rfl:ja (binOp .shr 128 (I .u64 x) (I X 48))=U (I .u64 (x.fdiv (2 ^ 48))))
 ·exact(by kernel_rfl:ja (binOp .shr 128 (I .u64 x) (I X 56))=U (I .u64 (x.fdiv (2 ^ 56))))
def Oy:∀ (k n i:Nat),i < k->(qV k n)[i]? = U (((n / 256 ^ i) % 256:Nat):Int)
 | 0,_,_,h=>by omega
 | k+1,n,0,_=>by simp[qV]
 | k+1,n,i+1,h=>by
  simp only[qV,gj];rw[Oy k (n / 256) i iA,eP,gt,dR 256]
def U0y(i:Nat):IntKind.u8.wrap ((n:Int).fdiv (2 ^ (8*(i:Int)).toNat))=(((n / 256 ^ i) % 256:Nat):Int):=by
 have e:(8*(i:Int)).toNat=8*i:=iA
 rw[e,show(256:Nat) ^ i=2 ^ (8*i) by rw[Nat.pow_mul]];have j:((2:Int) ^ (8*i))=((2 ^ (8*i):Nat):Int):=jA
 rw[j,fQ _ (Int.natCast_nonneg _),<- Int.natCast_ediv];show(((n / 2 ^ (8*i):Nat):Int) % (2 ^ 8:Int))=_;omega
def IN1(bv:V)(n:Nat)(h:N)(A:Nat)(k:Nat)(s:St):Prop:=∃ (t:Tr V) (h1:N) (i:Nat),s=⟨⟨57,t⟩,[],h1⟩/\t.A 0=U bv/\t.A 5=U (I .u64 (n:Int))/\t.A 6=U (pO A 0)/\t.A 25=U (M (U ⟨1,3,O⟩) 2 2)/\t.A 26=U (I X 2)/\t.A 27=U (I X (i:Int))/\i<=2/\k=2-i/\a_ h h1/\h1.A A=U (S Y 1 (rZ (uh n i)))
def IN2(n w:Nat)(p:List Int)(h:N)(k:Nat)(s:St):Prop:=∃ (t:Tr V) (h1:N) (o:V) (i:Nat),s=⟨⟨57,t⟩,[],h1⟩/\t.A 5=U (I .u64 (n:Int))/\t.A 9=U o/\t.A 43=U (I X (w:Int))/\t.A 44=U (I X (i:Int))/\i<=w/\k=w-i/\a_ h h1/\OB h1 h.Q o (p++(qV w n).take i)
section
attribute [local simp] Pq Q7q yq wj wk GQ VU TZ VQ Vv Vu BB TW T7 T9 Lt VY V7 qx VV Mn Mm
def CC(laid:Ab.LaidIn h laidAll){bv:V}{xs:List Int}(s:SB h bv xs){n:Nat}(hn:n < 9223372036854775808)(hl:L xs < 999999000)(K:KP)(hk:∀ v h',OB h' h.Q v (xs++kJ n)->a_ h h'->K (.ret v) h') :
  FK b 31 [bv,I X (n:Int)] h K:=by
 by_cases hr:n < 253
 ·have e:kJ n=[(n:Int)]:=by unfold kJ;grind
  rw[e]at hk;exact V77 b laid s hr iA K hk
 refine ip b (yq b) TP rfl ?_;rw[Ut4 hr]at hk;have g1:h.A 1=U (S J 0 yR):=laid (1,yR) (by simp[laidAll]);have l1:=N.D g1;have ld:Zq h 1 2=U (I .u64 253):=by rw[Z2 g1];rfl
 have q3:iy h 1 0 3=U (.agg ⟨rZ 0⟩):=by rw[V9 g1 (by simp[yR])];rfl
 have hx:J1 (E b).tojo 134 (pO 1 0) (I X 0)=U (pO 1 0):=by simpa using GQ b (bk:=1) (o:=0) (k:=.i64) (i:=0) ⟨iA,iA⟩
 have w1:IntKind.u64.wrap (n:Int)=(n:Int):=Il iA iA;have c1:¬ (n:Int) < 253:=iA
 obtain⟨zz,ez⟩:∃ zz:List V,zz=[I .u8 0,I X 0,I .u64 0]:=⟨_,rfl⟩;obtain⟨hA,eA⟩:∃ hA,hA=h.push (S Y 1 zz):=⟨_,rfl⟩;have hf:jd (E b).tojo 133 h=U (pO h.Q 0,hA):=by rw[eA,ez];exact uZ b h
 have gA:hA.A h.Q=U (S Y 1 zz):=by rw[eA,N.F,if_pos rfl]
 have lA:=N.D gA;obtain⟨hB,eB⟩:∃ hB,hB=hA.set h.Q (U (S Y 1 (rZ 0))):=⟨_,rfl⟩;have hC:iN hA h.Q 0 (rZ 0)=U hB:=by rw[jQ gA (by simp[ez,rZ]),eB,ez];rfl
 have gB:hB.A h.Q=U (S Y 1 (rZ 0)):=by rw[eB,gY lA,if_pos rfl]
 have aB:a_ h hB:=by rw[eB];exact(by rw[eA];exact a_.push _ _:a_ h hA).set _ (ai _) lA
 have sl:∀ hx,j8 (E b).tojo 134 (pO 1 0) (U (I X 1)) O O hx=U (M (U ⟨1,3,O⟩) 2 2,hx):=fun hx=>by kernel_rfl
 have f3:∀ j,L (rZ j)=3:=fun j=>by unfold rZ;grind
 simp[uZ,SV,hx,ld,q3,w1,c1,hr,-uZ,hf,f3,hC,sl];refine iV (IN1 bv n h h.Q) 2 ⟨_,hB,0,rfl,jA,jA,jA,jA,jA,jA,iA,rfl,aB,gB⟩ ?_;rintro k s' ⟨t,h1,i,rfl,t0,t5,t6,hp,hy,ho,hi,rfl,P,gf⟩ _;by_cases M':i < 2
 ·have C:(i:Int) < 2:=iA
  have hw:=wS (i:=i) iA;have gG:h1.A 1=U (S J 0 yR):=P.A g1;have hg:J1 (E b).tojo 136 (M (U ⟨1,3,O⟩) 2 2) (I X (i:Int))=U (.pointer (U ⟨1,(i+1)*3,O⟩)):=by
   rw[Lt b ⟨iA,iA⟩,bA,show 3+i*3=(i+1)*3 by omega]
  have q1:iy h1 1 ((i+1)*3) 3=U (.agg ⟨rZ (i+1)⟩):=by
   rw[V9 gG (by simp[yR];omega)]
   match i,M' with
   | 0,_=>rfl
   | 1,_=>rfl
  obtain⟨h2,e2⟩:∃ h2,h2=h1.push (S Y 1 zz):=⟨_,rfl⟩;have q2:jd (E b).tojo 133 h1=U (pO h1.Q 0,h2):=by rw[e2,ez];exact uZ b h1
  have g2:h2.A h1.Q=U (S Y 1 zz):=by rw[e2,N.F,if_pos rfl]
  have lf:=N.D gf;have l2:=N.D g2;obtain⟨h3,e3⟩:∃ h3,h3=h2.set h1.Q (U (S Y 1 (rZ (i+1)))):=⟨_,rfl⟩;have s1:iN h2 h1.Q 0 (rZ (i+1))=U h3:=by
   rw[jQ g2 (by grind),e3,ez]
   grind
  have g3:h3.A h1.Q=U (S Y 1 (rZ (i+1))):=by rw[e3,gY l2,if_pos rfl]
  have o3:a_ h1 h3:=by rw[e3];exact(by rw[e2];exact a_.push _ _:a_ h1 h2).set _ (ai _) l2
  have e1:=o3.A gf;have es:=N.D e1;have c3:Zq h3 h1.Q 2=U (I .u64 (xT (i+1):Int)):=by rw[Z2 g3,RL _ iA];rfl
  by_cases hc:xT (i+1)<=n
  ·have hu:(xT (i+1):Int)<=(n:Int):=iA
   have x1:iy h3 h1.Q 0 3=U (.agg ⟨rZ (i+1)⟩):=nZ g3 (by grind) (by grind);obtain⟨h4,e4⟩:∃ h4,h4=h3.set h.Q (U (S Y 1 (rZ (i+1)))):=⟨_,rfl⟩;have t4:iN h3 h.Q 0 (rZ (i+1))=U h4:=by
    rw[jQ e1 (by simp[f3]),e4]
    grind
   have g4:h4.A h.Q=U (S Y 1 (rZ (uh n (i+1)))):=by
    rw[e4,gY es,if_pos rfl];unfold uh
    grind
   simp[uZ,t0,t5,t6,hp,hy,ho,C,hg,q1,-uZ,q2,f3,s1,c3,hc,hu,x1,t4,hw];exact⟨2-(i+1),iA,_,h4,i+1,rfl,by simp[t0],by simp[t5],by simp[t6],by simp[hp],by simp[hy],jA,iA,rfl,by rw[e4];exact(P.trans o3).set _ (ai _) es,g4⟩
  ·have hu:¬ (xT (i+1):Int)<=(n:Int):=iA
   simp[uZ,t0,t5,t6,hp,hy,ho,C,hg,q1,-uZ,q2,f3,s1,c3,hc,hu,hw];refine⟨2-(i+1),iA,_,h3,i+1,rfl,by simp[t0],by simp[t5],by simp[t6],by simp[hp],by simp[hy],jA,iA,rfl,P.trans o3,?_⟩;rw[e1];have : uh n (i+1)=uh n i:=by
    conv=>lhs;unfold uh
    grind
   rw[this]
 ·have : i=2:=iA
  subst this;have C:¬ ((2:Nat):Int) < 2:=iA
  obtain⟨j,hj⟩:∃ j,j=uh n 2:=⟨_,rfl⟩;have hz:j<=2:=by rw[hj];exact Uns n 2
  rw[<- hj]at gf hk;have cA:Zq h1 h.Q 0=U (I .u8 (AO j)):=by rw[Z2 gf,RL _ hz];rfl
  have cW:∀ {hx},a_ h1 hx->Zq hx h.Q 1=U (I X (tH j:Int)):=fun o=>by rw[Z2 (o.A gf),RL _ hz];rfl
  have sB:SB (h1.push (S Y 1 [i8 (AO j)])) (M (U ⟨h1.Q,0,O⟩) 1 1) [AO j]:=SB.push (xs:=[AO j]) jA;simp[uZ,t0,t5,t6,hp,hy,ho,cA,ua];refine SK b ((s.R P).R (a_.push _ _)) sB (by simp;omega) _ fun v h2 o2 a2 => ?_;have a1:a_ h1 h2:=(a_.push _ _).trans a2;have a3:=cW a1;have w8:tH j<=8:=by unfold tH;grind
  simp[uZ,t0,t5,t6,hp,hy,ho,a3];refine iV (IN2 n (tH j) (xs ++ [AO j]) h) (tH j) ⟨_,h2,v,0,rfl,by simp[t5],jA,jA,jA,iA,rfl,P.trans a1,by rw[cZ,bS];exact o2.low (ao P.1 (bJ _))⟩ ?_;rintro k s' ⟨t,h3,o,i,rfl,t5,t9,hq,re,hi,rfl,T,ob⟩ _;by_cases M':i < tH j
  ·have C:(i:Int) < (tH j:Int):=iA
   have hw:=wS (i:=i) iA;have hm:IntKind.i64.wrap (8*(i:Int))=8*(i:Int):=Jr iA iA;have sh:=Wao (n:Int) (8*(i:Int)) iA;have hb:=U0y n i;have gi:=Oy (tH j) n i M';obtain⟨d,hd⟩:∃ d:Int,d=(n:Int).fdiv (2 ^ (8*(i:Int)).toNat):=⟨_,rfl⟩;rw[<- hd]at sh hb;obtain⟨c,hc⟩:∃ c:Int,c=(((n / 256 ^ i) % 256:Nat):Int):=⟨_,rfl⟩;rw[<- hc]at hb gi;have tk:(qV (tH j) n).take (i+1)=(qV (tH j) n).take i ++ [c]:=by rw[aT,gi];rfl
   obtain⟨v',h4,k1,k2,k3⟩:=Gx (b:=b) ob T.1 (by simp;omega) c;simp only[i8]at k1;simp[uZ,t5,t9,hq,re,C,hm,sh,hb,ua,i8,k1,hw];exact⟨tH j-(i+1),iA,_,h4,v',i+1,rfl,by simp[t5],jA,by simp[hq],jA,iA,rfl,k3.R T ob,by rw[tk,<- b9];exact k2⟩
  ·have C:¬ (i:Int) < (tH j:Int):=iA
   have : i=tH j:=iA
   subst this;simp[uZ,t5,t9,hq,re];refine hk o h3 ?_ T;rw[aj (by rw[DN];exact ai _),b9]at ob;exact ob
end
section
def U4w{bv:V}{xs:List Int}(s:SB h bv xs){d:List Nat}(hd:L d=32)(hl:L xs < 999999000)(K:KP)(hk:∀ v h',OB h' h.Q v (xs++kI d)->a_ h h'->K (.ret v) h') :
  FK b 154 [bv,.agg ⟨d.map dk⟩] h K:=by
 refine ip b (Bc b) Vk1 rfl ?_;obtain⟨C,T,j,gA⟩:=kQ h ((d.map dk));have P:nP (.agg ⟨d.map dk⟩) h=U (pO h.Q 0,C):=by rw[T];exact tB (by simp[hd])
 have sd:SB C (M (U ⟨h.Q,0,O⟩) 32 32) (kI d):=by
  have:=IV gA iA
  grind
 have ld:L (kI d)=32:=by simp[kI,hd]
 simp[Mx,Jf4,Bc,BB,P,AW];refine SK b (s.R j) sd iA _ fun v h' o a => ?_;simp[Mx,Jf4,Bc,BB];exact hk v h' (o.low j.1) (j.trans a)
def U3m(laid:Ab.LaidIn h laidAll){bv pv:V}{xs ys:List Int}(s:SB h bv xs)(P:SB h pv ys)(hl:L xs < 999990000)(hp:L ys < 1000000)(K:KP)(hk:∀ v h',OB h' h.Q v (xs++xD ys)->a_ h h'->K (.ret v) h') :
  FK b 157 [bv,pv] h K:=by
 refine ip b (Be b) Vh1 rfl ?_;have len:=fun hx=>j_ (b:=b) (h1:=hx) P;simp[LK,Jfk,Be,yq,len];refine CC b laid s (n:=L ys) iA iA _ fun v h1 C j => ?_;have il:=uw (L ys);obtain⟨v',T,k1,k2,k3⟩:=yE (b:=b) C j.1 (P.R j) (by grind);simp[LK,Jfk,Be,yq,k1];refine hk v' T ?_ (k3.R j C);rw[xD,<- b9];exact k2
end
def GS{A:Type}{g:A->List Int}{l:List A}{i:Nat}{x:A}(j:l[i]? = U x):(l.take (i+1)).flatMap g=(l.take i).flatMap g++g x:=by
 rw[aT,j];simp
def Uvc{A:Type}(g:A->List Int)(l:List A)(i:Nat):L ((l.take i).flatMap g)<=L (l.flatMap g):=by
 conv=>rhs;rw[<- bz i l]
 grind
def Wck(v j:V)(l:List g_)(g:g_->List Int)(p:List Int)(h:N)(k:Nat)(s:St):Prop:=∃ (t:Tr V) (h1:N) (o:V) (i:Nat),s=⟨⟨25,t⟩,[],h1⟩/\t.A 0=U o/\t.A 2=U j/\t.A 13=U v/\t.A 14=U (I X (L l:Int))/\t.A 15=U (I X (i:Int))/\i<=L l/\k=L l-i/\a_ h h1/\OB h1 h.Q o (p++(l.take i).flatMap g)
section
attribute [local simp] Quu Q3r QN yq yx zI 
def U9w(laid:Ab.LaidIn h laidAll){bv v:V}{xs:List Int}{l:List g_}(sb:SB h bv xs)(s:Sl h 34 v (L l) (my l))(hn:L l < 2199023255552)(g:g_->List Int){f:FuncId}{F:Func}(hF:(E b).fn.A f=U F)(hl:L xs+L (l.flatMap g) < 900000000)(hf:∀ h1,a_ h h1->∀ x ∈ l,∀ hc ys,SB h1 hc ys->L ys < 900000010->∀ K,(∀ w h2,OB h2 h1.Q w (ys++g x)->a_ h1 h2->K (.ret w) h2)->FK b f [hc,.agg ⟨x.cells⟩] h1 K)(K:KP)(hk:∀ w h',OB h' h.Q w (xs++(kJ (L l)++l.flatMap g))->a_ h h'->K (.ret w) h') :
  FK b 152 [bv,v,.func (.func f) #[] #[]] h K:=by
 refine ip b (QN b) Zlj rfl ?_;have len:∀ hx,iC (E b).tojo 45 v hx=U (I X (L l:Int)):=fun hx=>iT (kK b) s;simp[lG,len];refine CC b laid sb (n:=L l) iA iA _ fun v0 h0 o0 a0 => ?_;have il:=uw (L l);simp[lG,len];refine iV (Wck v (.func (.func f) #[] #[]) l g (xs++kJ (L l)) h) (L l) ⟨_,h0,v0,0,rfl,jA,jA,jA,jA,jA,iA,rfl,a0,by grind⟩ ?_;rintro k s' ⟨t,h1,o,i,rfl,t0,t2,t13,t14,t15,hi,rfl,j,ob⟩ _;have fl:=Uvc g l i;by_cases hr:i < L l
 ·have C:(i:Int) < (L l:Int):=iA
  obtain⟨x,hx⟩:∃ x,l[i]? = U x:=⟨_,ac hr⟩;have hw:=wS (i:=i) iA;obtain⟨bk,off, -,x1,x2, -⟩:=qF (b:=b) (kK b) nI (s.R j) hx;obtain⟨zz,ez⟩:∃ zz:List V,zz=tS.zero.cells.toList:=⟨_,rfl⟩;have zl:L zz=34:=by rw[ez];kernel_rfl
  obtain⟨T,eA⟩:∃ T,T=h1.push (S Y 1 zz):=⟨_,rfl⟩;have hb:jd (E b).tojo 96 h1=U (pO h1.Q 0,T):=by rw[eA,ez];simp only[jd,yZ]
  have gA:T.A h1.Q=U (S Y 1 zz):=by rw[eA,N.F,if_pos rfl]
  have lA:=N.D gA;obtain⟨P,eB⟩:∃ P,P=T.set h1.Q (U (S Y 1 x.cells)):=⟨_,rfl⟩;have xl:L x.cells=34:=g_.len x;have st:iN T h1.Q 0 x.cells=U P:=by
   rw[jQ gA iA,eB]
   grind
  have gB:P.A h1.Q=U (S Y 1 x.cells):=by rw[eB,gY lA,if_pos rfl]
  have aB:a_ h1 P:=by rw[eB,eA];exact(a_.push _ _).set _ (ai _) (by grind)
  have h3:iy P h1.Q 0 34=U (.agg ⟨x.cells⟩):=nZ gB iA iA;simp[lG,t0,t2,t13,t14,t15,C,x1,x2,-lG,hb,xl,st,h3,hF];refine hf P (j.trans aB) x (ae hx) o _ (ob.sl.R aB) (by grind) _ fun w h2 o2 a2 => ?_;simp[lG,t0,t2,t13,t14,t15,hw];refine⟨L l-(i+1),iA,_,h2,w,i+1,rfl,jA,by simp[t2],by simp[t13],by simp[t14],jA,iA,rfl,(j.trans aB).trans a2,?_⟩;rw[GS hx,<- b9];exact o2.low (ao j.1 aB.1)
 ·have C:¬ (i:Int) < (L l:Int):=iA
  have : i=L l:=iA
  subst this;rw[bH,b9]at ob;simp[lG,t0,t2,t13,t14,t15]
  grind
end
def U7k(v j:V)(l:List bN)(g:bN->List Int)(p:List Int)(h:N)(k:Nat)(s:St):Prop:=∃ (t:Tr V) (h1:N) (o:V) (i:Nat),s=⟨⟨25,t⟩,[],h1⟩/\t.A 0=U o/\t.A 2=U j/\t.A 13=U v/\t.A 14=U (I X (L l:Int))/\t.A 15=U (I X (i:Int))/\i<=L l/\k=L l-i/\a_ h h1/\OB h1 h.Q o (p++(l.take i).flatMap g)
section
attribute [local simp] yq
def U4t(laid:Ab.LaidIn h laidAll){bv v:V}{xs:List Int}{l:List bN}(sb:SB h bv xs)(s:Sl h 2 v (L l) (qK l))(hn:L l < 4398046511104)(g:bN->List Int){f:FuncId}{F:Func}(hF:(E b).fn.A f=U F)(hl:L xs+L (l.flatMap g) < 900000000)(hf:∀ h1,a_ h h1->∀ x ∈ l,∀ hc ys,SB h1 hc ys->L ys < 900000010->∀ K,(∀ w h2,OB h2 h1.Q w (ys++g x)->a_ h1 h2->K (.ret w) h2)->FK b f [hc,.agg ⟨x.cells⟩] h1 K)(K:KP)(hk:∀ w h',OB h' h.Q w (xs++(kJ (L l)++l.flatMap g))->a_ h h'->K (.ret w) h') :
  FK b 155 [bv,v,.func (.func f) #[] #[]] h K:=by
 refine ip b (BF b) Zb5 rfl ?_;have len:∀ hx,iC (E b).tojo 22 v hx=U (I X (L l:Int)):=fun hx=>iT (kD b) s;simp[C4,Gs,BF,uG,Bx,rc,jk,qL,FB,FA,len];refine CC b laid sb (n:=L l) iA iA _ fun v0 h0 o0 a0 => ?_;have il:=uw (L l);simp[C4,Gs,BF,uG,Bx,rc,jk,qL,FB,FA,len];refine iV (U7k v (.func (.func f) #[] #[]) l g (xs++kJ (L l)) h) (L l) ⟨_,h0,v0,0,rfl,jA,jA,jA,jA,jA,iA,rfl,a0,by grind⟩ ?_;rintro k s' ⟨t,h1,o,i,rfl,t0,t2,t13,t14,t15,hi,rfl,j,ob⟩ _;have fl:=Uvc g l i;by_cases hr:i < L l
 ·have C:(i:Int) < (L l:Int):=iA
  obtain⟨x,hx⟩:∃ x,l[i]? = U x:=⟨_,ac hr⟩;have hw:=wS (i:=i) iA;obtain⟨bk,off, -,x1,x2, -⟩:=qO (b:=b) (kD b) mR (s.R j) hx;obtain⟨zz,ez⟩:∃ zz:List V,zz=C2.zero.cells.toList:=⟨_,rfl⟩;have zl:L zz=2:=by rw[ez];kernel_rfl
  obtain⟨T,eA⟩:∃ T,T=h1.push (S Y 1 zz):=⟨_,rfl⟩;have hb:jd (E b).tojo 39 h1=U (pO h1.Q 0,T):=by rw[eA,ez];simp only[jd,xC]
  have gA:T.A h1.Q=U (S Y 1 zz):=by rw[eA,N.F,if_pos rfl]
  have lA:=N.D gA;obtain⟨P,eB⟩:∃ P,P=T.set h1.Q (U (S Y 1 x.cells)):=⟨_,rfl⟩;have xl:L x.cells=2:=bN.len x;have st:iN T h1.Q 0 x.cells=U P:=by
   rw[jQ gA iA,eB]
   grind
  have gB:P.A h1.Q=U (S Y 1 x.cells):=by rw[eB,gY lA,if_pos rfl]
  have aB:a_ h1 P:=by rw[eB,eA];exact(a_.push _ _).set _ (ai _) (by grind)
  have h3:iy P h1.Q 0 2=U (.agg ⟨x.cells⟩):=nZ gB iA iA;simp[C4,Gs,BF,uG,Bx,rc,jk,qL,FB,FA,t0,t2,t13,t14,t15,C,x1,x2,-jk,hb,xl,st,h3,hF];refine hf P (j.trans aB) x (ae hx) o _ (ob.sl.R aB) (by grind) _ fun w h2 o2 a2 => ?_;simp[C4,Gs,BF,uG,Bx,rc,jk,qL,FB,FA,t0,t2,t13,t14,t15,hw];refine⟨L l-(i+1),iA,_,h2,w,i+1,rfl,jA,by simp[t2],by simp[t13],by simp[t14],jA,iA,rfl,(j.trans aB).trans a2,?_⟩;rw[GS hx,<- b9];exact o2.low (ao j.1 aB.1)
 ·have C:¬ (i:Int) < (L l:Int):=iA
  have : i=L l:=iA
  subst this;rw[bH,b9]at ob;simp[C4,Gs,BF,uG,Bx,rc,jk,qL,FB,FA,t0,t2,t13,t14,t15]
  grind
def Wap(laid:Ab.LaidIn h laidAll){bv:V}{ys:List Int}(x:g_)(j:0<=x.pt.n/\x.pt.n<=8)(s:SB h bv ys)(hl:L ys < 900000010)(K:KP)(hk:∀ w h',OB h' h.Q w (ys++sK x.p)->a_ h h'->K (.ret w) h') :
  FK b 153 [bv,.agg ⟨x.cells⟩] h K:=by
 refine ip b (Bb b) Vl8 rfl ?_;obtain⟨C, -,bx,aA, -,gA,hb, -⟩:=NU x h;have h2:∀ {j},a_ C j->iy j h.Q 0 32=U (.agg ⟨x.pt.id.map dk⟩):=fun {j} o=>by
  rw[V9 (o.A gA) (by rw[g_.len];omega),ba];have : x.cells.take 32=x.pt.id.map dk:=by
   rw[g_.cells,Pt.cells,b9,bm (by simp[x.pt.hd]),aj (by simp[x.pt.hd])]
  rw[this]
 have T:∀ {j},a_ C j->Zq j h.Q 32=U (I X x.pt.n):=fun {j} o=>by rw[Z2 (o.A gA),H_]
 have hr:L (kI x.pt.id)=32:=by simp[kI,x.pt.hd]
 obtain⟨_,hC,q1,n1,v1,rfl,o1,P⟩:=U4w b (s.R aA) x.pt.hd iA (fun r h' => ∃ v,r=.ret v/\OB h' C.Q v (ys++kI x.pt.id)/\a_ C h') (fun v h' o a=>⟨v,rfl,o,a⟩);obtain⟨m,hm⟩:∃ m:Nat,x.pt.n=(m:Int):=⟨x.pt.n.toNat,iA⟩;obtain⟨_,hD,q2,n2,v2,rfl,o2,a2⟩:=CC b (Laid.R laid (aA.trans P)) o1.sl (n:=m) iA (by grind) (fun r h' => ∃ v,r=.ret v/\OB h' hC.Q v (ys++kI x.pt.id++kJ m)/\a_ hC h') (fun v h' o a=>⟨v,rfl,o,a⟩);have d0:=h2 (a_.refl C);have d1:=T (a_.refl C);have d2:=T P;rw[hm]at d1 d2;simp[ED,HW,Bb,Jt,yh,mZ,Bc,vu,V0,bx];refine jf [⟨154,[bv,.agg ⟨x.pt.id.map dk⟩],C,v1,hC,Y⟩,⟨31,[v1,I X (m:Int)],hC,v2,hD,Y⟩] ?_ T5.1 (by simp[T5.2,J29,Jzt,ED,HW,Bb,Jt,yh,mZ,Bc,vu,d0,d1,d2,qy];first | exact⟨rfl,rfl⟩ | rfl) ?_ ?_
 ·exact tu ⟨q1,n1,fun _ c hc=>P.2 c hc⟩ ⟨q2,n2,fun _ c hc=>a2.2 c hc⟩
 ·simp[JL,ED,HW,Bb,Jt,yh,mZ,Bc,vu,d1,d2,yS]
 simp[ED,HW,Bb,Jt,yh,mZ,Bc,vu,V0];refine hk v2 hD ?_ (aA.trans (P.trans a2));have e:sK x.p=kI x.pt.id++kJ m:=by
  show x.pt.id.map Int.ofNat++kJ x.pt.n.toNat=_;rw[hm];rfl
 rw[e,<- b9];exact o2.low (aA.trans P).1
def U6c(laid:Ab.LaidIn h laidAll){bv:V}{ys:List Int}{x:bN}(j:0<=x.value/\x.value<=1125899906842624)(a:mh h x)(al:L x.script < 1000000)(s:SB h bv ys)(hl:L ys < 900000010)(K:KP)(hk:∀ w h',OB h' h.Q w (ys++sZ x.p)->a_ h h'->K (.ret w) h') :
  FK b 156 [bv,.agg ⟨x.cells⟩] h K:=by
 refine ip b (Ba b) Vop rfl ?_;obtain⟨C,eA,T,gA⟩:=kQ h x.cells;have bx:=kE eA;obtain⟨m,hm⟩:∃ m:Nat,x.value=(m:Int):=⟨x.value.toNat,iA⟩;have il:=uw m;have hb:∀ {j},a_ C j->Zq j h.Q 0=U (I X (m:Int)):=fun {j} o=>by rw[Z2 (o.A gA),<- hm];rfl
 have h2:∀ {j},a_ C j->Zq j h.Q 1=U x.sv:=fun {j} o=>by rw[Z2 (o.A gA)];rfl
 obtain⟨_,hC,q1,n1,v1,rfl,o1,P⟩:=CC b (Laid.R laid T) (s.R T) (n:=m) iA iA (fun r h' => ∃ v,r=.ret v/\OB h' C.Q v (ys++kJ m)/\a_ C h') (fun v h' o a=>⟨v,rfl,o,a⟩);obtain⟨_,hD,q2,n2,v2,rfl,o2,a2⟩:=U3m b (Laid.R laid (T.trans P)) o1.sl ((a.s.R T).R P) (by grind) al (fun r h' => ∃ v,r=.ret v/\OB h' hC.Q v (ys++kJ m++xD x.script)/\a_ hC h') (fun v h' o a=>⟨v,rfl,o,a⟩);have d0:=hb (a_.refl C);have d1:=h2 (a_.refl C);have d2:=h2 P;simp[EC,HX,Ba,Jy,V0,J0,Z8,Be,bx];refine jf [⟨31,[bv,I X (m:Int)],C,v1,hC,Y⟩,⟨157,[v1,x.sv],hC,v2,hD,Y⟩] ?_ T_.1 (by simp[T_.2,J85,Jt9,EC,HX,Ba,Jy,J0,Z8,Be,d0,d1,d2,qy];first | exact⟨rfl,rfl⟩ | rfl) ?_ ?_
 ·exact tu ⟨q1,n1,fun _ c hc=>P.2 c hc⟩ ⟨q2,n2,fun _ c hc=>a2.2 c hc⟩
 ·simp[JN,EC,HX,Ba,Jy,J0,Z8,Be,d1,d2,AZ a.s]
 simp[EC,HX,Ba,Jy,V0,J0,Z8,Be];refine hk v2 hD ?_ (T.trans (P.trans a2));have e:sZ x.p=kJ m++xD x.script:=by
  show kJ x.value.toNat++xD x.script=_
  grind
 rw[e,<- b9];exact o2.low (T.trans P).1
end
structure Fp (t:mL):Prop where
 insN:1<=L t.ins/\L t.ins<=8
 outsN:1<=L t.outs/\L t.outs<=8
 far:∀ x ∈ t.ins,0<=x.pt.n/\x.pt.n<=8
 lock:0<=t.lock/\t.lock<=1073741824
 pts:(t.ins.map (·.pt)).Nodup
 vals:qI t.outs 1125899906842624=Y
 script:∀ o ∈ t.outs,L o.script<=256
 wit:∀ x ∈ t.ins,L x.wit<=16/\∀ w ∈ x.wit,L w<=64
def Uur{n a b:Int}:nY n a b=Y↔a<=n/\n<=b:=by simp[nY]
def zX{t:mL}(h:pB t=0):Fp t:=by
 unfold pB at h;split at h
 ·cases h
 rename_i h1;split at h
 ·cases h
 rename_i P;split at h
 ·cases h
 rename_i h3;split at h
 ·cases h
 rename_i T;split at h
 ·cases h
 rename_i h5;simp only[cj,cx,not_or,ee,Bool.not_eq_true,Uur]at h1 P h3 T h5;have hf:∀ x ∈ t.ins,Aq x=J:=fun x j=>by
  grind
 have hl:∀ x ∈ t.outs,wC x=J:=fun x j=>by
  grind
 have C:∀ x ∈ t.ins,tF x=J:=fun x j=>by
  grind
 refine⟨iA,iA,fun x j => ?_,P.2,by grind,T,fun o ho => ?_,fun x j => ?_⟩
 ·have:=hf x j;simpa[Aq,Uur]using this
 ·have:=hl o ho;simp only[wC,decide_eq_false_iff_not]at this;omega
 ·have:=C x j;simp only[tF,Bool.or_eq_false_iff,decide_eq_false_iff_not]at this;refine⟨iA,fun w C => ?_⟩;have:=List.any_eq_false.1 this.2 w C;simp only[decide_eq_true_eq]at this;omega
def AR:∀ {l:List jx} {left:Int},qI l left=Y->left<=1125899906842624->∀ o ∈ l,1<=o.value/\o.value<=1125899906842624
 | [],_,_,_,o,j=>by cases j
 | p::l,left,h,C,o,j=>by
  unfold qI at h;split at h
  ·cases h
  ·rename_i P;rcases ar.1 j with rfl | j
   ·omega
   ·exact AR h iA o j
def Eu{A:Type}{g:A->List Int}{m:Nat}:∀ {l:List A},(∀ x ∈ l,L (g x)<=m)->L (l.flatMap g)<=L l*m
 | [],_=>by simp
 | x::l,h=>by
  have h1:=h x jA;have C:=Eu (g:=g) (l:=l) fun y j=>h y (by simp[j]);rw[List.flatMap_cons,aJ,bI,cz];omega
def Uu9(x:qP):L (sK x)<=41:=by
 have:=uw x.pt.n.toNat;simp[sK,x.pt.hd];omega
def Umh{o:jx}(h:L o.script<=256):L (sZ o)<=274:=by
 have:=uw o.value.toNat;have:=uw (L o.script);simp[sZ,xD];omega
def mI {A B:Type}(f:A->B)(g:B->List Int)(l:List A):(l.map f).flatMap g=l.flatMap fun x=>g (f x):=by
 rw[List.flatMap_map]
def Bg{xs ys:List Int}(h1:Bytes xs)(j:Bytes ys):Bytes (xs++ys):=fun z C=>by
 rcases ah.1 C with q | q
 ·exact h1 z q
 ·exact j z q
def SJ{t:mL}(k:Fp t):L (ui t)<=4096:=by
 have h1:=uw (L t.ins);have C:=uw (L t.outs);have P:=uw t.lock.toNat;have T:=Eu (g:=sK) (l:=t.ins) (m:=41) fun x _=>Uu9 x;have h5:=Eu (g:=sZ) (l:=t.outs) (m:=274) fun x j=>Umh (k.script x j);have h6:=k.insN;have h7:=k.outsN;simp only[ui,aJ];omega
section
attribute [local simp] XQ Xyx Rn Uf Kv Jg J4 tY QN Jc uK BF Ux yq
def U47(laid:Ab.LaidIn h laidAll){iv ov:V}{ins:List g_}{outs:List bN}{lock:Int}(si:Ins h iv ins)(so:jg h ov outs)(K:KP)(hb:∀ h',pB (iX ins outs lock)≠0->a_ h h'->K (.ret (.tuple #[M O 0 0,I X (pB (iX ins outs lock))])) h')(hk:∀ v h',pB (iX ins outs lock)=0->OB h' h.Q v (ui (iX ins outs lock))->a_ h h'->K (.ret (.tuple #[v,I X 0])) h') :
  FK b 118 [.agg ⟨iz iv ov lock⟩] h K:=by
 refine ip b (Rn b) Udq rfl ?_;obtain⟨hA,eA,aA,gA⟩:=kQ h ((iz iv ov lock));have bx:=kE eA;have hy:iy hA h.Q 0 3=U (.agg ⟨iz iv ov lock⟩):=by rw[V9 gA (by simp[iz])];rfl
 have cs:∀ {C:N},a_ hA C->Zq C h.Q 0=U iv/\Zq C h.Q 1=U ov/\Zq C h.Q 2=U (I X lock):=fun {C} o=>by
  have:=o.A gA;exact⟨by rw[Z2 this];rfl,by rw[Z2 this];rfl,by rw[Z2 this];rfl⟩
 simp[bx,hy];refine Ule b (si.R aA) (so.R aA) _ fun h1 a1 => ?_;by_cases hc:pB (iX ins outs lock)=0
 case neg =>
  simp[hc];exact hb h1 hc (aA.trans a1)
 have k:=zX hc;rw[hc];obtain⟨c0, -, -⟩:=cs a1;simp[c0,Bb];have kl:=SJ k;have e1:(iX ins outs lock).ins.flatMap sK=ins.flatMap fun x=>sK x.p:=mI _ _ _;have e2:(iX ins outs lock).outs.flatMap sZ=outs.flatMap fun x=>sZ x.p:=mI _ _ _;have n1:L (iX ins outs lock).ins=L ins:=by simp[iX]
 have n2:L (iX ins outs lock).outs=L outs:=by simp[iX]
 have e3:ui (iX ins outs lock)=kJ (L ins)++(ins.flatMap fun x=>sK x.p)++(kJ (L outs)++outs.flatMap fun x=>sZ x.p)++kJ lock.toNat:=by
  unfold ui;rw[e1,e2,n1,n2];rfl
 rw[e3]at kl;simp only[aJ]at kl;have P:=aA.trans a1;refine U9w b (Laid.R laid P) (xs:=[]) Sl.nil (si.s.R P) si.n (fun x=>sK x.p) (Bb b) (by grind) (fun h2 a2 x C hr ys s1 hl K hk=>Wap b (Laid.R laid (P.trans a2)) x (k.far x.p (am.2 ⟨x,C,rfl⟩)) s1 hl K hk) _ fun v2 h2 o2 a2 => ?_;obtain⟨-,c1, -⟩:=cs (a1.trans a2);simp[c1,Ba];have j:=P.trans a2;refine U4t b (Laid.R laid j) o2.sl (so.s.R j) so.n (fun x=>sZ x.p) (Ba b) (by grind) (fun h3 a3 x C hr ys s1 hl K hk=>U6c b (Laid.R laid (j.trans a3)) (by have:=AR k.vals (Int.le_refl _) x.p (am.2 ⟨x,C,rfl⟩);exact⟨by have:=this.1;show(0:Int)<=x.p.value;omega,this.2⟩) (((so.R j).R a3).a x C) (cY (k.script x.p (am.2 ⟨x,C,rfl⟩)) kA) s1 hl K hk) _ fun v3 h3 o3 a3 => ?_;obtain⟨-, -,c2⟩:=cs ((a1.trans a2).trans a3);obtain⟨m,hm⟩:∃ m:Nat,lock=(m:Int):=⟨lock.toNat,by have:=k.lock.1;show lock=_;simp only[iX]at this;omega⟩;rw[hm]at c2;have hp:=k.lock.2;simp only[iX]at hp;simp[c2];have T:=j.trans a3;refine CC b (Laid.R laid T) o3.sl (n:=m) iA (by grind) _ fun v4 h4 o4 a4 => ?_;simp;refine hk v4 h4 hc ?_ (T.trans a4);rw[e3,show lock.toNat=m by omega];have q:=o4.low (T.1)
 grind
end
def wV(s:List Nat)(l:List Nat):List Nat:=Bl.keyed1 [] (Bl.keyed1 [] s++l)
def Cc:L (wV s l)=32:=oR _
def Uob(s:ByteArray):L (uS s)=s.size:=by
 simp[uS]
def Un1{s:ByteArray}{l:List Nat}(hs:uS s=l.map dk)(h:N):uV (E b).tojo 9 31 (.string s) h=U (M (U ⟨h.Q,0,O⟩) (L l) iJ,h.push (S Y 1 (l.map dk))):=by
 obtain⟨C,j⟩:∃ C,(E b).tojo.ty.A 9=U C:=⟨((E b).tojo.ty.A 9).getD ⟨.invalid,0,0,.bool J,[]⟩,by kernel_rfl⟩;have h1:uF.desc=.slice 5:=(j' b).d;have P:R5.desc=.int .u8:=kR
 have T:s.size=L l:=by rw[<- Uob,hs,bo]
 simp only[uV,j,rX,h1,sX,P,hs,T]
section
attribute [local simp] XN X1l Pn K_ Z0 Vw
def Ure(laid:Ab.LaidIn h laidAll){s:ByteArray}{l d:List Nat}(hs:uS s=l.map dk)(hl:L l < 1000){v:V}(sv:SN h v d)(hd:L d < 1000000)(K:KP)(hk:∀ h',a_ h h'->K (.ret (.agg ⟨(wV l d).map dk⟩)) h') :
  FK b 119 [.string s,v] h K:=by
 refine ip b (Pn b) Jbr rfl ?_;obtain⟨hA,eA,aA,gA⟩:=kQ h jn;have hy:jd (E b).tojo 62 h=U (pO h.Q 0,hA):=by rw[eA];exact Jx b h
 obtain⟨hB,eB,aB,gB⟩:=kQ hA ((l.map dk));have cv:=Un1 b hs hA;rw[<- eB]at cv;have sB:SN hB (M (U ⟨hA.Q,0,O⟩) (L l) iJ) l:=(ij.new (n0:=0) (z:=1) (bw _) gB jA (by unfold iJ;omega) (.inl ⟨rfl,rfl⟩)).sl;simp[Jx,-Jx,hy,cv];have hb:=aA.trans aB;refine I1 b (Eo (Laid.R laid hb)) sB iA _ fun h1 a1 => ?_;obtain⟨dg,hdg⟩:∃ dg,dg=Bl.keyed1 [] l:=⟨_,rfl⟩;have dl:L dg=32:=by rw[hdg];exact oR _
 rw[<- hdg];have hc:=hb.trans a1;obtain⟨P,eC⟩:∃ P,P=h1.push (S Y 1 jn):=⟨_,rfl⟩;have ho:jd (E b).tojo 62 h1=U (pO h1.Q 0,P):=by rw[eC];exact Jx b h1
 have gC:P.A h1.Q=U (S Y 1 jn):=by rw[eC,N.F,if_pos rfl]
 have lC:=N.D gC;obtain⟨T,eD⟩:∃ T,T=P.set h1.Q (U (S Y 1 (dg.map dk))):=⟨_,rfl⟩;have h4:iN P h1.Q 0 (dg.map dk)=U T:=by
  rw[jQ gC (by simp[jn,dl]),eD];congr 4;simp[jn,dl]
 have gD:T.A h1.Q=U (S Y 1 (dg.map dk)):=by rw[eD,gY lC,if_pos rfl]
 have aD:a_ h1 T:=by rw[eD,eC];exact(a_.push _ _).set _ (ai _) (by grind)
 have hp:=hc.trans aD;have oD:ij T h1.Q 1 (M (U ⟨h1.Q,0,O⟩) 32 32) 32 (dg.map dk):=ij.new (ai _) gD (by simp[dl]) kA (.inr rfl);obtain⟨v',h2,k1,k2,k3⟩:=yr (j' b) (tx:=31) (m:=L d) k_ iA oD aD.1 (us (j' b) k_ (sv.R hp)) jA (by rw[ux];omega) iA;have a2:a_ h1 h2:=k3.R aD oD;simp[Jx,-Jx,ho,dl,h4,AW,k1];have s2:SN h2 v' (dg++d):=by
  have:=k2.sl
  grind
 have hx:=hc.trans a2;refine I1 b (Eo (Laid.R laid hx)) s2 (by grind) _ fun h3 a3 => ?_;obtain⟨j,C⟩:∃ j,j=Bl.keyed1 [] (dg++d):=⟨_,rfl⟩;have tl:L j=32:=by rw[C];exact oR _
 have te:j=wV l d:=by rw[C,hdg];rfl
 rw[<- C];have hr:=hx.trans a3;have g3:h3.A h.Q=U (S Y 1 jn):=(((aB.trans a1).trans a2).trans a3).A gA;have l3:=N.D g3;have hn:iN h3 h.Q 0 (j.map dk)=U (h3.set h.Q (U (S Y 1 (j.map dk)))):=by
  rw[jQ g3 (by simp[jn,tl])];congr 4;simp[jn,tl]
 have e1:iy (h3.set h.Q (U (S Y 1 (j.map dk)))) h.Q 0 32=U (.agg ⟨j.map dk⟩):=by
  rw[V9 (by rw[gY l3,if_pos rfl]) (by simp[tl]),ba,aj (by simp[tl])]
 simp[Jx,mZ,tl,hn,e1];rw[te];exact hk _ (hr.set _ (ai _) l3)
end
def mS(s:List Nat)(t:mL):List Nat:=if pB t=0 then wV s (nW (ui t))else List.replicate 32 0
def tI(t:mL):L (mS s t)=32:=by
 unfold mS;split
 ·exact Cc _ _
 ·simp
def Vpw(h:∀ n ∈ l,n < 256):Bytes (kI l):=fun z j=>by
 obtain⟨n,C,rfl⟩:=am.1 j
 grind
def mq(p:Pt):Prop:=∀ n ∈ p.id,n < 256
def J1t{t:mL}(hi:∀ x ∈ t.ins,mq x.pt)(T:∀ o ∈ t.outs,Bytes o.script):Bytes (ui t):=by
 have P:∀ {A:Type} (g:A->List Int) (l:List A),(∀ x ∈ l,Bytes (g x))->Bytes (l.flatMap g):=fun g l h z C=>by
  obtain⟨x,j,C⟩:=bE.1 C;exact h x j z C
 unfold ui;refine Bg (Bg (Bg (Cm _) (P _ _ fun x j => ?_)) (Bg (Cm _) (P _ _ fun o h => ?_))) (Cm _)
 ·exact Bg (Vpw _ (hi x j)) (Cm _)
 ·exact Bg (Cm _) (Bg (Cm _) (T o h))
section
attribute [local simp] XD X67 Gr Uf Rn oW Pn Vw
def Um6(laid:Ab.LaidIn h laidAll){s:ByteArray}{l:List Nat}(hs:uS s=l.map dk)(hl:L l < 1000){iv ov:V}{ins:List g_}{outs:List bN}{lock:Int}(si:Ins h iv ins)(so:jg h ov outs)(hp:∀ x ∈ ins,mq x.pt)(K:KP)(hk:∀ h',a_ h h'->K (.ret (.agg ⟨(mS l (iX ins outs lock)).map dk⟩)) h'):FK b 82 [.string s,.agg ⟨iz iv ov lock⟩] h K:=by
 refine ip b (Gr b) Vo1 rfl ?_;obtain⟨T,eA,aA,gA⟩:=kQ h ((iz iv ov lock));have nA:=lT eA;have bx:=kE eA;obtain⟨hB,eB,aB,gB⟩:=kQ T jn;have hr:jd (E b).tojo 62 T=U (pO T.Q 0,hB):=by rw[eB];exact Jx b T
 have j:=aA.trans aB;have hn:iy hB h.Q 0 3=U (.agg ⟨iz iv ov lock⟩):=by rw[V9 (aB.A gA) (by simp[iz])];rfl
 simp[Jx,bx,-Jx,hr,hn];have hb:∀ (h1:N) (dt:List Nat),a_ hB h1->L dt=32->∃ P,iN h1 T.Q 0 (dt.map dk)=U P/\iy P T.Q 0 32=U (.agg ⟨dt.map dk⟩)/\a_ h P:=by
  intro h1 dt C tl;have g3:=C.A gB;have l3:=N.D g3;refine⟨h1.set T.Q (U (S Y 1 (dt.map dk))),?_,?_,(j.trans C).set _ iA l3⟩
  ·rw[jQ g3 (by simp[jn,tl])];congr 4;simp[jn,tl]
  ·rw[V9 (by rw[gY l3,if_pos rfl]) (by simp[tl]),ba,aj (by simp[tl])]
 refine U47 b (Laid.R laid j) (si.R j) (so.R j) _ (fun h1 hc C => ?_) (fun v h1 hc o1 C => ?_)
 ·obtain⟨zd,e1⟩:∃ zd:List Nat,zd=List.replicate 32 0:=⟨_,rfl⟩;obtain⟨P,k1,k2,k3⟩:=hb h1 zd C (by grind);have zh:jP (E b).tojo 62 []=U (.agg ⟨zd.map dk⟩):=by rw[e1];kernel_rfl
  have rl:L zd=32:=by grind
  simp[Jx,hc,zh,rl,k1,mZ,k2];have:=hk P k3;unfold mS at this
  grind
 ·have k:=zX hc;have kl:=SJ k;have kb:Bytes (ui (iX ins outs lock)):=J1t (fun x hx=>by
   obtain⟨y,hy,rfl⟩:=am.1 hx;exact hp y hy) (fun o ho=>by
   obtain⟨y,hy,rfl⟩:=am.1 ho;exact(so.a y hy).b)
  simp[Jx];refine Ure b (Laid.R laid (j.trans C)) hs hl (SN.of o1.sl kb) (by simp;omega) _ fun P a2 => ?_;obtain⟨h3,k1,k2,k3⟩:=hb P _ (C.trans a2) (Cc l ((ui (iX ins outs lock)).map Int.toNat));simp[Jx,mZ,Cc,k1,k2];have:=hk h3 k3;unfold mS at this;rw[if_pos hc]at this;exact this
end
def tD:List Nat:=[115,105,103,110]
section
attribute [local simp] UY Jg1 Kt Uf Gr Vw
def V67(laid:Ab.LaidIn h laidAll){iv ov:V}{ins:List g_}{outs:List bN}{lock:Int}(si:Ins h iv ins)(so:jg h ov outs)(hp:∀ x ∈ ins,mq x.pt)(K:KP)(hk:∀ h',a_ h h'->K (.ret (.agg ⟨(mS tD (iX ins outs lock)).map dk⟩)) h'):FK b 39 [.agg ⟨iz iv ov lock⟩] h K:=by
 refine ip b (Kt b) Vbp rfl ?_;obtain⟨C,eA,aA,gA⟩:=kQ h ((iz iv ov lock));have nA:=lT eA;have bx:=kE eA;obtain⟨hB,eB,aB,gB⟩:=kQ C jn;have hc:jd (E b).tojo 62 C=U (pO C.Q 0,hB):=by rw[eB];exact Jx b C
 have j:=aA.trans aB;have h2:iy hB h.Q 0 3=U (.agg ⟨iz iv ov lock⟩):=by rw[V9 (aB.A gA) (by simp[iz])];rfl
 simp[Jx,bx,-Jx,hc,h2];refine Um6 b (l:=tD) (Laid.R laid j) rfl (by simp[tD]) (si.R j) (so.R j) hp _ fun h1 a1 => ?_;obtain⟨P,T⟩:∃ P,P=mS tD (iX ins outs lock):=⟨_,rfl⟩;have tl:L P=32:=by rw[T];exact tI _ _
 rw[<- T]at hk ⊢;have g3:=a1.A gB;have l3:=N.D g3;have hl:iN h1 C.Q 0 (P.map dk)=U (h1.set C.Q (U (S Y 1 (P.map dk)))):=by
  rw[jQ g3 (by simp[jn,tl])];congr 4;simp[jn,tl]
 have hx:iy (h1.set C.Q (U (S Y 1 (P.map dk)))) C.Q 0 32=U (.agg ⟨P.map dk⟩):=by
  rw[V9 (by rw[gY l3,if_pos rfl]) (by simp[tl]),ba,aj (by simp[tl])]
 simp[Jx,mZ,tl,hl,hx];exact hk _ ((j.trans a1).set _ iA l3)
end
end Go.Proofs.YtmgonkaadhbnpaaGreatDoor
end
