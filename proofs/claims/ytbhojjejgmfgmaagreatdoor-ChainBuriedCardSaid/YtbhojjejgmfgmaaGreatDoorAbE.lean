import Derived.Test.YtbhojjejgmfgmaaGreatDoorAbD
import Derived.KernelRfl
import Derived.ChangeArms
import Derived.OpenShut
import Derived.Lib.LaidU8
import Derived.ChangeSame
import Derived.RowKit
import Derived.MakeChecks
set_option linter.all false
open List renaming length→L
open Option renaming some→U,none→O
open Bool renaming true→Y,false→J
open Go renaming Value→V
open Go.Value renaming int→I,slice→M
open Go.IntKind renaming i64→X
open Go.Ab.Blk renaming cells→S
noncomputable section
namespace Go.Ab
def OJ(P:Program)(f:Nat):Option Func:=match P.funcs[f]? with
 | some F=>if F.name == "runtime.NumGoroutine" then O else if F.body.isSome then U F else O
 | none=>O
def J9e{P:Program}{f:Nat}{F:Func}(h:OJ P f=U F):P.funcs[f]? = U F/\(F.name == "runtime.NumGoroutine")=J/\F.body.isSome=Y:=by
 unfold OJ at h;split at h
 ·rename_i T h0;split at h
  ·cases h
  ·rename_i h1;split at h
   next C=>cases h;exact⟨h0,by simpa using h1,C⟩
   ·cases h
 ·cases h
def Kv(P:Program):Nat->Tr Func
 | 0 => .leaf
 | n+1=>(Kv P n).put n (OJ P n)
def Jgq(P:Program):∀ (n:Nat) (f:FuncId) (F:Func),(Kv P n).A f=U F->OJ P f=U F
 | 0,f,F,h=>by simp[Kv]at h
 | n+1,f,F,h=>by
  rw[Kv,Tr.H]at h;split at h
  next e=>subst e;exact h
  ·exact Jgq P n f F h
def OA(P:Program)(f:Nat):Option pR:=match P.funcs[f]? with
 | some F=>KJ F
 | none=>O
def Ku(P:Program):Nat->Tr pR
 | 0 => .leaf
 | n+1=>(Ku P n).put n (OA P n)
def Jni(P:Program):∀ (n:Nat) (f:FuncId) (x:pR),(Ku P n).A f=U x->OA P f=U x
 | 0,f,x,h=>by simp[Ku]at h
 | n+1,f,x,h=>by
  rw[Ku,Tr.H]at h;split at h
  next e=>subst e;exact h
  ·exact Jni P n f x h
def J81{P:Program}{f:Nat}{x:pR}(h:OA P f=U x):∃ F,P.funcs[f]? = U F/\KJ F=U x:=by
 unfold OA at h;split at h
 next F C=>exact⟨F,C,h⟩
 ·cases h
def oV(P:Program)(n b:Nat):d_ P :=
 {ty:=KG P P.types.size,K:=fun t r h=>J7c (Jk1 P _ t r h),G:=⟨n,b⟩,fn:=Kv P P.funcs.size,fnok:=fun f F h=>J9e (Jgq P _ f F h),ex:=Ku P P.funcs.size,exok:=fun f x h=>J81 (Jni P _ f x h)}
section
variable{H:Type}(P:Program)
def BW(g:TypeId->DataW H->Option (List V))(lQ:Nat):List Field->List (DataW H)->Nat->Option (List V)
 | [],[],C=>if C == lQ then U []else O
 | f::T,d::ds,C=>if f.offset == C then(match g f.type d with
  | some l=>if L l == P.cellsOf f.type then(match BW g lQ T ds (C+L l)with | some r=>U (l++r) | none=>O)else O
  | none=>O)else O
 | _,_,_=>O
def Kz(g:DataW H->Option (List V))(sz lQ:Nat):List (DataW H)->Nat->Option (List V)
 | [],C=>if C == lQ then U []else O
 | d::ds,C=>match g d with
  | some l=>if L l == sz then(match Kz g sz lQ ds (C+sz)with | some r=>U (l++r) | none=>O)else O
  | none=>O
def D':Nat->TypeId->DataW H->Option (List V)
 | 0,_,_=>O
 | k+1,t,d =>
  match P.underlying t,d with
  | some .bool,.lit (.bool b)=>U [.bool b]
  | some (.int T),.lit (.int _ n)=>U [.int T n]
  | some .string,.lit (.string l)=>U [.string ⟨l.toArray⟩]
  | some (.struct C),.agg ds=>BW P (D' k) (P.cellsOf t) C.toList ds 0
  | some (.array n e),.agg ds=>if L ds == n then Kz (D' k e) (P.cellsOf e) (P.cellsOf t) ds 0 else O
  | _,_=>O
end
section
variable{H:Type}{enc:TypeId × V->H}{P:Program}{w:World}{base:Nat}{sp:Nat->Bool}{held:Bool}
def Z5b{g:TypeId->DataW H->Option (List V)}{cs:List V}{n:Nat}
  (hg:∀ t d l cs p,g t d=U l->DataW.trod enc P w base sp held n t cs=U (d,p)->cs=l) :
  ∀ (fs:List Field) (ds:List (DataW H)) (C:Nat) (l:List V),BW P g (L cs) fs ds C=U l ->
  (∀ (i:Nat) (f:Field) d,fs[i]? = U f->ds[i]? = U d->∃ p,DataW.trod enc P w base sp held n f.type ((cs.drop f.offset).take (P.cellsOf f.type))=U (d,p))->cs.drop C=l
 | [],[],C,l,h,_=>by
  simp only[BW]at h;split at h
  next e=>cases h;simp at e;simp[e]
  ·cases h
 | f::fs,d::ds,C,l,h,ht=>by
  simp only[BW]at h;split at h
  ·rename_i e0;simp only[beq_iff_eq]at e0;split at h
   ·rename_i l0 T;split at h
    ·rename_i e1;simp only[beq_iff_eq]at e1;split at h
     next r hr=>cases h;have ih:=Z5b hg fs ds _ r hr (fun i f' d' hf hd=>ht (i+1) f' d' (by simpa using hf) (by simpa using hd));obtain⟨p,h0⟩:=ht 0 f d kA kA;have h1:=hg _ _ _ _ _ T h0;rw[e0,<- e1]at h1;rw[<- ih,<- cD,<- bf (L l0) (cs.drop C),h1];simp
     ·cases h
    ·cases h
   ·cases h
  ·cases h
 | [],_::_,_,_,h,_=>by simp[BW]at h
 | _::_,[],_,_,h,_=>by simp[BW]at h
def Jg0{g:DataW H->Option (List V)}{cs:List V}{n sz:Nat}{e:TypeId}
  (hg:∀ d l cs p,g d=U l->DataW.trod enc P w base sp held n e cs=U (d,p)->cs=l) :
  ∀ (ds:List (DataW H)) (j:Nat) (l:List V),Kz g sz (L cs) ds (j*sz)=U l ->
  (∀ (i:Nat) d,ds[i]? = U d->∃ p,DataW.trod enc P w base sp held n e ((cs.drop ((j+i)*sz)).take sz)=U (d,p))->cs.drop (j*sz)=l
 | [],j,l,h,_=>by
  simp only[Kz]at h;split at h
  next e=>cases h;simp at e;simp[e]
  ·cases h
 | d::ds,j,l,h,ht=>by
  simp only[Kz]at h;split at h
  ·rename_i l0 C;split at h
   ·rename_i T;simp only[beq_iff_eq]at T;split at h
    ·rename_i r hr;cases h;have e2:j*sz+sz=(j+1)*sz:=by rw[cr];simp
     rw[e2]at hr;have ih:=Jg0 hg ds (j+1) r hr (fun i d' hd=>by
      have:=ht (i+1) d' (by simpa using hd);rwa [show j+(i+1)=j+1+i from by omega]at this)
     obtain⟨p,h0⟩:=ht 0 d kA;have h1:=hg _ _ _ _ C h0;simp only[cz]at h1;rw[<- ih,<- e2,<- cD,<- bf sz (cs.drop (j*sz)),h1];simp[T]
    ·cases h
   ·cases h
  ·cases h
def Pq:∀ (k:Nat) (t:TypeId) (d:DataW H) (l cs:List V) (n:Nat) (p:List MemPlace),D' P k t d=U l->DataW.trod enc P w base sp held n t cs=U (d,p)->cs=l
 | 0,_,_,_,_,_,_,h,_=>by simp[D']at h
 | k+1,t,d,l,cs,n,p,h,ht=>by
  simp only[D']at h;split at h
  next b T=>cases h;obtain⟨b',rfl,e⟩:=DataW.trod_bool T ht;cases e;rfl
  next k' k2 z T=>cases h;obtain⟨n',rfl,e,_⟩:=DataW.trod_int T ht;cases e;rfl
  next s T=>cases h;obtain⟨s',rfl,e,_⟩:=DataW.trod_string T ht;cases e;simp
  ·rename_i fs ds T;obtain⟨xs,m,rfl,e,hl,hc,C⟩:=ff T ht;simp only[bZ,DataW.agg.injEq]at e;rw[<- hl]at h;have:=Z5b (n:=m) (fun t d l cs p h1 h2=>Pq k t d l cs m p h1 h2) _ _ _ _ h (fun i f d hf hd=>by
    have h1:=C i f (by simpa using hf);rw[e.1,List.getElem?_map]at hd;rw[h1];cases hx:xs[i]? with
    | none=>rw[hx]at hd;cases hd
    | some y=>rw[hx]at hd;cases hd;exact⟨y.2,rfl⟩)
   simpa using this
  ·rename_i n' e' ds T;obtain⟨xs,m,rfl,e,hl,hc,C⟩:=DataW.trod_array T ht;simp only[bZ,DataW.agg.injEq]at e;split at h
   ·rename_i hn;rw[<- hl]at h;have:=Jg0 (n:=m) (fun d l cs p h1 h2=>Pq k e' d l cs m p h1 h2) ds 0 l (by simpa using h) (fun i d hd=>by
     rw[e.1,List.getElem?_map]at hd;cases hx:xs[i]? with
     | none=>rw[hx]at hd;cases hd
     | some y =>
      rw[hx]at hd;cases hd;have hi:i < L xs:=(List.getElem?_eq_some_iff.1 hx).1;have h1:=C i jA;rw[hx]at h1;simp only[bK];exact⟨y.2,h1⟩)
    simpa using this
   ·cases h
  ·cases h
end
def KB:List (Nat × List V)->Tr Blk
 | [] => .leaf
 | x::l=>(KB l).put x.1 (U (S J 0 x.2))
def rE(n:Nat)(l:List (Nat × List V)):N:=⟨n,n,KB l⟩
def Ay(n:Nat):Ren:=fun b=>if b < n then U ⟨b,0,0,0,O⟩else O
def Lz:∀ (l:List (Nat × List V)) (b:Nat) (x:Blk),(KB l).A b=U x->∃ c,(b,c) ∈ l/\x=S J 0 c
 | [],b,x,h=>by simp[KB]at h
 | y::l,b,x,h=>by
  simp only[KB]at h;rw[Tr.H]at h;split at h
  next e=>subst e;cases h;exact⟨y.2,kA,rfl⟩
  ·obtain⟨c,h1,C⟩:=Lz l b x h;exact⟨c,by simp[h1],C⟩
def Jfa{W:World}{n:Nat}{l:List (Nat × List V)}(hn:n<=W.heap.size)(hl:∀ x ∈ l,(∀ v ∈ x.2,flat v=Y/\v.oneCell'=Y)/\∃ C e fr,W.heap[x.1]? = U (.cells C e fr)/\C.toList=x.2) :
  bN ⟨n,W.heap.size⟩ (Ay n) (rE n l) W:=by
 have T:∀ b x,(rE n l).A b=U x->b < n/\∃ c,(b,c) ∈ l/\x=S J 0 c:=by
  intro b x h;unfold N.A at h;split at h
  next hb=>exact⟨hb,Lz l b x h⟩
  ·cases h
 have hZ:∀ b p,Ay n b=U p->b < n/\p=⟨b,0,0,0,O⟩:=by
  intro b p h;unfold Ay at h;split at h
  ·cases h;exact⟨by assumption,rfl⟩
  ·cases h
 have hk:∀ b,(rE n l).own b=J:=by
  intro b;unfold N.own;cases hb:(rE n l).A b with
  | none=>rfl
  | some x=>obtain⟨_,c,_,rfl⟩:=T b x hb;rfl
 refine⟨fun b p h => ?_,fun b p x hb hx => ?_,fun b c p q _ _ _ ho _ => ?_,fun g hg=>⟨?_,hk g⟩,ac _,fun b x hx => ?_,fun b p x hb hx => ?_,ac _⟩
 ·obtain⟨h1,rfl⟩:=hZ b p h;exact⟨h1,trivial⟩
 ·obtain⟨h1,rfl⟩:=hZ b p hb;obtain⟨_,c,hc,rfl⟩:=T b x hx;obtain⟨hf,C,e,fr,h2,h3⟩:=hl _ hc;refine⟨rfl,.inr ⟨C,e,fr.1,fr.2,h2,fun i v hv => ?_,fun h=>by cases h⟩⟩;have hr:=hf v (List.mem_of_getElem? hv);simp only at h3;refine⟨?_,iK _ v hr.1,hr.2⟩;rw[oz _ hr.1,<- hv,<- h3];simp
 ·rw[hk b]at ho;cases ho
 ·simp[Ay,show g < n from hg]
 ·obtain⟨_,c,hc,rfl⟩:=T b x hx;intro v hv;exact⟨iK _ v ((hl _ hc).1 v hv).1,((hl _ hc).1 v hv).2⟩
 ·obtain⟨h1,rfl⟩:=hZ b p hb;obtain⟨_,c,_,rfl⟩:=T b x hx;refine⟨fun h => ?_,fun _ _=>⟨aw h1 hn,rfl⟩⟩;simp[Blk.own]at h
def J3u(P:Program)(laid:List (String × DataW Unit))(n:Nat)(l:List (Nat × List V)):Prop :=
 ∀ x ∈ l,x.1 < n/\(∀ v ∈ x.2,flat v=Y/\v.oneCell'=Y)/\∃ name t d k,(name,d) ∈ laid/\P.globalNamed name=U x.1/\(P.globals[x.1]?).map (·.type)=U t/\D' P k t d=U x.2
def Jev{P:Program}{W:World}{laid:List (String × DataW Unit)}{n:Nat}{l:List (Nat × List V)}(h:laidMet P laid W)(hl:J3u P laid n l)(hn:n<=W.heap.size) :
  bN ⟨n,W.heap.size⟩ (Ay n) (rE n l) W:=by
 refine Jfa hn fun x hx => ?_;obtain⟨_,hf,name,t,d,k,hm,hg,ht,hd⟩:=hl x hx;refine⟨hf,?_⟩;obtain⟨g,t',cs,hc,p,h1,h2,T,h4⟩:=Lib.laidMet.reads h hm;obtain rfl:=bM (hg.symm.trans h1);obtain rfl:=bM (ht.symm.trans h2);have:=Pq k _ _ _ _ _ _ hd h4;unfold World.var? at T;rw[hg]at T;simp only[dZ]at T;split at T
 next C e fr hC=>cases T;exact⟨_,e,fr,hC,this⟩
 ·cases T
def ob{A B:Type}(x:Option A)(f:A->Option B):Option B:=Option.rec (motive:=fun _=>Option B) O f x
@[simp] def jf {A B:Type} (a:A) (f:A->Option B):ob (U a) f=f a:=rfl
def bq{A:Type}(b:Bool)(x y:A):A:=Bool.rec (motive:=fun _=>A) y x b
@[simp] def oY {A:Type} (x y:A):bq Y x y=x:=rfl
@[simp] def po {A:Type} (x y:A):bq J x y=y:=rfl
def rT(i:Nat)(_:Nat)(t:Tm):Option V:=t.t.A i
def rC(v:V)(_:Nat)(_:Tm):Option V:=bq (flat v) (U v) O
def rG(g n:Nat)(_:Tm):Option V:=bq (Nat.blt g n) (U (.pointer (U ⟨g,0,O⟩))) O
def rF(f:FuncId)(_:Nat)(_:Tm):Option V:=U (.func (.func f) #[] #[])
def rd(x:Operand)(n:Nat)(t:Tm):Option V:=Operand.rec (motive:=fun _=>Nat->Tm->Option V) rT rC rG rF x n t
def mV(G:Bs)(t:Tm)(x:Operand):rd x G.n t=g_ G t x:=by
 cases x with
 | tmp i=>rfl
 | const v=>show rC v 0 t=_;simp only[rC,g_];cases flat v <;> rfl
 | global g =>
  show rG g G.n t=_;simp only[rG,g_];by_cases h:g < G.n
  ·rw[show Nat.blt g G.n=Y from by simpa using h];simp[h]
  ·rw[cm.2 (fun C:Nat.blt g G.n=Y=>h (by simpa using C))];simp[h]
 | func f=>rfl
def wt(r:Option (V × N)):Option mL:=ob r fun p=>Prod.rec (motive:=fun _=>Option mL) (fun v h=>U (.val v h)) p
def qc(h:N)(r:Option V):Option mL:=ob r fun v=>U (.val v h)
def K3(r:Option N):Option mL:=ob r fun h=>U (.skip h)
def yk(r:Option (V × N)):wt r=gv r:=by cases r <;> rfl
def qx(h:N)(r:Option V):qc h r=g0 h r:=by cases r <;> rfl
def NZ(r:Option N):K3 r=gs r:=by cases r <;> rfl
abbrev kS:=∀ P:Program,d_ P->Tm->N->Option mL
def G5(x:Operand):kS:=fun _ E t h=>qc h (rd x E.G.n t)
def Up(c a b:Operand):kS:=fun _ E t h=>match rd c E.G.n t with
 | some (.bool Y)=>qc h (rd a E.G.n t)
 | some (.bool J)=>qc h (rd b E.G.n t)
 | _=>O
def J0r(e:TypeId):kS:=fun _ E _ h=>wt (jh E.toiS e h)
def TD(_:TypeId)(x:Operand):kS:=fun _ E t h=>ob (rd x E.G.n t) fun v=>wt (jP v h)
def J26(ty:TypeId)(ps:Array (Nat × Operand)):kS:=fun _ E t h=>ob (Qh E.G t ps.toList) fun l=>qc h (lK E.toiS ty l)
def Rc(ty:TypeId)(n:Nat)(ps:Array (Nat × Operand)):kS:=fun _ E t h=>ob (Qh E.G t ps.toList) fun l=>wt (Wc E.toiS ty n l h)
def Ee(ty:TypeId)(m k x:Operand):kS:=fun _ E t h=>ob (rd m E.G.n t) fun a=>ob (rd k E.G.n t) fun b=>ob (rd x E.G.n t) fun c=>K3 (pY E.toiS ty a b c h)
def TS(ty:TypeId)(a:Operand):kS:=fun _ E t h=>ob (rd a E.G.n t) fun x=>qc h (jy E.toiS ty x h)
def J1d(ty:TypeId)(a v:Operand):kS:=fun _ E t h=>ob (rd a E.G.n t) fun x=>ob (rd v E.G.n t) fun y=>K3 (j0 E.toiS ty x y h)
def oN1(_:Nat):kS:=fun _ _ _ _=>O
def Pp(x:Operand):kS:=fun _ E t h=>ob (rd x E.G.n t) fun v=>qc h (Hw v)
def Ty(op:BinOp)(ty:TypeId)(x y:Operand)(_:TypeId):kS:=fun _ E t h=>ob (rd x E.G.n t) fun a=>ob (rd y E.G.n t) fun b=>qc h (Xa E.toiS op ty (Q8 x || Q8 y) a b h)
def O0(op:UnOp)(_:TypeId)(x:Operand):kS:=fun _ E t h=>ob (rd x E.G.n t) fun v=>qc h (Hd op v)
def T9(C dst:TypeId)(x:Operand):kS:=fun _ E t h=>ob (rd x E.G.n t) fun v=>bq (vT E.toiS C dst) (qc h (wR E.toiS C dst v)) (wt (wK E.toiS C dst v h))
def ZP(ty:TypeId)(x:Operand):kS:=fun _ E t h=>ob (rd x E.G.n t) fun v=>qc h (DQ E.toiS ty v)
def Jbe(ty:TypeId)(x:Operand):kS:=fun _ E t h=>ob (rd x E.G.n t) fun v=>qc h (Ex E.toiS ty v)
def ZO(fn:Fn)(a b:Array Operand):kS:=fun _ E t h=>ob (kH E.G t a.toList) fun x=>ob (kH E.G t b.toList) fun y=>qc h (AT fn x y)
def Ja2(ty:TypeId)(r:Option Operand):kS:=fun _ E t h=>ob (kU E.G t r) fun hv=>wt (uC E.toiS ty hv h)
def oN2(_:TypeId)(_:Operand):kS:=fun _ _ _ _=>O
def P7(ty:TypeId)(n c:Operand):kS:=fun _ E t h=>ob (rd n E.G.n t) fun x=>ob (rd c E.G.n t) fun y=>wt (Ah E.toiS ty x y h)
def J2r(ty:TypeId)(x:Operand)(lo hi mx:Option Operand):kS:=fun _ E t h=>ob (rd x E.G.n t) fun v=>ob (kU E.G t lo) fun a=>ob (kU E.G t hi) fun b=>ob (kU E.G t mx) fun c=>wt (ka E.toiS ty v a b c h)
def PO(ty:TypeId)(x:Operand)(f:Nat):kS:=fun _ E t h=>ob (rd x E.G.n t) fun v=>qc h (Wx E.toiS ty v f)
def J3y(ty:TypeId)(x:Operand)(f:Nat):kS:=fun _ E t h=>ob (rd x E.G.n t) fun v=>qc h (Of E.toiS ty v f)
def P4(ty:TypeId)(x i:Operand):kS:=fun _ E t h=>ob (rd x E.G.n t) fun a=>ob (rd i E.G.n t) fun b=>qc h (Ug E.toiS ty a b)
def J1c(ty:TypeId)(x i:Operand):kS:=fun _ E t h=>ob (rd x E.G.n t) fun a=>ob (rd i E.G.n t) fun b=>qc h (Kw E.toiS ty a b)
def ZH(ty:TypeId)(x k:Operand)(ok:Bool):kS:=fun _ E t h=>ob (rd x E.G.n t) fun a=>ob (rd k E.G.n t) fun b=>qc h (mW E.toiS ty a b ok h)
def Pc(ty:TypeId)(m k:Operand):kS:=fun _ E t h=>ob (rd m E.G.n t) fun a=>ob (rd k E.G.n t) fun b=>wt (zv E.toiS ty a b h)
def Ri(_:TypeId)(m st x:Operand):kS:=fun _ E t h=>ob (rd m E.G.n t) fun a=>ob (rd st E.G.n t) fun b=>ob (rd x E.G.n t) fun c=>K3 (Ak a b c h)
def J14(ty:TypeId)(x:Operand):kS:=fun _ E t h=>ob (rd x E.G.n t) fun v=>wt (ym E.toiS ty v h)
def TK(x:Operand)(s:Bool):kS:=fun _ E t h=>ob (rd x E.G.n t) fun v=>wt (G7 v s h)
def J0d(x:Operand):kS:=fun _ E t h=>ob (rd x E.G.n t) fun v=>qc h (BN v h)
def Jot(x:Operand)(_ ty:TypeId)(ok:Bool):kS:=fun _ E t h=>ob (rd x E.G.n t) fun v=>qc h (DP E.toiS v ty ok)
def Jcl(x:Operand)(i:Nat):kS:=fun _ E t h=>ob (rd x E.G.n t) fun v=>qc h (Qa v i)
def Va3(P:Program)(E:d_ P)(C:V)(args:List V)(h:N):Option mL:=match Qi C args with
 | some (f,l)=>match E.fn.A f with
  | some _=>U (.enter f l h)
  | none=>match E.ex.A f with
   | some x=>gv (AA x l h)
   | none=>O
 | none=>u6 C args h
def TI(c:Call):kS:=fun P E t h=>ob (kH E.G t c.args.toList) fun args=>match c.callee with
 | .builtin b=>Q9 E b c.argTypes.toList args h
 | .value f=>ob (rd f E.G.n t) fun C=>Va3 P E C args h
 | .invoke _ _=>O
def oN7(_:Call):kS:=fun _ _ _ _=>O
def J2i(x:Operand):kS:=fun _ E t h=>match rd x E.G.n t with
 | some (.iface u v)=>U (.panic (.iface u v) h)
 | _=>O
def oN8(_ _:Operand):kS:=fun _ _ _ _=>O
def oN9(_:TypeId)(_:Operand)(_:Bool):kS:=fun _ _ _ _=>O
def Vlu(_:Array SelectCase)(_:Bool):kS:=fun _ _ _ _=>O
def Vlb(P:Program)(E:d_ P)(o:Op)(t:Tm)(h:N):Option mL :=
 Op.rec (motive:=fun _=>kS) G5 G5 Up J0r TD J26 Rc Ee TS J1d oN1 oN1 Pp Ty O0 T9 ZP Jbe ZO Ja2 oN2 P7 J2r PO J3y P4 J1c ZH
  Ee Pc Ri J14 TK J0d Jot Jcl TI oN7 oN7 J2i oN8 oN9 Vlu o P E t h
def Ve6{P:Program}(E:d_ P)(t:Tm)(h:N)(o:Oper):Vlb P E o.op t h=iN E t h o:=by
 obtain⟨d,op,ty,pos,af,g⟩:=o;have hx:∀ {A:Type} (x y:Option V) (f:V->V->Option A),(match x,y with | some a,U b=>f a b | _,_=>O)=ob x fun a=>ob y fun b=>f a b:=by
  intro A x y f;cases x <;> cases y <;> rfl
 cases op with
 | move x=>show G5 x P E t h=_;simp only[G5,iN,mV,qx]
 | assign x=>show G5 x P E t h=_;simp only[G5,iN,mV,qx]
 | pick c a b =>
  show Up c a b P E t h=_;simp only[Up,iN,mV,qx];rcases g_ E.G t c with _ | v
  ·rfl
  ·cases v <;> first | rfl | (rename_i b;cases b <;> rfl)
 | alloc e=>show J0r e P E t h=_;simp only[J0r,iN,yk]
 | box e x=>show TD e x P E t h=_;simp only[TD,iN,mV,yk];cases g_ E.G t x <;> rfl
 | build ty C=>show J26 ty C P E t h=_;simp only[J26,iN,qx];cases Qh E.G t C.toList <;> rfl
 | buildSlice ty n C=>show Rc ty n C P E t h=_;simp only[Rc,iN,yk];cases Qh E.G t C.toList <;> rfl
 | insert ty m k x=>show Ee ty m k x P E t h=_;simp only[Ee,iN,mV,NZ];cases g_ E.G t m <;> cases g_ E.G t k <;> cases g_ E.G t x <;> rfl
 | load ty a=>show TS ty a P E t h=_;simp only[TS,iN,mV,qx];cases g_ E.G t a <;> rfl
 | store ty a v=>show J1d ty a v P E t h=_;simp only[J1d,iN,mV,NZ];cases g_ E.G t a <;> cases g_ E.G t v <;> rfl
 | ready g=>rfl
 | waits g=>rfl
 | nilCheck x=>show Pp x P E t h=_;simp only[Pp,iN,mV,qx];cases g_ E.G t x <;> rfl
 | binOp op ty x y yt=>show Ty op ty x y yt P E t h=_;simp only[Ty,iN,mV,qx];cases g_ E.G t x <;> cases g_ E.G t y <;> rfl
 | unOp op ty x=>show O0 op ty x P E t h=_;simp only[O0,iN,mV,qx];cases g_ E.G t x <;> rfl
 | convert s d x =>
  show T9 s d x P E t h=_;simp only[T9,iN,mV,qx,yk];cases g_ E.G t x
  ·rfl
  ·cases vT E.toiS s d <;> rfl
 | sliceToArrayPointer ty x=>show ZP ty x P E t h=_;simp only[ZP,iN,mV,qx];cases g_ E.G t x <;> rfl
 | makeInterface ty x=>show Jbe ty x P E t h=_;simp only[Jbe,iN,mV,qx];cases g_ E.G t x <;> rfl
 | makeFunc fn a b=>show ZO fn a b P E t h=_;simp only[ZO,iN,qx];cases kH E.G t a.toList <;> cases kH E.G t b.toList <;> rfl
 | makeMap ty r=>show Ja2 ty r P E t h=_;simp only[Ja2,iN,yk];cases kU E.G t r <;> rfl
 | makeChan ty x=>rfl
 | makeSlice ty n c=>show P7 ty n c P E t h=_;simp only[P7,iN,mV,yk];cases g_ E.G t n <;> cases g_ E.G t c <;> rfl
 | slice ty x T hi mx=>show J2r ty x T hi mx P E t h=_;simp only[J2r,iN,mV,yk];cases g_ E.G t x <;> cases kU E.G t T <;> cases kU E.G t hi <;> cases kU E.G t mx <;> rfl
 | fieldAddr ty x f=>show PO ty x f P E t h=_;simp only[PO,iN,mV,qx];cases g_ E.G t x <;> rfl
 | field ty x f=>show J3y ty x f P E t h=_;simp only[J3y,iN,mV,qx];cases g_ E.G t x <;> rfl
 | indexAddr ty x i=>show P4 ty x i P E t h=_;simp only[P4,iN,mV,qx];cases g_ E.G t x <;> cases g_ E.G t i <;> rfl
 | index ty x i=>show J1c ty x i P E t h=_;simp only[J1c,iN,mV,qx];cases g_ E.G t x <;> cases g_ E.G t i <;> rfl
 | lookup ty x k ok=>show ZH ty x k ok P E t h=_;simp only[ZH,iN,mV,qx];cases g_ E.G t x <;> cases g_ E.G t k <;> rfl
 | mapUpdate ty m k x=>show Ee ty m k x P E t h=_;simp only[Ee,iN,mV,NZ];cases g_ E.G t m <;> cases g_ E.G t k <;> cases g_ E.G t x <;> rfl
 | mapEntry ty m k=>show Pc ty m k P E t h=_;simp only[Pc,iN,mV,yk];cases g_ E.G t m <;> cases g_ E.G t k <;> rfl
 | entryStore ty m st x=>show Ri ty m st x P E t h=_;simp only[Ri,iN,mV,NZ];cases g_ E.G t m <;> cases g_ E.G t st <;> cases g_ E.G t x <;> rfl
 | range ty x=>show J14 ty x P E t h=_;simp only[J14,iN,mV,yk];cases g_ E.G t x <;> rfl
 | next x s=>show TK x s P E t h=_;simp only[TK,iN,mV,yk];cases g_ E.G t x <;> rfl
 | entry x=>show J0d x P E t h=_;simp only[J0d,iN,mV,qx];cases g_ E.G t x <;> rfl
 | typeAssert x xt ty ok=>show Jot x xt ty ok P E t h=_;simp only[Jot,iN,mV,qx];cases g_ E.G t x <;> rfl
 | extract x i=>show Jcl x i P E t h=_;simp only[Jcl,iN,mV,qx];cases g_ E.G t x <;> rfl
 | call c =>
  show TI c P E t h=_;simp only[TI,iN,mV];cases kH E.G t c.args.toList with
  | none=>rfl
  | some args =>
   simp only[jf];cases c.callee with
   | builtin b=>rfl
   | value f =>
    simp only;cases g_ E.G t f with
    | none=>rfl
    | some fv =>
     simp only[jf,Va3];cases Qi fv args with
     | none=>rfl
     | some p=>rfl
   | invoke _ _=>rfl
 | go c=>rfl
 | defer c=>rfl
 | panic x =>
  show J2i x P E t h=_;simp only[J2i,iN,mV];rcases g_ E.G t x with _ | v
  ·rfl
  ·cases v <;> rfl
 | send _ _=>rfl
 | recv _ _ _=>rfl
 | select _ _=>rfl
def TC(n:Nat)(d:Option Tmp):Bool:=Option.rec (motive:=fun _=>Bool) Y (fun i=>Nat.blt i n) d
def J0j(s:St)(d:Option Tmp):TC s.t.size d=jY s d:=by cases d <;> rfl
def Ik(s:St)(d:Option Tmp)(v:V)(h:N):St:=Option.rec (motive:=fun _=>St) {s with h:=h} (fun i=>{t:=s.t.put i v,ds:=s.ds,h:=h}) d
def Hl(s:St)(d:Option Tmp)(v:V)(h:N):Ik s d v h=s.put d v h:=by cases d <;> rfl
abbrev XS:=Option (Exit × St)
abbrev Ck:=b_->Option Tmp->St->XS
def EN(o:Option Tmp)(s:St)(r:Option (ip × N)):XS:=ob r fun p=>Prod.rec (motive:=fun _=>XS) (fun e h=>ip.rec (motive:=fun _=>XS) (fun v=>U (.normal,Ik s o v h)) (fun C=>U (.panic C,{s with h:=h})) e) p
def Vlq(v:V)(h:N):Ck:=fun _ o s=>U (.normal,Ik s o v h)
def Vk5(h:N):Ck:=fun _ o s=>U (.normal,Ik s o Qq h)
def Vfz(f:FuncId)(args:List V)(h:N):Ck:=fun C o s=>EN o s (C.fn f args h)
def Vh5(l:Nat)(args:List V)(h:N):Ck:=fun C o s=>EN o s (C.rnd l args h)
def Vh9(_:Deferred)(_:N):Ck:=fun _ _ _=>O
def Vh3(v:V)(h:N):Ck:=fun _ _ s=>U (.panic [{v,recovered:=false}],{s with h:=h})
def Vm8(r:mL)(C:b_)(o:Option Tmp)(s:St):XS:=mL.rec (motive:=fun _=>Ck) Vlq Vk5 Vfz Vh5 Vh9 Vh3 r C o s
def TQ(P:Program)(E:d_ P)(rd:Option Nat)(o:Oper)(s:St):XS:=match o.op with
 | .defer c=>match rd with
  | none=>match BM E s.t c with
   | some d=>U (.normal,({s with ds:=d::s.ds}:St).put o.dst Qq s.h)
   | none=>O
  | some _=>O
 | _=>O
def qy(P:Program)(E:d_ P)(C:b_)(rd:Option Nat)(o:Oper)(s:St):XS :=
 bq (TC s.t.size o.dst) (Option.rec (motive:=fun _=>XS) (TQ P E rd o s) (fun r=>Vm8 r C o.dst s) (Vlb P E o.op s.t s.h)) O
def J8o{P:Program}(E:d_ P)(C:b_)(rd:Option Nat)(o:Oper)(s:St):qy P E C rd o s=ui E C rd o s:=by
 unfold qy ui;rw[J0j];cases hd:jY s o.dst with
 | false=>rfl
 | true =>
  simp only[cL,az,if_false,oY];rw[Ve6];have hx:∀ c,o.op=.defer c->iN E s.t s.h o=O:=by
   intro c T;simp[iN,T]
  split
  ·rename_i c T;rw[hx c T];simp only[TQ,T];cases rd with
   | none=>cases BM E s.t c <;> rfl
   | some _=>rfl
  ·rename_i h2;cases ha:iN E s.t s.h o with
   | none =>
    simp only[TQ]
    all_goals (split <;> first | rfl | (rename_i c T;exact absurd T (h2 c)))
   | some r =>
    simp only;cases r with
    | val v h=>show U _=_;rw[Hl]
    | skip h=>show U _=_;rw[Hl]
    | enter f args h =>
     show EN o.dst s (C.fn f args h)=_;simp only[EN];rcases C.fn f args h with _ | ⟨_ | _,h'⟩
     ·rfl
     ·simp only[jf,Hl]
     ·rfl
    | round f args h =>
     show EN o.dst s (C.rnd f args h)=_;simp only[EN];rcases C.rnd f args h with _ | ⟨_ | _,h'⟩
     ·rfl
     ·simp only[jf,Hl]
     ·rfl
    | defer d h=>rfl
    | panic v h=>rfl
def T_(ops:List Oper)(t:Tm)(o:Oper):Option Bool:=Option.rec (motive:=fun _=>Option Bool) (U Y) (fun _=>Qg ops t o) o.guard
def J71(ops:List Oper)(t:Tm)(o:Oper):T_ ops t o=Qg ops t o:=by
 unfold T_;cases C:o.guard with
 | none=>simp[Qg,C]
 | some p=>rfl
abbrev MO:=∀ P:Program,d_ P->b_->Option Nat->List Oper->St->XS
def goK(f:St->XS)(p:Exit × St):XS:=Prod.rec (motive:=fun _=>XS) (fun e s=>Exit.rec (motive:=fun _=>XS) (f s) (fun _=>O) (fun _=>O) O (fun C=>U (.panic C,s)) O e) p
def Vlt:MO:=fun _ _ _ _ _ s=>U (.normal,s)
def TY(o:Oper)(_:List Oper)(f:MO):MO:=fun P E C rd T s =>
 ob (T_ T s.t o) fun b=>bq b (ob (qy P E C rd o s) (goK (f P E C rd T))) (bq (TC s.t.size o.dst) (f P E C rd T (Ik s o.dst Qq s.h)) O)
def It(P:Program)(E:d_ P)(C:b_)(rd:Option Nat)(ops l:List Oper)(s:St):XS:=List.rec (motive:=fun _=>MO) Vlt TY l P E C rd ops s
def J5e{P:Program}(E:d_ P)(C:b_)(rd:Option Nat)(ops:List Oper):∀ (l:List Oper) (s:St),It P E C rd ops l s=o8 E C rd ops l s
 | [],s=>rfl
 | o::r,s=>by
  have ih:=J5e E C rd ops r;show TY o r (fun P E C rd ops s=>It P E C rd ops r s) P E C rd ops s=_;simp only[TY,o8,J71,J8o,J0j,Hl,ih];cases Qg ops s.t o with
  | none=>rfl
  | some b =>
   simp only[jf];cases b with
   | true =>
    simp only[oY];rcases ui E C rd o s with _ | ⟨e,T⟩
    ·rfl
    ·cases e <;> first | rfl | (show It P E C rd ops r T=_;exact ih T)
   | false =>
    simp only[po];cases jY s o.dst <;> rfl
abbrev qB:=∀ P:Program,d_ P->b_->Option Nat->Nat->St->XS
def yb(f:St->XS)(p:Exit × St):XS:=Prod.rec (motive:=fun _=>XS) (fun e s=>Exit.rec (motive:=fun _=>XS) (f s) (fun i=>U (.exit i,s)) (fun i=>U (.goto i,s)) (U (.ret,s)) (fun C=>U (.panic C,s)) (U (.outgrown,s)) e) p
def Md(f:St->XS)(s:St):yb f (.normal,s)=f s:=rfl
def Vfo:qB:=fun _ _ _ _ _ s=>U (.normal,s)
def Vb7(_:Nat)(ops:Array Oper)(T:Bool):qB:=fun P E C rd _ s=>bq T (ob (th E C ops.toList s) fun s'=>U (.normal,s')) (It P E C rd ops.toList ops.toList s)
def Vma(_ _:Code)(T fy:qB):qB:=fun P E C rd k s=>ob (T P E C rd k s) (yb (fy P E C rd k))
def Vjn(c:Operand)(_ _:Code)(T fy:qB):qB:=fun P E C r k s=>ob (rd c E.G.n s.t) fun v=>Value.rec (motive_1:=fun _=>XS) (motive_2:=fun _=>Unit) (motive_3:=fun _=>Unit)
 (fun b=>bq b (T P E C r k s) (fy P E C r k s)) (fun _ _=>O) (fun _ _=>O) (fun _ _ _=>O) (fun _=>O) (fun _=>O) (fun _ _ _=>O) (fun _=>O) (fun _=>O) (fun _ _ _ _ _=>O) O (fun _ _ _=>O) O (fun _ _=>O) (fun _ _=>O)
 (fun _ _=>()) () (fun _ _ _ _=>()) v
def Vha(id:Nat)(_:Code)(f:qB):qB:=fun P E C rd k s=>ob (f P E C rd k s) fun p=>Prod.rec (motive:=fun _=>XS) (fun e s=>Exit.rec (motive:=fun _=>XS) (U (.normal,s)) (fun i=>bq (Nat.beq i id) (U (.normal,s)) (U (.exit i,s))) (fun i=>U (.goto i,s)) (U (.ret,s)) (fun T=>U (.panic T,s)) (U (.outgrown,s)) e) p
def OC(body:St->XS)(k:Nat):St->XS:=Nat.rec (motive:=fun _=>St->XS) (fun _=>O) (fun _ f s=>ob (body s) (yb f)) k
def Vja(_:Code)(f:qB):qB:=fun P E C rd k s=>OC (f P E C rd k) k s
def Vkb(g:Operand)(ps:Array Tmp)(T bd:Code)(_ _:qB):qB:=fun _ E C rd _ s=>GZ E C rd g ps T bd s
def Viy(id:Nat):qB:=fun _ _ _ _ _ s=>U (.exit id,s)
def Vhp(_:Code)(_:qB):qB:=fun _ _ _ _ _ _=>O
def Vhk(_:Nat):qB:=Vfo
def Vkw(_:Nat):qB:=fun _ _ _ _ _ _=>O
def Vm7:qB:=fun _ _ _ _ _ s=>U (.ret,s)
def Vch(_:String):qB:=fun _ _ _ _ _ _=>O
def pu(P:Program)(E:d_ P)(C:b_)(rd:Option Nat)(k:Nat)(c:Code)(s:St):XS :=
 Code.rec (motive:=fun _=>qB) Vfo Vb7 Vma Vjn Vha Vja Vkb Viy Vhp Vhk Vkw Vm7 Vch c P E C rd k s
def Jvl{f g:St->XS}(h:∀ s,f s=g s):∀ (k:Nat) (s:St),OC f k s=rW g k s
 | 0,s=>rfl
 | k+1,s=>by
  show ob (f s) (yb (OC f k))=_;rw[h s];simp only[rW];rcases g s with _ | ⟨e,C⟩
  ·rfl
  ·simp only[jf];cases e <;> first | rfl | (rw[Md];exact Jvl h k C)
def AY{P:Program}(E:d_ P)(C:b_)(rd:Option Nat)(k:Nat):∀ (c:Code) (s:St),pu P E C rd k c s=jF E C rd k c s
 | .skip,s=>rfl
 | .region id T Y,s=>by
  show ob (th E C T.toList s) _=_;simp only[jF];cases th E C T.toList s <;> rfl
 | .region id T J,s=>by
  show It P E C rd T.toList T.toList s=_;simp only[jF,J5e]
 | .seq x y,s=>by
  show ob (pu P E C rd k x s) (yb (pu P E C rd k y))=_;rw[AY E C rd k x s];simp only[jF];rcases jF E C rd k x s with _ | ⟨e,s'⟩
  ·rfl
  ·simp only[jf];cases e <;> first | rfl | (rw[Md];exact AY E C rd k y s')
 | .cond c x y,s=>by
  show ob (Go.Ab.rd c E.G.n s.t) _=_;rw[mV];simp only[jF];rcases g_ E.G s.t c with _ | v
  ·rfl
  ·cases v <;> first | rfl | skip
   rename_i b;cases b with
   | true=>exact AY E C rd k x s
   | false=>exact AY E C rd k y s
 | .block id c,s=>by
  show ob (pu P E C rd k c s) _=_;rw[AY E C rd k c s];simp only[jF];rcases jF E C rd k c s with _ | ⟨e,s'⟩
  ·rfl
  ·simp only[jf];cases e <;> first | rfl | skip
   rename_i i;simp only;cases Nat.beq i id <;> rfl
 | .loop c,s=>by
  show OC (pu P E C rd k c) k s=_;simp only[jF];exact Jvl (AY E C rd k c) k s
 | .rangeFunc g ps hx bd,s=>rfl
 | .exit id,s=>rfl
 | .scope c,s=>rfl
 | .label l,s=>rfl
 | .goto l,s=>rfl
 | .ret,s=>rfl
 | .refuse w,s=>rfl
def G2 (P : Program) (E : d_ P) (C : b_) (D : pL) (k : Nat) (f : FuncId) (args : List V) (h : N) : Option (ip × N) :=
  ob (E.fn.A f) fun fn => ob fn.body fun c => bq (Nat.ble (L args) fn.ntmps) (match pu P E C O k c ⟨Xs fn args, [], h⟩ with
      | some (.normal, s) | some (.ret, s) => Qv E D fn s.t s.ds .returning s.h
      | some (.panic T, s) => Qv E D fn s.t s.ds (.panicking T) s.h
      | _ => O) O
def J7o{P:Program}(E:d_ P)(C:b_)(D:pL)(k:Nat)(f:FuncId)(args:List V)(h:N):G2 P E C D k f args h=Dk E C D k f args h:=by
 unfold G2 Dk;cases E.fn.A f with
 | none=>rfl
 | some fn =>
  simp only[jf];cases fn.body with
  | none=>rfl
  | some c =>
   simp only[jf];cases Nat.ble (L args) fn.ntmps with
   | false=>rfl
   | true =>
    simp only[oY,AY];rcases jF E C O k c ⟨Xs fn args,[],h⟩with _ | ⟨e,s⟩
    ·rfl
    ·cases e <;> rfl
def N8(P:Program)(E:d_ P)(C:b_)(k:Nat)(l:Nat)(args:List V)(h:N):Option (ip × N) :=
 match h.A l with
 | some (.obj (.loop .ready _ t ps hc bd _))=>match qv t.size ps.toList args with
  | false=>O
  | true=>match pu P E C (U l) k hc ⟨qz t ps.toList args,[],h⟩with
   | some (.normal,s1)=>match s1.h.A l with
    | some (.obj (.loop .ready p1 t1 hr T h2 d1))=>match pu P E C (U l) k bd {s1 with h:=s1.h.set l (U (.obj (.loop .busy p1 t1 hr T h2 d1)))} with
     | some (e,s2)=>match BJ e,s2.h.A l with
      | some j,U (.obj (.loop _ _ t2 hb hx hk d2))=>U (.ret (.bool j.isNone),s2.h.set l (U (.obj (.loop (if j.isNone then .ready else .done) j t2 hb hx hk d2))))
      | _,_=>O
     | none=>O
    | _=>O
   | _=>O
 | _=>O
def Jzx{P:Program}(E:d_ P)(C:b_)(k:Nat)(l:Nat)(args:List V)(h:N):N8 P E C k l args h=BO E C k l args h:=by
 unfold N8 BO;simp only[AY];rfl
def oQ(P:Program)(E:d_ P)(T:vN)(k:Nat)(n:Nat):b_ :=
 Nat.rec (motive:=fun _=>b_) ⟨T,fun _ _ _=>O⟩ (fun _ C=>⟨fun f args h=>Option.rec (motive:=fun _=>Option (ip × N)) (G2 P E C (vM E C k) k f args h) (fun r=>U r) (T f args h),fun l args h=>N8 P E C k l args h⟩) n
def Jjq{P:Program}(E:d_ P)(C:vN)(k:Nat):∀ n,oQ P E C k n=x_ E C k n
 | 0=>rfl
 | n+1=>by
  have ih:=Jjq E C k n;show(⟨fun f args h=>Option.rec (motive:=fun _=>Option (ip × N)) (G2 P E (oQ P E C k n) (vM E (oQ P E C k n) k) k f args h) (fun r=>U r) (C f args h),fun l args h=>N8 P E (oQ P E C k n) k l args h⟩:b_)=_;rw[ih];simp only[x_,b_.mk.injEq];refine⟨?_,?_⟩
  ·funext f args h;rw[J7o];cases C f args h <;> rfl
  ·funext l args h;exact Jzx E _ k l args h
end Go.Ab
