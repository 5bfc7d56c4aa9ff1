import Derived.Test.YtmgonkaadhbnpaaGreatDoorAbD
import Derived.KernelRfl
import Derived.ChangeArms
import Derived.OpenShut
import Derived.Lib.LaidU8
import Derived.ChangeSame
import Derived.RowKit
import Derived.MakeChecks
import Derived.Handed
import Derived.ChangeShapes
import Derived.RowKitTokens
import Derived.Lay
import Derived.JoinedOf
set_option linter.all false
open List renaming length→L
open Option renaming some→U,none→O
open Bool renaming true→Y,false→J
open Go renaming Value→V
open Go.Value renaming int→I,slice→M
open Go.IntKind renaming i64→X
open Go.Ab.Blk renaming cells→S
noncomputable section
namespace Go.Ab
def JA(P:Program)(f:Nat):Option Func:=match P.funcs[f]? with
 | some F=>if F.name == "runtime.NumGoroutine" then O else if F.body.isSome then U F else O
 | none=>O
def U1r{P:Program}{f:Nat}{F:Func}(h:JA P f=U F):P.funcs[f]? = U F/\(F.name == "runtime.NumGoroutine")=J/\F.body.isSome=Y:=by
 unfold JA at h;split at h
 ·rename_i C h0;split at h
  ·cases h
  ·rename_i h1;split at h
   next j=>cases h;exact⟨h0,by simpa using h1,j⟩
   ·cases h
 ·cases h
def E6(P:Program):Nat->Tr Func
 | 0 => .leaf
 | n+1=>(E6 P n).put n (JA P n)
def V71(P:Program):∀ (n:Nat) (f:FuncId) (F:Func),(E6 P n).A f=U F->JA P f=U F
 | 0,f,F,h=>by simp[E6]at h
 | n+1,f,F,h=>by
  rw[E6,Tr.H]at h;split at h
  next e=>subst e;exact h
  ·exact V71 P n f F h
def I5(P:Program)(f:Nat):Option pS:=match P.funcs[f]? with
 | some F=>ES F
 | none=>O
def E5(P:Program):Nat->Tr pS
 | 0 => .leaf
 | n+1=>(E5 P n).put n (I5 P n)
def Uel(P:Program):∀ (n:Nat) (f:FuncId) (x:pS),(E5 P n).A f=U x->I5 P f=U x
 | 0,f,x,h=>by simp[E5]at h
 | n+1,f,x,h=>by
  rw[E5,Tr.H]at h;split at h
  next e=>subst e;exact h
  ·exact Uel P n f x h
def U07{P:Program}{f:Nat}{x:pS}(h:I5 P f=U x):∃ F,P.funcs[f]? = U F/\ES F=U x:=by
 unfold I5 at h;split at h
 next F j=>exact⟨F,j,h⟩
 ·cases h
def GI(P:Program)(n b:Nat):f_ P :=
 {ty:=EO P P.types.size,K:=fun t r h=>Uzl (Uaz P _ t r h),G:=⟨n,b⟩,fn:=E6 P P.funcs.size,fnok:=fun f F h=>U1r (V71 P _ f F h),ex:=E5 P P.funcs.size,exok:=fun f x h=>U07 (Uel P _ f x h)}
section
variable{H:Type}(P:Program)
def AQ(g:TypeId->DataW H->Option (List V))(kh:Nat):List Field->List (DataW H)->Nat->Option (List V)
 | [],[],j=>if j == kh then U []else O
 | f::C,d::ds,j=>if f.offset == j then(match g f.type d with
  | some l=>if L l == P.cellsOf f.type then(match AQ g kh C ds (j+L l)with | some r=>U (l++r) | none=>O)else O
  | none=>O)else O
 | _,_,_=>O
def E'(g:DataW H->Option (List V))(sz kh:Nat):List (DataW H)->Nat->Option (List V)
 | [],j=>if j == kh then U []else O
 | d::ds,j=>match g d with
  | some l=>if L l == sz then(match E' g sz kh ds (j+sz)with | some r=>U (l++r) | none=>O)else O
  | none=>O
def dcells:Nat->TypeId->DataW H->Option (List V)
 | 0,_,_=>O
 | k+1,t,d =>
  match P.underlying t,d with
  | some .bool,.lit (.bool b)=>U [.bool b]
  | some (.int C),.lit (.int _ n)=>U [.int C n]
  | some .string,.lit (.string l)=>U [.string ⟨l.toArray⟩]
  | some (.struct j),.agg ds=>AQ P (dcells k) (P.cellsOf t) j.toList ds 0
  | some (.array n e),.agg ds=>if L ds == n then E' (dcells k e) (P.cellsOf e) (P.cellsOf t) ds 0 else O
  | _,_=>O
end
section
variable{H:Type}{enc:TypeId × V->H}{P:Program}{w:World}{base:Nat}{sp:Nat->Bool}{held:Bool}
def Vqn{g:TypeId->DataW H->Option (List V)}{cs:List V}{n:Nat}
  (hg:∀ t d l cs p,g t d=U l->DataW.trod enc P w base sp held n t cs=U (d,p)->cs=l) :
  ∀ (fs:List Field) (ds:List (DataW H)) (j:Nat) (l:List V),AQ P g (L cs) fs ds j=U l ->
  (∀ (i:Nat) (f:Field) d,fs[i]? = U f->ds[i]? = U d->∃ p,DataW.trod enc P w base sp held n f.type ((cs.drop f.offset).take (P.cellsOf f.type))=U (d,p))->cs.drop j=l
 | [],[],j,l,h,_=>by
  simp only[AQ]at h
  grind
 | f::fs,d::ds,j,l,h,ht=>by
  simp only[AQ]at h;split at h
  ·rename_i T;simp only[beq_iff_eq]at T;split at h
   ·rename_i l0 C;split at h
    ·rename_i e1;simp only[beq_iff_eq]at e1;split at h
     next r hr=>cases h;have ih:=Vqn hg fs ds _ r hr (fun i f' d' hf hd=>ht (i+1) f' d' (by grind) (by grind));obtain⟨p,h0⟩:=ht 0 f d jA jA;have h1:=hg _ _ _ _ _ C h0;rw[T,<- e1]at h1;rw[<- ih,<- bU,<- bz (L l0) (cs.drop j),h1];simp
     ·cases h
    ·cases h
   ·cases h
  ·cases h
 | [],_::_,_,_,h,_=>by simp[AQ]at h
 | _::_,[],_,_,h,_=>by simp[AQ]at h
def V62{g:DataW H->Option (List V)}{cs:List V}{n sz:Nat}{e:TypeId}
  (hg:∀ d l cs p,g d=U l->DataW.trod enc P w base sp held n e cs=U (d,p)->cs=l) :
  ∀ (ds:List (DataW H)) (j:Nat) (l:List V),E' g sz (L cs) ds (j*sz)=U l ->
  (∀ (i:Nat) d,ds[i]? = U d->∃ p,DataW.trod enc P w base sp held n e ((cs.drop ((j+i)*sz)).take sz)=U (d,p))->cs.drop (j*sz)=l
 | [],j,l,h,_=>by
  simp only[E']at h
  grind
 | d::ds,j,l,h,ht=>by
  simp only[E']at h;split at h
  ·rename_i l0 C;split at h
   ·rename_i T;simp only[beq_iff_eq]at T;split at h
    ·rename_i r hr;cases h;have e2:j*sz+sz=(j+1)*sz:=by grind
     rw[e2]at hr;have ih:=V62 hg ds (j+1) r hr (fun i d' hd=>by
      have:=ht (i+1) d' (by grind)
      grind)
     obtain⟨p,h0⟩:=ht 0 d jA;have h1:=hg _ _ _ _ C h0;simp only[bR]at h1;rw[<- ih,<- e2,<- bU,<- bz sz (cs.drop (j*sz)),h1];simp[T]
    ·cases h
   ·cases h
  ·cases h
def SL:∀ (k:Nat) (t:TypeId) (d:DataW H) (l cs:List V) (n:Nat) (p:List MemPlace),dcells P k t d=U l->DataW.trod enc P w base sp held n t cs=U (d,p)->cs=l
 | 0,_,_,_,_,_,_,h,_=>by simp[dcells]at h
 | k+1,t,d,l,cs,n,p,h,T=>by
  simp only[dcells]at h;split at h
  ·rename_i b j;cases h;obtain⟨b',rfl,e⟩:=DataW.trod_bool j T
   grind
  ·rename_i k' k2 z j;cases h;obtain⟨n',rfl,e,_⟩:=DataW.trod_int j T
   grind
  next s j=>cases h;obtain⟨s',rfl,e,_⟩:=DataW.trod_string j T;simp_all
  ·rename_i fs ds j;obtain⟨xs,m,rfl,e,hl,hc,C⟩:=fC j T;simp only[cN,DataW.agg.injEq]at e;rw[<- hl]at h;have:=Vqn (n:=m) (fun t d l cs p h1 h2=>SL k t d l cs m p h1 h2) _ _ _ _ h (fun i f d hf hd=>by
    grind)
   grind
  ·rename_i n' e' ds j;obtain⟨xs,m,rfl,e,hl,hc,C⟩:=DataW.trod_array j T;simp only[cN,DataW.agg.injEq]at e;split at h
   ·rename_i hn;rw[<- hl]at h;have:=V62 (n:=m) (fun d l cs p h1 h2=>SL k e' d l cs m p h1 h2) ds 0 l (by simpa using h) (fun i d hd=>by
     grind)
    grind
   ·cases h
  ·cases h
end
def Fa:List (Nat × List V)->Tr Blk
 | [] => .leaf
 | x::l=>(Fa l).put x.1 (U (S J 0 x.2))
def vK(n:Nat)(l:List (Nat × List V)):N:=⟨n,n,Fa l⟩
def AI(n:Nat):Ren:=fun b=>if b < n then U ⟨b,0,0,0,O⟩else O
def Sb:∀ (l:List (Nat × List V)) (b:Nat) (x:Blk),(Fa l).A b=U x->∃ c,(b,c) ∈ l/\x=S J 0 c
 | [],b,x,h=>by simp[Fa]at h
 | y::l,b,x,h=>by
  simp only[Fa]at h;rw[Tr.H]at h;split at h
  ·grind
  ·obtain⟨c,h1,j⟩:=Sb l b x h
   grind
def V4v{W:World}{n:Nat}{l:List (Nat × List V)}(hn:n<=W.heap.size)(hl:∀ x ∈ l,(∀ v ∈ x.2,flat v=Y/\v.oneCell'=Y)/\∃ C e fr,W.heap[x.1]? = U (.cells C e fr)/\C.toList=x.2) :
  c_ ⟨n,W.heap.size⟩ (AI n) (vK n l) W:=by
 have j:∀ b x,(vK n l).A b=U x->b < n/\∃ c,(b,c) ∈ l/\x=S J 0 c:=by
  intro b x h;unfold N.A at h;split at h
  next T=>exact⟨T,Sb l b x h⟩
  ·cases h
 have hM:∀ b p,AI n b=U p->b < n/\p=⟨b,0,0,0,O⟩:=by
  intro b p h;unfold AI at h
  grind
 have hk:∀ b,(vK n l).own b=J:=by
  intro b;unfold N.own;cases T:(vK n l).A b with
  | none=>rfl
  | some x=>obtain⟨_,c,_,rfl⟩:=j b x T;rfl
 refine⟨fun b p h => ?_,fun b p x T hx => ?_,fun b c p q _ _ _ ho _ => ?_,fun g hg=>⟨?_,hk g⟩,ai _,fun b x hx => ?_,fun b p x T hx => ?_,ai _⟩
 ·obtain⟨h1,rfl⟩:=hM b p h;exact⟨h1,trivial⟩
 ·obtain⟨h1,rfl⟩:=hM b p T;obtain⟨_,c,hc,rfl⟩:=j b x hx;obtain⟨hf,C,e,fr,h2,h3⟩:=hl _ hc;refine⟨rfl,.inr ⟨C,e,fr.1,fr.2,h2,fun i v hv => ?_,fun h=>by cases h⟩⟩;have hr:=hf v (ae hv);simp only at h3;refine⟨?_,jB _ v hr.1,hr.2⟩;rw[tf _ hr.1,<- hv,<- h3];simp
 ·grind
 ·simp[AI,show g < n from hg]
 ·obtain⟨_,c,hc,rfl⟩:=j b x hx;intro v hv;exact⟨jB _ v ((hl _ hc).1 v hv).1,((hl _ hc).1 v hv).2⟩
 ·obtain⟨h1,rfl⟩:=hM b p T;obtain⟨_,c,_,rfl⟩:=j b x hx;refine⟨fun h => ?_,fun _ _=>⟨aq h1 hn,rfl⟩⟩;simp[Blk.own]at h
def NW(P:Program)(laid:List (String × DataW Unit))(n:Nat)(l:List (Nat × List V)):Prop :=
 ∀ x ∈ l,x.1 < n/\(∀ v ∈ x.2,flat v=Y/\v.oneCell'=Y)/\∃ name t d k,(name,d) ∈ laid/\P.globalNamed name=U x.1/\(P.globals[x.1]?).map (·.type)=U t/\dcells P k t d=U x.2
def V46{P:Program}{W:World}{laid:List (String × DataW Unit)}{n:Nat}{l:List (Nat × List V)}(h:laidMet P laid W)(hl:NW P laid n l)(hn:n<=W.heap.size) :
  c_ ⟨n,W.heap.size⟩ (AI n) (vK n l) W:=by
 refine V4v hn fun x hx => ?_;obtain⟨_,hf,name,t,d,k,hm,hg,ht,hd⟩:=hl x hx;refine⟨hf,?_⟩;obtain⟨g,t',cs,j,p,h1,C,T,h4⟩:=Lib.laidMet.reads h hm;obtain rfl:=cP (hg.symm.trans h1);obtain rfl:=cP (ht.symm.trans C);have:=SL k _ _ _ _ _ _ hd h4;unfold World.var? at T
 grind
def NN:List V->Bool
 | []=>Y
 | v::l=>flat v && v.oneCell' && NN l
def GW:∀ {l:List V},NN l=Y->∀ v ∈ l,flat v=Y/\v.oneCell'=Y
 | [],_=>fun v hv=>by cases hv
 | v::l,h=>fun x j=>by
  simp only[NN,ax]at h;rcases ar.1 j with rfl | j
  ·exact h.1
  ·exact GW h.2 x j
def Vqt(n:Nat)(l:List (Nat × List V))(b:Nat):(vK n l).own b=J:=by
 unfold N.own;cases j:(vK n l).A b with
 | none=>rfl
 | some x =>
  unfold N.A at j;split at j
  ·obtain⟨c,_,rfl⟩:=Sb l b x j;rfl
  ·cases j
open Go.ChangeShapes Go.WideShapes Go.RowKit
def Usl{P:Program}{W:World}{laid:List (String × DataW Unit)}{n:Nat}{l:List (Nat × List V)}(h:laidMet P laid W)(hl:NW P laid n l):∀ x ∈ l,x.1 < W.heap.size:=by
 intro x hx;obtain⟨_,hf,name,t,d,k,hm,hg,ht,hd⟩:=hl x hx;obtain⟨g,t',cs,T,p,h1,h2,j,h4⟩:=Lib.laidMet.reads h hm;obtain rfl:=Option.some.inj (hg.symm.trans h1);unfold World.var? at j;rw[hg]at j;simp only[Option.bind_some]at j;split at j
 next C e fr hC=>exact(Array.getElem?_eq_some_iff.1 hC).1
 ·cases j
end Go.Ab
