import Derived.Test.YtijagoebdgohnaaGreatDoorAbD
import Derived.KernelRfl
import Derived.ChangeArms
import Derived.OpenShut
import Derived.Lib.LaidU8
import Derived.ChangeSame
import Derived.RowKit
import Derived.MakeChecks
set_option linter.all false
noncomputable section
namespace Go.Ab
def Z88(P:Program)(f:Nat):Option Func:=match P.funcs[f]? with
 | some F=>if F.name == "runtime.NumGoroutine" then none else if F.body.isSome then some F else none
 | none=>none
def Z9b{P:Program}{f:Nat}{F:Func}(h:Z88 P f=some F):P.funcs[f]? = some F/\(F.name == "runtime.NumGoroutine")=false/\F.body.isSome=true:=by
 unfold Z88 at h;split at h
 ·rename_i F0 h0;split at h
  ·cases h
  ·rename_i h1;split at h
   ·rename_i h2;cases h;exact⟨h0,by simpa using h1,h2⟩
   ·cases h
 ·cases h
def Zq6(P:Program):Nat->Tr Func
 | 0 => .leaf
 | n+1=>(Zq6 P n).put n (Z88 P n)
def Zjj(P:Program):∀ (n:Nat) (f:FuncId) (F:Func),(Zq6 P n).get f=some F->Z88 P f=some F
 | 0,f,F,h=>by simp[Zq6]at h
 | n+1,f,F,h=>by
  rw[Zq6,Tr.get_put]at h;split at h
  ·rename_i e;subst e;exact h
  ·exact Zjj P n f F h
def Z9c(P:Program)(f:Nat):Option ExtK:=match P.funcs[f]? with
 | some F=>Z4b F
 | none=>none
def Zqb(P:Program):Nat->Tr ExtK
 | 0 => .leaf
 | n+1=>(Zqb P n).put n (Z9c P n)
def Zpq(P:Program):∀ (n:Nat) (f:FuncId) (x:ExtK),(Zqb P n).get f=some x->Z9c P f=some x
 | 0,f,x,h=>by simp[Zqb]at h
 | n+1,f,x,h=>by
  rw[Zqb,Tr.get_put]at h;split at h
  ·rename_i e;subst e;exact h
  ·exact Zpq P n f x h
def Z8b{P:Program}{f:Nat}{x:ExtK}(h:Z9c P f=some x):∃ F,P.funcs[f]? = some F/\Z4b F=some x:=by
 unfold Z9c at h;split at h
 ·rename_i F hF;exact⟨F,hF,h⟩
 ·cases h
def mkE(P:Program)(n b:Nat):Env2 P :=
 {ty:=Zj5 P P.types.size,tyok:=fun t r h=>Z7o (Zmn P _ t r h),G:=⟨n,b⟩,fn:=Zq6 P P.funcs.size,fnok:=fun f F h=>Z9b (Zjj P _ f F h),ex:=Zqb P P.funcs.size,exok:=fun f x h=>Z8b (Zpq P _ f x h)}
section
variable{H:Type}(P:Program)
def X9n(g:TypeId->DataW H->Option (List Value))(tot:Nat):List Field->List (DataW H)->Nat->Option (List Value)
 | [],[],acc=>if acc == tot then some []else none
 | f::fs,d::ds,acc=>if f.offset == acc then(match g f.type d with
  | some l=>if l.length == P.cellsOf f.type then(match X9n g tot fs ds (acc+l.length)with | some r=>some (l++r) | none=>none)else none
  | none=>none)else none
 | _,_,_=>none
def Zmt(g:DataW H->Option (List Value))(sz tot:Nat):List (DataW H)->Nat->Option (List Value)
 | [],acc=>if acc == tot then some []else none
 | d::ds,acc=>match g d with
  | some l=>if l.length == sz then(match Zmt g sz tot ds (acc+sz)with | some r=>some (l++r) | none=>none)else none
  | none=>none
def Y8t:Nat->TypeId->DataW H->Option (List Value)
 | 0,_,_=>none
 | k+1,t,d =>
  match P.underlying t,d with
  | some .bool,.lit (.bool b)=>some [.bool b]
  | some (.int k'),.lit (.int _ n)=>some [.int k' n]
  | some .string,.lit (.string l)=>some [.string ⟨l.toArray⟩]
  | some (.struct fs),.agg ds=>X9n P (Y8t k) (P.cellsOf t) fs.toList ds 0
  | some (.array n e),.agg ds=>if ds.length == n then Zmt (Y8t k e) (P.cellsOf e) (P.cellsOf t) ds 0 else none
  | _,_=>none
end
section
variable{H:Type}{enc:TypeId × Value->H}{P:Program}{w:World}{base:Nat}{sp:Nat->Bool}{held:Bool}
def Y9i{g:TypeId->DataW H->Option (List Value)}{cs:List Value}{n:Nat}
  (hg:∀ t d l cs p,g t d=some l->DataW.trod enc P w base sp held n t cs=some (d,p)->cs=l) :
  ∀ (fs:List Field) (ds:List (DataW H)) (acc:Nat) (l:List Value),X9n P g cs.length fs ds acc=some l ->
  (∀ (i:Nat) (f:Field) d,fs[i]? = some f->ds[i]? = some d->∃ p,DataW.trod enc P w base sp held n f.type ((cs.drop f.offset).take (P.cellsOf f.type))=some (d,p))->cs.drop acc=l
 | [],[],acc,l,h,_=>by
  simp only[X9n]at h;split at h
  ·rename_i e;cases h;simp at e;simp[e]
  ·cases h
 | f::fs,d::ds,acc,l,h,ht=>by
  simp only[X9n]at h;split at h
  ·rename_i e0;simp only[beq_iff_eq]at e0;split at h
   ·rename_i l0 hl0;split at h
    ·rename_i e1;simp only[beq_iff_eq]at e1;split at h
     ·rename_i r hr;cases h;have ih:=Y9i hg fs ds _ r hr (fun i f' d' hf hd=>ht (i+1) f' d' (by simpa using hf) (by simpa using hd));obtain⟨p,h0⟩:=ht 0 f d (by simp) (by simp);have h1:=hg _ _ _ _ _ hl0 h0;rw[e0,<- e1]at h1;rw[<- ih,<- cB,<- bA l0.length (cs.drop acc),h1];simp
     ·cases h
    ·cases h
   ·cases h
  ·cases h
 | [],_::_,_,_,h,_=>by simp[X9n]at h
 | _::_,[],_,_,h,_=>by simp[X9n]at h
def Zip{g:DataW H->Option (List Value)}{cs:List Value}{n sz:Nat}{e:TypeId}
  (hg:∀ d l cs p,g d=some l->DataW.trod enc P w base sp held n e cs=some (d,p)->cs=l) :
  ∀ (ds:List (DataW H)) (j:Nat) (l:List Value),Zmt g sz cs.length ds (j*sz)=some l ->
  (∀ (i:Nat) d,ds[i]? = some d->∃ p,DataW.trod enc P w base sp held n e ((cs.drop ((j+i)*sz)).take sz)=some (d,p))->cs.drop (j*sz)=l
 | [],j,l,h,_=>by
  simp only[Zmt]at h;split at h
  ·rename_i e;cases h;simp at e;simp[e]
  ·cases h
 | d::ds,j,l,h,ht=>by
  simp only[Zmt]at h;split at h
  ·rename_i l0 hl0;split at h
   ·rename_i e1;simp only[beq_iff_eq]at e1;split at h
    ·rename_i r hr;cases h;have e2:j*sz+sz=(j+1)*sz:=by rw[cf];simp
     rw[e2]at hr;have ih:=Zip hg ds (j+1) r hr (fun i d' hd=>by
      have:=ht (i+1) d' (by simpa using hd);rwa [show j+(i+1)=j+1+i from by omega]at this)
     obtain⟨p,h0⟩:=ht 0 d (by simp);have h1:=hg _ _ _ _ hl0 h0;simp only[cg]at h1;rw[<- ih,<- e2,<- cB,<- bA sz (cs.drop (j*sz)),h1];simp[e1]
    ·cases h
   ·cases h
  ·cases h
def Yvi:∀ (k:Nat) (t:TypeId) (d:DataW H) (l cs:List Value) (n:Nat) (p:List MemPlace),Y8t P k t d=some l->DataW.trod enc P w base sp held n t cs=some (d,p)->cs=l
 | 0,_,_,_,_,_,_,h,_=>by simp[Y8t]at h
 | k+1,t,d,l,cs,n,p,h,ht=>by
  simp only[Y8t]at h;split at h
  ·rename_i b hu;cases h;obtain⟨b',rfl,e⟩:=DataW.trod_bool hu ht;cases e;rfl
  ·rename_i k' k2 z hu;cases h;obtain⟨n',rfl,e,_⟩:=DataW.trod_int hu ht;cases e;rfl
  ·rename_i s hu;cases h;obtain⟨s',rfl,e,_⟩:=DataW.trod_string hu ht;cases e;simp
  ·rename_i fs ds hu;obtain⟨xs,m,rfl,e,hl,hxl,hall⟩:=DataW.trod_struct hu ht;simp only[bN,DataW.agg.injEq]at e;rw[<- hl]at h;have:=Y9i (n:=m) (fun t d l cs p h1 h2=>Yvi k t d l cs m p h1 h2) _ _ _ _ h (fun i f d hf hd=>by
    have h1:=hall i f (by simpa using hf);rw[e.1,bf]at hd;rw[h1];cases hx:xs[i]? with
    | none=>rw[hx]at hd;cases hd
    | some y=>rw[hx]at hd;cases hd;exact⟨y.2,rfl⟩)
   simpa using this
  ·rename_i n' e' ds hu;obtain⟨xs,m,rfl,e,hl,hxl,hall⟩:=DataW.trod_array hu ht;simp only[bN,DataW.agg.injEq]at e;split at h
   ·rename_i hn;rw[<- hl]at h;have:=Zip (n:=m) (fun d l cs p h1 h2=>Yvi k e' d l cs m p h1 h2) ds 0 l (by simpa using h) (fun i d hd=>by
     rw[e.1,bf]at hd;cases hx:xs[i]? with
     | none=>rw[hx]at hd;cases hd
     | some y =>
      rw[hx]at hd;cases hd;have hi:i < xs.length:=(au.1 hx).1;have h1:=hall i (by omega);rw[hx]at h1;simp only[bO];exact⟨y.2,h1⟩)
    simpa using this
   ·cases h
  ·cases h
end
def Zmj:List (Nat × List Value)->Tr Blk
 | [] => .leaf
 | x::l=>(Zmj l).put x.1 (some (.cells false 0 x.2))
def Q0v(n:Nat)(l:List (Nat × List Value)):Heap:=⟨n,n,Zmj l⟩
def Yle(n:Nat):Ren:=fun b=>if b < n then some ⟨b,0,0,0,none⟩else none
def X1t:∀ (l:List (Nat × List Value)) (b:Nat) (x:Blk),(Zmj l).get b=some x->∃ c,(b,c) ∈ l/\x=.cells false 0 c
 | [],b,x,h=>by simp[Zmj]at h
 | y::l,b,x,h=>by
  simp only[Zmj]at h;rw[Tr.get_put]at h;split at h
  ·rename_i e;subst e;cases h;exact⟨y.2,by simp,rfl⟩
  ·obtain⟨c,h1,h2⟩:=X1t l b x h;exact⟨c,by simp[h1],h2⟩
def Zht{W:World}{n:Nat}{l:List (Nat × List Value)}(hn:n<=W.heap.size)(hl:∀ x ∈ l,(∀ v ∈ x.2,flat v=true/\v.oneCell'=true)/\∃ C e fr,W.heap[x.1]? = some (.cells C e fr)/\C.toList=x.2) :
  HRel ⟨n,W.heap.size⟩ (Yle n) (Q0v n l) W:=by
 have hget:∀ b x,(Q0v n l).get b=some x->b < n/\∃ c,(b,c) ∈ l/\x=.cells false 0 c:=by
  intro b x h;unfold Heap.get at h;split at h
  ·rename_i hb;exact⟨hb,X1t l b x h⟩
  ·cases h
 have hα:∀ b p,Yle n b=some p->b < n/\p=⟨b,0,0,0,none⟩:=by
  intro b p h;unfold Yle at h;split at h
  ·cases h;exact⟨by assumption,rfl⟩
  ·cases h
 have hown:∀ b,(Q0v n l).own b=false:=by
  intro b;unfold Heap.own;cases hb:(Q0v n l).get b with
  | none=>rfl
  | some x=>obtain⟨_,c,_,rfl⟩:=hget b x hb;rfl
 refine⟨fun b p h => ?_,fun b p x hb hx => ?_,fun b c p q _ _ _ ho _ => ?_,fun g hg=>⟨?_,hown g⟩,ae _,fun b x hx => ?_,fun b p x hb hx => ?_,ae _⟩
 ·obtain⟨h1,rfl⟩:=hα b p h;exact⟨h1,trivial⟩
 ·obtain⟨h1,rfl⟩:=hα b p hb;obtain⟨_,c,hc,rfl⟩:=hget b x hx;obtain⟨hf,C,e,fr,h2,h3⟩:=hl _ hc;refine⟨rfl,.inr ⟨C,e,fr.1,fr.2,h2,fun i v hv => ?_,fun h=>by cases h⟩⟩;have hv':=hf v (ak hv);simp only at h3;refine⟨?_,flat_ok _ v hv'.1,hv'.2⟩;rw[Qgx _ hv'.1,<- hv,<- h3];simp
 ·rw[hown b]at ho;cases ho
 ·simp[Yle,show g < n from hg]
 ·obtain⟨_,c,hc,rfl⟩:=hget b x hx;intro v hv;exact⟨flat_ok _ v ((hl _ hc).1 v hv).1,((hl _ hc).1 v hv).2⟩
 ·obtain⟨h1,rfl⟩:=hα b p hb;obtain⟨_,c,_,rfl⟩:=hget b x hx;refine⟨fun h => ?_,fun _ _=>⟨az h1 hn,rfl⟩⟩;simp[Blk.own]at h
def Z49(P:Program)(laid:List (String × DataW Unit))(n:Nat)(l:List (Nat × List Value)):Prop :=
 ∀ x ∈ l,x.1 < n/\(∀ v ∈ x.2,flat v=true/\v.oneCell'=true)/\∃ name t d k,(name,d) ∈ laid/\P.globalNamed name=some x.1/\(P.globals[x.1]?).map (·.type)=some t/\Y8t P k t d=some x.2
def Zhe{P:Program}{W:World}{laid:List (String × DataW Unit)}{n:Nat}{l:List (Nat × List Value)}(h:laidMet P laid W)(hl:Z49 P laid n l)(hn:n<=W.heap.size) :
  HRel ⟨n,W.heap.size⟩ (Yle n) (Q0v n l) W:=by
 refine Zht hn fun x hx => ?_;obtain⟨_,hf,name,t,d,k,hm,hg,ht,hd⟩:=hl x hx;refine⟨hf,?_⟩;obtain⟨g,t',cs,fuel,p,h1,h2,h3,h4⟩:=Lib.laidMet.reads h hm;obtain rfl:=bE (hg.symm.trans h1);obtain rfl:=bE (ht.symm.trans h2);have:=Yvi k _ _ _ _ _ _ hd h4;unfold World.var? at h3;rw[hg]at h3;simp only[Option.bind_some]at h3;split at h3
 ·rename_i C e fr hC;cases h3;exact⟨_,e,fr,hC,this⟩
 ·cases h3
def ob{A B:Type}(x:Option A)(f:A->Option B):Option B:=Option.rec (motive:=fun _=>Option B) none f x
@[simp] def ob_some {A B:Type} (a:A) (f:A->Option B):ob (some a) f=f a:=rfl
@[simp] def ob_none {A B:Type} (f:A->Option B):ob none f=none:=rfl
def bq{A:Type}(b:Bool)(x y:A):A:=Bool.rec (motive:=fun _=>A) y x b
@[simp] def bq_true {A:Type} (x y:A):bq true x y=x:=rfl
@[simp] def bq_false {A:Type} (x y:A):bq false x y=y:=rfl
def rT(i:Nat)(_:Nat)(t:Tm):Option Value:=t.t.get i
def rC(v:Value)(_:Nat)(_:Tm):Option Value:=bq (flat v) (some v) none
def rG(g n:Nat)(_:Tm):Option Value:=bq (Nat.blt g n) (some (.pointer (some ⟨g,0,none⟩))) none
def rF(f:FuncId)(_:Nat)(_:Tm):Option Value:=some (.func (.func f) #[] #[])
def rd(x:Operand)(n:Nat)(t:Tm):Option Value:=Operand.rec (motive:=fun _=>Nat->Tm->Option Value) rT rC rG rF x n t
def Qzg(G:Bs)(t:Tm)(x:Operand):rd x G.n t=aev G t x:=by
 cases x with
 | tmp i=>rfl
 | const v=>show rC v 0 t=_;simp only[rC,aev];cases flat v <;> rfl
 | global g =>
  show rG g G.n t=_;simp only[rG,aev];by_cases h:g < G.n
  ·rw[show Nat.blt g G.n=true from by simpa using h];simp[h]
  ·rw[ce.2 (fun hb:Nat.blt g G.n=true=>h (by simpa using hb))];simp[h]
 | func f=>rfl
def gvF(r:Option (Value × Heap)):Option Res:=ob r fun p=>Prod.rec (motive:=fun _=>Option Res) (fun v h=>some (.val v h)) p
def g0F(h:Heap)(r:Option Value):Option Res:=ob r fun v=>some (.val v h)
def gsF(r:Option Heap):Option Res:=ob r fun h=>some (.skip h)
def X70(r:Option (Value × Heap)):gvF r=gv r:=by cases r <;> rfl
def Qzz(h:Heap)(r:Option Value):g0F h r=g0 h r:=by cases r <;> rfl
def Zwr(r:Option Heap):gsF r=gs r:=by cases r <;> rfl
abbrev OpF:=∀ P:Program,Env2 P->Tm->Heap->Option Res
def Zxx(x:Operand):OpF:=fun _ E t h=>g0F h (rd x E.G.n t)
def Jbf(c a b:Operand):OpF:=fun _ E t h=>match rd c E.G.n t with
 | some (.bool true)=>g0F h (rd a E.G.n t)
 | some (.bool false)=>g0F h (rd b E.G.n t)
 | _=>none
def Z1b(e:TypeId):OpF:=fun _ E _ h=>gvF (Qbd E.toEnv e h)
def Jj3(_:TypeId)(x:Operand):OpF:=fun _ E t h=>ob (rd x E.G.n t) fun v=>gvF (Zqi v h)
def Z2s(ty:TypeId)(ps:Array (Nat × Operand)):OpF:=fun _ E t h=>ob (Qf E.G t ps.toList) fun l=>g0F h (Qm8 E.toEnv ty l)
def Ybe(ty:TypeId)(n:Nat)(ps:Array (Nat × Operand)):OpF:=fun _ E t h=>ob (Qf E.G t ps.toList) fun l=>gvF (Vj E.toEnv ty n l h)
def Yh9(ty:TypeId)(m k x:Operand):OpF:=fun _ E t h=>ob (rd m E.G.n t) fun a=>ob (rd k E.G.n t) fun b=>ob (rd x E.G.n t) fun c=>gsF (Qgl E.toEnv ty a b c h)
def Jd7(ty:TypeId)(a:Operand):OpF:=fun _ E t h=>ob (rd a E.G.n t) fun x=>g0F h (Qk3 E.toEnv ty x h)
def Z22(ty:TypeId)(a v:Operand):OpF:=fun _ E t h=>ob (rd a E.G.n t) fun x=>ob (rd v E.G.n t) fun y=>gsF (Qbx E.toEnv ty x y h)
def oN1(_:Nat):OpF:=fun _ _ _ _=>none
def Yvj(x:Operand):OpF:=fun _ E t h=>ob (rd x E.G.n t) fun v=>g0F h (Xz3 v)
def Jjp(op:BinOp)(ty:TypeId)(x y:Operand)(_:TypeId):OpF:=fun _ E t h=>ob (rd x E.G.n t) fun a=>ob (rd y E.G.n t) fun b=>g0F h (Yj E.toEnv op ty (Q6 x || Q6 y) a b)
def oUn(op:UnOp)(_:TypeId)(x:Operand):OpF:=fun _ E t h=>ob (rd x E.G.n t) fun v=>g0F h (aUn op v)
def Jc3(src dst:TypeId)(x:Operand):OpF:=fun _ E t h=>ob (rd x E.G.n t) fun v=>bq (Qw4 E.toEnv src dst) (g0F h (Q1g E.toEnv src dst v)) (gvF (Xis E.toEnv src dst v h))
def Zs5(ty:TypeId)(x:Operand):OpF:=fun _ E t h=>ob (rd x E.G.n t) fun v=>g0F h (Yid E.toEnv ty v)
def Zed(ty:TypeId)(x:Operand):OpF:=fun _ E t h=>ob (rd x E.G.n t) fun v=>g0F h (Q8q E.toEnv ty v)
def Zs6(fn:Fn)(a b:Array Operand):OpF:=fun _ E t h=>ob (evs E.G t a.toList) fun x=>ob (evs E.G t b.toList) fun y=>g0F h (X8i fn x y)
def Zd6(ty:TypeId)(r:Option Operand):OpF:=fun _ E t h=>ob (evO E.G t r) fun hv=>gvF (Q4s E.toEnv ty hv h)
def oN2(_:TypeId)(_:Operand):OpF:=fun _ _ _ _=>none
def Yiy(ty:TypeId)(n c:Operand):OpF:=fun _ E t h=>ob (rd n E.G.n t) fun x=>ob (rd c E.G.n t) fun y=>gvF (Qwm E.toEnv ty x y h)
def Z38(ty:TypeId)(x:Operand)(lo hi mx:Option Operand):OpF:=fun _ E t h=>ob (rd x E.G.n t) fun v=>ob (evO E.G t lo) fun a=>ob (evO E.G t hi) fun b=>ob (evO E.G t mx) fun c=>gvF (Qhk E.toEnv ty v a b c h)
def Ykd(ty:TypeId)(x:Operand)(f:Nat):OpF:=fun _ E t h=>ob (rd x E.G.n t) fun v=>g0F h (Vp E.toEnv ty v f)
def Z4e(ty:TypeId)(x:Operand)(f:Nat):OpF:=fun _ E t h=>ob (rd x E.G.n t) fun v=>g0F h (Zvu E.toEnv ty v f)
def Yj4(ty:TypeId)(x i:Operand):OpF:=fun _ E t h=>ob (rd x E.G.n t) fun a=>ob (rd i E.G.n t) fun b=>g0F h (Jx E.toEnv ty a b)
def Z20(ty:TypeId)(x i:Operand):OpF:=fun _ E t h=>ob (rd x E.G.n t) fun a=>ob (rd i E.G.n t) fun b=>g0F h (Zpj E.toEnv ty a b)
def Zti(ty:TypeId)(x k:Operand)(ok:Bool):OpF:=fun _ E t h=>ob (rd x E.G.n t) fun a=>ob (rd k E.G.n t) fun b=>g0F h (Qoh E.toEnv ty a b ok h)
def Yyp(ty:TypeId)(m k:Operand):OpF:=fun _ E t h=>ob (rd m E.G.n t) fun a=>ob (rd k E.G.n t) fun b=>gvF (Xj7 E.toEnv ty a b h)
def Yat(_:TypeId)(m st x:Operand):OpF:=fun _ E t h=>ob (rd m E.G.n t) fun a=>ob (rd st E.G.n t) fun b=>ob (rd x E.G.n t) fun c=>gsF (Q47 a b c h)
def Z1p(ty:TypeId)(x:Operand):OpF:=fun _ E t h=>ob (rd x E.G.n t) fun v=>gvF (Ykq E.toEnv ty v h)
def Jdu(x:Operand)(s:Bool):OpF:=fun _ E t h=>ob (rd x E.G.n t) fun v=>gvF (Zxh v s h)
def Z0y(x:Operand):OpF:=fun _ E t h=>ob (rd x E.G.n t) fun v=>g0F h (Y8z v h)
def Zqp(x:Operand)(_ ty:TypeId)(ok:Bool):OpF:=fun _ E t h=>ob (rd x E.G.n t) fun v=>g0F h (Xpe E.toEnv v ty ok)
def Zfc(x:Operand)(i:Nat):OpF:=fun _ E t h=>ob (rd x E.G.n t) fun v=>g0F h (Q7 v i)
def Ja0(P:Program)(E:Env2 P)(fv:Value)(args:List Value)(h:Heap):Option Res:=match Qg fv args with
 | some (f,l)=>match E.fn.get f with
  | some _=>some (.enter f l h)
  | none=>match E.ex.get f with
   | some x=>gv (Yl9 x l h)
   | none=>none
 | none=>Yda fv args h
def Je0(c:Call):OpF:=fun P E t h=>ob (evs E.G t c.args.toList) fun args=>match c.callee with
 | .builtin b=>Q5 E b c.argTypes.toList args h
 | .value f=>ob (rd f E.G.n t) fun fv=>Ja0 P E fv args h
 | .invoke _ _=>none
def oN7(_:Call):OpF:=fun _ _ _ _=>none
def Z31(x:Operand):OpF:=fun _ E t h=>match rd x E.G.n t with
 | some (.iface u v)=>some (.panic (.iface u v) h)
 | _=>none
def oN8(_ _:Operand):OpF:=fun _ _ _ _=>none
def oN9(_:TypeId)(_:Operand)(_:Bool):OpF:=fun _ _ _ _=>none
def Jkm(_:Array SelectCase)(_:Bool):OpF:=fun _ _ _ _=>none
def Jk3(P:Program)(E:Env2 P)(o:Op)(t:Tm)(h:Heap):Option Res :=
 Op.rec (motive:=fun _=>OpF) Zxx Zxx Jbf Z1b Jj3 Z2s Ybe Yh9 Jd7 Z22 oN1 oN1 Yvj Jjp oUn Jc3 Zs5 Zed Zs6 Zd6 oN2 Yiy Z38 Ykd Z4e Yj4 Z20 Zti
  Yh9 Yyp Yat Z1p Jdu Z0y Zqp Zfc Je0 oN7 oN7 Z31 oN8 oN9 Jkm o P E t h
def Jdm{P:Program}(E:Env2 P)(t:Tm)(h:Heap)(o:Oper):Jk3 P E o.op t h=aop E t h o:=by
 obtain⟨d,op,ty,pos,af,g⟩:=o;have two:∀ {A:Type} (x y:Option Value) (f:Value->Value->Option A),(match x,y with | some a,some b=>f a b | _,_=>none)=ob x fun a=>ob y fun b=>f a b:=by
  intro A x y f;cases x <;> cases y <;> rfl
 cases op with
 | move x=>show Zxx x P E t h=_;simp only[Zxx,aop,Qzg,Qzz]
 | assign x=>show Zxx x P E t h=_;simp only[Zxx,aop,Qzg,Qzz]
 | pick c a b =>
  show Jbf c a b P E t h=_;simp only[Jbf,aop,Qzg,Qzz];rcases aev E.G t c with _ | v
  ·rfl
  ·cases v <;> first | rfl | (rename_i b;cases b <;> rfl)
 | alloc e=>show Z1b e P E t h=_;simp only[Z1b,aop,X70]
 | box e x=>show Jj3 e x P E t h=_;simp only[Jj3,aop,Qzg,X70];cases aev E.G t x <;> rfl
 | build ty ps=>show Z2s ty ps P E t h=_;simp only[Z2s,aop,Qzz];cases Qf E.G t ps.toList <;> rfl
 | buildSlice ty n ps=>show Ybe ty n ps P E t h=_;simp only[Ybe,aop,X70];cases Qf E.G t ps.toList <;> rfl
 | insert ty m k x=>show Yh9 ty m k x P E t h=_;simp only[Yh9,aop,Qzg,Zwr];cases aev E.G t m <;> cases aev E.G t k <;> cases aev E.G t x <;> rfl
 | load ty a=>show Jd7 ty a P E t h=_;simp only[Jd7,aop,Qzg,Qzz];cases aev E.G t a <;> rfl
 | store ty a v=>show Z22 ty a v P E t h=_;simp only[Z22,aop,Qzg,Zwr];cases aev E.G t a <;> cases aev E.G t v <;> rfl
 | ready g=>rfl
 | waits g=>rfl
 | nilCheck x=>show Yvj x P E t h=_;simp only[Yvj,aop,Qzg,Qzz];cases aev E.G t x <;> rfl
 | binOp op ty x y yt=>show Jjp op ty x y yt P E t h=_;simp only[Jjp,aop,Qzg,Qzz];cases aev E.G t x <;> cases aev E.G t y <;> rfl
 | unOp op ty x=>show oUn op ty x P E t h=_;simp only[oUn,aop,Qzg,Qzz];cases aev E.G t x <;> rfl
 | convert s d x =>
  show Jc3 s d x P E t h=_;simp only[Jc3,aop,Qzg,Qzz,X70];cases aev E.G t x
  ·rfl
  ·cases Qw4 E.toEnv s d <;> rfl
 | sliceToArrayPointer ty x=>show Zs5 ty x P E t h=_;simp only[Zs5,aop,Qzg,Qzz];cases aev E.G t x <;> rfl
 | makeInterface ty x=>show Zed ty x P E t h=_;simp only[Zed,aop,Qzg,Qzz];cases aev E.G t x <;> rfl
 | makeFunc fn a b=>show Zs6 fn a b P E t h=_;simp only[Zs6,aop,Qzz];cases evs E.G t a.toList <;> cases evs E.G t b.toList <;> rfl
 | makeMap ty r=>show Zd6 ty r P E t h=_;simp only[Zd6,aop,X70];cases evO E.G t r <;> rfl
 | makeChan ty x=>rfl
 | makeSlice ty n c=>show Yiy ty n c P E t h=_;simp only[Yiy,aop,Qzg,X70];cases aev E.G t n <;> cases aev E.G t c <;> rfl
 | slice ty x lo hi mx=>show Z38 ty x lo hi mx P E t h=_;simp only[Z38,aop,Qzg,X70];cases aev E.G t x <;> cases evO E.G t lo <;> cases evO E.G t hi <;> cases evO E.G t mx <;> rfl
 | fieldAddr ty x f=>show Ykd ty x f P E t h=_;simp only[Ykd,aop,Qzg,Qzz];cases aev E.G t x <;> rfl
 | field ty x f=>show Z4e ty x f P E t h=_;simp only[Z4e,aop,Qzg,Qzz];cases aev E.G t x <;> rfl
 | indexAddr ty x i=>show Yj4 ty x i P E t h=_;simp only[Yj4,aop,Qzg,Qzz];cases aev E.G t x <;> cases aev E.G t i <;> rfl
 | index ty x i=>show Z20 ty x i P E t h=_;simp only[Z20,aop,Qzg,Qzz];cases aev E.G t x <;> cases aev E.G t i <;> rfl
 | lookup ty x k ok=>show Zti ty x k ok P E t h=_;simp only[Zti,aop,Qzg,Qzz];cases aev E.G t x <;> cases aev E.G t k <;> rfl
 | mapUpdate ty m k x=>show Yh9 ty m k x P E t h=_;simp only[Yh9,aop,Qzg,Zwr];cases aev E.G t m <;> cases aev E.G t k <;> cases aev E.G t x <;> rfl
 | mapEntry ty m k=>show Yyp ty m k P E t h=_;simp only[Yyp,aop,Qzg,X70];cases aev E.G t m <;> cases aev E.G t k <;> rfl
 | entryStore ty m st x=>show Yat ty m st x P E t h=_;simp only[Yat,aop,Qzg,Zwr];cases aev E.G t m <;> cases aev E.G t st <;> cases aev E.G t x <;> rfl
 | range ty x=>show Z1p ty x P E t h=_;simp only[Z1p,aop,Qzg,X70];cases aev E.G t x <;> rfl
 | next x s=>show Jdu x s P E t h=_;simp only[Jdu,aop,Qzg,X70];cases aev E.G t x <;> rfl
 | entry x=>show Z0y x P E t h=_;simp only[Z0y,aop,Qzg,Qzz];cases aev E.G t x <;> rfl
 | typeAssert x xt ty ok=>show Zqp x xt ty ok P E t h=_;simp only[Zqp,aop,Qzg,Qzz];cases aev E.G t x <;> rfl
 | extract x i=>show Zfc x i P E t h=_;simp only[Zfc,aop,Qzg,Qzz];cases aev E.G t x <;> rfl
 | call c =>
  show Je0 c P E t h=_;simp only[Je0,aop,Qzg];cases evs E.G t c.args.toList with
  | none=>rfl
  | some args =>
   simp only[ob_some];cases c.callee with
   | builtin b=>rfl
   | value f =>
    simp only;cases aev E.G t f with
    | none=>rfl
    | some fv =>
     simp only[ob_some,Ja0];cases Qg fv args with
     | none=>rfl
     | some p=>rfl
   | invoke _ _=>rfl
 | go c=>rfl
 | defer c=>rfl
 | panic x =>
  show Z31 x P E t h=_;simp only[Z31,aop,Qzg];rcases aev E.G t x with _ | v
  ·rfl
  ·cases v <;> rfl
 | send _ _=>rfl
 | recv _ _ _=>rfl
 | select _ _=>rfl
def Jj6(n:Nat)(d:Option Tmp):Bool:=Option.rec (motive:=fun _=>Bool) true (fun i=>Nat.blt i n) d
def Z14(s:St)(d:Option Tmp):Jj6 s.t.size d=Qm7 s d:=by cases d <;> rfl
def Jg8(s:St)(d:Option Tmp)(v:Value)(h:Heap):St:=Option.rec (motive:=fun _=>St) {s with h:=h} (fun i=>{t:=s.t.put i v,ds:=s.ds,h:=h}) d
def Ysn(s:St)(d:Option Tmp)(v:Value)(h:Heap):Jg8 s d v h=s.put d v h:=by cases d <;> rfl
abbrev XS:=Option (Exit × St)
abbrev Jcq:=CallF->Option Tmp->St->XS
def Je3(o:Option Tmp)(s:St)(r:Option (AEnd × Heap)):XS:=ob r fun p=>Prod.rec (motive:=fun _=>XS) (fun e h=>AEnd.rec (motive:=fun _=>XS) (fun v=>some (.normal,Jg8 s o v h)) (fun ch=>some (.panic ch,{s with h:=h})) e) p
def Jkj(v:Value)(h:Heap):Jcq:=fun _ o s=>some (.normal,Jg8 s o v h)
def Jja(h:Heap):Jcq:=fun _ o s=>some (.normal,Jg8 s o Qr h)
def Jf6(f:FuncId)(args:List Value)(h:Heap):Jcq:=fun C o s=>Je3 o s (C.fn f args h)
def Jg4(l:Nat)(args:List Value)(h:Heap):Jcq:=fun C o s=>Je3 o s (C.rnd l args h)
def Jga(_:Deferred)(_:Heap):Jcq:=fun _ _ _=>none
def Jg2(v:Value)(h:Heap):Jcq:=fun _ _ s=>some (.panic [{v,recovered:=false}],{s with h:=h})
def Jky(r:Res)(C:CallF)(o:Option Tmp)(s:St):XS:=Res.rec (motive:=fun _=>Jcq) Jkj Jja Jf6 Jg4 Jga Jg2 r C o s
def Jdb(P:Program)(E:Env2 P)(rd:Option Nat)(o:Oper)(s:St):XS:=match o.op with
 | .defer c=>match rd with
  | none=>match Yx8 E s.t c with
   | some d=>some (.normal,({s with ds:=d::s.ds}:St).put o.dst Qr s.h)
   | none=>none
  | some _=>none
 | _=>none
def Q5r(P:Program)(E:Env2 P)(C:CallF)(rd:Option Nat)(o:Oper)(s:St):XS :=
 bq (Jj6 s.t.size o.dst) (Option.rec (motive:=fun _=>XS) (Jdb P E rd o s) (fun r=>Jky r C o.dst s) (Jk3 P E o.op s.t s.h)) none
def Z8q{P:Program}(E:Env2 P)(C:CallF)(rd:Option Nat)(o:Oper)(s:St):Q5r P E C rd o s=X0c E C rd o s:=by
 unfold Q5r X0c;rw[Z14];cases hd:Qm7 s o.dst with
 | false=>rfl
 | true =>
  simp only[cx,aL,if_false,bq_true];rw[Jdm];have hdef:∀ c,o.op=.defer c->aop E s.t s.h o=none:=by
   intro c hc;simp[aop,hc]
  split
  ·rename_i c hc;rw[hdef c hc];simp only[Jdb,hc];cases rd with
   | none=>cases Yx8 E s.t c <;> rfl
   | some _=>rfl
  ·rename_i hne;cases ha:aop E s.t s.h o with
   | none =>
    simp only[Jdb]
    all_goals (split <;> first | rfl | (rename_i c hc;exact absurd hc (hne c)))
   | some r =>
    simp only;cases r with
    | val v h=>show some _=_;rw[Ysn]
    | skip h=>show some _=_;rw[Ysn]
    | enter f args h =>
     show Je3 o.dst s (C.fn f args h)=_;simp only[Je3];rcases C.fn f args h with _ | ⟨_ | _,h'⟩
     ·rfl
     ·simp only[ob_some,Ysn]
     ·rfl
    | round f args h =>
     show Je3 o.dst s (C.rnd f args h)=_;simp only[Je3];rcases C.rnd f args h with _ | ⟨_ | _,h'⟩
     ·rfl
     ·simp only[ob_some,Ysn]
     ·rfl
    | defer d h=>rfl
    | panic v h=>rfl
def Jbq(ops:List Oper)(t:Tm)(o:Oper):Option Bool:=Option.rec (motive:=fun _=>Option Bool) (some true) (fun _=>Qe ops t o) o.guard
def Z7f(ops:List Oper)(t:Tm)(o:Oper):Jbq ops t o=Qe ops t o:=by
 unfold Jbq;cases hg:o.guard with
 | none=>simp[Qe,hg]
 | some p=>rfl
abbrev Jhw:=∀ P:Program,Env2 P->CallF->Option Nat->List Oper->St->XS
def goK(f:St->XS)(p:Exit × St):XS:=Prod.rec (motive:=fun _=>XS) (fun e s=>Exit.rec (motive:=fun _=>XS) (f s) (fun _=>none) (fun _=>none) none (fun ch=>some (.panic ch,s)) none e) p
def Jkl:Jhw:=fun _ _ _ _ _ s=>some (.normal,s)
def Jcv(o:Oper)(_:List Oper)(f:Jhw):Jhw:=fun P E C rd ops s =>
 ob (Jbq ops s.t o) fun b=>bq b (ob (Q5r P E C rd o s) (goK (f P E C rd ops))) (bq (Jj6 s.t.size o.dst) (f P E C rd ops (Jg8 s o.dst Qr s.h)) none)
def Jey(P:Program)(E:Env2 P)(C:CallF)(rd:Option Nat)(ops l:List Oper)(s:St):XS:=List.rec (motive:=fun _=>Jhw) Jkl Jcv l P E C rd ops s
def Z5l{P:Program}(E:Env2 P)(C:CallF)(rd:Option Nat)(ops:List Oper):∀ (l:List Oper) (s:St),Jey P E C rd ops l s=X1u E C rd ops l s
 | [],s=>rfl
 | o::r,s=>by
  have ih:=Z5l E C rd ops r;show Jcv o r (fun P E C rd ops s=>Jey P E C rd ops r s) P E C rd ops s=_;simp only[Jcv,X1u,Z7f,Z8q,Z14,Ysn,ih];cases Qe ops s.t o with
  | none=>rfl
  | some b =>
   simp only[ob_some];cases b with
   | true =>
    simp only[bq_true];rcases X0c E C rd o s with _ | ⟨e,s'⟩
    ·rfl
    ·cases e <;> first | rfl | (show Jey P E C rd ops r s'=_;exact ih s')
   | false =>
    simp only[bq_false];cases Qm7 s o.dst <;> rfl
abbrev Xj2:=∀ P:Program,Env2 P->CallF->Option Nat->Nat->St->XS
def Y1m(f:St->XS)(p:Exit × St):XS:=Prod.rec (motive:=fun _=>XS) (fun e s=>Exit.rec (motive:=fun _=>XS) (f s) (fun i=>some (.exit i,s)) (fun i=>some (.goto i,s)) (some (.ret,s)) (fun ch=>some (.panic ch,s)) (some (.outgrown,s)) e) p
def Xgg(f:St->XS)(s:St):Y1m f (.normal,s)=f s:=rfl
def Jex:Xj2:=fun _ _ _ _ _ s=>some (.normal,s)
def Jas(_:Nat)(ops:Array Oper)(draw:Bool):Xj2:=fun P E C rd _ s=>bq draw (ob (Xkx E C ops.toList s) fun s'=>some (.normal,s')) (Jey P E C rd ops.toList ops.toList s)
def Jl2(_ _:Code)(fx fy:Xj2):Xj2:=fun P E C rd k s=>ob (fx P E C rd k s) (Y1m (fy P E C rd k))
def Jit(c:Operand)(_ _:Code)(fx fy:Xj2):Xj2:=fun P E C r k s=>ob (rd c E.G.n s.t) fun v=>Value.rec (motive_1:=fun _=>XS) (motive_2:=fun _=>Unit) (motive_3:=fun _=>Unit)
 (fun b=>bq b (fx P E C r k s) (fy P E C r k s)) (fun _ _=>none) (fun _ _=>none) (fun _ _ _=>none) (fun _=>none) (fun _=>none) (fun _ _ _=>none) (fun _=>none) (fun _=>none) (fun _ _ _ _ _=>none) none (fun _ _ _=>none) none (fun _ _=>none) (fun _ _=>none)
 (fun _ _=>()) () (fun _ _ _ _=>()) v
def Jgb(id:Nat)(_:Code)(f:Xj2):Xj2:=fun P E C rd k s=>ob (f P E C rd k s) fun p=>Prod.rec (motive:=fun _=>XS) (fun e s=>Exit.rec (motive:=fun _=>XS) (some (.normal,s)) (fun i=>bq (Nat.beq i id) (some (.normal,s)) (some (.exit i,s))) (fun i=>some (.goto i,s)) (some (.ret,s)) (fun ch=>some (.panic ch,s)) (some (.outgrown,s)) e) p
def Z99(body:St->XS)(k:Nat):St->XS:=Nat.rec (motive:=fun _=>St->XS) (fun _=>none) (fun _ f s=>ob (body s) (Y1m f)) k
def Jif(_:Code)(f:Xj2):Xj2:=fun P E C rd k s=>Z99 (f P E C rd k) k s
def Jjf(g:Operand)(ps:Array Tmp)(asg bd:Code)(_ _:Xj2):Xj2:=fun _ E C rd _ s=>Zz3 E C rd g ps asg bd s
def Ji2(id:Nat):Xj2:=fun _ _ _ _ _ s=>some (.exit id,s)
def Jgs(_:Code)(_:Xj2):Xj2:=fun _ _ _ _ _ _=>none
def Jgp(_:Nat):Xj2:=Jex
def Jjw(_:Nat):Xj2:=fun _ _ _ _ _ _=>none
def Jkx:Xj2:=fun _ _ _ _ _ s=>some (.ret,s)
def Jc1(_:String):Xj2:=fun _ _ _ _ _ _=>none
def Xau(P:Program)(E:Env2 P)(C:CallF)(rd:Option Nat)(k:Nat)(c:Code)(s:St):XS :=
 Code.rec (motive:=fun _=>Xj2) Jex Jas Jl2 Jit Jgb Jif Jjf Ji2 Jgs Jgp Jjw Jkx Jc1 c P E C rd k s
def Zwj{f g:St->XS}(h:∀ s,f s=g s):∀ (k:Nat) (s:St),Z99 f k s=Xqf g k s
 | 0,s=>rfl
 | k+1,s=>by
  show ob (f s) (Y1m (Z99 f k))=_;rw[h s];simp only[Xqf];rcases g s with _ | ⟨e,s'⟩
  ·rfl
  ·simp only[ob_some];cases e <;> first | rfl | (rw[Xgg];exact Zwj h k s')
def Xfe{P:Program}(E:Env2 P)(C:CallF)(rd:Option Nat)(k:Nat):∀ (c:Code) (s:St),Xau P E C rd k c s=Q0z E C rd k c s
 | .skip,s=>rfl
 | .region id ops true,s=>by
  show ob (Xkx E C ops.toList s) _=_;simp only[Q0z];cases Xkx E C ops.toList s <;> rfl
 | .region id ops false,s=>by
  show Jey P E C rd ops.toList ops.toList s=_;simp only[Q0z,Z5l]
 | .seq x y,s=>by
  show ob (Xau P E C rd k x s) (Y1m (Xau P E C rd k y))=_;rw[Xfe E C rd k x s];simp only[Q0z];rcases Q0z E C rd k x s with _ | ⟨e,s'⟩
  ·rfl
  ·simp only[ob_some];cases e <;> first | rfl | (rw[Xgg];exact Xfe E C rd k y s')
 | .cond c x y,s=>by
  show ob (Go.Ab.rd c E.G.n s.t) _=_;rw[Qzg];simp only[Q0z];rcases aev E.G s.t c with _ | v
  ·rfl
  ·cases v <;> first | rfl | skip
   rename_i b;cases b with
   | true=>exact Xfe E C rd k x s
   | false=>exact Xfe E C rd k y s
 | .block id c,s=>by
  show ob (Xau P E C rd k c s) _=_;rw[Xfe E C rd k c s];simp only[Q0z];rcases Q0z E C rd k c s with _ | ⟨e,s'⟩
  ·rfl
  ·simp only[ob_some];cases e <;> first | rfl | skip
   rename_i i;simp only;cases Nat.beq i id <;> rfl
 | .loop c,s=>by
  show Z99 (Xau P E C rd k c) k s=_;simp only[Q0z];exact Zwj (Xfe E C rd k c) k s
 | .rangeFunc g ps asg bd,s=>rfl
 | .exit id,s=>rfl
 | .scope c,s=>rfl
 | .label l,s=>rfl
 | .goto l,s=>rfl
 | .ret,s=>rfl
 | .refuse w,s=>rfl
def Zy1 (P : Program) (E : Env2 P) (C : CallF) (D : Qup) (k : Nat) (f : FuncId) (args : List Value) (h : Heap) : Option (AEnd × Heap) :=
  ob (E.fn.get f) fun fn => ob fn.body fun c => bq (Nat.ble args.length fn.ntmps) (match Xau P E C none k c ⟨Xo fn args, [], h⟩ with
      | some (.normal, s) | some (.ret, s) => Xb E D fn s.t s.ds .returning s.h
      | some (.panic ch, s) => Xb E D fn s.t s.ds (.panicking ch) s.h
      | _ => none) none
def Z7y{P:Program}(E:Env2 P)(C:CallF)(D:Qup)(k:Nat)(f:FuncId)(args:List Value)(h:Heap):Zy1 P E C D k f args h=Zt9 E C D k f args h:=by
 unfold Zy1 Zt9;cases E.fn.get f with
 | none=>rfl
 | some fn =>
  simp only[ob_some];cases fn.body with
  | none=>rfl
  | some c =>
   simp only[ob_some];cases Nat.ble args.length fn.ntmps with
   | false=>rfl
   | true =>
    simp only[bq_true,Xfe];rcases Q0z E C none k c ⟨Xo fn args,[],h⟩with _ | ⟨e,s⟩
    ·rfl
    ·cases e <;> rfl
def Zwk(P:Program)(E:Env2 P)(C:CallF)(k:Nat)(l:Nat)(args:List Value)(h:Heap):Option (AEnd × Heap) :=
 match h.get l with
 | some (.obj (.loop .ready _ t ps asg bd _))=>match Zug t.size ps.toList args with
  | false=>none
  | true=>match Xau P E C (some l) k asg ⟨Ydg t ps.toList args,[],h⟩with
   | some (.normal,s1)=>match s1.h.get l with
    | some (.obj (.loop .ready p1 t1 ps1 as1 bd1 d1))=>match Xau P E C (some l) k bd {s1 with h:=s1.h.set l (some (.obj (.loop .busy p1 t1 ps1 as1 bd1 d1)))} with
     | some (e,s2)=>match Y9u e,s2.h.get l with
      | some j,some (.obj (.loop _ _ t2 ps2 as2 bd2 d2))=>some (.ret (.bool j.isNone),s2.h.set l (some (.obj (.loop (if j.isNone then .ready else .done) j t2 ps2 as2 bd2 d2))))
      | _,_=>none
     | none=>none
    | _=>none
   | _=>none
 | _=>none
def Z0h{P:Program}(E:Env2 P)(C:CallF)(k:Nat)(l:Nat)(args:List Value)(h:Heap):Zwk P E C k l args h=Yv2 E C k l args h:=by
 unfold Zwk Yv2;simp only[Xfe];rfl
def Qqj(P:Program)(E:Env2 P)(X:Xf8)(k:Nat)(n:Nat):CallF :=
 Nat.rec (motive:=fun _=>CallF) ⟨X,fun _ _ _=>none⟩ (fun _ C=>⟨fun f args h=>Option.rec (motive:=fun _=>Option (AEnd × Heap)) (Zy1 P E C (Xt0 E C k) k f args h) (fun r=>some r) (X f args h),fun l args h=>Zwk P E C k l args h⟩) n
def Zmd{P:Program}(E:Env2 P)(X:Xf8)(k:Nat):∀ n,Qqj P E X k n=Y2i E X k n
 | 0=>rfl
 | n+1=>by
  have ih:=Zmd E X k n;show(⟨fun f args h=>Option.rec (motive:=fun _=>Option (AEnd × Heap)) (Zy1 P E (Qqj P E X k n) (Xt0 E (Qqj P E X k n) k) k f args h) (fun r=>some r) (X f args h),fun l args h=>Zwk P E (Qqj P E X k n) k l args h⟩:CallF)=_;rw[ih];simp only[Y2i,CallF.mk.injEq];refine⟨?_,?_⟩
  ·funext f args h;rw[Z7y];cases X f args h <;> rfl
  ·funext l args h;exact Z0h E _ k l args h
end Go.Ab
