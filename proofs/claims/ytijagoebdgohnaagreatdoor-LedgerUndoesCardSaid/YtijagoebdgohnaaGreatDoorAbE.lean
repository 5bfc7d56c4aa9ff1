import Derived.Test.YtijagoebdgohnaaGreatDoorAbD
import Derived.KernelRfl
import Derived.ChangeArms
import Derived.OpenShut
import Derived.Lib.LaidU8
import Derived.ChangeSame
import Derived.RowKit
import Derived.MakeChecks
set_option linter.all false
noncomputable section
namespace Go.Ab
def Z6e(P:Program)(f:Nat):Option Func:=match P.funcs[f]? with
 | some F=>if F.name == "runtime.NumGoroutine" then none else if F.body.isSome then some F else none
 | none=>none
def Z7j{P:Program}{f:Nat}{F:Func}(h:Z6e P f=some F):P.funcs[f]? = some F/\(F.name == "runtime.NumGoroutine")=false/\F.body.isSome=true:=by
 unfold Z6e at h;split at h
 ·rename_i F0 h0;split at h
  ·cases h
  ·rename_i h1;split at h
   ·rename_i h2;cases h;exact⟨h0,by simpa using h1,h2⟩
   ·cases h
 ·cases h
def Zo9(P:Program):Nat->Tr Func
 | 0 => .leaf
 | n+1=>(Zo9 P n).put n (Z6e P n)
def Zhk(P:Program):∀ (n:Nat) (f:FuncId) (F:Func),(Zo9 P n).get f=some F->Z6e P f=some F
 | 0,f,F,h=>by simp[Zo9]at h
 | n+1,f,F,h=>by
  rw[Zo9,Tr.get_put]at h;split at h
  ·rename_i e;subst e;exact h
  ·exact Zhk P n f F h
def Z7k(P:Program)(f:Nat):Option ExtK:=match P.funcs[f]? with
 | some F=>Z2g F
 | none=>none
def Zoe(P:Program):Nat->Tr ExtK
 | 0 => .leaf
 | n+1=>(Zoe P n).put n (Z7k P n)
def Znr(P:Program):∀ (n:Nat) (f:FuncId) (x:ExtK),(Zoe P n).get f=some x->Z7k P f=some x
 | 0,f,x,h=>by simp[Zoe]at h
 | n+1,f,x,h=>by
  rw[Zoe,Tr.get_put]at h;split at h
  ·rename_i e;subst e;exact h
  ·exact Znr P n f x h
def Z6h{P:Program}{f:Nat}{x:ExtK}(h:Z7k P f=some x):∃ F,P.funcs[f]? = some F/\Z2g F=some x:=by
 unfold Z7k at h;split at h
 ·rename_i F hF;exact⟨F,hF,h⟩
 ·cases h
def mkE(P:Program)(n b:Nat):Env2 P :=
 {ty:=Zh9 P P.types.size,tyok:=fun t r h=>Z5s (Zkr P _ t r h),G:=⟨n,b⟩,fn:=Zo9 P P.funcs.size,fnok:=fun f F h=>Z7j (Zhk P _ f F h),ex:=Zoe P P.funcs.size,exok:=fun f x h=>Z6h (Znr P _ f x h)}
section
variable{H:Type}(P:Program)
def X90(g:TypeId->DataW H->Option (List Value))(tot:Nat):List Field->List (DataW H)->Nat->Option (List Value)
 | [],[],acc=>if acc == tot then some []else none
 | f::fs,d::ds,acc=>if f.offset == acc then(match g f.type d with
  | some l=>if l.length == P.cellsOf f.type then(match X90 g tot fs ds (acc+l.length)with | some r=>some (l++r) | none=>none)else none
  | none=>none)else none
 | _,_,_=>none
def Zkx(g:DataW H->Option (List Value))(sz tot:Nat):List (DataW H)->Nat->Option (List Value)
 | [],acc=>if acc == tot then some []else none
 | d::ds,acc=>match g d with
  | some l=>if l.length == sz then(match Zkx g sz tot ds (acc+sz)with | some r=>some (l++r) | none=>none)else none
  | none=>none
def Y75:Nat->TypeId->DataW H->Option (List Value)
 | 0,_,_=>none
 | k+1,t,d =>
  match P.underlying t,d with
  | some .bool,.lit (.bool b)=>some [.bool b]
  | some (.int k'),.lit (.int _ n)=>some [.int k' n]
  | some .string,.lit (.string l)=>some [.string ⟨l.toArray⟩]
  | some (.struct fs),.agg ds=>X90 P (Y75 k) (P.cellsOf t) fs.toList ds 0
  | some (.array n e),.agg ds=>if ds.length == n then Zkx (Y75 k e) (P.cellsOf e) (P.cellsOf t) ds 0 else none
  | _,_=>none
end
section
variable{H:Type}{enc:TypeId × Value->H}{P:Program}{w:World}{base:Nat}{sp:Nat->Bool}{held:Bool}
def Y7v{g:TypeId->DataW H->Option (List Value)}{cs:List Value}{n:Nat}
  (hg:∀ t d l cs p,g t d=some l->DataW.trod enc P w base sp held n t cs=some (d,p)->cs=l) :
  ∀ (fs:List Field) (ds:List (DataW H)) (acc:Nat) (l:List Value),X90 P g cs.length fs ds acc=some l ->
  (∀ (i:Nat) (f:Field) d,fs[i]? = some f->ds[i]? = some d->∃ p,DataW.trod enc P w base sp held n f.type ((cs.drop f.offset).take (P.cellsOf f.type))=some (d,p))->cs.drop acc=l
 | [],[],acc,l,h,_=>by
  simp only[X90]at h;split at h
  ·rename_i e;cases h;simp at e;simp[e]
  ·cases h
 | f::fs,d::ds,acc,l,h,ht=>by
  simp only[X90]at h;split at h
  ·rename_i e0;simp only[beq_iff_eq]at e0;split at h
   ·rename_i l0 hl0;split at h
    ·rename_i e1;simp only[beq_iff_eq]at e1;split at h
     ·rename_i r hr;cases h;have ih:=Y7v hg fs ds _ r hr (fun i f' d' hf hd=>ht (i+1) f' d' (by simpa using hf) (by simpa using hd));obtain⟨p,h0⟩:=ht 0 f d (by simp) (by simp);have h1:=hg _ _ _ _ _ hl0 h0;rw[e0,<- e1]at h1;rw[<- ih,<- cD,<- bA l0.length (cs.drop acc),h1];simp
     ·cases h
    ·cases h
   ·cases h
  ·cases h
 | [],_::_,_,_,h,_=>by simp[X90]at h
 | _::_,[],_,_,h,_=>by simp[X90]at h
def Zgt{g:DataW H->Option (List Value)}{cs:List Value}{n sz:Nat}{e:TypeId}
  (hg:∀ d l cs p,g d=some l->DataW.trod enc P w base sp held n e cs=some (d,p)->cs=l) :
  ∀ (ds:List (DataW H)) (j:Nat) (l:List Value),Zkx g sz cs.length ds (j*sz)=some l ->
  (∀ (i:Nat) d,ds[i]? = some d->∃ p,DataW.trod enc P w base sp held n e ((cs.drop ((j+i)*sz)).take sz)=some (d,p))->cs.drop (j*sz)=l
 | [],j,l,h,_=>by
  simp only[Zkx]at h;split at h
  ·rename_i e;cases h;simp at e;simp[e]
  ·cases h
 | d::ds,j,l,h,ht=>by
  simp only[Zkx]at h;split at h
  ·rename_i l0 hl0;split at h
   ·rename_i e1;simp only[beq_iff_eq]at e1;split at h
    ·rename_i r hr;cases h;have e2:j*sz+sz=(j+1)*sz:=by rw[cj];simp
     rw[e2]at hr;have ih:=Zgt hg ds (j+1) r hr (fun i d' hd=>by
      have:=ht (i+1) d' (by simpa using hd);rwa [show j+(i+1)=j+1+i from by omega]at this)
     obtain⟨p,h0⟩:=ht 0 d (by simp);have h1:=hg _ _ _ _ hl0 h0;simp only[ca]at h1;rw[<- ih,<- e2,<- cD,<- bA sz (cs.drop (j*sz)),h1];simp[e1]
    ·cases h
   ·cases h
  ·cases h
def Yuh:∀ (k:Nat) (t:TypeId) (d:DataW H) (l cs:List Value) (n:Nat) (p:List MemPlace),Y75 P k t d=some l->DataW.trod enc P w base sp held n t cs=some (d,p)->cs=l
 | 0,_,_,_,_,_,_,h,_=>by simp[Y75]at h
 | k+1,t,d,l,cs,n,p,h,ht=>by
  simp only[Y75]at h;split at h
  ·rename_i b hu;cases h;obtain⟨b',rfl,e⟩:=DataW.trod_bool hu ht;cases e;rfl
  ·rename_i k' k2 z hu;cases h;obtain⟨n',rfl,e,_⟩:=DataW.trod_int hu ht;cases e;rfl
  ·rename_i s hu;cases h;obtain⟨s',rfl,e,_⟩:=DataW.trod_string hu ht;cases e;simp
  ·rename_i fs ds hu;obtain⟨xs,m,rfl,e,hl,hxl,hall⟩:=DataW.trod_struct hu ht;simp only[bK,DataW.agg.injEq]at e;rw[<- hl]at h;have:=Y7v (n:=m) (fun t d l cs p h1 h2=>Yuh k t d l cs m p h1 h2) _ _ _ _ h (fun i f d hf hd=>by
    have h1:=hall i f (by simpa using hf);rw[e.1,bc]at hd;rw[h1];cases hx:xs[i]? with
    | none=>rw[hx]at hd;cases hd
    | some y=>rw[hx]at hd;cases hd;exact⟨y.2,rfl⟩)
   simpa using this
  ·rename_i n' e' ds hu;obtain⟨xs,m,rfl,e,hl,hxl,hall⟩:=DataW.trod_array hu ht;simp only[bK,DataW.agg.injEq]at e;split at h
   ·rename_i hn;rw[<- hl]at h;have:=Zgt (n:=m) (fun d l cs p h1 h2=>Yuh k e' d l cs m p h1 h2) ds 0 l (by simpa using h) (fun i d hd=>by
     rw[e.1,bc]at hd;cases hx:xs[i]? with
     | none=>rw[hx]at hd;cases hd
     | some y =>
      rw[hx]at hd;cases hd;have hi:i < xs.length:=(aq.1 hx).1;have h1:=hall i (by omega);rw[hx]at h1;simp only[bL];exact⟨y.2,h1⟩)
    simpa using this
   ·cases h
  ·cases h
end
def Zkn:List (Nat × List Value)->Tr Blk
 | [] => .leaf
 | x::l=>(Zkn l).put x.1 (some (.cells false 0 x.2))
def Q0b(n:Nat)(l:List (Nat × List Value)):Heap:=⟨n,n,Zkn l⟩
def Ykl(n:Nat):Ren:=fun b=>if b < n then some ⟨b,0,0,0,none⟩else none
def X2x:∀ (l:List (Nat × List Value)) (b:Nat) (x:Blk),(Zkn l).get b=some x->∃ c,(b,c) ∈ l/\x=.cells false 0 c
 | [],b,x,h=>by simp[Zkn]at h
 | y::l,b,x,h=>by
  simp only[Zkn]at h;rw[Tr.get_put]at h;split at h
  ·rename_i e;subst e;cases h;exact⟨y.2,by simp,rfl⟩
  ·obtain⟨c,h1,h2⟩:=X2x l b x h;exact⟨c,by simp[h1],h2⟩
def Zfx{W:World}{n:Nat}{l:List (Nat × List Value)}(hn:n<=W.heap.size)(hl:∀ x ∈ l,(∀ v ∈ x.2,flat v=true/\v.oneCell'=true)/\∃ C e fr,W.heap[x.1]? = some (.cells C e fr)/\C.toList=x.2) :
  HRel ⟨n,W.heap.size⟩ (Ykl n) (Q0b n l) W:=by
 have hget:∀ b x,(Q0b n l).get b=some x->b < n/\∃ c,(b,c) ∈ l/\x=.cells false 0 c:=by
  intro b x h;unfold Heap.get at h;split at h
  ·rename_i hb;exact⟨hb,X2x l b x h⟩
  ·cases h
 have hα:∀ b p,Ykl n b=some p->b < n/\p=⟨b,0,0,0,none⟩:=by
  intro b p h;unfold Ykl at h;split at h
  ·cases h;exact⟨by assumption,rfl⟩
  ·cases h
 have hown:∀ b,(Q0b n l).own b=false:=by
  intro b;unfold Heap.own;cases hb:(Q0b n l).get b with
  | none=>rfl
  | some x=>obtain⟨_,c,_,rfl⟩:=hget b x hb;rfl
 refine⟨fun b p h => ?_,fun b p x hb hx => ?_,fun b c p q _ _ _ ho _ => ?_,fun g hg=>⟨?_,hown g⟩,ae _,fun b x hx => ?_,fun b p x hb hx => ?_,ae _⟩
 ·obtain⟨h1,rfl⟩:=hα b p h;exact⟨h1,trivial⟩
 ·obtain⟨h1,rfl⟩:=hα b p hb;obtain⟨_,c,hc,rfl⟩:=hget b x hx;obtain⟨hf,C,e,fr,h2,h3⟩:=hl _ hc;refine⟨rfl,.inr ⟨C,e,fr.1,fr.2,h2,fun i v hv => ?_,fun h=>by cases h⟩⟩;have hv':=hf v (ak hv);simp only at h3;refine⟨?_,flat_ok _ v hv'.1,hv'.2⟩;rw[Qgy _ hv'.1,<- hv,<- h3];simp
 ·rw[hown b]at ho;cases ho
 ·simp[Ykl,show g < n from hg]
 ·obtain⟨_,c,hc,rfl⟩:=hget b x hx;intro v hv;exact⟨flat_ok _ v ((hl _ hc).1 v hv).1,((hl _ hc).1 v hv).2⟩
 ·obtain⟨h1,rfl⟩:=hα b p hb;obtain⟨_,c,_,rfl⟩:=hget b x hx;refine⟨fun h => ?_,fun _ _=>⟨aw h1 hn,rfl⟩⟩;simp[Blk.own]at h
def Z2e(P:Program)(laid:List (String × DataW Unit))(n:Nat)(l:List (Nat × List Value)):Prop :=
 ∀ x ∈ l,x.1 < n/\(∀ v ∈ x.2,flat v=true/\v.oneCell'=true)/\∃ name t d k,(name,d) ∈ laid/\P.globalNamed name=some x.1/\(P.globals[x.1]?).map (·.type)=some t/\Y75 P k t d=some x.2
def Zfh{P:Program}{W:World}{laid:List (String × DataW Unit)}{n:Nat}{l:List (Nat × List Value)}(h:laidMet P laid W)(hl:Z2e P laid n l)(hn:n<=W.heap.size) :
  HRel ⟨n,W.heap.size⟩ (Ykl n) (Q0b n l) W:=by
 refine Zfx hn fun x hx => ?_;obtain⟨_,hf,name,t,d,k,hm,hg,ht,hd⟩:=hl x hx;refine⟨hf,?_⟩;obtain⟨g,t',cs,fuel,p,h1,h2,h3,h4⟩:=Lib.laidMet.reads h hm;obtain rfl:=bB (hg.symm.trans h1);obtain rfl:=bB (ht.symm.trans h2);have:=Yuh k _ _ _ _ _ _ hd h4;unfold World.var? at h3;rw[hg]at h3;simp only[Option.bind_some]at h3;split at h3
 ·rename_i C e fr hC;cases h3;exact⟨_,e,fr,hC,this⟩
 ·cases h3
def ob{A B:Type}(x:Option A)(f:A->Option B):Option B:=Option.rec (motive:=fun _=>Option B) none f x
@[simp] def ob_some {A B:Type} (a:A) (f:A->Option B):ob (some a) f=f a:=rfl
@[simp] def ob_none {A B:Type} (f:A->Option B):ob none f=none:=rfl
def bq{A:Type}(b:Bool)(x y:A):A:=Bool.rec (motive:=fun _=>A) y x b
@[simp] def bq_true {A:Type} (x y:A):bq true x y=x:=rfl
@[simp] def bq_false {A:Type} (x y:A):bq false x y=y:=rfl
def rT(i:Nat)(_:Nat)(t:Tm):Option Value:=t.t.get i
def rC(v:Value)(_:Nat)(_:Tm):Option Value:=bq (flat v) (some v) none
def rG(g n:Nat)(_:Tm):Option Value:=bq (Nat.blt g n) (some (.pointer (some ⟨g,0,none⟩))) none
def rF(f:FuncId)(_:Nat)(_:Tm):Option Value:=some (.func (.func f) #[] #[])
def rd(x:Operand)(n:Nat)(t:Tm):Option Value:=Operand.rec (motive:=fun _=>Nat->Tm->Option Value) rT rC rG rF x n t
def Qyu(G:Bs)(t:Tm)(x:Operand):rd x G.n t=aev G t x:=by
 cases x with
 | tmp i=>rfl
 | const v=>show rC v 0 t=_;simp only[rC,aev];cases flat v <;> rfl
 | global g =>
  show rG g G.n t=_;simp only[rG,aev];by_cases h:g < G.n
  ·rw[show Nat.blt g G.n=true from by simpa using h];simp[h]
  ·rw[cg.2 (fun hb:Nat.blt g G.n=true=>h (by simpa using hb))];simp[h]
 | func f=>rfl
def gvF(r:Option (Value × Heap)):Option Res:=ob r fun p=>Prod.rec (motive:=fun _=>Option Res) (fun v h=>some (.val v h)) p
def g0F(h:Heap)(r:Option Value):Option Res:=ob r fun v=>some (.val v h)
def gsF(r:Option Heap):Option Res:=ob r fun h=>some (.skip h)
def X6r(r:Option (Value × Heap)):gvF r=gv r:=by cases r <;> rfl
def Qzc(h:Heap)(r:Option Value):g0F h r=g0 h r:=by cases r <;> rfl
def Zuz(r:Option Heap):gsF r=gs r:=by cases r <;> rfl
abbrev OpF:=∀ P:Program,Env2 P->Tm->Heap->Option Res
def Zw5(x:Operand):OpF:=fun _ E t h=>g0F h (rd x E.G.n t)
def Z9m(c a b:Operand):OpF:=fun _ E t h=>match rd c E.G.n t with
 | some (.bool true)=>g0F h (rd a E.G.n t)
 | some (.bool false)=>g0F h (rd b E.G.n t)
 | _=>none
def Zzg(e:TypeId):OpF:=fun _ E _ h=>gvF (Qbi E.toEnv e h)
def Jh6(_:TypeId)(x:Operand):OpF:=fun _ E t h=>ob (rd x E.G.n t) fun v=>gvF (Zol v h)
def Z0x(ty:TypeId)(ps:Array (Nat × Operand)):OpF:=fun _ E t h=>ob (Qf E.G t ps.toList) fun l=>g0F h (Qmn E.toEnv ty l)
def Yaq(ty:TypeId)(n:Nat)(ps:Array (Nat × Operand)):OpF:=fun _ E t h=>ob (Qf E.G t ps.toList) fun l=>gvF (Vx E.toEnv ty n l h)
def Ygg(ty:TypeId)(m k x:Operand):OpF:=fun _ E t h=>ob (rd m E.G.n t) fun a=>ob (rd k E.G.n t) fun b=>ob (rd x E.G.n t) fun c=>gsF (Qgp E.toEnv ty a b c h)
def Jbe(ty:TypeId)(a:Operand):OpF:=fun _ E t h=>ob (rd a E.G.n t) fun x=>g0F h (Qkc E.toEnv ty x h)
def Z08(ty:TypeId)(a v:Operand):OpF:=fun _ E t h=>ob (rd a E.G.n t) fun x=>ob (rd v E.G.n t) fun y=>gsF (Qc9 E.toEnv ty x y h)
def oN1(_:Nat):OpF:=fun _ _ _ _=>none
def Yui(x:Operand):OpF:=fun _ E t h=>ob (rd x E.G.n t) fun v=>g0F h (X03 v)
def Jhs(op:BinOp)(ty:TypeId)(x y:Operand)(_:TypeId):OpF:=fun _ E t h=>ob (rd x E.G.n t) fun a=>ob (rd y E.G.n t) fun b=>g0F h (Yh E.toEnv op ty (Q6 x || Q6 y) a b)
def oUn(op:UnOp)(_:TypeId)(x:Operand):OpF:=fun _ E t h=>ob (rd x E.G.n t) fun v=>g0F h (aUn op v)
def Jaa(src dst:TypeId)(x:Operand):OpF:=fun _ E t h=>ob (rd x E.G.n t) fun v=>bq (Qvu E.toEnv src dst) (g0F h (Q0z E.toEnv src dst v)) (gvF (Xie E.toEnv src dst v h))
def Zqb(ty:TypeId)(x:Operand):OpF:=fun _ E t h=>ob (rd x E.G.n t) fun v=>g0F h (Yhk E.toEnv ty v)
def Zcj(ty:TypeId)(x:Operand):OpF:=fun _ E t h=>ob (rd x E.G.n t) fun v=>g0F h (Q8m E.toEnv ty v)
def Zqc(fn:Fn)(a b:Array Operand):OpF:=fun _ E t h=>ob (evs E.G t a.toList) fun x=>ob (evs E.G t b.toList) fun y=>g0F h (X85 fn x y)
def Zbf(ty:TypeId)(r:Option Operand):OpF:=fun _ E t h=>ob (evO E.G t r) fun hv=>gvF (Q4w E.toEnv ty hv h)
def oN2(_:TypeId)(_:Operand):OpF:=fun _ _ _ _=>none
def Yi4(ty:TypeId)(n c:Operand):OpF:=fun _ E t h=>ob (rd n E.G.n t) fun x=>ob (rd c E.G.n t) fun y=>gvF (Qwa E.toEnv ty x y h)
def Z1e(ty:TypeId)(x:Operand)(lo hi mx:Option Operand):OpF:=fun _ E t h=>ob (rd x E.G.n t) fun v=>ob (evO E.G t lo) fun a=>ob (evO E.G t hi) fun b=>ob (evO E.G t mx) fun c=>gvF (Qgc E.toEnv ty v a b c h)
def Yji(ty:TypeId)(x:Operand)(f:Nat):OpF:=fun _ E t h=>ob (rd x E.G.n t) fun v=>g0F h (Ug E.toEnv ty v f)
def Z2i(ty:TypeId)(x:Operand)(f:Nat):OpF:=fun _ E t h=>ob (rd x E.G.n t) fun v=>g0F h (Ztz E.toEnv ty v f)
def Yia(ty:TypeId)(x i:Operand):OpF:=fun _ E t h=>ob (rd x E.G.n t) fun a=>ob (rd i E.G.n t) fun b=>g0F h (Jz E.toEnv ty a b)
def Z06(ty:TypeId)(x i:Operand):OpF:=fun _ E t h=>ob (rd x E.G.n t) fun a=>ob (rd i E.G.n t) fun b=>g0F h (Znk E.toEnv ty a b)
def Zro(ty:TypeId)(x k:Operand)(ok:Bool):OpF:=fun _ E t h=>ob (rd x E.G.n t) fun a=>ob (rd k E.G.n t) fun b=>g0F h (Qo6 E.toEnv ty a b ok h)
def Yxj(ty:TypeId)(m k:Operand):OpF:=fun _ E t h=>ob (rd m E.G.n t) fun a=>ob (rd k E.G.n t) fun b=>gvF (Xiu E.toEnv ty a b h)
def Ya5(_:TypeId)(m st x:Operand):OpF:=fun _ E t h=>ob (rd m E.G.n t) fun a=>ob (rd st E.G.n t) fun b=>ob (rd x E.G.n t) fun c=>gsF (Q4b a b c h)
def Zzv(ty:TypeId)(x:Operand):OpF:=fun _ E t h=>ob (rd x E.G.n t) fun v=>gvF (Yjw E.toEnv ty v h)
def Jc1(x:Operand)(s:Bool):OpF:=fun _ E t h=>ob (rd x E.G.n t) fun v=>gvF (Zvn v s h)
def Zz2(x:Operand):OpF:=fun _ E t h=>ob (rd x E.G.n t) fun v=>g0F h (Y7b v h)
def Zos(x:Operand)(_ ty:TypeId)(ok:Bool):OpF:=fun _ E t h=>ob (rd x E.G.n t) fun v=>g0F h (Xp1 E.toEnv v ty ok)
def Zdg(x:Operand)(i:Nat):OpF:=fun _ E t h=>ob (rd x E.G.n t) fun v=>g0F h (Q7 v i)
def Z83(P:Program)(E:Env2 P)(fv:Value)(args:List Value)(h:Heap):Option Res:=match Qg fv args with
 | some (f,l)=>match E.fn.get f with
  | some _=>some (.enter f l h)
  | none=>match E.ex.get f with
   | some x=>gv (Ykf x l h)
   | none=>none
 | none=>Yci fv args h
def Jc6(c:Call):OpF:=fun P E t h=>ob (evs E.G t c.args.toList) fun args=>match c.callee with
 | .builtin b=>Q5 E b c.argTypes.toList args h
 | .value f=>ob (rd f E.G.n t) fun fv=>Z83 P E fv args h
 | .invoke _ _=>none
def oN7(_:Call):OpF:=fun _ _ _ _=>none
def Z17(x:Operand):OpF:=fun _ E t h=>match rd x E.G.n t with
 | some (.iface u v)=>some (.panic (.iface u v) h)
 | _=>none
def oN8(_ _:Operand):OpF:=fun _ _ _ _=>none
def oN9(_:TypeId)(_:Operand)(_:Bool):OpF:=fun _ _ _ _=>none
def Jiq(_:Array SelectCase)(_:Bool):OpF:=fun _ _ _ _=>none
def Ji7(P:Program)(E:Env2 P)(o:Op)(t:Tm)(h:Heap):Option Res :=
 Op.rec (motive:=fun _=>OpF) Zw5 Zw5 Z9m Zzg Jh6 Z0x Yaq Ygg Jbe Z08 oN1 oN1 Yui Jhs oUn Jaa Zqb Zcj Zqc Zbf oN2 Yi4 Z1e Yji Z2i Yia Z06 Zro
  Ygg Yxj Ya5 Zzv Jc1 Zz2 Zos Zdg Jc6 oN7 oN7 Z17 oN8 oN9 Jiq o P E t h
def Jbt{P:Program}(E:Env2 P)(t:Tm)(h:Heap)(o:Oper):Ji7 P E o.op t h=aop E t h o:=by
 obtain⟨d,op,ty,pos,af,g⟩:=o;have two:∀ {A:Type} (x y:Option Value) (f:Value->Value->Option A),(match x,y with | some a,some b=>f a b | _,_=>none)=ob x fun a=>ob y fun b=>f a b:=by
  intro A x y f;cases x <;> cases y <;> rfl
 cases op with
 | move x=>show Zw5 x P E t h=_;simp only[Zw5,aop,Qyu,Qzc]
 | assign x=>show Zw5 x P E t h=_;simp only[Zw5,aop,Qyu,Qzc]
 | pick c a b =>
  show Z9m c a b P E t h=_;simp only[Z9m,aop,Qyu,Qzc];rcases aev E.G t c with _ | v
  ·rfl
  ·cases v <;> first | rfl | (rename_i b;cases b <;> rfl)
 | alloc e=>show Zzg e P E t h=_;simp only[Zzg,aop,X6r]
 | box e x=>show Jh6 e x P E t h=_;simp only[Jh6,aop,Qyu,X6r];cases aev E.G t x <;> rfl
 | build ty ps=>show Z0x ty ps P E t h=_;simp only[Z0x,aop,Qzc];cases Qf E.G t ps.toList <;> rfl
 | buildSlice ty n ps=>show Yaq ty n ps P E t h=_;simp only[Yaq,aop,X6r];cases Qf E.G t ps.toList <;> rfl
 | insert ty m k x=>show Ygg ty m k x P E t h=_;simp only[Ygg,aop,Qyu,Zuz];cases aev E.G t m <;> cases aev E.G t k <;> cases aev E.G t x <;> rfl
 | load ty a=>show Jbe ty a P E t h=_;simp only[Jbe,aop,Qyu,Qzc];cases aev E.G t a <;> rfl
 | store ty a v=>show Z08 ty a v P E t h=_;simp only[Z08,aop,Qyu,Zuz];cases aev E.G t a <;> cases aev E.G t v <;> rfl
 | ready g=>rfl
 | waits g=>rfl
 | nilCheck x=>show Yui x P E t h=_;simp only[Yui,aop,Qyu,Qzc];cases aev E.G t x <;> rfl
 | binOp op ty x y yt=>show Jhs op ty x y yt P E t h=_;simp only[Jhs,aop,Qyu,Qzc];cases aev E.G t x <;> cases aev E.G t y <;> rfl
 | unOp op ty x=>show oUn op ty x P E t h=_;simp only[oUn,aop,Qyu,Qzc];cases aev E.G t x <;> rfl
 | convert s d x =>
  show Jaa s d x P E t h=_;simp only[Jaa,aop,Qyu,Qzc,X6r];cases aev E.G t x
  ·rfl
  ·cases Qvu E.toEnv s d <;> rfl
 | sliceToArrayPointer ty x=>show Zqb ty x P E t h=_;simp only[Zqb,aop,Qyu,Qzc];cases aev E.G t x <;> rfl
 | makeInterface ty x=>show Zcj ty x P E t h=_;simp only[Zcj,aop,Qyu,Qzc];cases aev E.G t x <;> rfl
 | makeFunc fn a b=>show Zqc fn a b P E t h=_;simp only[Zqc,aop,Qzc];cases evs E.G t a.toList <;> cases evs E.G t b.toList <;> rfl
 | makeMap ty r=>show Zbf ty r P E t h=_;simp only[Zbf,aop,X6r];cases evO E.G t r <;> rfl
 | makeChan ty x=>rfl
 | makeSlice ty n c=>show Yi4 ty n c P E t h=_;simp only[Yi4,aop,Qyu,X6r];cases aev E.G t n <;> cases aev E.G t c <;> rfl
 | slice ty x lo hi mx=>show Z1e ty x lo hi mx P E t h=_;simp only[Z1e,aop,Qyu,X6r];cases aev E.G t x <;> cases evO E.G t lo <;> cases evO E.G t hi <;> cases evO E.G t mx <;> rfl
 | fieldAddr ty x f=>show Yji ty x f P E t h=_;simp only[Yji,aop,Qyu,Qzc];cases aev E.G t x <;> rfl
 | field ty x f=>show Z2i ty x f P E t h=_;simp only[Z2i,aop,Qyu,Qzc];cases aev E.G t x <;> rfl
 | indexAddr ty x i=>show Yia ty x i P E t h=_;simp only[Yia,aop,Qyu,Qzc];cases aev E.G t x <;> cases aev E.G t i <;> rfl
 | index ty x i=>show Z06 ty x i P E t h=_;simp only[Z06,aop,Qyu,Qzc];cases aev E.G t x <;> cases aev E.G t i <;> rfl
 | lookup ty x k ok=>show Zro ty x k ok P E t h=_;simp only[Zro,aop,Qyu,Qzc];cases aev E.G t x <;> cases aev E.G t k <;> rfl
 | mapUpdate ty m k x=>show Ygg ty m k x P E t h=_;simp only[Ygg,aop,Qyu,Zuz];cases aev E.G t m <;> cases aev E.G t k <;> cases aev E.G t x <;> rfl
 | mapEntry ty m k=>show Yxj ty m k P E t h=_;simp only[Yxj,aop,Qyu,X6r];cases aev E.G t m <;> cases aev E.G t k <;> rfl
 | entryStore ty m st x=>show Ya5 ty m st x P E t h=_;simp only[Ya5,aop,Qyu,Zuz];cases aev E.G t m <;> cases aev E.G t st <;> cases aev E.G t x <;> rfl
 | range ty x=>show Zzv ty x P E t h=_;simp only[Zzv,aop,Qyu,X6r];cases aev E.G t x <;> rfl
 | next x s=>show Jc1 x s P E t h=_;simp only[Jc1,aop,Qyu,X6r];cases aev E.G t x <;> rfl
 | entry x=>show Zz2 x P E t h=_;simp only[Zz2,aop,Qyu,Qzc];cases aev E.G t x <;> rfl
 | typeAssert x xt ty ok=>show Zos x xt ty ok P E t h=_;simp only[Zos,aop,Qyu,Qzc];cases aev E.G t x <;> rfl
 | extract x i=>show Zdg x i P E t h=_;simp only[Zdg,aop,Qyu,Qzc];cases aev E.G t x <;> rfl
 | call c =>
  show Jc6 c P E t h=_;simp only[Jc6,aop,Qyu];cases evs E.G t c.args.toList with
  | none=>rfl
  | some args =>
   simp only[ob_some];cases c.callee with
   | builtin b=>rfl
   | value f =>
    simp only;cases aev E.G t f with
    | none=>rfl
    | some fv =>
     simp only[ob_some,Z83];cases Qg fv args with
     | none=>rfl
     | some p=>rfl
   | invoke _ _=>rfl
 | go c=>rfl
 | defer c=>rfl
 | panic x =>
  show Z17 x P E t h=_;simp only[Z17,aop,Qyu];rcases aev E.G t x with _ | v
  ·rfl
  ·cases v <;> rfl
 | send _ _=>rfl
 | recv _ _ _=>rfl
 | select _ _=>rfl
def Jh9(n:Nat)(d:Option Tmp):Bool:=Option.rec (motive:=fun _=>Bool) true (fun i=>Nat.blt i n) d
def Zz9(s:St)(d:Option Tmp):Jh9 s.t.size d=Qly s d:=by cases d <;> rfl
def Jed(s:St)(d:Option Tmp)(v:Value)(h:Heap):St:=Option.rec (motive:=fun _=>St) {s with h:=h} (fun i=>{t:=s.t.put i v,ds:=s.ds,h:=h}) d
def Yro(s:St)(d:Option Tmp)(v:Value)(h:Heap):Jed s d v h=s.put d v h:=by cases d <;> rfl
abbrev XS:=Option (Exit × St)
abbrev Jay:=CallF->Option Tmp->St->XS
def Jc9(o:Option Tmp)(s:St)(r:Option (AEnd × Heap)):XS:=ob r fun p=>Prod.rec (motive:=fun _=>XS) (fun e h=>AEnd.rec (motive:=fun _=>XS) (fun v=>some (.normal,Jed s o v h)) (fun ch=>some (.panic ch,{s with h:=h})) e) p
def Jin(v:Value)(h:Heap):Jay:=fun _ o s=>some (.normal,Jed s o v h)
def Jhd(h:Heap):Jay:=fun _ o s=>some (.normal,Jed s o Qr h)
def Jda(f:FuncId)(args:List Value)(h:Heap):Jay:=fun C o s=>Jc9 o s (C.fn f args h)
def Jea(l:Nat)(args:List Value)(h:Heap):Jay:=fun C o s=>Jc9 o s (C.rnd l args h)
def Jef(_:Deferred)(_:Heap):Jay:=fun _ _ _=>none
def Je9(v:Value)(h:Heap):Jay:=fun _ _ s=>some (.panic [{v,recovered:=false}],{s with h:=h})
def Jj2(r:Res)(C:CallF)(o:Option Tmp)(s:St):XS:=Res.rec (motive:=fun _=>Jay) Jin Jhd Jda Jea Jef Je9 r C o s
def Jbh(P:Program)(E:Env2 P)(rd:Option Nat)(o:Oper)(s:St):XS:=match o.op with
 | .defer c=>match rd with
  | none=>match Yw1 E s.t c with
   | some d=>some (.normal,({s with ds:=d::s.ds}:St).put o.dst Qr s.h)
   | none=>none
  | some _=>none
 | _=>none
def Q5y(P:Program)(E:Env2 P)(C:CallF)(rd:Option Nat)(o:Oper)(s:St):XS :=
 bq (Jh9 s.t.size o.dst) (Option.rec (motive:=fun _=>XS) (Jbh P E rd o s) (fun r=>Jj2 r C o.dst s) (Ji7 P E o.op s.t s.h)) none
def Z6x{P:Program}(E:Env2 P)(C:CallF)(rd:Option Nat)(o:Oper)(s:St):Q5y P E C rd o s=X19 E C rd o s:=by
 unfold Q5y X19;rw[Zz9];cases hd:Qly s o.dst with
 | false=>rfl
 | true =>
  simp only[cz,aK,if_false,bq_true];rw[Jbt];have hdef:∀ c,o.op=.defer c->aop E s.t s.h o=none:=by
   intro c hc;simp[aop,hc]
  split
  ·rename_i c hc;rw[hdef c hc];simp only[Jbh,hc];cases rd with
   | none=>cases Yw1 E s.t c <;> rfl
   | some _=>rfl
  ·rename_i hne;cases ha:aop E s.t s.h o with
   | none =>
    simp only[Jbh]
    all_goals (split <;> first | rfl | (rename_i c hc;exact absurd hc (hne c)))
   | some r =>
    simp only;cases r with
    | val v h=>show some _=_;rw[Yro]
    | skip h=>show some _=_;rw[Yro]
    | enter f args h =>
     show Jc9 o.dst s (C.fn f args h)=_;simp only[Jc9];rcases C.fn f args h with _ | ⟨_ | _,h'⟩
     ·rfl
     ·simp only[ob_some,Yro]
     ·rfl
    | round f args h =>
     show Jc9 o.dst s (C.rnd f args h)=_;simp only[Jc9];rcases C.rnd f args h with _ | ⟨_ | _,h'⟩
     ·rfl
     ·simp only[ob_some,Yro]
     ·rfl
    | defer d h=>rfl
    | panic v h=>rfl
def Z9x(ops:List Oper)(t:Tm)(o:Oper):Option Bool:=Option.rec (motive:=fun _=>Option Bool) (some true) (fun _=>Qe ops t o) o.guard
def Z5k(ops:List Oper)(t:Tm)(o:Oper):Z9x ops t o=Qe ops t o:=by
 unfold Z9x;cases hg:o.guard with
 | none=>simp[Qe,hg]
 | some p=>rfl
abbrev Jg1:=∀ P:Program,Env2 P->CallF->Option Nat->List Oper->St->XS
def goK(f:St->XS)(p:Exit × St):XS:=Prod.rec (motive:=fun _=>XS) (fun e s=>Exit.rec (motive:=fun _=>XS) (f s) (fun _=>none) (fun _=>none) none (fun ch=>some (.panic ch,s)) none e) p
def Jip:Jg1:=fun _ _ _ _ _ s=>some (.normal,s)
def Jb3(o:Oper)(_:List Oper)(f:Jg1):Jg1:=fun P E C rd ops s =>
 ob (Z9x ops s.t o) fun b=>bq b (ob (Q5y P E C rd o s) (goK (f P E C rd ops))) (bq (Jh9 s.t.size o.dst) (f P E C rd ops (Jed s o.dst Qr s.h)) none)
def Jd2(P:Program)(E:Env2 P)(C:CallF)(rd:Option Nat)(ops l:List Oper)(s:St):XS:=List.rec (motive:=fun _=>Jg1) Jip Jb3 l P E C rd ops s
def Z3s{P:Program}(E:Env2 P)(C:CallF)(rd:Option Nat)(ops:List Oper):∀ (l:List Oper) (s:St),Jd2 P E C rd ops l s=X2y E C rd ops l s
 | [],s=>rfl
 | o::r,s=>by
  have ih:=Z3s E C rd ops r;show Jb3 o r (fun P E C rd ops s=>Jd2 P E C rd ops r s) P E C rd ops s=_;simp only[Jb3,X2y,Z5k,Z6x,Zz9,Yro,ih];cases Qe ops s.t o with
  | none=>rfl
  | some b =>
   simp only[ob_some];cases b with
   | true =>
    simp only[bq_true];rcases X19 E C rd o s with _ | ⟨e,s'⟩
    ·rfl
    ·cases e <;> first | rfl | (show Jd2 P E C rd ops r s'=_;exact ih s')
   | false =>
    simp only[bq_false];cases Qly s o.dst <;> rfl
abbrev Xip:=∀ P:Program,Env2 P->CallF->Option Nat->Nat->St->XS
def Y0b(f:St->XS)(p:Exit × St):XS:=Prod.rec (motive:=fun _=>XS) (fun e s=>Exit.rec (motive:=fun _=>XS) (f s) (fun i=>some (.exit i,s)) (fun i=>some (.goto i,s)) (some (.ret,s)) (fun ch=>some (.panic ch,s)) (some (.outgrown,s)) e) p
def Xg4(f:St->XS)(s:St):Y0b f (.normal,s)=f s:=rfl
def Jd1:Xip:=fun _ _ _ _ _ s=>some (.normal,s)
def Z8v(_:Nat)(ops:Array Oper)(draw:Bool):Xip:=fun P E C rd _ s=>bq draw (ob (Xkg E C ops.toList s) fun s'=>some (.normal,s')) (Jd2 P E C rd ops.toList ops.toList s)
def Jj6(_ _:Code)(fx fy:Xip):Xip:=fun P E C rd k s=>ob (fx P E C rd k s) (Y0b (fy P E C rd k))
def Jgx(c:Operand)(_ _:Code)(fx fy:Xip):Xip:=fun P E C r k s=>ob (rd c E.G.n s.t) fun v=>Value.rec (motive_1:=fun _=>XS) (motive_2:=fun _=>Unit) (motive_3:=fun _=>Unit)
 (fun b=>bq b (fx P E C r k s) (fy P E C r k s)) (fun _ _=>none) (fun _ _=>none) (fun _ _ _=>none) (fun _=>none) (fun _=>none) (fun _ _ _=>none) (fun _=>none) (fun _=>none) (fun _ _ _ _ _=>none) none (fun _ _ _=>none) none (fun _ _=>none) (fun _ _=>none)
 (fun _ _=>()) () (fun _ _ _ _=>()) v
def Jeg(id:Nat)(_:Code)(f:Xip):Xip:=fun P E C rd k s=>ob (f P E C rd k s) fun p=>Prod.rec (motive:=fun _=>XS) (fun e s=>Exit.rec (motive:=fun _=>XS) (some (.normal,s)) (fun i=>bq (Nat.beq i id) (some (.normal,s)) (some (.exit i,s))) (fun i=>some (.goto i,s)) (some (.ret,s)) (fun ch=>some (.panic ch,s)) (some (.outgrown,s)) e) p
def Z7g(body:St->XS)(k:Nat):St->XS:=Nat.rec (motive:=fun _=>St->XS) (fun _=>none) (fun _ f s=>ob (body s) (Y0b f)) k
def Jgk(_:Code)(f:Xip):Xip:=fun P E C rd k s=>Z7g (f P E C rd k) k s
def Jhi(g:Operand)(ps:Array Tmp)(asg bd:Code)(_ _:Xip):Xip:=fun _ E C rd _ s=>Zx6 E C rd g ps asg bd s
def Jg7(id:Nat):Xip:=fun _ _ _ _ _ s=>some (.exit id,s)
def Jex(_:Code)(_:Xip):Xip:=fun _ _ _ _ _ _=>none
def Jeu(_:Nat):Xip:=Jd1
def Jhy(_:Nat):Xip:=fun _ _ _ _ _ _=>none
def Jj1:Xip:=fun _ _ _ _ _ s=>some (.ret,s)
def Ja8(_:String):Xip:=fun _ _ _ _ _ _=>none
def Xap(P:Program)(E:Env2 P)(C:CallF)(rd:Option Nat)(k:Nat)(c:Code)(s:St):XS :=
 Code.rec (motive:=fun _=>Xip) Jd1 Z8v Jj6 Jgx Jeg Jgk Jhi Jg7 Jex Jeu Jhy Jj1 Ja8 c P E C rd k s
def Zup{f g:St->XS}(h:∀ s,f s=g s):∀ (k:Nat) (s:St),Z7g f k s=Xq5 g k s
 | 0,s=>rfl
 | k+1,s=>by
  show ob (f s) (Y0b (Z7g f k))=_;rw[h s];simp only[Xq5];rcases g s with _ | ⟨e,s'⟩
  ·rfl
  ·simp only[ob_some];cases e <;> first | rfl | (rw[Xg4];exact Zup h k s')
def Xf4{P:Program}(E:Env2 P)(C:CallF)(rd:Option Nat)(k:Nat):∀ (c:Code) (s:St),Xap P E C rd k c s=Q0f E C rd k c s
 | .skip,s=>rfl
 | .region id ops true,s=>by
  show ob (Xkg E C ops.toList s) _=_;simp only[Q0f];cases Xkg E C ops.toList s <;> rfl
 | .region id ops false,s=>by
  show Jd2 P E C rd ops.toList ops.toList s=_;simp only[Q0f,Z3s]
 | .seq x y,s=>by
  show ob (Xap P E C rd k x s) (Y0b (Xap P E C rd k y))=_;rw[Xf4 E C rd k x s];simp only[Q0f];rcases Q0f E C rd k x s with _ | ⟨e,s'⟩
  ·rfl
  ·simp only[ob_some];cases e <;> first | rfl | (rw[Xg4];exact Xf4 E C rd k y s')
 | .cond c x y,s=>by
  show ob (Go.Ab.rd c E.G.n s.t) _=_;rw[Qyu];simp only[Q0f];rcases aev E.G s.t c with _ | v
  ·rfl
  ·cases v <;> first | rfl | skip
   rename_i b;cases b with
   | true=>exact Xf4 E C rd k x s
   | false=>exact Xf4 E C rd k y s
 | .block id c,s=>by
  show ob (Xap P E C rd k c s) _=_;rw[Xf4 E C rd k c s];simp only[Q0f];rcases Q0f E C rd k c s with _ | ⟨e,s'⟩
  ·rfl
  ·simp only[ob_some];cases e <;> first | rfl | skip
   rename_i i;simp only;cases Nat.beq i id <;> rfl
 | .loop c,s=>by
  show Z7g (Xap P E C rd k c) k s=_;simp only[Q0f];exact Zup (Xf4 E C rd k c) k s
 | .rangeFunc g ps asg bd,s=>rfl
 | .exit id,s=>rfl
 | .scope c,s=>rfl
 | .label l,s=>rfl
 | .goto l,s=>rfl
 | .ret,s=>rfl
 | .refuse w,s=>rfl
def Zw7 (P : Program) (E : Env2 P) (C : CallF) (D : Qug) (k : Nat) (f : FuncId) (args : List Value) (h : Heap) : Option (AEnd × Heap) :=
  ob (E.fn.get f) fun fn => ob fn.body fun c => bq (Nat.ble args.length fn.ntmps) (match Xap P E C none k c ⟨Xo fn args, [], h⟩ with
      | some (.normal, s) | some (.ret, s) => Xa E D fn s.t s.ds .returning s.h
      | some (.panic ch, s) => Xa E D fn s.t s.ds (.panicking ch) s.h
      | _ => none) none
def Z62{P:Program}(E:Env2 P)(C:CallF)(D:Qug)(k:Nat)(f:FuncId)(args:List Value)(h:Heap):Zw7 P E C D k f args h=Zrg E C D k f args h:=by
 unfold Zw7 Zrg;cases E.fn.get f with
 | none=>rfl
 | some fn =>
  simp only[ob_some];cases fn.body with
  | none=>rfl
  | some c =>
   simp only[ob_some];cases Nat.ble args.length fn.ntmps with
   | false=>rfl
   | true =>
    simp only[bq_true,Xf4];rcases Q0f E C none k c ⟨Xo fn args,[],h⟩with _ | ⟨e,s⟩
    ·rfl
    ·cases e <;> rfl
def Zur(P:Program)(E:Env2 P)(C:CallF)(k:Nat)(l:Nat)(args:List Value)(h:Heap):Option (AEnd × Heap) :=
 match h.get l with
 | some (.obj (.loop .ready _ t ps asg bd _))=>match Zsm t.size ps.toList args with
  | false=>none
  | true=>match Xap P E C (some l) k asg ⟨Ycn t ps.toList args,[],h⟩with
   | some (.normal,s1)=>match s1.h.get l with
    | some (.obj (.loop .ready p1 t1 ps1 as1 bd1 d1))=>match Xap P E C (some l) k bd {s1 with h:=s1.h.set l (some (.obj (.loop .busy p1 t1 ps1 as1 bd1 d1)))} with
     | some (e,s2)=>match Y85 e,s2.h.get l with
      | some j,some (.obj (.loop _ _ t2 ps2 as2 bd2 d2))=>some (.ret (.bool j.isNone),s2.h.set l (some (.obj (.loop (if j.isNone then .ready else .done) j t2 ps2 as2 bd2 d2))))
      | _,_=>none
     | none=>none
    | _=>none
   | _=>none
 | _=>none
def Zym{P:Program}(E:Env2 P)(C:CallF)(k:Nat)(l:Nat)(args:List Value)(h:Heap):Zur P E C k l args h=Yu1 E C k l args h:=by
 unfold Zur Yu1;simp only[Xf4];rfl
def Qq8(P:Program)(E:Env2 P)(X:Xey)(k:Nat)(n:Nat):CallF :=
 Nat.rec (motive:=fun _=>CallF) ⟨X,fun _ _ _=>none⟩ (fun _ C=>⟨fun f args h=>Option.rec (motive:=fun _=>Option (AEnd × Heap)) (Zw7 P E C (Xsv E C k) k f args h) (fun r=>some r) (X f args h),fun l args h=>Zur P E C k l args h⟩) n
def Zkh{P:Program}(E:Env2 P)(X:Xey)(k:Nat):∀ n,Qq8 P E X k n=Y16 E X k n
 | 0=>rfl
 | n+1=>by
  have ih:=Zkh E X k n;show(⟨fun f args h=>Option.rec (motive:=fun _=>Option (AEnd × Heap)) (Zw7 P E (Qq8 P E X k n) (Xsv E (Qq8 P E X k n) k) k f args h) (fun r=>some r) (X f args h),fun l args h=>Zur P E (Qq8 P E X k n) k l args h⟩:CallF)=_;rw[ih];simp only[Y16,CallF.mk.injEq];refine⟨?_,?_⟩
  ·funext f args h;rw[Z62];cases X f args h <;> rfl
  ·funext l args h;exact Zym E _ k l args h
end Go.Ab
