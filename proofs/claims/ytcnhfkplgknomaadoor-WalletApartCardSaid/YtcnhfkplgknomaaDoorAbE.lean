import Derived.Test.YtcnhfkplgknomaaDoorAbD
import Derived.KernelRfl
import Derived.ChangeArms
import Derived.OpenShut
import Derived.Lib.LaidU8
import Derived.ChangeSame
import Derived.RowKit
import Derived.MakeChecks
set_option linter.all false
noncomputable section
namespace Go.Ab
def Yqg(P:Program)(f:Nat):Option Func:=match P.funcs[f]? with
 | some F=>if F.name == "runtime.NumGoroutine" then none else if F.body.isSome then some F else none
 | none=>none
theorem Yqz{P:Program}{f:Nat}{F:Func}(h:Yqg P f=some F):P.funcs[f]? = some F/\(F.name == "runtime.NumGoroutine")=false/\F.body.isSome=true:=by
 unfold Yqg at h
 split at h
 ·rename_i F0 h0
  split at h
  ·cases h
  ·rename_i h1
   split at h
   ·rename_i h2;cases h;exact⟨h0,by simpa using h1,h2⟩
   ·cases h
 ·cases h
def Yc7(P:Program):Nat->Tr Func
 | 0 => .leaf
 | n+1=>(Yc7 P n).put n (Yqg P n)
theorem Ybq(P:Program):∀ (n:Nat) (f:FuncId) (F:Func),(Yc7 P n).get f=some F->Yqg P f=some F
 | 0,f,F,h=>by simp[Yc7]at h
 | n+1,f,F,h=>by
  rw[Yc7,Tr.get_put]at h
  split at h
  ·rename_i e;subst e;exact h
  ·exact Ybq P n f F h
def Yr8(P:Program)(f:Nat):Option ExtK:=match P.funcs[f]? with
 | some F=>Yom F
 | none=>none
def Ycd(P:Program):Nat->Tr ExtK
 | 0 => .leaf
 | n+1=>(Ycd P n).put n (Yr8 P n)
theorem Yau(P:Program):∀ (n:Nat) (f:FuncId) (x:ExtK),(Ycd P n).get f=some x->Yr8 P f=some x
 | 0,f,x,h=>by simp[Ycd]at h
 | n+1,f,x,h=>by
  rw[Ycd,Tr.get_put]at h
  split at h
  ·rename_i e;subst e;exact h
  ·exact Yau P n f x h
theorem Yql{P:Program}{f:Nat}{x:ExtK}(h:Yr8 P f=some x):∃ F,P.funcs[f]? = some F/\Yom F=some x:=by
 unfold Yr8 at h
 split at h
 ·rename_i F hF;exact⟨F,hF,h⟩
 ·cases h
def mkE(P:Program)(n b:Nat):Env2 P :=
 {ty:=Yan P P.types.size,tyok:=fun t r h=>Yqw (X8l P _ t r h),G:=⟨n,b⟩,fn:=Yc7 P P.funcs.size,fnok:=fun f F h=>Yqz (Ybq P _ f F h),ex:=Ycd P P.funcs.size,exok:=fun f x h=>Yql (Yau P _ f x h)}
section
variable{H:Type}(P:Program)
def Xmm(g:TypeId->DataW H->Option (List Value))(tot:Nat):List Field->List (DataW H)->Nat->Option (List Value)
 | [],[],acc=>if acc == tot then some []else none
 | f::fs,d::ds,acc=>if f.offset == acc then(match g f.type d with
  | some l=>if l.length == P.cellsOf f.type then(match Xmm g tot fs ds (acc+l.length)with | some r=>some (l++r) | none=>none)else none
  | none=>none)else none
 | _,_,_=>none
def X95(g:DataW H->Option (List Value))(sz tot:Nat):List (DataW H)->Nat->Option (List Value)
 | [],acc=>if acc == tot then some []else none
 | d::ds,acc=>match g d with
  | some l=>if l.length == sz then(match X95 g sz tot ds (acc+sz)with | some r=>some (l++r) | none=>none)else none
  | none=>none
def X21:Nat->TypeId->DataW H->Option (List Value)
 | 0,_,_=>none
 | k+1,t,d =>
  match P.underlying t,d with
  | some .bool,.lit (.bool b)=>some [.bool b]
  | some (.int k'),.lit (.int _ n)=>some [.int k' n]
  | some .string,.lit (.string l)=>some [.string ⟨l.toArray⟩]
  | some (.struct fs),.agg ds=>Xmm P (X21 k) (P.cellsOf t) fs.toList ds 0
  | some (.array n e),.agg ds=>if ds.length == n then X95 (X21 k e) (P.cellsOf e) (P.cellsOf t) ds 0 else none
  | _,_=>none
end
section
variable{H:Type}{enc:TypeId × Value->H}{P:Program}{w:World}{base:Nat}{sp:Nat->Bool}{held:Bool}
theorem X2j{g:TypeId->DataW H->Option (List Value)}{cs:List Value}{n:Nat}
  (hg:∀ t d l cs p,g t d=some l->DataW.trod enc P w base sp held n t cs=some (d,p)->cs=l) :
  ∀ (fs:List Field) (ds:List (DataW H)) (acc:Nat) (l:List Value),Xmm P g cs.length fs ds acc=some l ->
  (∀ (i:Nat) (f:Field) d,fs[i]? = some f->ds[i]? = some d->∃ p,DataW.trod enc P w base sp held n f.type ((cs.drop f.offset).take (P.cellsOf f.type))=some (d,p))->cs.drop acc=l
 | [],[],acc,l,h,_=>by
  simp only[Xmm]at h
  split at h
  ·rename_i e;cases h;simp at e;simp[e]
  ·cases h
 | f::fs,d::ds,acc,l,h,ht=>by
  simp only[Xmm]at h
  split at h
  ·rename_i e0
   simp only[beq_iff_eq]at e0
   split at h
   ·rename_i l0 hl0
    split at h
    ·rename_i e1
     simp only[beq_iff_eq]at e1
     split at h
     ·rename_i r hr
      cases h
      have ih:=X2j hg fs ds _ r hr (fun i f' d' hf hd=>ht (i+1) f' d' (by simpa using hf) (by simpa using hd))
      obtain⟨p,h0⟩:=ht 0 f d (by simp) (by simp)
      have h1:=hg _ _ _ _ _ hl0 h0
      rw[e0,<- e1]at h1
      rw[<- ih,<- List.drop_drop,<- List.take_append_drop l0.length (cs.drop acc),h1]
      simp
     ·cases h
    ·cases h
   ·cases h
  ·cases h
 | [],_::_,_,_,h,_=>by simp[Xmm]at h
 | _::_,[],_,_,h,_=>by simp[Xmm]at h
theorem X9n{g:DataW H->Option (List Value)}{cs:List Value}{n sz:Nat}{e:TypeId}
  (hg:∀ d l cs p,g d=some l->DataW.trod enc P w base sp held n e cs=some (d,p)->cs=l) :
  ∀ (ds:List (DataW H)) (j:Nat) (l:List Value),X95 g sz cs.length ds (j*sz)=some l ->
  (∀ (i:Nat) d,ds[i]? = some d->∃ p,DataW.trod enc P w base sp held n e ((cs.drop ((j+i)*sz)).take sz)=some (d,p))->cs.drop (j*sz)=l
 | [],j,l,h,_=>by
  simp only[X95]at h
  split at h
  ·rename_i e;cases h;simp at e;simp[e]
  ·cases h
 | d::ds,j,l,h,ht=>by
  simp only[X95]at h
  split at h
  ·rename_i l0 hl0
   split at h
   ·rename_i e1
    simp only[beq_iff_eq]at e1
    split at h
    ·rename_i r hr
     cases h
     have e2:j*sz+sz=(j+1)*sz:=by rw[Nat.add_mul];simp
     rw[e2]at hr
     have ih:=X9n hg ds (j+1) r hr (fun i d' hd=>by
      have:=ht (i+1) d' (by simpa using hd)
      rwa [show j+(i+1)=j+1+i from by omega]at this)
     obtain⟨p,h0⟩:=ht 0 d (by simp)
     have h1:=hg _ _ _ _ hl0 h0
     simp only[Nat.add_zero]at h1
     rw[<- ih,<- e2,<- List.drop_drop,<- List.take_append_drop sz (cs.drop (j*sz)),h1]
     simp[e1]
    ·cases h
   ·cases h
  ·cases h
theorem Xxu:∀ (k:Nat) (t:TypeId) (d:DataW H) (l cs:List Value) (n:Nat) (p:List MemPlace),X21 P k t d=some l->DataW.trod enc P w base sp held n t cs=some (d,p)->cs=l
 | 0,_,_,_,_,_,_,h,_=>by simp[X21]at h
 | k+1,t,d,l,cs,n,p,h,ht=>by
  simp only[X21]at h
  split at h
  ·rename_i b hu
   cases h
   obtain⟨b',rfl,e⟩:=DataW.trod_bool hu ht
   cases e;rfl
  ·rename_i k' k2 z hu
   cases h
   obtain⟨n',rfl,e,_⟩:=DataW.trod_int hu ht
   cases e;rfl
  ·rename_i s hu
   cases h
   obtain⟨s',rfl,e,_⟩:=DataW.trod_string hu ht
   cases e;simp
  ·rename_i fs ds hu
   obtain⟨xs,m,rfl,e,hl,hxl,hall⟩:=DataW.trod_struct hu ht
   simp only[Prod.mk.injEq,DataW.agg.injEq]at e
   rw[<- hl]at h
   have:=X2j (n:=m) (fun t d l cs p h1 h2=>Xxu k t d l cs m p h1 h2) _ _ _ _ h (fun i f d hf hd=>by
    have h1:=hall i f (by simpa using hf)
    rw[e.1,List.getElem?_map]at hd
    rw[h1]
    cases hx:xs[i]? with
    | none=>rw[hx]at hd;cases hd
    | some y=>rw[hx]at hd;cases hd;exact⟨y.2,rfl⟩)
   simpa using this
  ·rename_i n' e' ds hu
   obtain⟨xs,m,rfl,e,hl,hxl,hall⟩:=DataW.trod_array hu ht
   simp only[Prod.mk.injEq,DataW.agg.injEq]at e
   split at h
   ·rename_i hn
    rw[<- hl]at h
    have:=X9n (n:=m) (fun d l cs p h1 h2=>Xxu k e' d l cs m p h1 h2) ds 0 l (by simpa using h) (fun i d hd=>by
     rw[e.1,List.getElem?_map]at hd
     cases hx:xs[i]? with
     | none=>rw[hx]at hd;cases hd
     | some y =>
      rw[hx]at hd;cases hd
      have hi:i < xs.length:=(List.getElem?_eq_some_iff.1 hx).1
      have h1:=hall i (by omega)
      rw[hx]at h1
      simp only[Nat.zero_add]
      exact⟨y.2,h1⟩)
    simpa using this
   ·cases h
  ·cases h
end
def X8d:List (Nat × List Value)->Tr Blk
 | [] => .leaf
 | x::l=>(X8d l).put x.1 (some (.cells false 0 x.2))
def Q0v(n:Nat)(l:List (Nat × List Value)):Heap:=⟨n,n,X8d l⟩
def X2o(n:Nat):Ren:=fun b=>if b < n then some ⟨b,0,0,0,none⟩else none
theorem Xj1:∀ (l:List (Nat × List Value)) (b:Nat) (x:Blk),(X8d l).get b=some x->∃ c,(b,c) ∈ l/\x=.cells false 0 c
 | [],b,x,h=>by simp[X8d]at h
 | y::l,b,x,h=>by
  simp only[X8d]at h
  rw[Tr.get_put]at h
  split at h
  ·rename_i e;subst e;cases h;exact⟨y.2,by simp,rfl⟩
  ·obtain⟨c,h1,h2⟩:=Xj1 l b x h
   exact⟨c,by simp[h1],h2⟩
theorem Yld{W:World}{n:Nat}{l:List (Nat × List Value)}(hn:n<=W.heap.size)(hl:∀ x ∈ l,(∀ v ∈ x.2,flat v=true/\v.oneCell'=true)/\∃ C e fr,W.heap[x.1]? = some (.cells C e fr)/\C.toList=x.2) :
  HRel ⟨n,W.heap.size⟩ (X2o n) (Q0v n l) W:=by
 have hget:∀ b x,(Q0v n l).get b=some x->b < n/\∃ c,(b,c) ∈ l/\x=.cells false 0 c:=by
  intro b x h
  unfold Heap.get at h
  split at h
  ·rename_i hb;exact⟨hb,Xj1 l b x h⟩
  ·cases h
 have hα:∀ b p,X2o n b=some p->b < n/\p=⟨b,0,0,0,none⟩:=by
  intro b p h
  unfold X2o at h
  split at h
  ·cases h;exact⟨by assumption,rfl⟩
  ·cases h
 have hown:∀ b,(Q0v n l).own b=false:=by
  intro b
  unfold Heap.own
  cases hb:(Q0v n l).get b with
  | none=>rfl
  | some x=>obtain⟨_,c,_,rfl⟩:=hget b x hb;rfl
 refine⟨fun b p h => ?_,fun b p x hb hx => ?_,fun b c p q _ _ _ ho _ => ?_,fun g hg=>⟨?_,hown g⟩,Nat.le_refl _,fun b x hx => ?_,fun b p x hb hx => ?_,Nat.le_refl _⟩
 ·obtain⟨h1,rfl⟩:=hα b p h
  exact⟨h1,trivial⟩
 ·obtain⟨h1,rfl⟩:=hα b p hb
  obtain⟨_,c,hc,rfl⟩:=hget b x hx
  obtain⟨hf,C,e,fr,h2,h3⟩:=hl _ hc
  refine⟨rfl,.inr ⟨C,e,fr.1,fr.2,h2,fun i v hv => ?_,fun h=>by cases h⟩⟩
  have hv':=hf v (List.mem_of_getElem? hv)
  simp only at h3
  refine⟨?_,flat_ok _ v hv'.1,hv'.2⟩
  rw[Qdd _ hv'.1,<- hv,<- h3]
  simp
 ·rw[hown b]at ho;cases ho
 ·simp[X2o,show g < n from hg]
 ·obtain⟨_,c,hc,rfl⟩:=hget b x hx
  intro v hv
  exact⟨flat_ok _ v ((hl _ hc).1 v hv).1,((hl _ hc).1 v hv).2⟩
 ·obtain⟨h1,rfl⟩:=hα b p hb
  obtain⟨_,c,_,rfl⟩:=hget b x hx
  refine⟨fun h => ?_,fun _ _=>⟨Nat.lt_of_lt_of_le h1 hn,rfl⟩⟩
  simp[Blk.own]at h
def Yoe(P:Program)(laid:List (String × DataW Unit))(n:Nat)(l:List (Nat × List Value)):Prop :=
 ∀ x ∈ l,x.1 < n/\(∀ v ∈ x.2,flat v=true/\v.oneCell'=true)/\∃ name t d k,(name,d) ∈ laid/\P.globalNamed name=some x.1/\(P.globals[x.1]?).map (·.type)=some t/\X21 P k t d=some x.2
theorem X6p{P:Program}{W:World}{laid:List (String × DataW Unit)}{n:Nat}{l:List (Nat × List Value)}(h:laidMet P laid W)(hl:Yoe P laid n l)(hn:n<=W.heap.size) :
  HRel ⟨n,W.heap.size⟩ (X2o n) (Q0v n l) W:=by
 refine Yld hn fun x hx => ?_
 obtain⟨_,hf,name,t,d,k,hm,hg,ht,hd⟩:=hl x hx
 refine⟨hf,?_⟩
 obtain⟨g,t',cs,fuel,p,h1,h2,h3,h4⟩:=Lib.laidMet.reads h hm
 obtain rfl:=Option.some.inj (hg.symm.trans h1)
 obtain rfl:=Option.some.inj (ht.symm.trans h2)
 have:=Xxu k _ _ _ _ _ _ hd h4
 unfold World.var? at h3
 rw[hg]at h3
 simp only[Option.bind_some]at h3
 split at h3
 ·rename_i C e fr hC
  cases h3
  exact⟨_,e,fr,hC,this⟩
 ·cases h3
def ob{A B:Type}(x:Option A)(f:A->Option B):Option B:=Option.rec (motive:=fun _=>Option B) none f x
@[simp] theorem ob_some {A B:Type} (a:A) (f:A->Option B):ob (some a) f=f a:=rfl
@[simp] theorem ob_none {A B:Type} (f:A->Option B):ob none f=none:=rfl
def bq{A:Type}(b:Bool)(x y:A):A:=Bool.rec (motive:=fun _=>A) y x b
@[simp] theorem bq_true {A:Type} (x y:A):bq true x y=x:=rfl
@[simp] theorem bq_false {A:Type} (x y:A):bq false x y=y:=rfl
def rT(i:Nat)(_:Nat)(t:Tm):Option Value:=t.t.get i
def rC(v:Value)(_:Nat)(_:Tm):Option Value:=bq (flat v) (some v) none
def rG(g n:Nat)(_:Tm):Option Value:=bq (Nat.blt g n) (some (.pointer (some ⟨g,0,none⟩))) none
def rF(f:FuncId)(_:Nat)(_:Tm):Option Value:=some (.func (.func f) #[] #[])
def rd(x:Operand)(n:Nat)(t:Tm):Option Value:=Operand.rec (motive:=fun _=>Nat->Tm->Option Value) rT rC rG rF x n t
theorem Qvf(G:Bs)(t:Tm)(x:Operand):rd x G.n t=aev G t x:=by
 cases x with
 | tmp i=>rfl
 | const v=>show rC v 0 t=_;simp only[rC,aev];cases flat v <;> rfl
 | global g =>
  show rG g G.n t=_
  simp only[rG,aev]
  by_cases h:g < G.n
  ·rw[show Nat.blt g G.n=true from by simpa using h];simp[h]
  ·rw[Bool.eq_false_iff.2 (fun hb:Nat.blt g G.n=true=>h (by simpa using hb))];simp[h]
 | func f=>rfl
def gvF(r:Option (Value × Heap)):Option Res:=ob r fun p=>Prod.rec (motive:=fun _=>Option Res) (fun v h=>some (.val v h)) p
def g0F(h:Heap)(r:Option Value):Option Res:=ob r fun v=>some (.val v h)
def gsF(r:Option Heap):Option Res:=ob r fun h=>some (.skip h)
theorem Xlg(r:Option (Value × Heap)):gvF r=gv r:=by cases r <;> rfl
theorem Qw6(h:Heap)(r:Option Value):g0F h r=g0 h r:=by cases r <;> rfl
theorem Yhz(r:Option Heap):gsF r=gs r:=by cases r <;> rfl
abbrev OpF:=∀ P:Program,Env2 P->Tm->Heap->Option Res
def Yk8(x:Operand):OpF:=fun _ E t h=>g0F h (rd x E.G.n t)
def Ytz(c a b:Operand):OpF:=fun _ E t h=>match rd c E.G.n t with
 | some (.bool true)=>g0F h (rd a E.G.n t)
 | some (.bool false)=>g0F h (rd b E.G.n t)
 | _=>none
def Ylg(e:TypeId):OpF:=fun _ E _ h=>gvF (Qhn E.toEnv e h)
def Yzi(_:TypeId)(x:Operand):OpF:=fun _ E t h=>ob (rd x E.G.n t) fun v=>gvF (Yn3 v h)
def Ykw(ty:TypeId)(ps:Array (Nat × Operand)):OpF:=fun _ E t h=>ob (Qf E.G t ps.toList) fun l=>g0F h (Q5s E.toEnv ty l)
def Xm8(ty:TypeId)(n:Nat)(ps:Array (Nat × Operand)):OpF:=fun _ E t h=>ob (Qf E.G t ps.toList) fun l=>gvF (Jf E.toEnv ty n l h)
def Xq8(ty:TypeId)(m k x:Operand):OpF:=fun _ E t h=>ob (rd m E.G.n t) fun a=>ob (rd k E.G.n t) fun b=>ob (rd x E.G.n t) fun c=>gsF (Qch E.toEnv ty a b c h)
def Yt5(ty:TypeId)(a:Operand):OpF:=fun _ E t h=>ob (rd a E.G.n t) fun x=>g0F h (Qk7 E.toEnv ty x h)
def Ynu(ty:TypeId)(a v:Operand):OpF:=fun _ E t h=>ob (rd a E.G.n t) fun x=>ob (rd v E.G.n t) fun y=>gsF (Qd1 E.toEnv ty x y h)
def oN1(_:Nat):OpF:=fun _ _ _ _=>none
def Xxv(x:Operand):OpF:=fun _ E t h=>ob (rd x E.G.n t) fun v=>g0F h (Xi9 v)
def Yyv(op:BinOp)(ty:TypeId)(x y:Operand)(_:TypeId):OpF:=fun _ E t h=>ob (rd x E.G.n t) fun a=>ob (rd y E.G.n t) fun b=>g0F h (Zg E.toEnv op ty (Q6 x || Q6 y) a b)
def oUn(op:UnOp)(_:TypeId)(x:Operand):OpF:=fun _ E t h=>ob (rd x E.G.n t) fun v=>g0F h (aUn op v)
def Ysr(src dst:TypeId)(x:Operand):OpF:=fun _ E t h=>ob (rd x E.G.n t) fun v=>bq (Qpa E.toEnv src dst) (g0F h (Qvb E.toEnv src dst v)) (gvF (Xes E.toEnv src dst v h))
def Ydx(ty:TypeId)(x:Operand):OpF:=fun _ E t h=>ob (rd x E.G.n t) fun v=>g0F h (X5d E.toEnv ty v)
def X4j(ty:TypeId)(x:Operand):OpF:=fun _ E t h=>ob (rd x E.G.n t) fun v=>g0F h (Xa0 E.toEnv ty v)
def Ydz(fn:Fn)(a b:Array Operand):OpF:=fun _ E t h=>ob (evs E.G t a.toList) fun x=>ob (evs E.G t b.toList) fun y=>g0F h (Xty fn x y)
def X5j(ty:TypeId)(r:Option Operand):OpF:=fun _ E t h=>ob (evO E.G t r) fun hv=>gvF (Qwg E.toEnv ty hv h)
def oN2(_:TypeId)(_:Operand):OpF:=fun _ _ _ _=>none
def Xpu(ty:TypeId)(n c:Operand):OpF:=fun _ E t h=>ob (rd n E.G.n t) fun x=>ob (rd c E.G.n t) fun y=>gvF (Qfm E.toEnv ty x y h)
def Ymb(ty:TypeId)(x:Operand)(lo hi mx:Option Operand):OpF:=fun _ E t h=>ob (rd x E.G.n t) fun v=>ob (evO E.G t lo) fun a=>ob (evO E.G t hi) fun b=>ob (evO E.G t mx) fun c=>gvF (Qay E.toEnv ty v a b c h)
def Xqo(ty:TypeId)(x:Operand)(f:Nat):OpF:=fun _ E t h=>ob (rd x E.G.n t) fun v=>g0F h (U1 E.toEnv ty v f)
def Yos(ty:TypeId)(x:Operand)(f:Nat):OpF:=fun _ E t h=>ob (rd x E.G.n t) fun v=>g0F h (Yhd E.toEnv ty v f)
def Xq5(ty:TypeId)(x i:Operand):OpF:=fun _ E t h=>ob (rd x E.G.n t) fun a=>ob (rd i E.G.n t) fun b=>g0F h (Zm E.toEnv ty a b)
def Ynp(ty:TypeId)(x i:Operand):OpF:=fun _ E t h=>ob (rd x E.G.n t) fun a=>ob (rd i E.G.n t) fun b=>g0F h (Yhg E.toEnv ty a b)
def Yfv(ty:TypeId)(x k:Operand)(ok:Bool):OpF:=fun _ E t h=>ob (rd x E.G.n t) fun a=>ob (rd k E.G.n t) fun b=>g0F h (Qfs E.toEnv ty a b ok h)
def Xuz(ty:TypeId)(m k:Operand):OpF:=fun _ E t h=>ob (rd m E.G.n t) fun a=>ob (rd k E.G.n t) fun b=>gvF (Q8w E.toEnv ty a b h)
def Xmx(_:TypeId)(m st x:Operand):OpF:=fun _ E t h=>ob (rd m E.G.n t) fun a=>ob (rd st E.G.n t) fun b=>ob (rd x E.G.n t) fun c=>gsF (Qxu a b c h)
def Ymk(ty:TypeId)(x:Operand):OpF:=fun _ E t h=>ob (rd x E.G.n t) fun v=>gvF (Xla E.toEnv ty v h)
def Yur(x:Operand)(s:Bool):OpF:=fun _ E t h=>ob (rd x E.G.n t) fun v=>gvF (Yis v s h)
def Yow(x:Operand):OpF:=fun _ E t h=>ob (rd x E.G.n t) fun v=>g0F h (X2f v h)
def Yd7(x:Operand)(_ ty:TypeId)(ok:Bool):OpF:=fun _ E t h=>ob (rd x E.G.n t) fun v=>g0F h (Xmt E.toEnv v ty ok)
def X67(x:Operand)(i:Nat):OpF:=fun _ E t h=>ob (rd x E.G.n t) fun v=>g0F h (Q7 v i)
def Yru(P:Program)(E:Env2 P)(fv:Value)(args:List Value)(h:Heap):Option Res:=match Qg fv args with
 | some (f,l)=>match E.fn.get f with
  | some _=>some (.enter f l h)
  | none=>match E.ex.get f with
   | some x=>gv (Xyi x l h)
   | none=>none
 | none=>Xrv fv args h
def Yvc(c:Call):OpF:=fun P E t h=>ob (evs E.G t c.args.toList) fun args=>match c.callee with
 | .builtin b=>Q5 E b c.argTypes.toList args h
 | .value f=>ob (rd f E.G.n t) fun fv=>Yru P E fv args h
 | .invoke _ _=>none
def oN7(_:Call):OpF:=fun _ _ _ _=>none
def Ylo(x:Operand):OpF:=fun _ E t h=>match rd x E.G.n t with
 | some (.iface u v)=>some (.panic (.iface u v) h)
 | _=>none
def oN8(_ _:Operand):OpF:=fun _ _ _ _=>none
def oN9(_:TypeId)(_:Operand)(_:Bool):OpF:=fun _ _ _ _=>none
def Y0n(_:Array SelectCase)(_:Bool):OpF:=fun _ _ _ _=>none
def Y01(P:Program)(E:Env2 P)(o:Op)(t:Tm)(h:Heap):Option Res :=
 Op.rec (motive:=fun _=>OpF) Yk8 Yk8 Ytz Ylg Yzi Ykw Xm8 Xq8 Yt5 Ynu oN1 oN1 Xxv Yyv oUn Ysr Ydx X4j Ydz X5j oN2 Xpu Ymb Xqo Yos Xq5 Ynp Yfv
  Xq8 Xuz Xmx Ymk Yur Yow Yd7 X67 Yvc oN7 oN7 Ylo oN8 oN9 Y0n o P E t h
theorem Yu2{P:Program}(E:Env2 P)(t:Tm)(h:Heap)(o:Oper):Y01 P E o.op t h=aop E t h o:=by
 obtain⟨d,op,ty,pos,af,g⟩:=o
 have two:∀ {A:Type} (x y:Option Value) (f:Value->Value->Option A),(match x,y with | some a,some b=>f a b | _,_=>none)=ob x fun a=>ob y fun b=>f a b:=by
  intro A x y f;cases x <;> cases y <;> rfl
 cases op with
 | move x=>show Yk8 x P E t h=_;simp only[Yk8,aop,Qvf,Qw6]
 | assign x=>show Yk8 x P E t h=_;simp only[Yk8,aop,Qvf,Qw6]
 | pick c a b =>
  show Ytz c a b P E t h=_
  simp only[Ytz,aop,Qvf,Qw6]
  rcases aev E.G t c with _ | v
  ·rfl
  ·cases v <;> first | rfl | (rename_i b;cases b <;> rfl)
 | alloc e=>show Ylg e P E t h=_;simp only[Ylg,aop,Xlg]
 | box e x=>show Yzi e x P E t h=_;simp only[Yzi,aop,Qvf,Xlg];cases aev E.G t x <;> rfl
 | build ty ps=>show Ykw ty ps P E t h=_;simp only[Ykw,aop,Qw6];cases Qf E.G t ps.toList <;> rfl
 | buildSlice ty n ps=>show Xm8 ty n ps P E t h=_;simp only[Xm8,aop,Xlg];cases Qf E.G t ps.toList <;> rfl
 | insert ty m k x=>show Xq8 ty m k x P E t h=_;simp only[Xq8,aop,Qvf,Yhz];cases aev E.G t m <;> cases aev E.G t k <;> cases aev E.G t x <;> rfl
 | load ty a=>show Yt5 ty a P E t h=_;simp only[Yt5,aop,Qvf,Qw6];cases aev E.G t a <;> rfl
 | store ty a v=>show Ynu ty a v P E t h=_;simp only[Ynu,aop,Qvf,Yhz];cases aev E.G t a <;> cases aev E.G t v <;> rfl
 | ready g=>rfl
 | waits g=>rfl
 | nilCheck x=>show Xxv x P E t h=_;simp only[Xxv,aop,Qvf,Qw6];cases aev E.G t x <;> rfl
 | binOp op ty x y yt=>show Yyv op ty x y yt P E t h=_;simp only[Yyv,aop,Qvf,Qw6];cases aev E.G t x <;> cases aev E.G t y <;> rfl
 | unOp op ty x=>show oUn op ty x P E t h=_;simp only[oUn,aop,Qvf,Qw6];cases aev E.G t x <;> rfl
 | convert s d x =>
  show Ysr s d x P E t h=_;simp only[Ysr,aop,Qvf,Qw6,Xlg];cases aev E.G t x
  ·rfl
  ·cases Qpa E.toEnv s d <;> rfl
 | sliceToArrayPointer ty x=>show Ydx ty x P E t h=_;simp only[Ydx,aop,Qvf,Qw6];cases aev E.G t x <;> rfl
 | makeInterface ty x=>show X4j ty x P E t h=_;simp only[X4j,aop,Qvf,Qw6];cases aev E.G t x <;> rfl
 | makeFunc fn a b=>show Ydz fn a b P E t h=_;simp only[Ydz,aop,Qw6];cases evs E.G t a.toList <;> cases evs E.G t b.toList <;> rfl
 | makeMap ty r=>show X5j ty r P E t h=_;simp only[X5j,aop,Xlg];cases evO E.G t r <;> rfl
 | makeChan ty x=>rfl
 | makeSlice ty n c=>show Xpu ty n c P E t h=_;simp only[Xpu,aop,Qvf,Xlg];cases aev E.G t n <;> cases aev E.G t c <;> rfl
 | slice ty x lo hi mx=>show Ymb ty x lo hi mx P E t h=_;simp only[Ymb,aop,Qvf,Xlg];cases aev E.G t x <;> cases evO E.G t lo <;> cases evO E.G t hi <;> cases evO E.G t mx <;> rfl
 | fieldAddr ty x f=>show Xqo ty x f P E t h=_;simp only[Xqo,aop,Qvf,Qw6];cases aev E.G t x <;> rfl
 | field ty x f=>show Yos ty x f P E t h=_;simp only[Yos,aop,Qvf,Qw6];cases aev E.G t x <;> rfl
 | indexAddr ty x i=>show Xq5 ty x i P E t h=_;simp only[Xq5,aop,Qvf,Qw6];cases aev E.G t x <;> cases aev E.G t i <;> rfl
 | index ty x i=>show Ynp ty x i P E t h=_;simp only[Ynp,aop,Qvf,Qw6];cases aev E.G t x <;> cases aev E.G t i <;> rfl
 | lookup ty x k ok=>show Yfv ty x k ok P E t h=_;simp only[Yfv,aop,Qvf,Qw6];cases aev E.G t x <;> cases aev E.G t k <;> rfl
 | mapUpdate ty m k x=>show Xq8 ty m k x P E t h=_;simp only[Xq8,aop,Qvf,Yhz];cases aev E.G t m <;> cases aev E.G t k <;> cases aev E.G t x <;> rfl
 | mapEntry ty m k=>show Xuz ty m k P E t h=_;simp only[Xuz,aop,Qvf,Xlg];cases aev E.G t m <;> cases aev E.G t k <;> rfl
 | entryStore ty m st x=>show Xmx ty m st x P E t h=_;simp only[Xmx,aop,Qvf,Yhz];cases aev E.G t m <;> cases aev E.G t st <;> cases aev E.G t x <;> rfl
 | range ty x=>show Ymk ty x P E t h=_;simp only[Ymk,aop,Qvf,Xlg];cases aev E.G t x <;> rfl
 | next x s=>show Yur x s P E t h=_;simp only[Yur,aop,Qvf,Xlg];cases aev E.G t x <;> rfl
 | entry x=>show Yow x P E t h=_;simp only[Yow,aop,Qvf,Qw6];cases aev E.G t x <;> rfl
 | typeAssert x xt ty ok=>show Yd7 x xt ty ok P E t h=_;simp only[Yd7,aop,Qvf,Qw6];cases aev E.G t x <;> rfl
 | extract x i=>show X67 x i P E t h=_;simp only[X67,aop,Qvf,Qw6];cases aev E.G t x <;> rfl
 | call c =>
  show Yvc c P E t h=_
  simp only[Yvc,aop,Qvf]
  cases evs E.G t c.args.toList with
  | none=>rfl
  | some args =>
   simp only[ob_some]
   cases c.callee with
   | builtin b=>rfl
   | value f =>
    simp only
    cases aev E.G t f with
    | none=>rfl
    | some fv =>
     simp only[ob_some,Yru]
     cases Qg fv args with
     | none=>rfl
     | some p=>rfl
   | invoke _ _=>rfl
 | go c=>rfl
 | defer c=>rfl
 | panic x =>
  show Ylo x P E t h=_
  simp only[Ylo,aop,Qvf]
  rcases aev E.G t x with _ | v
  ·rfl
  ·cases v <;> rfl
 | send _ _=>rfl
 | recv _ _ _=>rfl
 | select _ _=>rfl
def Yzl(n:Nat)(d:Option Tmp):Bool:=Option.rec (motive:=fun _=>Bool) true (fun i=>Nat.blt i n) d
theorem Ykr(s:St)(d:Option Tmp):Yzl s.t.size d=Qdh s d:=by cases d <;> rfl
def Ywq(s:St)(d:Option Tmp)(v:Value)(h:Heap):St:=Option.rec (motive:=fun _=>St) {s with h:=h} (fun i=>{t:=s.t.put i v,ds:=s.ds,h:=h}) d
theorem Xvu(s:St)(d:Option Tmp)(v:Value)(h:Heap):Ywq s d v h=s.put d v h:=by cases d <;> rfl
abbrev XS:=Option (Exit × St)
abbrev Yui:=CallF->Option Tmp->St->XS
def Yvi(o:Option Tmp)(s:St)(r:Option (AEnd × Heap)):XS:=ob r fun p=>Prod.rec (motive:=fun _=>XS) (fun e h=>AEnd.rec (motive:=fun _=>XS) (fun v=>some (.normal,Ywq s o v h)) (fun ch=>some (.panic ch,{s with h:=h})) e) p
def Y09(v:Value)(h:Heap):Yui:=fun _ o s=>some (.normal,Ywq s o v h)
def Yyi(h:Heap):Yui:=fun _ o s=>some (.normal,Ywq s o Qq h)
def Yvt(f:FuncId)(args:List Value)(h:Heap):Yui:=fun C o s=>Yvi o s (C.fn f args h)
def Ywk(l:Nat)(args:List Value)(h:Heap):Yui:=fun C o s=>Yvi o s (C.rnd l args h)
def Ywv(_:Deferred)(_:Heap):Yui:=fun _ _ _=>none
def Ywe(v:Value)(h:Heap):Yui:=fun _ _ s=>some (.panic [{v,recovered:=false}],{s with h:=h})
def Y0c(r:Res)(C:CallF)(o:Option Tmp)(s:St):XS:=Res.rec (motive:=fun _=>Yui) Y09 Yyi Yvt Ywk Ywv Ywe r C o s
def Yte(P:Program)(E:Env2 P)(rd:Option Nat)(o:Oper)(s:St):XS:=match o.op with
 | .defer c=>match rd with
  | none=>match Xwi E s.t c with
   | some d=>some (.normal,({s with ds:=d::s.ds}:St).put o.dst Qq s.h)
   | none=>none
  | some _=>none
 | _=>none
def Yqh(P:Program)(E:Env2 P)(C:CallF)(rd:Option Nat)(o:Oper)(s:St):XS :=
 bq (Yzl s.t.size o.dst) (Option.rec (motive:=fun _=>XS) (Yte P E rd o s) (fun r=>Y0c r C o.dst s) (Y01 P E o.op s.t s.h)) none
theorem Ypd{P:Program}(E:Env2 P)(C:CallF)(rd:Option Nat)(o:Oper)(s:St):Yqh P E C rd o s=X12 E C rd o s:=by
 unfold Yqh X12
 rw[Ykr]
 cases hd:Qdh s o.dst with
 | false=>rfl
 | true =>
  simp only[Bool.not_true,Bool.false_eq_true,if_false,bq_true]
  rw[Yu2]
  have hdef:∀ c,o.op=.defer c->aop E s.t s.h o=none:=by
   intro c hc;simp[aop,hc]
  split
  ·rename_i c hc
   rw[hdef c hc]
   simp only[Yte,hc]
   cases rd with
   | none=>cases Xwi E s.t c <;> rfl
   | some _=>rfl
  ·rename_i hne
   cases ha:aop E s.t s.h o with
   | none =>
    simp only[Yte]
    all_goals (split <;> first | rfl | (rename_i c hc;exact absurd hc (hne c)))
   | some r =>
    simp only
    cases r with
    | val v h=>show some _=_;rw[Xvu]
    | skip h=>show some _=_;rw[Xvu]
    | enter f args h =>
     show Yvi o.dst s (C.fn f args h)=_
     simp only[Yvi]
     rcases C.fn f args h with _ | ⟨_ | _,h'⟩
     ·rfl
     ·simp only[ob_some,Xvu]
     ·rfl
    | round f args h =>
     show Yvi o.dst s (C.rnd f args h)=_
     simp only[Yvi]
     rcases C.rnd f args h with _ | ⟨_ | _,h'⟩
     ·rfl
     ·simp only[ob_some,Xvu]
     ·rfl
    | defer d h=>rfl
    | panic v h=>rfl
def Yuw(ops:List Oper)(t:Tm)(o:Oper):Option Bool:=Option.rec (motive:=fun _=>Option Bool) (some true) (fun _=>Qe ops t o) o.guard
theorem Yq2(ops:List Oper)(t:Tm)(o:Oper):Yuw ops t o=Qe ops t o:=by
 unfold Yuw
 cases hg:o.guard with
 | none=>simp[Qe,hg]
 | some p=>rfl
abbrev Yxv:=∀ P:Program,Env2 P->CallF->Option Nat->List Oper->St->XS
def goK(f:St->XS)(p:Exit × St):XS:=Prod.rec (motive:=fun _=>XS) (fun e s=>Exit.rec (motive:=fun _=>XS) (f s) (fun _=>none) (fun _=>none) none (fun ch=>some (.panic ch,s)) none e) p
def Y0m:Yxv:=fun _ _ _ _ _ s=>some (.normal,s)
def Yuy(o:Oper)(_:List Oper)(f:Yxv):Yxv:=fun P E C rd ops s =>
 ob (Yuw ops s.t o) fun b=>bq b (ob (Yqh P E C rd o s) (goK (f P E C rd ops))) (bq (Yzl s.t.size o.dst) (f P E C rd ops (Ywq s o.dst Qq s.h)) none)
def Yxb(P:Program)(E:Env2 P)(C:CallF)(rd:Option Nat)(ops l:List Oper)(s:St):XS:=List.rec (motive:=fun _=>Yxv) Y0m Yuy l P E C rd ops s
theorem Yon{P:Program}(E:Env2 P)(C:CallF)(rd:Option Nat)(ops:List Oper):∀ (l:List Oper) (s:St),Yxb P E C rd ops l s=Xtr E C rd ops l s
 | [],s=>rfl
 | o::r,s=>by
  have ih:=Yon E C rd ops r
  show Yuy o r (fun P E C rd ops s=>Yxb P E C rd ops r s) P E C rd ops s=_
  simp only[Yuy,Xtr,Yq2,Ypd,Ykr,Xvu,ih]
  cases Qe ops s.t o with
  | none=>rfl
  | some b =>
   simp only[ob_some]
   cases b with
   | true =>
    simp only[bq_true]
    rcases X12 E C rd o s with _ | ⟨e,s'⟩
    ·rfl
    ·cases e <;> first | rfl | (show Yxb P E C rd ops r s'=_;exact ih s')
   | false =>
    simp only[bq_false]
    cases Qdh s o.dst <;> rfl
abbrev Q8n:=∀ P:Program,Env2 P->CallF->Option Nat->Nat->St->XS
def Xzf(f:St->XS)(p:Exit × St):XS:=Prod.rec (motive:=fun _=>XS) (fun e s=>Exit.rec (motive:=fun _=>XS) (f s) (fun i=>some (.exit i,s)) (fun i=>some (.goto i,s)) (some (.ret,s)) (fun ch=>some (.panic ch,s)) (some (.outgrown,s)) e) p
theorem Q5l(f:St->XS)(s:St):Xzf f (.normal,s)=f s:=rfl
def Yx9:Q8n:=fun _ _ _ _ _ s=>some (.normal,s)
def Ytw(_:Nat)(ops:Array Oper)(draw:Bool):Q8n:=fun P E C rd _ s=>bq draw (ob (Q6i E C ops.toList s) fun s'=>some (.normal,s')) (Yxb P E C rd ops.toList ops.toList s)
def Y0i(_ _:Code)(fx fy:Q8n):Q8n:=fun P E C rd k s=>ob (fx P E C rd k s) (Xzf (fy P E C rd k))
def Yz3(c:Operand)(_ _:Code)(fx fy:Q8n):Q8n:=fun P E C r k s=>ob (rd c E.G.n s.t) fun v=>Value.rec (motive_1:=fun _=>XS) (motive_2:=fun _=>Unit) (motive_3:=fun _=>Unit)
 (fun b=>bq b (fx P E C r k s) (fy P E C r k s)) (fun _ _=>none) (fun _ _=>none) (fun _ _ _=>none) (fun _=>none) (fun _=>none) (fun _ _ _=>none) (fun _=>none) (fun _=>none) (fun _ _ _ _ _=>none) none (fun _ _ _=>none) none (fun _ _=>none) (fun _ _=>none)
 (fun _ _=>()) () (fun _ _ _ _=>()) v
def Ywx(id:Nat)(_:Code)(f:Q8n):Q8n:=fun P E C rd k s=>ob (f P E C rd k s) fun p=>Prod.rec (motive:=fun _=>XS) (fun e s=>Exit.rec (motive:=fun _=>XS) (some (.normal,s)) (fun i=>bq (Nat.beq i id) (some (.normal,s)) (some (.exit i,s))) (fun i=>some (.goto i,s)) (some (.ret,s)) (fun ch=>some (.panic ch,s)) (some (.outgrown,s)) e) p
def Yqn(body:St->XS)(k:Nat):St->XS:=Nat.rec (motive:=fun _=>St->XS) (fun _=>none) (fun _ f s=>ob (body s) (Xzf f)) k
def Yzp(_:Code)(f:Q8n):Q8n:=fun P E C rd k s=>Yqn (f P E C rd k) k s
def Yyr(g:Operand)(ps:Array Tmp)(asg bd:Code)(_ _:Q8n):Q8n:=fun _ E C rd _ s=>Yk9 E C rd g ps asg bd s
def Yyp(id:Nat):Q8n:=fun _ _ _ _ _ s=>some (.exit id,s)
def Yw6(_:Code)(_:Q8n):Q8n:=fun _ _ _ _ _ _=>none
def Yvl(_:Nat):Q8n:=Yx9
def Yzf(_:Nat):Q8n:=fun _ _ _ _ _ _=>none
def Y0a:Q8n:=fun _ _ _ _ _ s=>some (.ret,s)
def Yso(_:String):Q8n:=fun _ _ _ _ _ _=>none
def Q36(P:Program)(E:Env2 P)(C:CallF)(rd:Option Nat)(k:Nat)(c:Code)(s:St):XS :=
 Code.rec (motive:=fun _=>Q8n) Yx9 Ytw Y0i Yz3 Ywx Yzp Yyr Yyp Yw6 Yvl Yzf Y0a Yso c P E C rd k s
theorem Yhb{f g:St->XS}(h:∀ s,f s=g s):∀ (k:Nat) (s:St),Yqn f k s=Xwy g k s
 | 0,s=>rfl
 | k+1,s=>by
  show ob (f s) (Xzf (Yqn f k))=_
  rw[h s]
  simp only[Xwy]
  rcases g s with _ | ⟨e,s'⟩
  ·rfl
  ·simp only[ob_some]
   cases e <;> first | rfl | (rw[Q5l];exact Yhb h k s')
theorem Q58{P:Program}(E:Env2 P)(C:CallF)(rd:Option Nat)(k:Nat):∀ (c:Code) (s:St),Q36 P E C rd k c s=Q2p E C rd k c s
 | .skip,s=>rfl
 | .region id ops true,s=>by
  show ob (Q6i E C ops.toList s) _=_
  simp only[Q2p]
  cases Q6i E C ops.toList s <;> rfl
 | .region id ops false,s=>by
  show Yxb P E C rd ops.toList ops.toList s=_
  simp only[Q2p,Yon]
 | .seq x y,s=>by
  show ob (Q36 P E C rd k x s) (Xzf (Q36 P E C rd k y))=_
  rw[Q58 E C rd k x s]
  simp only[Q2p]
  rcases Q2p E C rd k x s with _ | ⟨e,s'⟩
  ·rfl
  ·simp only[ob_some]
   cases e <;> first | rfl | (rw[Q5l];exact Q58 E C rd k y s')
 | .cond c x y,s=>by
  show ob (Go.Ab.rd c E.G.n s.t) _=_
  rw[Qvf]
  simp only[Q2p]
  rcases aev E.G s.t c with _ | v
  ·rfl
  ·cases v <;> first | rfl | skip
   rename_i b
   cases b with
   | true=>exact Q58 E C rd k x s
   | false=>exact Q58 E C rd k y s
 | .block id c,s=>by
  show ob (Q36 P E C rd k c s) _=_
  rw[Q58 E C rd k c s]
  simp only[Q2p]
  rcases Q2p E C rd k c s with _ | ⟨e,s'⟩
  ·rfl
  ·simp only[ob_some]
   cases e <;> first | rfl | skip
   rename_i i
   simp only
   cases Nat.beq i id <;> rfl
 | .loop c,s=>by
  show Yqn (Q36 P E C rd k c) k s=_
  simp only[Q2p]
  exact Yhb (Q58 E C rd k c) k s
 | .rangeFunc g ps asg bd,s=>rfl
 | .exit id,s=>rfl
 | .scope c,s=>rfl
 | .label l,s=>rfl
 | .goto l,s=>rfl
 | .ret,s=>rfl
 | .refuse w,s=>rfl
def Yic (P : Program) (E : Env2 P) (C : CallF) (D : Qj7) (k : Nat) (f : FuncId) (args : List Value) (h : Heap) : Option (AEnd × Heap) :=
  ob (E.fn.get f) fun fn => ob fn.body fun c => bq (Nat.ble args.length fn.ntmps) (match Q36 P E C none k c ⟨Y8 fn args, [], h⟩ with
      | some (.normal, s) | some (.ret, s) => Qu E D fn s.t s.ds .returning s.h
      | some (.panic ch, s) => Qu E D fn s.t s.ds (.panicking ch) s.h
      | _ => none) none
theorem Ypj{P:Program}(E:Env2 P)(C:CallF)(D:Qj7)(k:Nat)(f:FuncId)(args:List Value)(h:Heap):Yic P E C D k f args h=Yej E C D k f args h:=by
 unfold Yic Yej
 cases E.fn.get f with
 | none=>rfl
 | some fn =>
  simp only[ob_some]
  cases fn.body with
  | none=>rfl
  | some c =>
   simp only[ob_some]
   cases Nat.ble args.length fn.ntmps with
   | false=>rfl
   | true =>
    simp only[bq_true,Q58]
    rcases Q2p E C none k c ⟨Y8 fn args,[],h⟩with _ | ⟨e,s⟩
    ·rfl
    ·cases e <;> rfl
def Yhf(P:Program)(E:Env2 P)(C:CallF)(k:Nat)(l:Nat)(args:List Value)(h:Heap):Option (AEnd × Heap) :=
 match h.get l with
 | some (.obj (.loop .ready _ t ps asg bd _))=>match Yf3 t.size ps.toList args with
  | false=>none
  | true=>match Q36 P E C (some l) k asg ⟨Xn3 t ps.toList args,[],h⟩with
   | some (.normal,s1)=>match s1.h.get l with
    | some (.obj (.loop .ready p1 t1 ps1 as1 bd1 d1))=>match Q36 P E C (some l) k bd {s1 with h:=s1.h.set l (some (.obj (.loop .busy p1 t1 ps1 as1 bd1 d1)))} with
     | some (e,s2)=>match Xws e,s2.h.get l with
      | some j,some (.obj (.loop _ _ t2 ps2 as2 bd2 d2))=>some (.ret (.bool j.isNone),s2.h.set l (some (.obj (.loop (if j.isNone then .ready else .done) j t2 ps2 as2 bd2 d2))))
      | _,_=>none
     | none=>none
    | _=>none
   | _=>none
 | _=>none
theorem Ynb{P:Program}(E:Env2 P)(C:CallF)(k:Nat)(l:Nat)(args:List Value)(h:Heap):Yhf P E C k l args h=Xwe E C k l args h:=by
 unfold Yhf Xwe
 simp only[Q58]
 rfl
def Qfr(P:Program)(E:Env2 P)(X:Qmy)(k:Nat)(n:Nat):CallF :=
 Nat.rec (motive:=fun _=>CallF) ⟨X,fun _ _ _=>none⟩ (fun _ C=>⟨fun f args h=>Option.rec (motive:=fun _=>Option (AEnd × Heap)) (Yic P E C (Xgq E C k) k f args h) (fun r=>some r) (X f args h),fun l args h=>Yhf P E C k l args h⟩) n
theorem Xnx{P:Program}(E:Env2 P)(X:Qmy)(k:Nat):∀ n,Qfr P E X k n=X0o E X k n
 | 0=>rfl
 | n+1=>by
  have ih:=Xnx E X k n
  show(⟨fun f args h=>Option.rec (motive:=fun _=>Option (AEnd × Heap)) (Yic P E (Qfr P E X k n) (Xgq E (Qfr P E X k n) k) k f args h) (fun r=>some r) (X f args h),fun l args h=>Yhf P E (Qfr P E X k n) k l args h⟩:CallF)=_
  rw[ih]
  simp only[X0o,CallF.mk.injEq]
  refine⟨?_,?_⟩
  ·funext f args h
   rw[Ypj]
   cases X f args h <;> rfl
  ·funext l args h
   exact Ynb E _ k l args h
end Go.Ab
