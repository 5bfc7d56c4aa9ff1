import Derived.Test.YtgjlmnnggnajmaaGreatDoorAbD
import Derived.KernelRfl
import Derived.ChangeArms
import Derived.OpenShut
import Derived.Lib.LaidU8
import Derived.ChangeSame
import Derived.RowKit
import Derived.MakeChecks
set_option linter.all false
noncomputable section
namespace Go.Ab
def Zob(P:Program)(f:Nat):Option Func:=match P.funcs[f]? with
 | some F=>if F.name == "runtime.NumGoroutine" then none else if F.body.isSome then some F else none
 | none=>none
theorem Zpa{P:Program}{f:Nat}{F:Func}(h:Zob P f=some F):P.funcs[f]? = some F/\(F.name == "runtime.NumGoroutine")=false/\F.body.isSome=true:=by
 unfold Zob at h
 split at h
 ·rename_i F0 h0
  split at h
  ·cases h
  ·rename_i h1
   split at h
   ·rename_i h2;cases h;exact⟨h0,by simpa using h1,h2⟩
   ·cases h
 ·cases h
def Y6v(P:Program):Nat->Tr Func
 | 0 => .leaf
 | n+1=>(Y6v P n).put n (Zob P n)
theorem Yzy(P:Program):∀ (n:Nat) (f:FuncId) (F:Func),(Y6v P n).get f=some F->Zob P f=some F
 | 0,f,F,h=>by simp[Y6v]at h
 | n+1,f,F,h=>by
  rw[Y6v,Tr.get_put]at h
  split at h
  ·rename_i e;subst e;exact h
  ·exact Yzy P n f F h
def Zpc(P:Program)(f:Nat):Option ExtK:=match P.funcs[f]? with
 | some F=>Zku F
 | none=>none
def Y71(P:Program):Nat->Tr ExtK
 | 0 => .leaf
 | n+1=>(Y71 P n).put n (Zpc P n)
theorem Y6d(P:Program):∀ (n:Nat) (f:FuncId) (x:ExtK),(Y71 P n).get f=some x->Zpc P f=some x
 | 0,f,x,h=>by simp[Y71]at h
 | n+1,f,x,h=>by
  rw[Y71,Tr.get_put]at h
  split at h
  ·rename_i e;subst e;exact h
  ·exact Y6d P n f x h
theorem Zoe{P:Program}{f:Nat}{x:ExtK}(h:Zpc P f=some x):∃ F,P.funcs[f]? = some F/\Zku F=some x:=by
 unfold Zpc at h
 split at h
 ·rename_i F hF;exact⟨F,hF,h⟩
 ·cases h
def mkE(P:Program)(n b:Nat):Env2 P :=
 {ty:=Yzl P P.types.size,tyok:=fun t r h=>Znt (Y3a P _ t r h),G:=⟨n,b⟩,fn:=Y6v P P.funcs.size,fnok:=fun f F h=>Zpa (Yzy P _ f F h),ex:=Y71 P P.funcs.size,exok:=fun f x h=>Zoe (Y6d P _ f x h)}
section
variable{H:Type}(P:Program)
def Xx9(g:TypeId->DataW H->Option (List Value))(tot:Nat):List Field->List (DataW H)->Nat->Option (List Value)
 | [],[],acc=>if acc == tot then some []else none
 | f::fs,d::ds,acc=>if f.offset == acc then(match g f.type d with
  | some l=>if l.length == P.cellsOf f.type then(match Xx9 g tot fs ds (acc+l.length)with | some r=>some (l++r) | none=>none)else none
  | none=>none)else none
 | _,_,_=>none
def Y3h(g:DataW H->Option (List Value))(sz tot:Nat):List (DataW H)->Nat->Option (List Value)
 | [],acc=>if acc == tot then some []else none
 | d::ds,acc=>match g d with
  | some l=>if l.length == sz then(match Y3h g sz tot ds (acc+sz)with | some r=>some (l++r) | none=>none)else none
  | none=>none
def Yp8:Nat->TypeId->DataW H->Option (List Value)
 | 0,_,_=>none
 | k+1,t,d =>
  match P.underlying t,d with
  | some .bool,.lit (.bool b)=>some [.bool b]
  | some (.int k'),.lit (.int _ n)=>some [.int k' n]
  | some .string,.lit (.string l)=>some [.string ⟨l.toArray⟩]
  | some (.struct fs),.agg ds=>Xx9 P (Yp8 k) (P.cellsOf t) fs.toList ds 0
  | some (.array n e),.agg ds=>if ds.length == n then Y3h (Yp8 k e) (P.cellsOf e) (P.cellsOf t) ds 0 else none
  | _,_=>none
end
section
variable{H:Type}{enc:TypeId × Value->H}{P:Program}{w:World}{base:Nat}{sp:Nat->Bool}{held:Bool}
theorem Ypr{g:TypeId->DataW H->Option (List Value)}{cs:List Value}{n:Nat}
  (hg:∀ t d l cs p,g t d=some l->DataW.trod enc P w base sp held n t cs=some (d,p)->cs=l) :
  ∀ (fs:List Field) (ds:List (DataW H)) (acc:Nat) (l:List Value),Xx9 P g cs.length fs ds acc=some l ->
  (∀ (i:Nat) (f:Field) d,fs[i]? = some f->ds[i]? = some d->∃ p,DataW.trod enc P w base sp held n f.type ((cs.drop f.offset).take (P.cellsOf f.type))=some (d,p))->cs.drop acc=l
 | [],[],acc,l,h,_=>by
  simp only[Xx9]at h
  split at h
  ·rename_i e;cases h;simp at e;simp[e]
  ·cases h
 | f::fs,d::ds,acc,l,h,ht=>by
  simp only[Xx9]at h
  split at h
  ·rename_i e0
   simp only[beq_iff_eq]at e0
   split at h
   ·rename_i l0 hl0
    split at h
    ·rename_i e1
     simp only[beq_iff_eq]at e1
     split at h
     ·rename_i r hr
      cases h
      have ih:=Ypr hg fs ds _ r hr (fun i f' d' hf hd=>ht (i+1) f' d' (by simpa using hf) (by simpa using hd))
      obtain⟨p,h0⟩:=ht 0 f d (by simp) (by simp)
      have h1:=hg _ _ _ _ _ hl0 h0
      rw[e0,<- e1]at h1
      rw[<- ih,<- List.drop_drop,<- List.take_append_drop l0.length (cs.drop acc),h1]
      simp
     ·cases h
    ·cases h
   ·cases h
  ·cases h
 | [],_::_,_,_,h,_=>by simp[Xx9]at h
 | _::_,[],_,_,h,_=>by simp[Xx9]at h
theorem Yz4{g:DataW H->Option (List Value)}{cs:List Value}{n sz:Nat}{e:TypeId}
  (hg:∀ d l cs p,g d=some l->DataW.trod enc P w base sp held n e cs=some (d,p)->cs=l) :
  ∀ (ds:List (DataW H)) (j:Nat) (l:List Value),Y3h g sz cs.length ds (j*sz)=some l ->
  (∀ (i:Nat) d,ds[i]? = some d->∃ p,DataW.trod enc P w base sp held n e ((cs.drop ((j+i)*sz)).take sz)=some (d,p))->cs.drop (j*sz)=l
 | [],j,l,h,_=>by
  simp only[Y3h]at h
  split at h
  ·rename_i e;cases h;simp at e;simp[e]
  ·cases h
 | d::ds,j,l,h,ht=>by
  simp only[Y3h]at h
  split at h
  ·rename_i l0 hl0
   split at h
   ·rename_i e1
    simp only[beq_iff_eq]at e1
    split at h
    ·rename_i r hr
     cases h
     have e2:j*sz+sz=(j+1)*sz:=by rw[Nat.add_mul];simp
     rw[e2]at hr
     have ih:=Yz4 hg ds (j+1) r hr (fun i d' hd=>by
      have:=ht (i+1) d' (by simpa using hd)
      rwa [show j+(i+1)=j+1+i from by omega]at this)
     obtain⟨p,h0⟩:=ht 0 d (by simp)
     have h1:=hg _ _ _ _ hl0 h0
     simp only[Nat.add_zero]at h1
     rw[<- ih,<- e2,<- List.drop_drop,<- List.take_append_drop sz (cs.drop (j*sz)),h1]
     simp[e1]
    ·cases h
   ·cases h
  ·cases h
theorem Yea:∀ (k:Nat) (t:TypeId) (d:DataW H) (l cs:List Value) (n:Nat) (p:List MemPlace),Yp8 P k t d=some l->DataW.trod enc P w base sp held n t cs=some (d,p)->cs=l
 | 0,_,_,_,_,_,_,h,_=>by simp[Yp8]at h
 | k+1,t,d,l,cs,n,p,h,ht=>by
  simp only[Yp8]at h
  split at h
  ·rename_i b hu
   cases h
   obtain⟨b',rfl,e⟩:=DataW.trod_bool hu ht
   cases e;rfl
  ·rename_i k' k2 z hu
   cases h
   obtain⟨n',rfl,e,_⟩:=DataW.trod_int hu ht
   cases e;rfl
  ·rename_i s hu
   cases h
   obtain⟨s',rfl,e,_⟩:=DataW.trod_string hu ht
   cases e;simp
  ·rename_i fs ds hu
   obtain⟨xs,m,rfl,e,hl,hxl,hall⟩:=DataW.trod_struct hu ht
   simp only[Prod.mk.injEq,DataW.agg.injEq]at e
   rw[<- hl]at h
   have:=Ypr (n:=m) (fun t d l cs p h1 h2=>Yea k t d l cs m p h1 h2) _ _ _ _ h (fun i f d hf hd=>by
    have h1:=hall i f (by simpa using hf)
    rw[e.1,List.getElem?_map]at hd
    rw[h1]
    cases hx:xs[i]? with
    | none=>rw[hx]at hd;cases hd
    | some y=>rw[hx]at hd;cases hd;exact⟨y.2,rfl⟩)
   simpa using this
  ·rename_i n' e' ds hu
   obtain⟨xs,m,rfl,e,hl,hxl,hall⟩:=DataW.trod_array hu ht
   simp only[Prod.mk.injEq,DataW.agg.injEq]at e
   split at h
   ·rename_i hn
    rw[<- hl]at h
    have:=Yz4 (n:=m) (fun d l cs p h1 h2=>Yea k e' d l cs m p h1 h2) ds 0 l (by simpa using h) (fun i d hd=>by
     rw[e.1,List.getElem?_map]at hd
     cases hx:xs[i]? with
     | none=>rw[hx]at hd;cases hd
     | some y =>
      rw[hx]at hd;cases hd
      have hi:i < xs.length:=(List.getElem?_eq_some_iff.1 hx).1
      have h1:=hall i (by omega)
      rw[hx]at h1
      simp only[Nat.zero_add]
      exact⟨y.2,h1⟩)
    simpa using this
   ·cases h
  ·cases h
end
def Y35:List (Nat × List Value)->Tr Blk
 | [] => .leaf
 | x::l=>(Y35 l).put x.1 (some (.cells false 0 x.2))
def Q0j(n:Nat)(l:List (Nat × List Value)):Heap:=⟨n,n,Y35 l⟩
def Ypw(n:Nat):Ren:=fun b=>if b < n then some ⟨b,0,0,0,none⟩else none
theorem Xsa:∀ (l:List (Nat × List Value)) (b:Nat) (x:Blk),(Y35 l).get b=some x->∃ c,(b,c) ∈ l/\x=.cells false 0 c
 | [],b,x,h=>by simp[Y35]at h
 | y::l,b,x,h=>by
  simp only[Y35]at h
  rw[Tr.get_put]at h
  split at h
  ·rename_i e;subst e;cases h;exact⟨y.2,by simp,rfl⟩
  ·obtain⟨c,h1,h2⟩:=Xsa l b x h
   exact⟨c,by simp[h1],h2⟩
theorem Zgx{W:World}{n:Nat}{l:List (Nat × List Value)}(hn:n<=W.heap.size)(hl:∀ x ∈ l,(∀ v ∈ x.2,flat v=true/\v.oneCell'=true)/\∃ C e fr,W.heap[x.1]? = some (.cells C e fr)/\C.toList=x.2) :
  HRel ⟨n,W.heap.size⟩ (Ypw n) (Q0j n l) W:=by
 have hget:∀ b x,(Q0j n l).get b=some x->b < n/\∃ c,(b,c) ∈ l/\x=.cells false 0 c:=by
  intro b x h
  unfold Heap.get at h
  split at h
  ·rename_i hb;exact⟨hb,Xsa l b x h⟩
  ·cases h
 have hα:∀ b p,Ypw n b=some p->b < n/\p=⟨b,0,0,0,none⟩:=by
  intro b p h
  unfold Ypw at h
  split at h
  ·cases h;exact⟨by assumption,rfl⟩
  ·cases h
 have hown:∀ b,(Q0j n l).own b=false:=by
  intro b
  unfold Heap.own
  cases hb:(Q0j n l).get b with
  | none=>rfl
  | some x=>obtain⟨_,c,_,rfl⟩:=hget b x hb;rfl
 refine⟨fun b p h => ?_,fun b p x hb hx => ?_,fun b c p q _ _ _ ho _ => ?_,fun g hg=>⟨?_,hown g⟩,Nat.le_refl _,fun b x hx => ?_,fun b p x hb hx => ?_,Nat.le_refl _⟩
 ·obtain⟨h1,rfl⟩:=hα b p h
  exact⟨h1,trivial⟩
 ·obtain⟨h1,rfl⟩:=hα b p hb
  obtain⟨_,c,hc,rfl⟩:=hget b x hx
  obtain⟨hf,C,e,fr,h2,h3⟩:=hl _ hc
  refine⟨rfl,.inr ⟨C,e,fr.1,fr.2,h2,fun i v hv => ?_,fun h=>by cases h⟩⟩
  have hv':=hf v (List.mem_of_getElem? hv)
  simp only at h3
  refine⟨?_,flat_ok _ v hv'.1,hv'.2⟩
  rw[Qhp _ hv'.1,<- hv,<- h3]
  simp
 ·rw[hown b]at ho;cases ho
 ·simp[Ypw,show g < n from hg]
 ·obtain⟨_,c,hc,rfl⟩:=hget b x hx
  intro v hv
  exact⟨flat_ok _ v ((hl _ hc).1 v hv).1,((hl _ hc).1 v hv).2⟩
 ·obtain⟨h1,rfl⟩:=hα b p hb
  obtain⟨_,c,_,rfl⟩:=hget b x hx
  refine⟨fun h => ?_,fun _ _=>⟨Nat.lt_of_lt_of_le h1 hn,rfl⟩⟩
  simp[Blk.own]at h
def Zks(P:Program)(laid:List (String × DataW Unit))(n:Nat)(l:List (Nat × List Value)):Prop :=
 ∀ x ∈ l,x.1 < n/\(∀ v ∈ x.2,flat v=true/\v.oneCell'=true)/\∃ name t d k,(name,d) ∈ laid/\P.globalNamed name=some x.1/\(P.globals[x.1]?).map (·.type)=some t/\Yp8 P k t d=some x.2
theorem Yxw{P:Program}{W:World}{laid:List (String × DataW Unit)}{n:Nat}{l:List (Nat × List Value)}(h:laidMet P laid W)(hl:Zks P laid n l)(hn:n<=W.heap.size) :
  HRel ⟨n,W.heap.size⟩ (Ypw n) (Q0j n l) W:=by
 refine Zgx hn fun x hx => ?_
 obtain⟨_,hf,name,t,d,k,hm,hg,ht,hd⟩:=hl x hx
 refine⟨hf,?_⟩
 obtain⟨g,t',cs,fuel,p,h1,h2,h3,h4⟩:=Lib.laidMet.reads h hm
 obtain rfl:=Option.some.inj (hg.symm.trans h1)
 obtain rfl:=Option.some.inj (ht.symm.trans h2)
 have:=Yea k _ _ _ _ _ _ hd h4
 unfold World.var? at h3
 rw[hg]at h3
 simp only[Option.bind_some]at h3
 split at h3
 ·rename_i C e fr hC
  cases h3
  exact⟨_,e,fr,hC,this⟩
 ·cases h3
def ob{A B:Type}(x:Option A)(f:A->Option B):Option B:=Option.rec (motive:=fun _=>Option B) none f x
@[simp] theorem ob_some {A B:Type} (a:A) (f:A->Option B):ob (some a) f=f a:=rfl
@[simp] theorem ob_none {A B:Type} (f:A->Option B):ob none f=none:=rfl
def bq{A:Type}(b:Bool)(x y:A):A:=Bool.rec (motive:=fun _=>A) y x b
@[simp] theorem bq_true {A:Type} (x y:A):bq true x y=x:=rfl
@[simp] theorem bq_false {A:Type} (x y:A):bq false x y=y:=rfl
def rT(i:Nat)(_:Nat)(t:Tm):Option Value:=t.t.get i
def rC(v:Value)(_:Nat)(_:Tm):Option Value:=bq (flat v) (some v) none
def rG(g n:Nat)(_:Tm):Option Value:=bq (Nat.blt g n) (some (.pointer (some ⟨g,0,none⟩))) none
def rF(f:FuncId)(_:Nat)(_:Tm):Option Value:=some (.func (.func f) #[] #[])
def rd(x:Operand)(n:Nat)(t:Tm):Option Value:=Operand.rec (motive:=fun _=>Nat->Tm->Option Value) rT rC rG rF x n t
theorem Qt4(G:Bs)(t:Tm)(x:Operand):rd x G.n t=aev G t x:=by
 cases x with
 | tmp i=>rfl
 | const v=>show rC v 0 t=_;simp only[rC,aev];cases flat v <;> rfl
 | global g =>
  show rG g G.n t=_
  simp only[rG,aev]
  by_cases h:g < G.n
  ·rw[show Nat.blt g G.n=true from by simpa using h];simp[h]
  ·rw[Bool.eq_false_iff.2 (fun hb:Nat.blt g G.n=true=>h (by simpa using hb))];simp[h]
 | func f=>rfl
def gvF(r:Option (Value × Heap)):Option Res:=ob r fun p=>Prod.rec (motive:=fun _=>Option Res) (fun v h=>some (.val v h)) p
def g0F(h:Heap)(r:Option Value):Option Res:=ob r fun v=>some (.val v h)
def gsF(r:Option Heap):Option Res:=ob r fun h=>some (.skip h)
theorem Xvu(r:Option (Value × Heap)):gvF r=gv r:=by cases r <;> rfl
theorem Qtn(h:Heap)(r:Option Value):g0F h r=g0 h r:=by cases r <;> rfl
theorem Zdq(r:Option Heap):gsF r=gs r:=by cases r <;> rfl
abbrev OpF:=∀ P:Program,Env2 P->Tm->Heap->Option Res
def Zex(x:Operand):OpF:=fun _ E t h=>g0F h (rd x E.G.n t)
def Zrl(c a b:Operand):OpF:=fun _ E t h=>match rd c E.G.n t with
 | some (.bool true)=>g0F h (rd a E.G.n t)
 | some (.bool false)=>g0F h (rd b E.G.n t)
 | _=>none
def Zi8(e:TypeId):OpF:=fun _ E _ h=>gvF (Qba E.toEnv e h)
def Zz2(_:TypeId)(x:Operand):OpF:=fun _ E t h=>ob (rd x E.G.n t) fun v=>gvF (Yz6 v h)
def Zjc(ty:TypeId)(ps:Array (Nat × Operand)):OpF:=fun _ E t h=>ob (Qh E.G t ps.toList) fun l=>g0F h (Qg1 E.toEnv ty l)
def Xys(ty:TypeId)(n:Nat)(ps:Array (Nat × Operand)):OpF:=fun _ E t h=>ob (Qh E.G t ps.toList) fun l=>gvF (V5 E.toEnv ty n l h)
def X3c(ty:TypeId)(m k x:Operand):OpF:=fun _ E t h=>ob (rd m E.G.n t) fun a=>ob (rd k E.G.n t) fun b=>ob (rd x E.G.n t) fun c=>gsF (Qf9 E.toEnv ty a b c h)
def Zti(ty:TypeId)(a:Operand):OpF:=fun _ E t h=>ob (rd a E.G.n t) fun x=>g0F h (Qhr E.toEnv ty x h)
def Zit(ty:TypeId)(a v:Operand):OpF:=fun _ E t h=>ob (rd a E.G.n t) fun x=>ob (rd v E.G.n t) fun y=>gsF (Qdm E.toEnv ty x y h)
def oN1(_:Nat):OpF:=fun _ _ _ _=>none
def Yeb(x:Operand):OpF:=fun _ E t h=>ob (rd x E.G.n t) fun v=>g0F h (Xq7 v)
def Zzm(op:BinOp)(ty:TypeId)(x y:Operand)(_:TypeId):OpF:=fun _ E t h=>ob (rd x E.G.n t) fun a=>ob (rd y E.G.n t) fun b=>g0F h (Zu E.toEnv op ty (Q6 x || Q6 y) a b)
def oUn(op:UnOp)(_:TypeId)(x:Operand):OpF:=fun _ E t h=>ob (rd x E.G.n t) fun v=>g0F h (aUn op v)
def Zse(src dst:TypeId)(x:Operand):OpF:=fun _ E t h=>ob (rd x E.G.n t) fun v=>bq (Qq7 E.toEnv src dst) (g0F h (Qv7 E.toEnv src dst v)) (gvF (Xb1 E.toEnv src dst v h))
def Y8y(ty:TypeId)(x:Operand):OpF:=fun _ E t h=>ob (rd x E.G.n t) fun v=>g0F h (X3x E.toEnv ty v)
def Yuh(ty:TypeId)(x:Operand):OpF:=fun _ E t h=>ob (rd x E.G.n t) fun v=>g0F h (Q8b E.toEnv ty v)
def Y8z(fn:Fn)(a b:Array Operand):OpF:=fun _ E t h=>ob (evs E.G t a.toList) fun x=>ob (evs E.G t b.toList) fun y=>g0F h (Xwm fn x y)
def Ytc(ty:TypeId)(r:Option Operand):OpF:=fun _ E t h=>ob (evO E.G t r) fun hv=>gvF (Qy1 E.toEnv ty hv h)
def oN2(_:TypeId)(_:Operand):OpF:=fun _ _ _ _=>none
def X4c(ty:TypeId)(n c:Operand):OpF:=fun _ E t h=>ob (rd n E.G.n t) fun x=>ob (rd c E.G.n t) fun y=>gvF (Qqn E.toEnv ty x y h)
def Zjv(ty:TypeId)(x:Operand)(lo hi mx:Option Operand):OpF:=fun _ E t h=>ob (rd x E.G.n t) fun v=>ob (evO E.G t lo) fun a=>ob (evO E.G t hi) fun b=>ob (evO E.G t mx) fun c=>gvF (Qer E.toEnv ty v a b c h)
def X5h(ty:TypeId)(x:Operand)(f:Nat):OpF:=fun _ E t h=>ob (rd x E.G.n t) fun v=>g0F h (Vj E.toEnv ty v f)
def Zkv(ty:TypeId)(x:Operand)(f:Nat):OpF:=fun _ E t h=>ob (rd x E.G.n t) fun v=>g0F h (Zck E.toEnv ty v f)
def X4g(ty:TypeId)(x i:Operand):OpF:=fun _ E t h=>ob (rd x E.G.n t) fun a=>ob (rd i E.G.n t) fun b=>g0F h (Vg E.toEnv ty a b)
def Zis(ty:TypeId)(x i:Operand):OpF:=fun _ E t h=>ob (rd x E.G.n t) fun a=>ob (rd i E.G.n t) fun b=>g0F h (Y66 E.toEnv ty a b)
def Zai(ty:TypeId)(x k:Operand)(ok:Bool):OpF:=fun _ E t h=>ob (rd x E.G.n t) fun a=>ob (rd k E.G.n t) fun b=>g0F h (Qkv E.toEnv ty a b ok h)
def Ygk(ty:TypeId)(m k:Operand):OpF:=fun _ E t h=>ob (rd m E.G.n t) fun a=>ob (rd k E.G.n t) fun b=>gvF (Xbg E.toEnv ty a b h)
def Xyc(_:TypeId)(m st x:Operand):OpF:=fun _ E t h=>ob (rd m E.G.n t) fun a=>ob (rd st E.G.n t) fun b=>ob (rd x E.G.n t) fun c=>gsF (Qxi a b c h)
def Zik(ty:TypeId)(x:Operand):OpF:=fun _ E t h=>ob (rd x E.G.n t) fun v=>gvF (Yoq E.toEnv ty v h)
def Zu0(x:Operand)(s:Bool):OpF:=fun _ E t h=>ob (rd x E.G.n t) fun v=>gvF (Zeg v s h)
def Zhv(x:Operand):OpF:=fun _ E t h=>ob (rd x E.G.n t) fun v=>g0F h (Zcn v h)
def Y7d(x:Operand)(_ ty:TypeId)(ok:Bool):OpF:=fun _ E t h=>ob (rd x E.G.n t) fun v=>g0F h (Xq9 E.toEnv v ty ok)
def Yvm(x:Operand)(i:Nat):OpF:=fun _ E t h=>ob (rd x E.G.n t) fun v=>g0F h (Q7 v i)
def Zq1(P:Program)(E:Env2 P)(fv:Value)(args:List Value)(h:Heap):Option Res:=match Qi fv args with
 | some (f,l)=>match E.fn.get f with
  | some _=>some (.enter f l h)
  | none=>match E.ex.get f with
   | some x=>gv (Ypc x l h)
   | none=>none
 | none=>X63 fv args h
def Zu5(c:Call):OpF:=fun P E t h=>ob (evs E.G t c.args.toList) fun args=>match c.callee with
 | .builtin b=>Q5 E b c.argTypes.toList args h
 | .value f=>ob (rd f E.G.n t) fun fv=>Zq1 P E fv args h
 | .invoke _ _=>none
def oN7(_:Call):OpF:=fun _ _ _ _=>none
def Zjo(x:Operand):OpF:=fun _ E t h=>match rd x E.G.n t with
 | some (.iface u v)=>some (.panic (.iface u v) h)
 | _=>none
def oN8(_ _:Operand):OpF:=fun _ _ _ _=>none
def oN9(_:TypeId)(_:Operand)(_:Bool):OpF:=fun _ _ _ _=>none
def Z0n(_:Array SelectCase)(_:Bool):OpF:=fun _ _ _ _=>none
def Z06(P:Program)(E:Env2 P)(o:Op)(t:Tm)(h:Heap):Option Res :=
 Op.rec (motive:=fun _=>OpF) Zex Zex Zrl Zi8 Zz2 Zjc Xys X3c Zti Zit oN1 oN1 Yeb Zzm oUn Zse Y8y Yuh Y8z Ytc oN2 X4c Zjv X5h Zkv X4g Zis Zai
  X3c Ygk Xyc Zik Zu0 Zhv Y7d Yvm Zu5 oN7 oN7 Zjo oN8 oN9 Z0n o P E t h
theorem Zts{P:Program}(E:Env2 P)(t:Tm)(h:Heap)(o:Oper):Z06 P E o.op t h=aop E t h o:=by
 obtain⟨d,op,ty,pos,af,g⟩:=o
 have two:∀ {A:Type} (x y:Option Value) (f:Value->Value->Option A),(match x,y with | some a,some b=>f a b | _,_=>none)=ob x fun a=>ob y fun b=>f a b:=by
  intro A x y f;cases x <;> cases y <;> rfl
 cases op with
 | move x=>show Zex x P E t h=_;simp only[Zex,aop,Qt4,Qtn]
 | assign x=>show Zex x P E t h=_;simp only[Zex,aop,Qt4,Qtn]
 | pick c a b =>
  show Zrl c a b P E t h=_
  simp only[Zrl,aop,Qt4,Qtn]
  rcases aev E.G t c with _ | v
  ·rfl
  ·cases v <;> first | rfl | (rename_i b;cases b <;> rfl)
 | alloc e=>show Zi8 e P E t h=_;simp only[Zi8,aop,Xvu]
 | box e x=>show Zz2 e x P E t h=_;simp only[Zz2,aop,Qt4,Xvu];cases aev E.G t x <;> rfl
 | build ty ps=>show Zjc ty ps P E t h=_;simp only[Zjc,aop,Qtn];cases Qh E.G t ps.toList <;> rfl
 | buildSlice ty n ps=>show Xys ty n ps P E t h=_;simp only[Xys,aop,Xvu];cases Qh E.G t ps.toList <;> rfl
 | insert ty m k x=>show X3c ty m k x P E t h=_;simp only[X3c,aop,Qt4,Zdq];cases aev E.G t m <;> cases aev E.G t k <;> cases aev E.G t x <;> rfl
 | load ty a=>show Zti ty a P E t h=_;simp only[Zti,aop,Qt4,Qtn];cases aev E.G t a <;> rfl
 | store ty a v=>show Zit ty a v P E t h=_;simp only[Zit,aop,Qt4,Zdq];cases aev E.G t a <;> cases aev E.G t v <;> rfl
 | ready g=>rfl
 | waits g=>rfl
 | nilCheck x=>show Yeb x P E t h=_;simp only[Yeb,aop,Qt4,Qtn];cases aev E.G t x <;> rfl
 | binOp op ty x y yt=>show Zzm op ty x y yt P E t h=_;simp only[Zzm,aop,Qt4,Qtn];cases aev E.G t x <;> cases aev E.G t y <;> rfl
 | unOp op ty x=>show oUn op ty x P E t h=_;simp only[oUn,aop,Qt4,Qtn];cases aev E.G t x <;> rfl
 | convert s d x =>
  show Zse s d x P E t h=_;simp only[Zse,aop,Qt4,Qtn,Xvu];cases aev E.G t x
  ·rfl
  ·cases Qq7 E.toEnv s d <;> rfl
 | sliceToArrayPointer ty x=>show Y8y ty x P E t h=_;simp only[Y8y,aop,Qt4,Qtn];cases aev E.G t x <;> rfl
 | makeInterface ty x=>show Yuh ty x P E t h=_;simp only[Yuh,aop,Qt4,Qtn];cases aev E.G t x <;> rfl
 | makeFunc fn a b=>show Y8z fn a b P E t h=_;simp only[Y8z,aop,Qtn];cases evs E.G t a.toList <;> cases evs E.G t b.toList <;> rfl
 | makeMap ty r=>show Ytc ty r P E t h=_;simp only[Ytc,aop,Xvu];cases evO E.G t r <;> rfl
 | makeChan ty x=>rfl
 | makeSlice ty n c=>show X4c ty n c P E t h=_;simp only[X4c,aop,Qt4,Xvu];cases aev E.G t n <;> cases aev E.G t c <;> rfl
 | slice ty x lo hi mx=>show Zjv ty x lo hi mx P E t h=_;simp only[Zjv,aop,Qt4,Xvu];cases aev E.G t x <;> cases evO E.G t lo <;> cases evO E.G t hi <;> cases evO E.G t mx <;> rfl
 | fieldAddr ty x f=>show X5h ty x f P E t h=_;simp only[X5h,aop,Qt4,Qtn];cases aev E.G t x <;> rfl
 | field ty x f=>show Zkv ty x f P E t h=_;simp only[Zkv,aop,Qt4,Qtn];cases aev E.G t x <;> rfl
 | indexAddr ty x i=>show X4g ty x i P E t h=_;simp only[X4g,aop,Qt4,Qtn];cases aev E.G t x <;> cases aev E.G t i <;> rfl
 | index ty x i=>show Zis ty x i P E t h=_;simp only[Zis,aop,Qt4,Qtn];cases aev E.G t x <;> cases aev E.G t i <;> rfl
 | lookup ty x k ok=>show Zai ty x k ok P E t h=_;simp only[Zai,aop,Qt4,Qtn];cases aev E.G t x <;> cases aev E.G t k <;> rfl
 | mapUpdate ty m k x=>show X3c ty m k x P E t h=_;simp only[X3c,aop,Qt4,Zdq];cases aev E.G t m <;> cases aev E.G t k <;> cases aev E.G t x <;> rfl
 | mapEntry ty m k=>show Ygk ty m k P E t h=_;simp only[Ygk,aop,Qt4,Xvu];cases aev E.G t m <;> cases aev E.G t k <;> rfl
 | entryStore ty m st x=>show Xyc ty m st x P E t h=_;simp only[Xyc,aop,Qt4,Zdq];cases aev E.G t m <;> cases aev E.G t st <;> cases aev E.G t x <;> rfl
 | range ty x=>show Zik ty x P E t h=_;simp only[Zik,aop,Qt4,Xvu];cases aev E.G t x <;> rfl
 | next x s=>show Zu0 x s P E t h=_;simp only[Zu0,aop,Qt4,Xvu];cases aev E.G t x <;> rfl
 | entry x=>show Zhv x P E t h=_;simp only[Zhv,aop,Qt4,Qtn];cases aev E.G t x <;> rfl
 | typeAssert x xt ty ok=>show Y7d x xt ty ok P E t h=_;simp only[Y7d,aop,Qt4,Qtn];cases aev E.G t x <;> rfl
 | extract x i=>show Yvm x i P E t h=_;simp only[Yvm,aop,Qt4,Qtn];cases aev E.G t x <;> rfl
 | call c =>
  show Zu5 c P E t h=_
  simp only[Zu5,aop,Qt4]
  cases evs E.G t c.args.toList with
  | none=>rfl
  | some args =>
   simp only[ob_some]
   cases c.callee with
   | builtin b=>rfl
   | value f =>
    simp only
    cases aev E.G t f with
    | none=>rfl
    | some fv =>
     simp only[ob_some,Zq1]
     cases Qi fv args with
     | none=>rfl
     | some p=>rfl
   | invoke _ _=>rfl
 | go c=>rfl
 | defer c=>rfl
 | panic x =>
  show Zjo x P E t h=_
  simp only[Zjo,aop,Qt4]
  rcases aev E.G t x with _ | v
  ·rfl
  ·cases v <;> rfl
 | send _ _=>rfl
 | recv _ _ _=>rfl
 | select _ _=>rfl
def Zz4(n:Nat)(d:Option Tmp):Bool:=Option.rec (motive:=fun _=>Bool) true (fun i=>Nat.blt i n) d
theorem Zi0(s:St)(d:Option Tmp):Zz4 s.t.size d=Qif s d:=by cases d <;> rfl
def Zwj(s:St)(d:Option Tmp)(v:Value)(h:Heap):St:=Option.rec (motive:=fun _=>St) {s with h:=h} (fun i=>{t:=s.t.put i v,ds:=s.ds,h:=h}) d
theorem Ybq(s:St)(d:Option Tmp)(v:Value)(h:Heap):Zwj s d v h=s.put d v h:=by cases d <;> rfl
abbrev XS:=Option (Exit × St)
abbrev Zt2:=CallF->Option Tmp->St->XS
def Zub(o:Option Tmp)(s:St)(r:Option (AEnd × Heap)):XS:=ob r fun p=>Prod.rec (motive:=fun _=>XS) (fun e h=>AEnd.rec (motive:=fun _=>XS) (fun v=>some (.normal,Zwj s o v h)) (fun ch=>some (.panic ch,{s with h:=h})) e) p
def Z0h(v:Value)(h:Heap):Zt2:=fun _ o s=>some (.normal,Zwj s o v h)
def Zz7(h:Heap):Zt2:=fun _ o s=>some (.normal,Zwj s o Qw h)
def Zvd(f:FuncId)(args:List Value)(h:Heap):Zt2:=fun C o s=>Zub o s (C.fn f args h)
def Zwg(l:Nat)(args:List Value)(h:Heap):Zt2:=fun C o s=>Zub o s (C.rnd l args h)
def Zwm(_:Deferred)(_:Heap):Zt2:=fun _ _ _=>none
def Zwf(v:Value)(h:Heap):Zt2:=fun _ _ s=>some (.panic [{v,recovered:=false}],{s with h:=h})
def Z0w(r:Res)(C:CallF)(o:Option Tmp)(s:St):XS:=Res.rec (motive:=fun _=>Zt2) Z0h Zz7 Zvd Zwg Zwm Zwf r C o s
def Ztl(P:Program)(E:Env2 P)(rd:Option Nat)(o:Oper)(s:St):XS:=match o.op with
 | .defer c=>match rd with
  | none=>match Yfh E s.t c with
   | some d=>some (.normal,({s with ds:=d::s.ds}:St).put o.dst Qw s.h)
   | none=>none
  | some _=>none
 | _=>none
def Qlx(P:Program)(E:Env2 P)(C:CallF)(rd:Option Nat)(o:Oper)(s:St):XS :=
 bq (Zz4 s.t.size o.dst) (Option.rec (motive:=fun _=>XS) (Ztl P E rd o s) (fun r=>Z0w r C o.dst s) (Z06 P E o.op s.t s.h)) none
theorem Zov{P:Program}(E:Env2 P)(C:CallF)(rd:Option Nat)(o:Oper)(s:St):Qlx P E C rd o s=Xyb E C rd o s:=by
 unfold Qlx Xyb
 rw[Zi0]
 cases hd:Qif s o.dst with
 | false=>rfl
 | true =>
  simp only[Bool.not_true,Bool.false_eq_true,if_false,bq_true]
  rw[Zts]
  have hdef:∀ c,o.op=.defer c->aop E s.t s.h o=none:=by
   intro c hc;simp[aop,hc]
  split
  ·rename_i c hc
   rw[hdef c hc]
   simp only[Ztl,hc]
   cases rd with
   | none=>cases Yfh E s.t c <;> rfl
   | some _=>rfl
  ·rename_i hne
   cases ha:aop E s.t s.h o with
   | none =>
    simp only[Ztl]
    all_goals (split <;> first | rfl | (rename_i c hc;exact absurd hc (hne c)))
   | some r =>
    simp only
    cases r with
    | val v h=>show some _=_;rw[Ybq]
    | skip h=>show some _=_;rw[Ybq]
    | enter f args h =>
     show Zub o.dst s (C.fn f args h)=_
     simp only[Zub]
     rcases C.fn f args h with _ | ⟨_ | _,h'⟩
     ·rfl
     ·simp only[ob_some,Ybq]
     ·rfl
    | round f args h =>
     show Zub o.dst s (C.rnd f args h)=_
     simp only[Zub]
     rcases C.rnd f args h with _ | ⟨_ | _,h'⟩
     ·rfl
     ·simp only[ob_some,Ybq]
     ·rfl
    | defer d h=>rfl
    | panic v h=>rfl
def Zs3(ops:List Oper)(t:Tm)(o:Oper):Option Bool:=Option.rec (motive:=fun _=>Option Bool) (some true) (fun _=>Qg ops t o) o.guard
theorem Znm(ops:List Oper)(t:Tm)(o:Oper):Zs3 ops t o=Qg ops t o:=by
 unfold Zs3
 cases hg:o.guard with
 | none=>simp[Qg,hg]
 | some p=>rfl
abbrev Zy2:=∀ P:Program,Env2 P->CallF->Option Nat->List Oper->St->XS
def goK(f:St->XS)(p:Exit × St):XS:=Prod.rec (motive:=fun _=>XS) (fun e s=>Exit.rec (motive:=fun _=>XS) (f s) (fun _=>none) (fun _=>none) none (fun ch=>some (.panic ch,s)) none e) p
def Z0m:Zy2:=fun _ _ _ _ _ s=>some (.normal,s)
def Zt7(o:Oper)(_:List Oper)(f:Zy2):Zy2:=fun P E C rd ops s =>
 ob (Zs3 ops s.t o) fun b=>bq b (ob (Qlx P E C rd o s) (goK (f P E C rd ops))) (bq (Zz4 s.t.size o.dst) (f P E C rd ops (Zwj s o.dst Qw s.h)) none)
def Zv4(P:Program)(E:Env2 P)(C:CallF)(rd:Option Nat)(ops l:List Oper)(s:St):XS:=List.rec (motive:=fun _=>Zy2) Z0m Zt7 l P E C rd ops s
theorem Zm1{P:Program}(E:Env2 P)(C:CallF)(rd:Option Nat)(ops:List Oper):∀ (l:List Oper) (s:St),Zv4 P E C rd ops l s=Xyu E C rd ops l s
 | [],s=>rfl
 | o::r,s=>by
  have ih:=Zm1 E C rd ops r
  show Zt7 o r (fun P E C rd ops s=>Zv4 P E C rd ops r s) P E C rd ops s=_
  simp only[Zt7,Xyu,Znm,Zov,Zi0,Ybq,ih]
  cases Qg ops s.t o with
  | none=>rfl
  | some b =>
   simp only[ob_some]
   cases b with
   | true =>
    simp only[bq_true]
    rcases Xyb E C rd o s with _ | ⟨e,s'⟩
    ·rfl
    ·cases e <;> first | rfl | (show Zv4 P E C rd ops r s'=_;exact ih s')
   | false =>
    simp only[bq_false]
    cases Qif s o.dst <;> rfl
abbrev Xbb:=∀ P:Program,Env2 P->CallF->Option Nat->Nat->St->XS
def Yis(f:St->XS)(p:Exit × St):XS:=Prod.rec (motive:=fun _=>XS) (fun e s=>Exit.rec (motive:=fun _=>XS) (f s) (fun i=>some (.exit i,s)) (fun i=>some (.goto i,s)) (some (.ret,s)) (fun ch=>some (.panic ch,s)) (some (.outgrown,s)) e) p
theorem Q90(f:St->XS)(s:St):Yis f (.normal,s)=f s:=rfl
def Zv3:Xbb:=fun _ _ _ _ _ s=>some (.normal,s)
def Zqu(_:Nat)(ops:Array Oper)(draw:Bool):Xbb:=fun P E C rd _ s=>bq draw (ob (Xd1 E C ops.toList s) fun s'=>some (.normal,s')) (Zv4 P E C rd ops.toList ops.toList s)
def Z11(_ _:Code)(fx fy:Xbb):Xbb:=fun P E C rd k s=>ob (fx P E C rd k s) (Yis (fy P E C rd k))
def Zyv(c:Operand)(_ _:Code)(fx fy:Xbb):Xbb:=fun P E C r k s=>ob (rd c E.G.n s.t) fun v=>Value.rec (motive_1:=fun _=>XS) (motive_2:=fun _=>Unit) (motive_3:=fun _=>Unit)
 (fun b=>bq b (fx P E C r k s) (fy P E C r k s)) (fun _ _=>none) (fun _ _=>none) (fun _ _ _=>none) (fun _=>none) (fun _=>none) (fun _ _ _=>none) (fun _=>none) (fun _=>none) (fun _ _ _ _ _=>none) none (fun _ _ _=>none) none (fun _ _=>none) (fun _ _=>none)
 (fun _ _=>()) () (fun _ _ _ _=>()) v
def Zwn(id:Nat)(_:Code)(f:Xbb):Xbb:=fun P E C rd k s=>ob (f P E C rd k s) fun p=>Prod.rec (motive:=fun _=>XS) (fun e s=>Exit.rec (motive:=fun _=>XS) (some (.normal,s)) (fun i=>bq (Nat.beq i id) (some (.normal,s)) (some (.exit i,s))) (fun i=>some (.goto i,s)) (some (.ret,s)) (fun ch=>some (.panic ch,s)) (some (.outgrown,s)) e) p
def Zp8(body:St->XS)(k:Nat):St->XS:=Nat.rec (motive:=fun _=>St->XS) (fun _=>none) (fun _ f s=>ob (body s) (Yis f)) k
def Zyl(_:Code)(f:Xbb):Xbb:=fun P E C rd k s=>Zp8 (f P E C rd k) k s
def Zzb(g:Operand)(ps:Array Tmp)(asg bd:Code)(_ _:Xbb):Xbb:=fun _ E C rd _ s=>Zfz E C rd g ps asg bd s
def Zy9(id:Nat):Xbb:=fun _ _ _ _ _ s=>some (.exit id,s)
def Zx6(_:Code)(_:Xbb):Xbb:=fun _ _ _ _ _ _=>none
def Zx1(_:Nat):Xbb:=Zv3
def Zzv(_:Nat):Xbb:=fun _ _ _ _ _ _=>none
def Z0v:Xbb:=fun _ _ _ _ _ s=>some (.ret,s)
def Zsc(_:String):Xbb:=fun _ _ _ _ _ _=>none
def Q3r(P:Program)(E:Env2 P)(C:CallF)(rd:Option Nat)(k:Nat)(c:Code)(s:St):XS :=
 Code.rec (motive:=fun _=>Xbb) Zv3 Zqu Z11 Zyv Zwn Zyl Zzb Zy9 Zx6 Zx1 Zzv Z0v Zsc c P E C rd k s
theorem Zdh{f g:St->XS}(h:∀ s,f s=g s):∀ (k:Nat) (s:St),Zp8 f k s=Xqs g k s
 | 0,s=>rfl
 | k+1,s=>by
  show ob (f s) (Yis (Zp8 f k))=_
  rw[h s]
  simp only[Xqs]
  rcases g s with _ | ⟨e,s'⟩
  ·rfl
  ·simp only[ob_some]
   cases e <;> first | rfl | (rw[Q90];exact Zdh h k s')
theorem Q87{P:Program}(E:Env2 P)(C:CallF)(rd:Option Nat)(k:Nat):∀ (c:Code) (s:St),Q3r P E C rd k c s=Qvw E C rd k c s
 | .skip,s=>rfl
 | .region id ops true,s=>by
  show ob (Xd1 E C ops.toList s) _=_
  simp only[Qvw]
  cases Xd1 E C ops.toList s <;> rfl
 | .region id ops false,s=>by
  show Zv4 P E C rd ops.toList ops.toList s=_
  simp only[Qvw,Zm1]
 | .seq x y,s=>by
  show ob (Q3r P E C rd k x s) (Yis (Q3r P E C rd k y))=_
  rw[Q87 E C rd k x s]
  simp only[Qvw]
  rcases Qvw E C rd k x s with _ | ⟨e,s'⟩
  ·rfl
  ·simp only[ob_some]
   cases e <;> first | rfl | (rw[Q90];exact Q87 E C rd k y s')
 | .cond c x y,s=>by
  show ob (Go.Ab.rd c E.G.n s.t) _=_
  rw[Qt4]
  simp only[Qvw]
  rcases aev E.G s.t c with _ | v
  ·rfl
  ·cases v <;> first | rfl | skip
   rename_i b
   cases b with
   | true=>exact Q87 E C rd k x s
   | false=>exact Q87 E C rd k y s
 | .block id c,s=>by
  show ob (Q3r P E C rd k c s) _=_
  rw[Q87 E C rd k c s]
  simp only[Qvw]
  rcases Qvw E C rd k c s with _ | ⟨e,s'⟩
  ·rfl
  ·simp only[ob_some]
   cases e <;> first | rfl | skip
   rename_i i
   simp only
   cases Nat.beq i id <;> rfl
 | .loop c,s=>by
  show Zp8 (Q3r P E C rd k c) k s=_
  simp only[Qvw]
  exact Zdh (Q87 E C rd k c) k s
 | .rangeFunc g ps asg bd,s=>rfl
 | .exit id,s=>rfl
 | .scope c,s=>rfl
 | .label l,s=>rfl
 | .goto l,s=>rfl
 | .ret,s=>rfl
 | .refuse w,s=>rfl
def Zf0 (P : Program) (E : Env2 P) (C : CallF) (D : Qov) (k : Nat) (f : FuncId) (args : List Value) (h : Heap) : Option (AEnd × Heap) :=
  ob (E.fn.get f) fun fn => ob fn.body fun c => bq (Nat.ble args.length fn.ntmps) (match Q3r P E C none k c ⟨Z1 fn args, [], h⟩ with
      | some (.normal, s) | some (.ret, s) => Xg E D fn s.t s.ds .returning s.h
      | some (.panic ch, s) => Xg E D fn s.t s.ds (.panicking ch) s.h
      | _ => none) none
theorem Zo3{P:Program}(E:Env2 P)(C:CallF)(D:Qov)(k:Nat)(f:FuncId)(args:List Value)(h:Heap):Zf0 P E C D k f args h=Za9 E C D k f args h:=by
 unfold Zf0 Za9
 cases E.fn.get f with
 | none=>rfl
 | some fn =>
  simp only[ob_some]
  cases fn.body with
  | none=>rfl
  | some c =>
   simp only[ob_some]
   cases Nat.ble args.length fn.ntmps with
   | false=>rfl
   | true =>
    simp only[bq_true,Q87]
    rcases Qvw E C none k c ⟨Z1 fn args,[],h⟩with _ | ⟨e,s⟩
    ·rfl
    ·cases e <;> rfl
def Zdi(P:Program)(E:Env2 P)(C:CallF)(k:Nat)(l:Nat)(args:List Value)(h:Heap):Option (AEnd × Heap) :=
 match h.get l with
 | some (.obj (.loop .ready _ t ps asg bd _))=>match Ze4 t.size ps.toList args with
  | false=>none
  | true=>match Q3r P E C (some l) k asg ⟨X3n t ps.toList args,[],h⟩with
   | some (.normal,s1)=>match s1.h.get l with
    | some (.obj (.loop .ready p1 t1 ps1 as1 bd1 d1))=>match Q3r P E C (some l) k bd {s1 with h:=s1.h.set l (some (.obj (.loop .busy p1 t1 ps1 as1 bd1 d1)))} with
     | some (e,s2)=>match Yq4 e,s2.h.get l with
      | some j,some (.obj (.loop _ _ t2 ps2 as2 bd2 d2))=>some (.ret (.bool j.isNone),s2.h.set l (some (.obj (.loop (if j.isNone then .ready else .done) j t2 ps2 as2 bd2 d2))))
      | _,_=>none
     | none=>none
    | _=>none
   | _=>none
 | _=>none
theorem Zhd{P:Program}(E:Env2 P)(C:CallF)(k:Nat)(l:Nat)(args:List Value)(h:Heap):Zdi P E C k l args h=Ydt E C k l args h:=by
 unfold Zdi Ydt
 simp only[Q87]
 rfl
def Qm3(P:Program)(E:Env2 P)(X:Q83)(k:Nat)(n:Nat):CallF :=
 Nat.rec (motive:=fun _=>CallF) ⟨X,fun _ _ _=>none⟩ (fun _ C=>⟨fun f args h=>Option.rec (motive:=fun _=>Option (AEnd × Heap)) (Zf0 P E C (Xl0 E C k) k f args h) (fun r=>some r) (X f args h),fun l args h=>Zdi P E C k l args h⟩) n
theorem Y2z{P:Program}(E:Env2 P)(X:Q83)(k:Nat):∀ n,Qm3 P E X k n=Yjq E X k n
 | 0=>rfl
 | n+1=>by
  have ih:=Y2z E X k n
  show(⟨fun f args h=>Option.rec (motive:=fun _=>Option (AEnd × Heap)) (Zf0 P E (Qm3 P E X k n) (Xl0 E (Qm3 P E X k n) k) k f args h) (fun r=>some r) (X f args h),fun l args h=>Zdi P E (Qm3 P E X k n) k l args h⟩:CallF)=_
  rw[ih]
  simp only[Yjq,CallF.mk.injEq]
  refine⟨?_,?_⟩
  ·funext f args h
   rw[Zo3]
   cases X f args h <;> rfl
  ·funext l args h
   exact Zhd E _ k l args h
end Go.Ab
