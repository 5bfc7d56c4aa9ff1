import Derived.Test.YtgmelhgoiepoaaaGreatDoorAbD
import Derived.KernelRfl
import Derived.ChangeArms
import Derived.OpenShut
import Derived.Lib.LaidU8
import Derived.ChangeSame
import Derived.RowKit
import Derived.MakeChecks
set_option linter.all false
noncomputable section
namespace Go.Ab
def Z4h(P:Program)(f:Nat):Option Func:=match P.funcs[f]? with
 | some F=>if F.name == "runtime.NumGoroutine" then none else if F.body.isSome then some F else none
 | none=>none
theorem Z5e{P:Program}{f:Nat}{F:Func}(h:Z4h P f=some F):P.funcs[f]? = some F/\(F.name == "runtime.NumGoroutine")=false/\F.body.isSome=true:=by
 unfold Z4h at h
 split at h
 ·rename_i F0 h0
  split at h
  ·cases h
  ·rename_i h1
   split at h
   ·rename_i h2;cases h;exact⟨h0,by simpa using h1,h2⟩
   ·cases h
 ·cases h
def Znm(P:Program):Nat->Tr Func
 | 0 => .leaf
 | n+1=>(Znm P n).put n (Z4h P n)
theorem Zg4(P:Program):∀ (n:Nat) (f:FuncId) (F:Func),(Znm P n).get f=some F->Z4h P f=some F
 | 0,f,F,h=>by simp[Znm]at h
 | n+1,f,F,h=>by
  rw[Znm,Tr.get_put]at h
  split at h
  ·rename_i e;subst e;exact h
  ·exact Zg4 P n f F h
def Z5i(P:Program)(f:Nat):Option ExtK:=match P.funcs[f]? with
 | some F=>Z11 F
 | none=>none
def Znt(P:Program):Nat->Tr ExtK
 | 0 => .leaf
 | n+1=>(Znt P n).put n (Z5i P n)
theorem Zn0(P:Program):∀ (n:Nat) (f:FuncId) (x:ExtK),(Znt P n).get f=some x->Z5i P f=some x
 | 0,f,x,h=>by simp[Znt]at h
 | n+1,f,x,h=>by
  rw[Znt,Tr.get_put]at h
  split at h
  ·rename_i e;subst e;exact h
  ·exact Zn0 P n f x h
theorem Z4j{P:Program}{f:Nat}{x:ExtK}(h:Z5i P f=some x):∃ F,P.funcs[f]? = some F/\Z11 F=some x:=by
 unfold Z5i at h
 split at h
 ·rename_i F hF;exact⟨F,hF,h⟩
 ·cases h
def mkE(P:Program)(n b:Nat):Env2 P :=
 {ty:=Zfr P P.types.size,tyok:=fun t r h=>Z3y (Zjp P _ t r h),G:=⟨n,b⟩,fn:=Znm P P.funcs.size,fnok:=fun f F h=>Z5e (Zg4 P _ f F h),ex:=Znt P P.funcs.size,exok:=fun f x h=>Z4j (Zn0 P _ f x h)}
section
variable{H:Type}(P:Program)
def Xn7(g:TypeId->DataW H->Option (List Value))(tot:Nat):List Field->List (DataW H)->Nat->Option (List Value)
 | [],[],acc=>if acc == tot then some []else none
 | f::fs,d::ds,acc=>if f.offset == acc then(match g f.type d with
  | some l=>if l.length == P.cellsOf f.type then(match Xn7 g tot fs ds (acc+l.length)with | some r=>some (l++r) | none=>none)else none
  | none=>none)else none
 | _,_,_=>none
def Zjz(g:DataW H->Option (List Value))(sz tot:Nat):List (DataW H)->Nat->Option (List Value)
 | [],acc=>if acc == tot then some []else none
 | d::ds,acc=>match g d with
  | some l=>if l.length == sz then(match Zjz g sz tot ds (acc+sz)with | some r=>some (l++r) | none=>none)else none
  | none=>none
def Y3m:Nat->TypeId->DataW H->Option (List Value)
 | 0,_,_=>none
 | k+1,t,d =>
  match P.underlying t,d with
  | some .bool,.lit (.bool b)=>some [.bool b]
  | some (.int k'),.lit (.int _ n)=>some [.int k' n]
  | some .string,.lit (.string l)=>some [.string ⟨l.toArray⟩]
  | some (.struct fs),.agg ds=>Xn7 P (Y3m k) (P.cellsOf t) fs.toList ds 0
  | some (.array n e),.agg ds=>if ds.length == n then Zjz (Y3m k e) (P.cellsOf e) (P.cellsOf t) ds 0 else none
  | _,_=>none
end
section
variable{H:Type}{enc:TypeId × Value->H}{P:Program}{w:World}{base:Nat}{sp:Nat->Bool}{held:Bool}
theorem Y43{g:TypeId->DataW H->Option (List Value)}{cs:List Value}{n:Nat}
  (hg:∀ t d l cs p,g t d=some l->DataW.trod enc P w base sp held n t cs=some (d,p)->cs=l) :
  ∀ (fs:List Field) (ds:List (DataW H)) (acc:Nat) (l:List Value),Xn7 P g cs.length fs ds acc=some l ->
  (∀ (i:Nat) (f:Field) d,fs[i]? = some f->ds[i]? = some d->∃ p,DataW.trod enc P w base sp held n f.type ((cs.drop f.offset).take (P.cellsOf f.type))=some (d,p))->cs.drop acc=l
 | [],[],acc,l,h,_=>by
  simp only[Xn7]at h
  split at h
  ·rename_i e;cases h;simp at e;simp[e]
  ·cases h
 | f::fs,d::ds,acc,l,h,ht=>by
  simp only[Xn7]at h
  split at h
  ·rename_i e0
   simp only[beq_iff_eq]at e0
   split at h
   ·rename_i l0 hl0
    split at h
    ·rename_i e1
     simp only[beq_iff_eq]at e1
     split at h
     ·rename_i r hr
      cases h
      have ih:=Y43 hg fs ds _ r hr (fun i f' d' hf hd=>ht (i+1) f' d' (by simpa using hf) (by simpa using hd))
      obtain⟨p,h0⟩:=ht 0 f d (by simp) (by simp)
      have h1:=hg _ _ _ _ _ hl0 h0
      rw[e0,<- e1]at h1
      rw[<- ih,<- List.drop_drop,<- List.take_append_drop l0.length (cs.drop acc),h1]
      simp
     ·cases h
    ·cases h
   ·cases h
  ·cases h
 | [],_::_,_,_,h,_=>by simp[Xn7]at h
 | _::_,[],_,_,h,_=>by simp[Xn7]at h
theorem Zfa{g:DataW H->Option (List Value)}{cs:List Value}{n sz:Nat}{e:TypeId}
  (hg:∀ d l cs p,g d=some l->DataW.trod enc P w base sp held n e cs=some (d,p)->cs=l) :
  ∀ (ds:List (DataW H)) (j:Nat) (l:List Value),Zjz g sz cs.length ds (j*sz)=some l ->
  (∀ (i:Nat) d,ds[i]? = some d->∃ p,DataW.trod enc P w base sp held n e ((cs.drop ((j+i)*sz)).take sz)=some (d,p))->cs.drop (j*sz)=l
 | [],j,l,h,_=>by
  simp only[Zjz]at h
  split at h
  ·rename_i e;cases h;simp at e;simp[e]
  ·cases h
 | d::ds,j,l,h,ht=>by
  simp only[Zjz]at h
  split at h
  ·rename_i l0 hl0
   split at h
   ·rename_i e1
    simp only[beq_iff_eq]at e1
    split at h
    ·rename_i r hr
     cases h
     have e2:j*sz+sz=(j+1)*sz:=by rw[Nat.add_mul];simp
     rw[e2]at hr
     have ih:=Zfa hg ds (j+1) r hr (fun i d' hd=>by
      have:=ht (i+1) d' (by simpa using hd)
      rwa [show j+(i+1)=j+1+i from by omega]at this)
     obtain⟨p,h0⟩:=ht 0 d (by simp)
     have h1:=hg _ _ _ _ hl0 h0
     simp only[Nat.add_zero]at h1
     rw[<- ih,<- e2,<- List.drop_drop,<- List.take_append_drop sz (cs.drop (j*sz)),h1]
     simp[e1]
    ·cases h
   ·cases h
  ·cases h
theorem Yii:∀ (k:Nat) (t:TypeId) (d:DataW H) (l cs:List Value) (n:Nat) (p:List MemPlace),Y3m P k t d=some l->DataW.trod enc P w base sp held n t cs=some (d,p)->cs=l
 | 0,_,_,_,_,_,_,h,_=>by simp[Y3m]at h
 | k+1,t,d,l,cs,n,p,h,ht=>by
  simp only[Y3m]at h
  split at h
  ·rename_i b hu
   cases h
   obtain⟨b',rfl,e⟩:=DataW.trod_bool hu ht
   cases e;rfl
  ·rename_i k' k2 z hu
   cases h
   obtain⟨n',rfl,e,_⟩:=DataW.trod_int hu ht
   cases e;rfl
  ·rename_i s hu
   cases h
   obtain⟨s',rfl,e,_⟩:=DataW.trod_string hu ht
   cases e;simp
  ·rename_i fs ds hu
   obtain⟨xs,m,rfl,e,hl,hxl,hall⟩:=DataW.trod_struct hu ht
   simp only[Prod.mk.injEq,DataW.agg.injEq]at e
   rw[<- hl]at h
   have:=Y43 (n:=m) (fun t d l cs p h1 h2=>Yii k t d l cs m p h1 h2) _ _ _ _ h (fun i f d hf hd=>by
    have h1:=hall i f (by simpa using hf)
    rw[e.1,List.getElem?_map]at hd
    rw[h1]
    cases hx:xs[i]? with
    | none=>rw[hx]at hd;cases hd
    | some y=>rw[hx]at hd;cases hd;exact⟨y.2,rfl⟩)
   simpa using this
  ·rename_i n' e' ds hu
   obtain⟨xs,m,rfl,e,hl,hxl,hall⟩:=DataW.trod_array hu ht
   simp only[Prod.mk.injEq,DataW.agg.injEq]at e
   split at h
   ·rename_i hn
    rw[<- hl]at h
    have:=Zfa (n:=m) (fun d l cs p h1 h2=>Yii k e' d l cs m p h1 h2) ds 0 l (by simpa using h) (fun i d hd=>by
     rw[e.1,List.getElem?_map]at hd
     cases hx:xs[i]? with
     | none=>rw[hx]at hd;cases hd
     | some y =>
      rw[hx]at hd;cases hd
      have hi:i < xs.length:=(List.getElem?_eq_some_iff.1 hx).1
      have h1:=hall i (by omega)
      rw[hx]at h1
      simp only[Nat.zero_add]
      exact⟨y.2,h1⟩)
    simpa using this
   ·cases h
  ·cases h
end
def Zjk:List (Nat × List Value)->Tr Blk
 | [] => .leaf
 | x::l=>(Zjk l).put x.1 (some (.cells false 0 x.2))
def Qyd(n:Nat)(l:List (Nat × List Value)):Heap:=⟨n,n,Zjk l⟩
def Y46(n:Nat):Ren:=fun b=>if b < n then some ⟨b,0,0,0,none⟩else none
theorem Xgm:∀ (l:List (Nat × List Value)) (b:Nat) (x:Blk),(Zjk l).get b=some x->∃ c,(b,c) ∈ l/\x=.cells false 0 c
 | [],b,x,h=>by simp[Zjk]at h
 | y::l,b,x,h=>by
  simp only[Zjk]at h
  rw[Tr.get_put]at h
  split at h
  ·rename_i e;subst e;cases h;exact⟨y.2,by simp,rfl⟩
  ·obtain⟨c,h1,h2⟩:=Xgm l b x h
   exact⟨c,by simp[h1],h2⟩
theorem Zxo{W:World}{n:Nat}{l:List (Nat × List Value)}(hn:n<=W.heap.size)(hl:∀ x ∈ l,(∀ v ∈ x.2,flat v=true/\v.oneCell'=true)/\∃ C e fr,W.heap[x.1]? = some (.cells C e fr)/\C.toList=x.2) :
  HRel ⟨n,W.heap.size⟩ (Y46 n) (Qyd n l) W:=by
 have hget:∀ b x,(Qyd n l).get b=some x->b < n/\∃ c,(b,c) ∈ l/\x=.cells false 0 c:=by
  intro b x h
  unfold Heap.get at h
  split at h
  ·rename_i hb;exact⟨hb,Xgm l b x h⟩
  ·cases h
 have hα:∀ b p,Y46 n b=some p->b < n/\p=⟨b,0,0,0,none⟩:=by
  intro b p h
  unfold Y46 at h
  split at h
  ·cases h;exact⟨by assumption,rfl⟩
  ·cases h
 have hown:∀ b,(Qyd n l).own b=false:=by
  intro b
  unfold Heap.own
  cases hb:(Qyd n l).get b with
  | none=>rfl
  | some x=>obtain⟨_,c,_,rfl⟩:=hget b x hb;rfl
 refine⟨fun b p h => ?_,fun b p x hb hx => ?_,fun b c p q _ _ _ ho _ => ?_,fun g hg=>⟨?_,hown g⟩,Nat.le_refl _,fun b x hx => ?_,fun b p x hb hx => ?_,Nat.le_refl _⟩
 ·obtain⟨h1,rfl⟩:=hα b p h
  exact⟨h1,trivial⟩
 ·obtain⟨h1,rfl⟩:=hα b p hb
  obtain⟨_,c,hc,rfl⟩:=hget b x hx
  obtain⟨hf,C,e,fr,h2,h3⟩:=hl _ hc
  refine⟨rfl,.inr ⟨C,e,fr.1,fr.2,h2,fun i v hv => ?_,fun h=>by cases h⟩⟩
  have hv':=hf v (List.mem_of_getElem? hv)
  simp only at h3
  refine⟨?_,flat_ok _ v hv'.1,hv'.2⟩
  rw[Qgi _ hv'.1,<- hv,<- h3]
  simp
 ·rw[hown b]at ho;cases ho
 ·simp[Y46,show g < n from hg]
 ·obtain⟨_,c,hc,rfl⟩:=hget b x hx
  intro v hv
  exact⟨flat_ok _ v ((hl _ hc).1 v hv).1,((hl _ hc).1 v hv).2⟩
 ·obtain⟨h1,rfl⟩:=hα b p hb
  obtain⟨_,c,_,rfl⟩:=hget b x hx
  refine⟨fun h => ?_,fun _ _=>⟨Nat.lt_of_lt_of_le h1 hn,rfl⟩⟩
  simp[Blk.own]at h
def Z10(P:Program)(laid:List (String × DataW Unit))(n:Nat)(l:List (Nat × List Value)):Prop :=
 ∀ x ∈ l,x.1 < n/\(∀ v ∈ x.2,flat v=true/\v.oneCell'=true)/\∃ name t d k,(name,d) ∈ laid/\P.globalNamed name=some x.1/\(P.globals[x.1]?).map (·.type)=some t/\Y3m P k t d=some x.2
theorem Zdu{P:Program}{W:World}{laid:List (String × DataW Unit)}{n:Nat}{l:List (Nat × List Value)}(h:laidMet P laid W)(hl:Z10 P laid n l)(hn:n<=W.heap.size) :
  HRel ⟨n,W.heap.size⟩ (Y46 n) (Qyd n l) W:=by
 refine Zxo hn fun x hx => ?_
 obtain⟨_,hf,name,t,d,k,hm,hg,ht,hd⟩:=hl x hx
 refine⟨hf,?_⟩
 obtain⟨g,t',cs,fuel,p,h1,h2,h3,h4⟩:=Lib.laidMet.reads h hm
 obtain rfl:=Option.some.inj (hg.symm.trans h1)
 obtain rfl:=Option.some.inj (ht.symm.trans h2)
 have:=Yii k _ _ _ _ _ _ hd h4
 unfold World.var? at h3
 rw[hg]at h3
 simp only[Option.bind_some]at h3
 split at h3
 ·rename_i C e fr hC
  cases h3
  exact⟨_,e,fr,hC,this⟩
 ·cases h3
def ob{A B:Type}(x:Option A)(f:A->Option B):Option B:=Option.rec (motive:=fun _=>Option B) none f x
@[simp] theorem ob_some {A B:Type} (a:A) (f:A->Option B):ob (some a) f=f a:=rfl
@[simp] theorem ob_none {A B:Type} (f:A->Option B):ob none f=none:=rfl
def bq{A:Type}(b:Bool)(x y:A):A:=Bool.rec (motive:=fun _=>A) y x b
@[simp] theorem bq_true {A:Type} (x y:A):bq true x y=x:=rfl
@[simp] theorem bq_false {A:Type} (x y:A):bq false x y=y:=rfl
def rT(i:Nat)(_:Nat)(t:Tm):Option Value:=t.t.get i
def rC(v:Value)(_:Nat)(_:Tm):Option Value:=bq (flat v) (some v) none
def rG(g n:Nat)(_:Tm):Option Value:=bq (Nat.blt g n) (some (.pointer (some ⟨g,0,none⟩))) none
def rF(f:FuncId)(_:Nat)(_:Tm):Option Value:=some (.func (.func f) #[] #[])
def rd(x:Operand)(n:Nat)(t:Tm):Option Value:=Operand.rec (motive:=fun _=>Nat->Tm->Option Value) rT rC rG rF x n t
theorem Qrk(G:Bs)(t:Tm)(x:Operand):rd x G.n t=aev G t x:=by
 cases x with
 | tmp i=>rfl
 | const v=>show rC v 0 t=_;simp only[rC,aev];cases flat v <;> rfl
 | global g =>
  show rG g G.n t=_
  simp only[rG,aev]
  by_cases h:g < G.n
  ·rw[show Nat.blt g G.n=true from by simpa using h];simp[h]
  ·rw[Bool.eq_false_iff.2 (fun hb:Nat.blt g G.n=true=>h (by simpa using hb))];simp[h]
 | func f=>rfl
def gvF(r:Option (Value × Heap)):Option Res:=ob r fun p=>Prod.rec (motive:=fun _=>Option Res) (fun v h=>some (.val v h)) p
def g0F(h:Heap)(r:Option Value):Option Res:=ob r fun v=>some (.val v h)
def gsF(r:Option Heap):Option Res:=ob r fun h=>some (.skip h)
theorem Xk1(r:Option (Value × Heap)):gvF r=gv r:=by cases r <;> rfl
theorem Qs8(h:Heap)(r:Option Value):g0F h r=g0 h r:=by cases r <;> rfl
theorem Zud(r:Option Heap):gsF r=gs r:=by cases r <;> rfl
abbrev OpF:=∀ P:Program,Env2 P->Tm->Heap->Option Res
def Zvk(x:Operand):OpF:=fun _ E t h=>g0F h (rd x E.G.n t)
def Z7g(c a b:Operand):OpF:=fun _ E t h=>match rd c E.G.n t with
 | some (.bool true)=>g0F h (rd a E.G.n t)
 | some (.bool false)=>g0F h (rd b E.G.n t)
 | _=>none
def Zyp(e:TypeId):OpF:=fun _ E _ h=>gvF (Vt E.toEnv e h)
def Jds(_:TypeId)(x:Operand):OpF:=fun _ E t h=>ob (rd x E.G.n t) fun v=>gvF (Zxc v h)
def Zzr(ty:TypeId)(ps:Array (Nat × Operand)):OpF:=fun _ E t h=>ob (Qf E.G t ps.toList) fun l=>g0F h (Qk7 E.toEnv ty l)
def Xpf(ty:TypeId)(n:Nat)(ps:Array (Nat × Operand)):OpF:=fun _ E t h=>ob (Qf E.G t ps.toList) fun l=>gvF (Xc E.toEnv ty n l h)
def Xyd(ty:TypeId)(m k x:Operand):OpF:=fun _ E t h=>ob (rd m E.G.n t) fun a=>ob (rd k E.G.n t) fun b=>ob (rd x E.G.n t) fun c=>gsF (Qep E.toEnv ty a b c h)
def Z91(ty:TypeId)(a:Operand):OpF:=fun _ E t h=>ob (rd a E.G.n t) fun x=>g0F h (Qkm E.toEnv ty x h)
def Zza(ty:TypeId)(a v:Operand):OpF:=fun _ E t h=>ob (rd a E.G.n t) fun x=>ob (rd v E.G.n t) fun y=>gsF (Qia E.toEnv ty x y h)
def oN1(_:Nat):OpF:=fun _ _ _ _=>none
def Yik(x:Operand):OpF:=fun _ E t h=>ob (rd x E.G.n t) fun v=>g0F h (Xdk v)
def Je8(op:BinOp)(ty:TypeId)(x y:Operand)(_:TypeId):OpF:=fun _ E t h=>ob (rd x E.G.n t) fun a=>ob (rd y E.G.n t) fun b=>g0F h (X9 E.toEnv op ty (Q6 x || Q6 y) a b)
def oUn(op:UnOp)(_:TypeId)(x:Operand):OpF:=fun _ E t h=>ob (rd x E.G.n t) fun v=>g0F h (aUn op v)
def Z80(src dst:TypeId)(x:Operand):OpF:=fun _ E t h=>ob (rd x E.G.n t) fun v=>bq (Qr3 E.toEnv src dst) (g0F h (Qm6 E.toEnv src dst v)) (gvF (Xqe E.toEnv src dst v h))
def Zpu(ty:TypeId)(x:Operand):OpF:=fun _ E t h=>ob (rd x E.G.n t) fun v=>g0F h (Y8e E.toEnv ty v)
def Zad(ty:TypeId)(x:Operand):OpF:=fun _ E t h=>ob (rd x E.G.n t) fun v=>g0F h (Q8p E.toEnv ty v)
def Zpv(fn:Fn)(a b:Array Operand):OpF:=fun _ E t h=>ob (evs E.G t a.toList) fun x=>ob (evs E.G t b.toList) fun y=>g0F h (Xxt fn x y)
def Y8h(ty:TypeId)(r:Option Operand):OpF:=fun _ E t h=>ob (evO E.G t r) fun hv=>gvF (Qw1 E.toEnv ty hv h)
def oN2(_:TypeId)(_:Operand):OpF:=fun _ _ _ _=>none
def X0y(ty:TypeId)(n c:Operand):OpF:=fun _ E t h=>ob (rd n E.G.n t) fun x=>ob (rd c E.G.n t) fun y=>gvF (Qpd E.toEnv ty x y h)
def Z07(ty:TypeId)(x:Operand)(lo hi mx:Option Operand):OpF:=fun _ E t h=>ob (rd x E.G.n t) fun v=>ob (evO E.G t lo) fun a=>ob (evO E.G t hi) fun b=>ob (evO E.G t mx) fun c=>gvF (Qdk E.toEnv ty v a b c h)
def X2x(ty:TypeId)(x:Operand)(f:Nat):OpF:=fun _ E t h=>ob (rd x E.G.n t) fun v=>g0F h (Vb E.toEnv ty v f)
def Z12(ty:TypeId)(x:Operand)(f:Nat):OpF:=fun _ E t h=>ob (rd x E.G.n t) fun v=>g0F h (Zti E.toEnv ty v f)
def X17(ty:TypeId)(x i:Operand):OpF:=fun _ E t h=>ob (rd x E.G.n t) fun a=>ob (rd i E.G.n t) fun b=>g0F h (Xq E.toEnv ty a b)
def Zz9(ty:TypeId)(x i:Operand):OpF:=fun _ E t h=>ob (rd x E.G.n t) fun a=>ob (rd i E.G.n t) fun b=>g0F h (Zuo E.toEnv ty a b)
def Zri(ty:TypeId)(x k:Operand)(ok:Bool):OpF:=fun _ E t h=>ob (rd x E.G.n t) fun a=>ob (rd k E.G.n t) fun b=>g0F h (Qrt E.toEnv ty a b ok h)
def Ynn(ty:TypeId)(m k:Operand):OpF:=fun _ E t h=>ob (rd m E.G.n t) fun a=>ob (rd k E.G.n t) fun b=>gvF (Q6k E.toEnv ty a b h)
def Xox(_:TypeId)(m st x:Operand):OpF:=fun _ E t h=>ob (rd m E.G.n t) fun a=>ob (rd st E.G.n t) fun b=>ob (rd x E.G.n t) fun c=>gsF (Qvb a b c h)
def Zz0(ty:TypeId)(x:Operand):OpF:=fun _ E t h=>ob (rd x E.G.n t) fun v=>gvF (Y2y E.toEnv ty v h)
def Z9l(x:Operand)(s:Bool):OpF:=fun _ E t h=>ob (rd x E.G.n t) fun v=>gvF (Zuz v s h)
def Zyf(x:Operand):OpF:=fun _ E t h=>ob (rd x E.G.n t) fun v=>g0F h (Ztl v h)
def Zo8(x:Operand)(_ ty:TypeId)(ok:Bool):OpF:=fun _ E t h=>ob (rd x E.G.n t) fun v=>g0F h (Xni E.toEnv v ty ok)
def Zbd(x:Operand)(i:Nat):OpF:=fun _ E t h=>ob (rd x E.G.n t) fun v=>g0F h (Q7 v i)
def Z61(P:Program)(E:Env2 P)(fv:Value)(args:List Value)(h:Heap):Option Res:=match Qg fv args with
 | some (f,l)=>match E.fn.get f with
  | some _=>some (.enter f l h)
  | none=>match E.ex.get f with
   | some x=>gv (Y3q x l h)
   | none=>none
 | none=>Yfb fv args h
def Z9t(c:Call):OpF:=fun P E t h=>ob (evs E.G t c.args.toList) fun args=>match c.callee with
 | .builtin b=>Q5 E b c.argTypes.toList args h
 | .value f=>ob (rd f E.G.n t) fun fv=>Z61 P E fv args h
 | .invoke _ _=>none
def oN7(_:Call):OpF:=fun _ _ _ _=>none
def Z02(x:Operand):OpF:=fun _ E t h=>match rd x E.G.n t with
 | some (.iface u v)=>some (.panic (.iface u v) h)
 | _=>none
def oN8(_ _:Operand):OpF:=fun _ _ _ _=>none
def oN9(_:TypeId)(_:Operand)(_:Bool):OpF:=fun _ _ _ _=>none
def Jf1(_:Array SelectCase)(_:Bool):OpF:=fun _ _ _ _=>none
def Jel(P:Program)(E:Env2 P)(o:Op)(t:Tm)(h:Heap):Option Res :=
 Op.rec (motive:=fun _=>OpF) Zvk Zvk Z7g Zyp Jds Zzr Xpf Xyd Z91 Zza oN1 oN1 Yik Je8 oUn Z80 Zpu Zad Zpv Y8h oN2 X0y Z07 X2x Z12 X17 Zz9 Zri
  Xyd Ynn Xox Zz0 Z9l Zyf Zo8 Zbd Z9t oN7 oN7 Z02 oN8 oN9 Jf1 o P E t h
theorem Z9f{P:Program}(E:Env2 P)(t:Tm)(h:Heap)(o:Oper):Jel P E o.op t h=aop E t h o:=by
 obtain⟨d,op,ty,pos,af,g⟩:=o
 have two:∀ {A:Type} (x y:Option Value) (f:Value->Value->Option A),(match x,y with | some a,some b=>f a b | _,_=>none)=ob x fun a=>ob y fun b=>f a b:=by
  intro A x y f;cases x <;> cases y <;> rfl
 cases op with
 | move x=>show Zvk x P E t h=_;simp only[Zvk,aop,Qrk,Qs8]
 | assign x=>show Zvk x P E t h=_;simp only[Zvk,aop,Qrk,Qs8]
 | pick c a b =>
  show Z7g c a b P E t h=_
  simp only[Z7g,aop,Qrk,Qs8]
  rcases aev E.G t c with _ | v
  ·rfl
  ·cases v <;> first | rfl | (rename_i b;cases b <;> rfl)
 | alloc e=>show Zyp e P E t h=_;simp only[Zyp,aop,Xk1]
 | box e x=>show Jds e x P E t h=_;simp only[Jds,aop,Qrk,Xk1];cases aev E.G t x <;> rfl
 | build ty ps=>show Zzr ty ps P E t h=_;simp only[Zzr,aop,Qs8];cases Qf E.G t ps.toList <;> rfl
 | buildSlice ty n ps=>show Xpf ty n ps P E t h=_;simp only[Xpf,aop,Xk1];cases Qf E.G t ps.toList <;> rfl
 | insert ty m k x=>show Xyd ty m k x P E t h=_;simp only[Xyd,aop,Qrk,Zud];cases aev E.G t m <;> cases aev E.G t k <;> cases aev E.G t x <;> rfl
 | load ty a=>show Z91 ty a P E t h=_;simp only[Z91,aop,Qrk,Qs8];cases aev E.G t a <;> rfl
 | store ty a v=>show Zza ty a v P E t h=_;simp only[Zza,aop,Qrk,Zud];cases aev E.G t a <;> cases aev E.G t v <;> rfl
 | ready g=>rfl
 | waits g=>rfl
 | nilCheck x=>show Yik x P E t h=_;simp only[Yik,aop,Qrk,Qs8];cases aev E.G t x <;> rfl
 | binOp op ty x y yt=>show Je8 op ty x y yt P E t h=_;simp only[Je8,aop,Qrk,Qs8];cases aev E.G t x <;> cases aev E.G t y <;> rfl
 | unOp op ty x=>show oUn op ty x P E t h=_;simp only[oUn,aop,Qrk,Qs8];cases aev E.G t x <;> rfl
 | convert s d x =>
  show Z80 s d x P E t h=_;simp only[Z80,aop,Qrk,Qs8,Xk1];cases aev E.G t x
  ·rfl
  ·cases Qr3 E.toEnv s d <;> rfl
 | sliceToArrayPointer ty x=>show Zpu ty x P E t h=_;simp only[Zpu,aop,Qrk,Qs8];cases aev E.G t x <;> rfl
 | makeInterface ty x=>show Zad ty x P E t h=_;simp only[Zad,aop,Qrk,Qs8];cases aev E.G t x <;> rfl
 | makeFunc fn a b=>show Zpv fn a b P E t h=_;simp only[Zpv,aop,Qs8];cases evs E.G t a.toList <;> cases evs E.G t b.toList <;> rfl
 | makeMap ty r=>show Y8h ty r P E t h=_;simp only[Y8h,aop,Xk1];cases evO E.G t r <;> rfl
 | makeChan ty x=>rfl
 | makeSlice ty n c=>show X0y ty n c P E t h=_;simp only[X0y,aop,Qrk,Xk1];cases aev E.G t n <;> cases aev E.G t c <;> rfl
 | slice ty x lo hi mx=>show Z07 ty x lo hi mx P E t h=_;simp only[Z07,aop,Qrk,Xk1];cases aev E.G t x <;> cases evO E.G t lo <;> cases evO E.G t hi <;> cases evO E.G t mx <;> rfl
 | fieldAddr ty x f=>show X2x ty x f P E t h=_;simp only[X2x,aop,Qrk,Qs8];cases aev E.G t x <;> rfl
 | field ty x f=>show Z12 ty x f P E t h=_;simp only[Z12,aop,Qrk,Qs8];cases aev E.G t x <;> rfl
 | indexAddr ty x i=>show X17 ty x i P E t h=_;simp only[X17,aop,Qrk,Qs8];cases aev E.G t x <;> cases aev E.G t i <;> rfl
 | index ty x i=>show Zz9 ty x i P E t h=_;simp only[Zz9,aop,Qrk,Qs8];cases aev E.G t x <;> cases aev E.G t i <;> rfl
 | lookup ty x k ok=>show Zri ty x k ok P E t h=_;simp only[Zri,aop,Qrk,Qs8];cases aev E.G t x <;> cases aev E.G t k <;> rfl
 | mapUpdate ty m k x=>show Xyd ty m k x P E t h=_;simp only[Xyd,aop,Qrk,Zud];cases aev E.G t m <;> cases aev E.G t k <;> cases aev E.G t x <;> rfl
 | mapEntry ty m k=>show Ynn ty m k P E t h=_;simp only[Ynn,aop,Qrk,Xk1];cases aev E.G t m <;> cases aev E.G t k <;> rfl
 | entryStore ty m st x=>show Xox ty m st x P E t h=_;simp only[Xox,aop,Qrk,Zud];cases aev E.G t m <;> cases aev E.G t st <;> cases aev E.G t x <;> rfl
 | range ty x=>show Zz0 ty x P E t h=_;simp only[Zz0,aop,Qrk,Xk1];cases aev E.G t x <;> rfl
 | next x s=>show Z9l x s P E t h=_;simp only[Z9l,aop,Qrk,Xk1];cases aev E.G t x <;> rfl
 | entry x=>show Zyf x P E t h=_;simp only[Zyf,aop,Qrk,Qs8];cases aev E.G t x <;> rfl
 | typeAssert x xt ty ok=>show Zo8 x xt ty ok P E t h=_;simp only[Zo8,aop,Qrk,Qs8];cases aev E.G t x <;> rfl
 | extract x i=>show Zbd x i P E t h=_;simp only[Zbd,aop,Qrk,Qs8];cases aev E.G t x <;> rfl
 | call c =>
  show Z9t c P E t h=_
  simp only[Z9t,aop,Qrk]
  cases evs E.G t c.args.toList with
  | none=>rfl
  | some args =>
   simp only[ob_some]
   cases c.callee with
   | builtin b=>rfl
   | value f =>
    simp only
    cases aev E.G t f with
    | none=>rfl
    | some fv =>
     simp only[ob_some,Z61]
     cases Qg fv args with
     | none=>rfl
     | some p=>rfl
   | invoke _ _=>rfl
 | go c=>rfl
 | defer c=>rfl
 | panic x =>
  show Z02 x P E t h=_
  simp only[Z02,aop,Qrk]
  rcases aev E.G t x with _ | v
  ·rfl
  ·cases v <;> rfl
 | send _ _=>rfl
 | recv _ _ _=>rfl
 | select _ _=>rfl
def Jdu(n:Nat)(d:Option Tmp):Bool:=Option.rec (motive:=fun _=>Bool) true (fun i=>Nat.blt i n) d
theorem Zyi(s:St)(d:Option Tmp):Jdu s.t.size d=Qgq s d:=by cases d <;> rfl
def Jbn(s:St)(d:Option Tmp)(v:Value)(h:Heap):St:=Option.rec (motive:=fun _=>St) {s with h:=h} (fun i=>{t:=s.t.put i v,ds:=s.ds,h:=h}) d
theorem Yd7(s:St)(d:Option Tmp)(v:Value)(h:Heap):Jbn s d v h=s.put d v h:=by cases d <;> rfl
abbrev XS:=Option (Exit × St)
abbrev Z8m:=CallF->Option Tmp->St->XS
def Z9x(o:Option Tmp)(s:St)(r:Option (AEnd × Heap)):XS:=ob r fun p=>Prod.rec (motive:=fun _=>XS) (fun e h=>AEnd.rec (motive:=fun _=>XS) (fun v=>some (.normal,Jbn s o v h)) (fun ch=>some (.panic ch,{s with h:=h})) e) p
def Jex(v:Value)(h:Heap):Z8m:=fun _ o s=>some (.normal,Jbn s o v h)
def Jdx(h:Heap):Z8m:=fun _ o s=>some (.normal,Jbn s o Qo h)
def Jat(f:FuncId)(args:List Value)(h:Heap):Z8m:=fun C o s=>Z9x o s (C.fn f args h)
def Jbk(l:Nat)(args:List Value)(h:Heap):Z8m:=fun C o s=>Z9x o s (C.rnd l args h)
def Jbq(_:Deferred)(_:Heap):Z8m:=fun _ _ _=>none
def Jbj(v:Value)(h:Heap):Z8m:=fun _ _ s=>some (.panic [{v,recovered:=false}],{s with h:=h})
def Jfb(r:Res)(C:CallF)(o:Option Tmp)(s:St):XS:=Res.rec (motive:=fun _=>Z8m) Jex Jdx Jat Jbk Jbq Jbj r C o s
def Z95(P:Program)(E:Env2 P)(rd:Option Nat)(o:Oper)(s:St):XS:=match o.op with
 | .defer c=>match rd with
  | none=>match Ylr E s.t c with
   | some d=>some (.normal,({s with ds:=d::s.ds}:St).put o.dst Qo s.h)
   | none=>none
  | some _=>none
 | _=>none
def X1i(P:Program)(E:Env2 P)(C:CallF)(rd:Option Nat)(o:Oper)(s:St):XS :=
 bq (Jdu s.t.size o.dst) (Option.rec (motive:=fun _=>XS) (Z95 P E rd o s) (fun r=>Jfb r C o.dst s) (Jel P E o.op s.t s.h)) none
theorem Z4x{P:Program}(E:Env2 P)(C:CallF)(rd:Option Nat)(o:Oper)(s:St):X1i P E C rd o s=Xve E C rd o s:=by
 unfold X1i Xve
 rw[Zyi]
 cases hd:Qgq s o.dst with
 | false=>rfl
 | true =>
  simp only[Bool.not_true,Bool.false_eq_true,if_false,bq_true]
  rw[Z9f]
  have hdef:∀ c,o.op=.defer c->aop E s.t s.h o=none:=by
   intro c hc;simp[aop,hc]
  split
  ·rename_i c hc
   rw[hdef c hc]
   simp only[Z95,hc]
   cases rd with
   | none=>cases Ylr E s.t c <;> rfl
   | some _=>rfl
  ·rename_i hne
   cases ha:aop E s.t s.h o with
   | none =>
    simp only[Z95]
    all_goals (split <;> first | rfl | (rename_i c hc;exact absurd hc (hne c)))
   | some r =>
    simp only
    cases r with
    | val v h=>show some _=_;rw[Yd7]
    | skip h=>show some _=_;rw[Yd7]
    | enter f args h =>
     show Z9x o.dst s (C.fn f args h)=_
     simp only[Z9x]
     rcases C.fn f args h with _ | ⟨_ | _,h'⟩
     ·rfl
     ·simp only[ob_some,Yd7]
     ·rfl
    | round f args h =>
     show Z9x o.dst s (C.rnd f args h)=_
     simp only[Z9x]
     rcases C.rnd f args h with _ | ⟨_ | _,h'⟩
     ·rfl
     ·simp only[ob_some,Yd7]
     ·rfl
    | defer d h=>rfl
    | panic v h=>rfl
def Z7r(ops:List Oper)(t:Tm)(o:Oper):Option Bool:=Option.rec (motive:=fun _=>Option Bool) (some true) (fun _=>Qe ops t o) o.guard
theorem Z3p(ops:List Oper)(t:Tm)(o:Oper):Z7r ops t o=Qe ops t o:=by
 unfold Z7r
 cases hg:o.guard with
 | none=>simp[Qe,hg]
 | some p=>rfl
abbrev Jcy:=∀ P:Program,Env2 P->CallF->Option Nat->List Oper->St->XS
def goK(f:St->XS)(p:Exit × St):XS:=Prod.rec (motive:=fun _=>XS) (fun e s=>Exit.rec (motive:=fun _=>XS) (f s) (fun _=>none) (fun _=>none) none (fun ch=>some (.panic ch,s)) none e) p
def Jf0:Jcy:=fun _ _ _ _ _ s=>some (.normal,s)
def Z8r(o:Oper)(_:List Oper)(f:Jcy):Jcy:=fun P E C rd ops s =>
 ob (Z7r ops s.t o) fun b=>bq b (ob (X1i P E C rd o s) (goK (f P E C rd ops))) (bq (Jdu s.t.size o.dst) (f P E C rd ops (Jbn s o.dst Qo s.h)) none)
def Jao(P:Program)(E:Env2 P)(C:CallF)(rd:Option Nat)(ops l:List Oper)(s:St):XS:=List.rec (motive:=fun _=>Jcy) Jf0 Z8r l P E C rd ops s
theorem Z1y{P:Program}(E:Env2 P)(C:CallF)(rd:Option Nat)(ops:List Oper):∀ (l:List Oper) (s:St),Jao P E C rd ops l s=Xq9 E C rd ops l s
 | [],s=>rfl
 | o::r,s=>by
  have ih:=Z1y E C rd ops r
  show Z8r o r (fun P E C rd ops s=>Jao P E C rd ops r s) P E C rd ops s=_
  simp only[Z8r,Xq9,Z3p,Z4x,Zyi,Yd7,ih]
  cases Qe ops s.t o with
  | none=>rfl
  | some b =>
   simp only[ob_some]
   cases b with
   | true =>
    simp only[bq_true]
    rcases Xve E C rd o s with _ | ⟨e,s'⟩
    ·rfl
    ·cases e <;> first | rfl | (show Jao P E C rd ops r s'=_;exact ih s')
   | false =>
    simp only[bq_false]
    cases Qgq s o.dst <;> rfl
abbrev Q6j:=∀ P:Program,Env2 P->CallF->Option Nat->Nat->St->XS
def Ys4(f:St->XS)(p:Exit × St):XS:=Prod.rec (motive:=fun _=>XS) (fun e s=>Exit.rec (motive:=fun _=>XS) (f s) (fun i=>some (.exit i,s)) (fun i=>some (.goto i,s)) (some (.ret,s)) (fun ch=>some (.panic ch,s)) (some (.outgrown,s)) e) p
theorem Q4k(f:St->XS)(s:St):Ys4 f (.normal,s)=f s:=rfl
def Jan:Q6j:=fun _ _ _ _ _ s=>some (.normal,s)
def Z6v(_:Nat)(ops:Array Oper)(draw:Bool):Q6j:=fun P E C rd _ s=>bq draw (ob (Q5m E C ops.toList s) fun s'=>some (.normal,s')) (Jao P E C rd ops.toList ops.toList s)
def Jfe(_ _:Code)(fx fy:Q6j):Q6j:=fun P E C rd k s=>ob (fx P E C rd k s) (Ys4 (fy P E C rd k))
def Jdm(c:Operand)(_ _:Code)(fx fy:Q6j):Q6j:=fun P E C r k s=>ob (rd c E.G.n s.t) fun v=>Value.rec (motive_1:=fun _=>XS) (motive_2:=fun _=>Unit) (motive_3:=fun _=>Unit)
 (fun b=>bq b (fx P E C r k s) (fy P E C r k s)) (fun _ _=>none) (fun _ _=>none) (fun _ _ _=>none) (fun _=>none) (fun _=>none) (fun _ _ _=>none) (fun _=>none) (fun _=>none) (fun _ _ _ _ _=>none) none (fun _ _ _=>none) none (fun _ _=>none) (fun _ _=>none)
 (fun _ _=>()) () (fun _ _ _ _=>()) v
def Jbr(id:Nat)(_:Code)(f:Q6j):Q6j:=fun P E C rd k s=>ob (f P E C rd k s) fun p=>Prod.rec (motive:=fun _=>XS) (fun e s=>Exit.rec (motive:=fun _=>XS) (some (.normal,s)) (fun i=>bq (Nat.beq i id) (some (.normal,s)) (some (.exit i,s))) (fun i=>some (.goto i,s)) (some (.ret,s)) (fun ch=>some (.panic ch,s)) (some (.outgrown,s)) e) p
def Z5d(body:St->XS)(k:Nat):St->XS:=Nat.rec (motive:=fun _=>St->XS) (fun _=>none) (fun _ f s=>ob (body s) (Ys4 f)) k
def Jdc(_:Code)(f:Q6j):Q6j:=fun P E C rd k s=>Z5d (f P E C rd k) k s
def Je0(g:Operand)(ps:Array Tmp)(asg bd:Code)(_ _:Q6j):Q6j:=fun _ E C rd _ s=>Zwo E C rd g ps asg bd s
def Jd6(id:Nat):Q6j:=fun _ _ _ _ _ s=>some (.exit id,s)
def Jc8(_:Code)(_:Q6j):Q6j:=fun _ _ _ _ _ _=>none
def Jc3(_:Nat):Q6j:=Jan
def Jef(_:Nat):Q6j:=fun _ _ _ _ _ _=>none
def Jf9:Q6j:=fun _ _ _ _ _ s=>some (.ret,s)
def Z7z(_:String):Q6j:=fun _ _ _ _ _ _=>none
def Q0z(P:Program)(E:Env2 P)(C:CallF)(rd:Option Nat)(k:Nat)(c:Code)(s:St):XS :=
 Code.rec (motive:=fun _=>Q6j) Jan Z6v Jfe Jdm Jbr Jdc Je0 Jd6 Jc8 Jc3 Jef Jf9 Z7z c P E C rd k s
theorem Zu7{f g:St->XS}(h:∀ s,f s=g s):∀ (k:Nat) (s:St),Z5d f k s=X1k g k s
 | 0,s=>rfl
 | k+1,s=>by
  show ob (f s) (Ys4 (Z5d f k))=_
  rw[h s]
  simp only[X1k]
  rcases g s with _ | ⟨e,s'⟩
  ·rfl
  ·simp only[ob_some]
   cases e <;> first | rfl | (rw[Q4k];exact Zu7 h k s')
theorem Q3g{P:Program}(E:Env2 P)(C:CallF)(rd:Option Nat)(k:Nat):∀ (c:Code) (s:St),Q0z P E C rd k c s=Qz3 E C rd k c s
 | .skip,s=>rfl
 | .region id ops true,s=>by
  show ob (Q5m E C ops.toList s) _=_
  simp only[Qz3]
  cases Q5m E C ops.toList s <;> rfl
 | .region id ops false,s=>by
  show Jao P E C rd ops.toList ops.toList s=_
  simp only[Qz3,Z1y]
 | .seq x y,s=>by
  show ob (Q0z P E C rd k x s) (Ys4 (Q0z P E C rd k y))=_
  rw[Q3g E C rd k x s]
  simp only[Qz3]
  rcases Qz3 E C rd k x s with _ | ⟨e,s'⟩
  ·rfl
  ·simp only[ob_some]
   cases e <;> first | rfl | (rw[Q4k];exact Q3g E C rd k y s')
 | .cond c x y,s=>by
  show ob (Go.Ab.rd c E.G.n s.t) _=_
  rw[Qrk]
  simp only[Qz3]
  rcases aev E.G s.t c with _ | v
  ·rfl
  ·cases v <;> first | rfl | skip
   rename_i b
   cases b with
   | true=>exact Q3g E C rd k x s
   | false=>exact Q3g E C rd k y s
 | .block id c,s=>by
  show ob (Q0z P E C rd k c s) _=_
  rw[Q3g E C rd k c s]
  simp only[Qz3]
  rcases Qz3 E C rd k c s with _ | ⟨e,s'⟩
  ·rfl
  ·simp only[ob_some]
   cases e <;> first | rfl | skip
   rename_i i
   simp only
   cases Nat.beq i id <;> rfl
 | .loop c,s=>by
  show Z5d (Q0z P E C rd k c) k s=_
  simp only[Qz3]
  exact Zu7 (Q3g E C rd k c) k s
 | .rangeFunc g ps asg bd,s=>rfl
 | .exit id,s=>rfl
 | .scope c,s=>rfl
 | .label l,s=>rfl
 | .goto l,s=>rfl
 | .ret,s=>rfl
 | .refuse w,s=>rfl
def Zvm (P : Program) (E : Env2 P) (C : CallF) (D : Qnw) (k : Nat) (f : FuncId) (args : List Value) (h : Heap) : Option (AEnd × Heap) :=
  ob (E.fn.get f) fun fn => ob fn.body fun c => bq (Nat.ble args.length fn.ntmps) (match Q0z P E C none k c ⟨Qv fn args, [], h⟩ with
      | some (.normal, s) | some (.ret, s) => Qq E D fn s.t s.ds .returning s.h
      | some (.panic ch, s) => Qq E D fn s.t s.ds (.panicking ch) s.h
      | _ => none) none
theorem Z49{P:Program}(E:Env2 P)(C:CallF)(D:Qnw)(k:Nat)(f:FuncId)(args:List Value)(h:Heap):Zvm P E C D k f args h=Zrc E C D k f args h:=by
 unfold Zvm Zrc
 cases E.fn.get f with
 | none=>rfl
 | some fn =>
  simp only[ob_some]
  cases fn.body with
  | none=>rfl
  | some c =>
   simp only[ob_some]
   cases Nat.ble args.length fn.ntmps with
   | false=>rfl
   | true =>
    simp only[bq_true,Q3g]
    rcases Qz3 E C none k c ⟨Qv fn args,[],h⟩with _ | ⟨e,s⟩
    ·rfl
    ·cases e <;> rfl
def Zu9(P:Program)(E:Env2 P)(C:CallF)(k:Nat)(l:Nat)(args:List Value)(h:Heap):Option (AEnd × Heap) :=
 match h.get l with
 | some (.obj (.loop .ready _ t ps asg bd _))=>match Zx3 t.size ps.toList args with
  | false=>none
  | true=>match Q0z P E C (some l) k asg ⟨Yfn t ps.toList args,[],h⟩with
   | some (.normal,s1)=>match s1.h.get l with
    | some (.obj (.loop .ready p1 t1 ps1 as1 bd1 d1))=>match Q0z P E C (some l) k bd {s1 with h:=s1.h.set l (some (.obj (.loop .busy p1 t1 ps1 as1 bd1 d1)))} with
     | some (e,s2)=>match Zmq e,s2.h.get l with
      | some j,some (.obj (.loop _ _ t2 ps2 as2 bd2 d2))=>some (.ret (.bool j.isNone),s2.h.set l (some (.obj (.loop (if j.isNone then .ready else .done) j t2 ps2 as2 bd2 d2))))
      | _,_=>none
     | none=>none
    | _=>none
   | _=>none
 | _=>none
theorem Zy0{P:Program}(E:Env2 P)(C:CallF)(k:Nat)(l:Nat)(args:List Value)(h:Heap):Zu9 P E C k l args h=Yhs E C k l args h:=by
 unfold Zu9 Yhs
 simp only[Q3g]
 rfl
def Qkx(P:Program)(E:Env2 P)(X:Q39)(k:Nat)(n:Nat):CallF :=
 Nat.rec (motive:=fun _=>CallF) ⟨X,fun _ _ _=>none⟩ (fun _ C=>⟨fun f args h=>Option.rec (motive:=fun _=>Option (AEnd × Heap)) (Zvm P E C (Xjo E C k) k f args h) (fun r=>some r) (X f args h),fun l args h=>Zu9 P E C k l args h⟩) n
theorem Zjd{P:Program}(E:Env2 P)(X:Q39)(k:Nat):∀ n,Qkx P E X k n=Ytk E X k n
 | 0=>rfl
 | n+1=>by
  have ih:=Zjd E X k n
  show(⟨fun f args h=>Option.rec (motive:=fun _=>Option (AEnd × Heap)) (Zvm P E (Qkx P E X k n) (Xjo E (Qkx P E X k n) k) k f args h) (fun r=>some r) (X f args h),fun l args h=>Zu9 P E (Qkx P E X k n) k l args h⟩:CallF)=_
  rw[ih]
  simp only[Ytk,CallF.mk.injEq]
  refine⟨?_,?_⟩
  ·funext f args h
   rw[Z49]
   cases X f args h <;> rfl
  ·funext l args h
   exact Zy0 E _ k l args h
end Go.Ab
