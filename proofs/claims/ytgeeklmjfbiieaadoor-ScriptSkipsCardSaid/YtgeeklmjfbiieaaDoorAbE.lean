/-
  GENERIC: AN ABSTRACT MACHINE FOR THE MODEL, PROVED RIGHT OVER ANY PROGRAM: part AbE.
-/
import Derived.Test.YtgeeklmjfbiieaaDoorAbD
import Derived.KernelRfl
import Derived.ChangeArms
import Derived.OpenShut
import Derived.Lib.LaidU8
import Derived.ChangeSame
import Derived.RowKit
import Derived.MakeChecks
set_option linter.all false
noncomputable section
namespace Go.Ab
def Xwy(P:Program)(f:Nat):Option Func:=match P.funcs[f]? with
 | some F=>if F.name == "runtime.NumGoroutine" then none else if F.body.isSome then some F else none
 | none=>none
theorem Xvl{P:Program}{f:Nat}{F:Func}(h:Xwy P f=some F):P.funcs[f]? = some F∧(F.name == "runtime.NumGoroutine")=false∧F.body.isSome=true:=by
 unfold Xwy at h
 split at h
 ·rename_i F0 h0
  split at h
  ·cases h
  ·rename_i h1
   split at h
   ·rename_i h2;cases h;exact⟨h0,by simpa using h1,h2⟩
   ·cases h
 ·cases h
def Xiv(P:Program):Nat→Tr Func
 | 0 => .leaf
 | n+1=>(Xiv P n).put n (Xwy P n)
theorem Xkl(P:Program):∀ (n:Nat) (f:FuncId) (F:Func),(Xiv P n).get f=some F→Xwy P f=some F
 | 0,f,F,h=>by simp[Xiv]at h
 | n+1,f,F,h=>by
  rw[Xiv,Tr.get_put]at h
  split at h
  ·rename_i e;subst e;exact h
  ·exact Xkl P n f F h
def Xwn(P:Program)(f:Nat):Option ExtK:=match P.funcs[f]? with
 | some F=>Xr9 F
 | none=>none
def Xkg(P:Program):Nat→Tr ExtK
 | 0 => .leaf
 | n+1=>(Xkg P n).put n (Xwn P n)
theorem Xky(P:Program):∀ (n:Nat) (f:FuncId) (x:ExtK),(Xkg P n).get f=some x→Xwn P f=some x
 | 0,f,x,h=>by simp[Xkg]at h
 | n+1,f,x,h=>by
  rw[Xkg,Tr.get_put]at h
  split at h
  ·rename_i e;subst e;exact h
  ·exact Xky P n f x h
theorem Xw8{P:Program}{f:Nat}{x:ExtK}(h:Xwn P f=some x):∃ F,P.funcs[f]? = some F∧Xr9 F=some x:=by
 unfold Xwn at h
 split at h
 ·rename_i F hF;exact⟨F,hF,h⟩
 ·cases h
def mkE(P:Program)(n b:Nat):Env2 P :=
 {ty:=Xjj P P.types.size,tyok:=fun t r h=>Xw0 (Xin P _ t r h),G:=⟨n,b⟩,fn:=Xiv P P.funcs.size,fnok:=fun f F h=>Xvl (Xkl P _ f F h),ex:=Xkg P P.funcs.size,exok:=fun f x h=>Xw8 (Xky P _ f x h)}
end Go.Ab
noncomputable section
namespace Go.Ab
section
variable{H:Type}(P:Program)
def Qy9(g:TypeId→DataW H→Option (List Value))(tot:Nat):List Field→List (DataW H)→Nat→Option (List Value)
 | [],[],acc=>if acc == tot then some []else none
 | f::fs,d::ds,acc=>if f.offset == acc then(match g f.type d with
  | some l=>if l.length == P.cellsOf f.type then(match Qy9 g tot fs ds (acc+l.length)with | some r=>some (l++r) | none=>none)else none
  | none=>none)else none
 | _,_,_=>none
def Xiz(g:DataW H→Option (List Value))(sz tot:Nat):List (DataW H)→Nat→Option (List Value)
 | [],acc=>if acc == tot then some []else none
 | d::ds,acc=>match g d with
  | some l=>if l.length == sz then(match Xiz g sz tot ds (acc+sz)with | some r=>some (l++r) | none=>none)else none
  | none=>none
def Xfi:Nat→TypeId→DataW H→Option (List Value)
 | 0,_,_=>none
 | k+1,t,d =>
  match P.underlying t,d with
  | some .bool,.lit (.bool b)=>some [.bool b]
  | some (.int k'),.lit (.int _ n)=>some [.int k' n]
  | some .string,.lit (.string l)=>some [.string ⟨l.toArray⟩]
  | some (.struct fs),.agg ds=>Qy9 P (Xfi k) (P.cellsOf t) fs.toList ds 0
  | some (.array n e),.agg ds=>if ds.length == n then Xiz (Xfi k e) (P.cellsOf e) (P.cellsOf t) ds 0 else none
  | _,_=>none
end
section
variable{H:Type}{enc:TypeId × Value→H}{P:Program}{w:World}{base:Nat}{sp:Nat→Bool}{held:Bool}
theorem Xg2{g:TypeId→DataW H→Option (List Value)}{cs:List Value}{n:Nat}
  (hg:∀ t d l cs p,g t d=some l→DataW.trod enc P w base sp held n t cs=some (d,p)→cs=l) :
  ∀ (fs:List Field) (ds:List (DataW H)) (acc:Nat) (l:List Value),Qy9 P g cs.length fs ds acc=some l →
  (∀ (i:Nat) (f:Field) d,fs[i]? = some f→ds[i]? = some d→∃ p,DataW.trod enc P w base sp held n f.type ((cs.drop f.offset).take (P.cellsOf f.type))=some (d,p))→cs.drop acc=l
 | [],[],acc,l,h,_=>by
  simp only[Qy9]at h
  split at h
  ·rename_i e;cases h;simp at e;simp[e]
  ·cases h
 | f::fs,d::ds,acc,l,h,ht=>by
  simp only[Qy9]at h
  split at h
  ·rename_i e0
   simp only[beq_iff_eq]at e0
   split at h
   ·rename_i l0 hl0
    split at h
    ·rename_i e1
     simp only[beq_iff_eq]at e1
     split at h
     ·rename_i r hr
      cases h
      have ih:=Xg2 hg fs ds _ r hr (fun i f' d' hf hd=>ht (i+1) f' d' (by simpa using hf) (by simpa using hd))
      obtain⟨p,h0⟩:=ht 0 f d (by simp) (by simp)
      have h1:=hg _ _ _ _ _ hl0 h0
      rw[e0,← e1]at h1
      rw[← ih,← List.drop_drop,← List.take_append_drop l0.length (cs.drop acc),h1]
      simp
     ·cases h
    ·cases h
   ·cases h
  ·cases h
 | [],_::_,_,_,h,_=>by simp[Qy9]at h
 | _::_,[],_,_,h,_=>by simp[Qy9]at h
theorem Xjs{g:DataW H→Option (List Value)}{cs:List Value}{n sz:Nat}{e:TypeId}
  (hg:∀ d l cs p,g d=some l→DataW.trod enc P w base sp held n e cs=some (d,p)→cs=l) :
  ∀ (ds:List (DataW H)) (j:Nat) (l:List Value),Xiz g sz cs.length ds (j*sz)=some l →
  (∀ (i:Nat) d,ds[i]? = some d→∃ p,DataW.trod enc P w base sp held n e ((cs.drop ((j+i)*sz)).take sz)=some (d,p))→cs.drop (j*sz)=l
 | [],j,l,h,_=>by
  simp only[Xiz]at h
  split at h
  ·rename_i e;cases h;simp at e;simp[e]
  ·cases h
 | d::ds,j,l,h,ht=>by
  simp only[Xiz]at h
  split at h
  ·rename_i l0 hl0
   split at h
   ·rename_i e1
    simp only[beq_iff_eq]at e1
    split at h
    ·rename_i r hr
     cases h
     have e2:j*sz+sz=(j+1)*sz:=by rw[Nat.add_mul];simp
     rw[e2]at hr
     have ih:=Xjs hg ds (j+1) r hr (fun i d' hd=>by
      have:=ht (i+1) d' (by simpa using hd)
      rwa [show j+(i+1)=j+1+i from by omega]at this)
     obtain⟨p,h0⟩:=ht 0 d (by simp)
     have h1:=hg _ _ _ _ hl0 h0
     simp only[Nat.add_zero]at h1
     rw[← ih,← e2,← List.drop_drop,← List.take_append_drop sz (cs.drop (j*sz)),h1]
     simp[e1]
    ·cases h
   ·cases h
  ·cases h
theorem Xbc:∀ (k:Nat) (t:TypeId) (d:DataW H) (l cs:List Value) (n:Nat) (p:List MemPlace),Xfi P k t d=some l→DataW.trod enc P w base sp held n t cs=some (d,p)→cs=l
 | 0,_,_,_,_,_,_,h,_=>by simp[Xfi]at h
 | k+1,t,d,l,cs,n,p,h,ht=>by
  simp only[Xfi]at h
  split at h
  ·rename_i b hu
   cases h
   obtain⟨b',rfl,e⟩:=DataW.trod_bool hu ht
   cases e;rfl
  ·rename_i k' k2 z hu
   cases h
   obtain⟨n',rfl,e,_⟩:=DataW.trod_int hu ht
   cases e;rfl
  ·rename_i s hu
   cases h
   obtain⟨s',rfl,e,_⟩:=DataW.trod_string hu ht
   cases e;simp
  ·rename_i fs ds hu
   obtain⟨xs,m,rfl,e,hl,hxl,hall⟩:=DataW.trod_struct hu ht
   simp only[Prod.mk.injEq,DataW.agg.injEq]at e
   rw[← hl]at h
   have:=Xg2 (n:=m) (fun t d l cs p h1 h2=>Xbc k t d l cs m p h1 h2) _ _ _ _ h (fun i f d hf hd=>by
    have h1:=hall i f (by simpa using hf)
    rw[e.1,List.getElem?_map]at hd
    rw[h1]
    cases hx:xs[i]? with
    | none=>rw[hx]at hd;cases hd
    | some y=>rw[hx]at hd;cases hd;exact⟨y.2,rfl⟩)
   simpa using this
  ·rename_i n' e' ds hu
   obtain⟨xs,m,rfl,e,hl,hxl,hall⟩:=DataW.trod_array hu ht
   simp only[Prod.mk.injEq,DataW.agg.injEq]at e
   split at h
   ·rename_i hn
    rw[← hl]at h
    have:=Xjs (n:=m) (fun d l cs p h1 h2=>Xbc k e' d l cs m p h1 h2) ds 0 l (by simpa using h) (fun i d hd=>by
     rw[e.1,List.getElem?_map]at hd
     cases hx:xs[i]? with
     | none=>rw[hx]at hd;cases hd
     | some y =>
      rw[hx]at hd;cases hd
      have hi:i < xs.length:=(List.getElem?_eq_some_iff.1 hx).1
      have h1:=hall i (by omega)
      rw[hx]at h1
      simp only[Nat.zero_add]
      exact⟨y.2,h1⟩)
    simpa using this
   ·cases h
  ·cases h
end
def Xl4:List (Nat × List Value)→Tr Blk
 | [] => .leaf
 | x::l=>(Xl4 l).put x.1 (some (.cells false 0 x.2))
def Qim(n:Nat)(l:List (Nat × List Value)):Heap:=⟨n,n,Xl4 l⟩
def Xfo(n:Nat):Ren:=fun b=>if b < n then some ⟨b,0,0,0,none⟩else none
theorem Qwq:∀ (l:List (Nat × List Value)) (b:Nat) (x:Blk),(Xl4 l).get b=some x→∃ c,(b,c) ∈ l∧x=.cells false 0 c
 | [],b,x,h=>by simp[Xl4]at h
 | y::l,b,x,h=>by
  simp only[Xl4]at h
  rw[Tr.get_put]at h
  split at h
  ·rename_i e;subst e;cases h;exact⟨y.2,by simp,rfl⟩
  ·obtain⟨c,h1,h2⟩:=Qwq l b x h
   exact⟨c,by simp[h1],h2⟩
theorem Xt2{W:World}{n:Nat}{l:List (Nat × List Value)}(hn:n≤W.heap.size)(hl:∀ x ∈ l,(∀ v ∈ x.2,flat v=true∧v.oneCell'=true)∧∃ C e fr,W.heap[x.1]? = some (.cells C e fr)∧C.toList=x.2) :
  HRel ⟨n,W.heap.size⟩ (Xfo n) (Qim n l) W:=by
 have hget:∀ b x,(Qim n l).get b=some x→b < n∧∃ c,(b,c) ∈ l∧x=.cells false 0 c:=by
  intro b x h
  unfold Heap.get at h
  split at h
  ·rename_i hb;exact⟨hb,Qwq l b x h⟩
  ·cases h
 have hα:∀ b p,Xfo n b=some p→b < n∧p=⟨b,0,0,0,none⟩:=by
  intro b p h
  unfold Xfo at h
  split at h
  ·cases h;exact⟨by assumption,rfl⟩
  ·cases h
 have hown:∀ b,(Qim n l).own b=false:=by
  intro b
  unfold Heap.own
  cases hb:(Qim n l).get b with
  | none=>rfl
  | some x=>obtain⟨_,c,_,rfl⟩:=hget b x hb;rfl
 refine⟨fun b p h => ?_,fun b p x hb hx => ?_,fun b c p q _ _ _ ho _ => ?_,fun g hg=>⟨?_,hown g⟩,Nat.le_refl _,fun b x hx => ?_,fun b p x hb hx => ?_,Nat.le_refl _⟩
 ·obtain⟨h1,rfl⟩:=hα b p h
  exact⟨h1,trivial⟩
 ·obtain⟨h1,rfl⟩:=hα b p hb
  obtain⟨_,c,hc,rfl⟩:=hget b x hx
  obtain⟨hf,C,e,fr,h2,h3⟩:=hl _ hc
  refine⟨rfl,.inr ⟨C,e,fr.1,fr.2,h2,fun i v hv => ?_,fun h=>by cases h⟩⟩
  have hv':=hf v (List.mem_of_getElem? hv)
  simp only at h3
  refine⟨?_,flat_ok _ v hv'.1,hv'.2⟩
  rw[Wr _ hv'.1,← hv,← h3]
  simp
 ·rw[hown b]at ho;cases ho
 ·simp[Xfo,show g < n from hg]
 ·obtain⟨_,c,hc,rfl⟩:=hget b x hx
  intro v hv
  exact⟨flat_ok _ v ((hl _ hc).1 v hv).1,((hl _ hc).1 v hv).2⟩
 ·obtain⟨h1,rfl⟩:=hα b p hb
  obtain⟨_,c,_,rfl⟩:=hget b x hx
  refine⟨fun h => ?_,fun _ _=>⟨Nat.lt_of_lt_of_le h1 hn,rfl⟩⟩
  simp[Blk.own]at h
def Xtr(P:Program)(laid:List (String × DataW Unit))(n:Nat)(l:List (Nat × List Value)):Prop :=
 ∀ x ∈ l,x.1 < n∧(∀ v ∈ x.2,flat v=true∧v.oneCell'=true)∧∃ name t d k,(name,d) ∈ laid∧P.globalNamed name=some x.1∧(P.globals[x.1]?).map (·.type)=some t∧Xfi P k t d=some x.2
theorem Xgy{P:Program}{W:World}{laid:List (String × DataW Unit)}{n:Nat}{l:List (Nat × List Value)}(h:laidMet P laid W)(hl:Xtr P laid n l)(hn:n≤W.heap.size) :
  HRel ⟨n,W.heap.size⟩ (Xfo n) (Qim n l) W:=by
 refine Xt2 hn fun x hx => ?_
 obtain⟨_,hf,name,t,d,k,hm,hg,ht,hd⟩:=hl x hx
 refine⟨hf,?_⟩
 obtain⟨g,t',cs,fuel,p,h1,h2,h3,h4⟩:=Lib.laidMet.reads h hm
 obtain rfl:=Option.some.inj (hg.symm.trans h1)
 obtain rfl:=Option.some.inj (ht.symm.trans h2)
 have:=Xbc k _ _ _ _ _ _ hd h4
 unfold World.var? at h3
 rw[hg]at h3
 simp only[Option.bind_some]at h3
 split at h3
 ·rename_i C e fr hC
  cases h3
  exact⟨_,e,fr,hC,this⟩
 ·cases h3
end Go.Ab
noncomputable section
namespace Go.Ab
end Go.Ab
noncomputable section
namespace Go.Ab
def ob{A B:Type}(x:Option A)(f:A→Option B):Option B:=Option.rec (motive:=fun _=>Option B) none f x
@[simp] theorem ob_some {A B:Type} (a:A) (f:A→Option B):ob (some a) f=f a:=rfl
@[simp] theorem ob_none {A B:Type} (f:A→Option B):ob none f=none:=rfl
def bq{A:Type}(b:Bool)(x y:A):A:=Bool.rec (motive:=fun _=>A) y x b
@[simp] theorem bq_true {A:Type} (x y:A):bq true x y=x:=rfl
@[simp] theorem bq_false {A:Type} (x y:A):bq false x y=y:=rfl
def rT(i:Nat)(_:Nat)(t:Tm):Option Value:=t.t.get i
def rC(v:Value)(_:Nat)(_:Tm):Option Value:=bq (flat v) (some v) none
def rG(g n:Nat)(_:Tm):Option Value:=bq (Nat.blt g n) (some (.pointer (some ⟨g,0,none⟩))) none
def rF(f:FuncId)(_:Nat)(_:Tm):Option Value:=some (.func (.func f) #[] #[])
def rd(x:Operand)(n:Nat)(t:Tm):Option Value:=Operand.rec (motive:=fun _=>Nat→Tm→Option Value) rT rC rG rF x n t
theorem Qf6(G:Bs)(t:Tm)(x:Operand):rd x G.n t=aev G t x:=by
 cases x with
 | tmp i=>rfl
 | const v=>show rC v 0 t=_;simp only[rC,aev];cases flat v <;> rfl
 | global g =>
  show rG g G.n t=_
  simp only[rG,aev]
  by_cases h:g < G.n
  ·rw[show Nat.blt g G.n=true from by simpa using h];simp[h]
  ·rw[Bool.eq_false_iff.2 (fun hb:Nat.blt g G.n=true=>h (by simpa using hb))];simp[h]
 | func f=>rfl
def gvF(r:Option (Value × Heap)):Option Res:=ob r fun p=>Prod.rec (motive:=fun _=>Option Res) (fun v h=>some (.val v h)) p
def g0F(h:Heap)(r:Option Value):Option Res:=ob r fun v=>some (.val v h)
def gsF(r:Option Heap):Option Res:=ob r fun h=>some (.skip h)
theorem Qxi(r:Option (Value × Heap)):gvF r=gv r:=by cases r <;> rfl
theorem Qfe(h:Heap)(r:Option Value):g0F h r=g0 h r:=by cases r <;> rfl
theorem Xop(r:Option Heap):gsF r=gs r:=by cases r <;> rfl
abbrev OpF:=∀ P:Program,Env2 P→Tm→Heap→Option Res
def Xpf(x:Operand):OpF:=fun _ E t h=>g0F h (rd x E.G.n t)
def Xz1(c a b:Operand):OpF:=fun _ E t h=>match rd c E.G.n t with
 | some (.bool true)=>g0F h (rd a E.G.n t)
 | some (.bool false)=>g0F h (rd b E.G.n t)
 | _=>none
def Xu9(e:TypeId):OpF:=fun _ E _ h=>gvF (Qdl E.toEnv e h)
def X3k(_:TypeId)(x:Operand):OpF:=fun _ E t h=>ob (rd x E.G.n t) fun v=>gvF (Xmn v h)
def Xu2(ty:TypeId)(ps:Array (Nat × Operand)):OpF:=fun _ E t h=>ob (X7 E.G t ps.toList) fun l=>g0F h (Qzu E.toEnv ty l)
def Qyh(ty:TypeId)(n:Nat)(ps:Array (Nat × Operand)):OpF:=fun _ E t h=>ob (X7 E.G t ps.toList) fun l=>gvF (Jl E.toEnv ty n l h)
def Q1c(ty:TypeId)(m k x:Operand):OpF:=fun _ E t h=>ob (rd m E.G.n t) fun a=>ob (rd k E.G.n t) fun b=>ob (rd x E.G.n t) fun c=>gsF (Qb5 E.toEnv ty a b c h)
def X05(ty:TypeId)(a:Operand):OpF:=fun _ E t h=>ob (rd a E.G.n t) fun x=>g0F h (Qdh E.toEnv ty x h)
def Xur(ty:TypeId)(a v:Operand):OpF:=fun _ E t h=>ob (rd a E.G.n t) fun x=>ob (rd v E.G.n t) fun y=>gsF (Wy E.toEnv ty x y h)
def oN1(_:Nat):OpF:=fun _ _ _ _=>none
def Xbg(x:Operand):OpF:=fun _ E t h=>ob (rd x E.G.n t) fun v=>g0F h (Qvf v)
def X47(op:BinOp)(ty:TypeId)(x y:Operand)(_:TypeId):OpF:=fun _ E t h=>ob (rd x E.G.n t) fun a=>ob (rd y E.G.n t) fun b=>g0F h (Z3 E.toEnv op ty (Qu x || Qu y) a b)
def oUn(op:UnOp)(_:TypeId)(x:Operand):OpF:=fun _ E t h=>ob (rd x E.G.n t) fun v=>g0F h (aUn op v)
def Xz0(src dst:TypeId)(x:Operand):OpF:=fun _ E t h=>ob (rd x E.G.n t) fun v=>bq (Qfm E.toEnv src dst) (g0F h (Qhm E.toEnv src dst v)) (gvF (Qv1 E.toEnv src dst v h))
def Xmx(ty:TypeId)(x:Operand):OpF:=fun _ E t h=>ob (rd x E.G.n t) fun v=>g0F h (Q30 E.toEnv ty v)
def Xie(ty:TypeId)(x:Operand):OpF:=fun _ E t h=>ob (rd x E.G.n t) fun v=>g0F h (Q0k E.toEnv ty v)
def Xld(fn:Fn)(a b:Array Operand):OpF:=fun _ E t h=>ob (evs E.G t a.toList) fun x=>ob (evs E.G t b.toList) fun y=>g0F h (Q2x fn x y)
def Xhk(ty:TypeId)(r:Option Operand):OpF:=fun _ E t h=>ob (evO E.G t r) fun hv=>gvF (Qq6 E.toEnv ty hv h)
def oN2(_:TypeId)(_:Operand):OpF:=fun _ _ _ _=>none
def Q12(ty:TypeId)(n c:Operand):OpF:=fun _ E t h=>ob (rd n E.G.n t) fun x=>ob (rd c E.G.n t) fun y=>gvF (Qe4 E.toEnv ty x y h)
def Xry(ty:TypeId)(x:Operand)(lo hi mx:Option Operand):OpF:=fun _ E t h=>ob (rd x E.G.n t) fun v=>ob (evO E.G t lo) fun a=>ob (evO E.G t hi) fun b=>ob (evO E.G t mx) fun c=>gvF (Wb E.toEnv ty v a b c h)
def Q2z(ty:TypeId)(x:Operand)(f:Nat):OpF:=fun _ E t h=>ob (rd x E.G.n t) fun v=>g0F h (Uq E.toEnv ty v f)
def Xrl(ty:TypeId)(x:Operand)(f:Nat):OpF:=fun _ E t h=>ob (rd x E.G.n t) fun v=>g0F h (Xnx E.toEnv ty v f)
def Q22(ty:TypeId)(x i:Operand):OpF:=fun _ E t h=>ob (rd x E.G.n t) fun a=>ob (rd i E.G.n t) fun b=>g0F h (J7 E.toEnv ty a b)
def Xts(ty:TypeId)(x i:Operand):OpF:=fun _ E t h=>ob (rd x E.G.n t) fun a=>ob (rd i E.G.n t) fun b=>g0F h (Xj9 E.toEnv ty a b)
def Xlq(ty:TypeId)(x k:Operand)(ok:Bool):OpF:=fun _ E t h=>ob (rd x E.G.n t) fun a=>ob (rd k E.G.n t) fun b=>g0F h (Qf7 E.toEnv ty a b ok h)
def Q8l(ty:TypeId)(m k:Operand):OpF:=fun _ E t h=>ob (rd m E.G.n t) fun a=>ob (rd k E.G.n t) fun b=>gvF (Qnx E.toEnv ty a b h)
def Qyu(_:TypeId)(m st x:Operand):OpF:=fun _ E t h=>ob (rd m E.G.n t) fun a=>ob (rd st E.G.n t) fun b=>ob (rd x E.G.n t) fun c=>gsF (Qha a b c h)
def Xso(ty:TypeId)(x:Operand):OpF:=fun _ E t h=>ob (rd x E.G.n t) fun v=>gvF (Xfg E.toEnv ty v h)
def Xyi(x:Operand)(s:Bool):OpF:=fun _ E t h=>ob (rd x E.G.n t) fun v=>gvF (Xq7 v s h)
def Xub(x:Operand):OpF:=fun _ E t h=>ob (rd x E.G.n t) fun v=>g0F h (Xnr v h)
def Xlj(x:Operand)(_ ty:TypeId)(ok:Bool):OpF:=fun _ E t h=>ob (rd x E.G.n t) fun v=>g0F h (Q9a E.toEnv v ty ok)
def Xh4(x:Operand)(i:Nat):OpF:=fun _ E t h=>ob (rd x E.G.n t) fun v=>g0F h (Qw v i)
def Xy3(P:Program)(E:Env2 P)(fv:Value)(args:List Value)(h:Heap):Option Res:=match X8 fv args with
 | some (f,l)=>match E.fn.get f with
  | some _=>some (.enter f l h)
  | none=>match E.ex.get f with
   | some x=>gv (Xgc x l h)
   | none=>none
 | none=>Q8k fv args h
def Xzm(c:Call):OpF:=fun P E t h=>ob (evs E.G t c.args.toList) fun args=>match c.callee with
 | .builtin b=>Qt E b c.argTypes.toList args h
 | .value f=>ob (rd f E.G.n t) fun fv=>Xy3 P E fv args h
 | .invoke _ _=>none
def oN7(_:Call):OpF:=fun _ _ _ _=>none
def Xrp(x:Operand):OpF:=fun _ E t h=>match rd x E.G.n t with
 | some (.iface u v)=>some (.panic (.iface u v) h)
 | _=>none
def oN8(_ _:Operand):OpF:=fun _ _ _ _=>none
def oN9(_:TypeId)(_:Operand)(_:Bool):OpF:=fun _ _ _ _=>none
def X4s(_:Array SelectCase)(_:Bool):OpF:=fun _ _ _ _=>none
def X4d(P:Program)(E:Env2 P)(o:Op)(t:Tm)(h:Heap):Option Res :=
 Op.rec (motive:=fun _=>OpF) Xpf Xpf Xz1 Xu9 X3k Xu2 Qyh Q1c X05 Xur oN1 oN1 Xbg X47 oUn Xz0 Xmx Xie Xld Xhk oN2 Q12 Xry Q2z Xrl Q22 Xts Xlq
  Q1c Q8l Qyu Xso Xyi Xub Xlj Xh4 Xzm oN7 oN7 Xrp oN8 oN9 X4s o P E t h
theorem Xza{P:Program}(E:Env2 P)(t:Tm)(h:Heap)(o:Oper):X4d P E o.op t h=aop E t h o:=by
 obtain⟨d,op,ty,pos,af,g⟩:=o
 have two:∀ {A:Type} (x y:Option Value) (f:Value→Value→Option A),(match x,y with | some a,some b=>f a b | _,_=>none)=ob x fun a=>ob y fun b=>f a b:=by
  intro A x y f;cases x <;> cases y <;> rfl
 cases op with
 | move x=>show Xpf x P E t h=_;simp only[Xpf,aop,Qf6,Qfe]
 | assign x=>show Xpf x P E t h=_;simp only[Xpf,aop,Qf6,Qfe]
 | pick c a b =>
  show Xz1 c a b P E t h=_
  simp only[Xz1,aop,Qf6,Qfe]
  rcases aev E.G t c with _ | v
  ·rfl
  ·cases v <;> first | rfl | (rename_i b;cases b <;> rfl)
 | alloc e=>show Xu9 e P E t h=_;simp only[Xu9,aop,Qxi]
 | box e x=>show X3k e x P E t h=_;simp only[X3k,aop,Qf6,Qxi];cases aev E.G t x <;> rfl
 | build ty ps=>show Xu2 ty ps P E t h=_;simp only[Xu2,aop,Qfe];cases X7 E.G t ps.toList <;> rfl
 | buildSlice ty n ps=>show Qyh ty n ps P E t h=_;simp only[Qyh,aop,Qxi];cases X7 E.G t ps.toList <;> rfl
 | insert ty m k x=>show Q1c ty m k x P E t h=_;simp only[Q1c,aop,Qf6,Xop];cases aev E.G t m <;> cases aev E.G t k <;> cases aev E.G t x <;> rfl
 | load ty a=>show X05 ty a P E t h=_;simp only[X05,aop,Qf6,Qfe];cases aev E.G t a <;> rfl
 | store ty a v=>show Xur ty a v P E t h=_;simp only[Xur,aop,Qf6,Xop];cases aev E.G t a <;> cases aev E.G t v <;> rfl
 | ready g=>rfl
 | waits g=>rfl
 | nilCheck x=>show Xbg x P E t h=_;simp only[Xbg,aop,Qf6,Qfe];cases aev E.G t x <;> rfl
 | binOp op ty x y yt=>show X47 op ty x y yt P E t h=_;simp only[X47,aop,Qf6,Qfe];cases aev E.G t x <;> cases aev E.G t y <;> rfl
 | unOp op ty x=>show oUn op ty x P E t h=_;simp only[oUn,aop,Qf6,Qfe];cases aev E.G t x <;> rfl
 | convert s d x =>
  show Xz0 s d x P E t h=_;simp only[Xz0,aop,Qf6,Qfe,Qxi];cases aev E.G t x
  ·rfl
  ·cases Qfm E.toEnv s d <;> rfl
 | sliceToArrayPointer ty x=>show Xmx ty x P E t h=_;simp only[Xmx,aop,Qf6,Qfe];cases aev E.G t x <;> rfl
 | makeInterface ty x=>show Xie ty x P E t h=_;simp only[Xie,aop,Qf6,Qfe];cases aev E.G t x <;> rfl
 | makeFunc fn a b=>show Xld fn a b P E t h=_;simp only[Xld,aop,Qfe];cases evs E.G t a.toList <;> cases evs E.G t b.toList <;> rfl
 | makeMap ty r=>show Xhk ty r P E t h=_;simp only[Xhk,aop,Qxi];cases evO E.G t r <;> rfl
 | makeChan ty x=>rfl
 | makeSlice ty n c=>show Q12 ty n c P E t h=_;simp only[Q12,aop,Qf6,Qxi];cases aev E.G t n <;> cases aev E.G t c <;> rfl
 | slice ty x lo hi mx=>show Xry ty x lo hi mx P E t h=_;simp only[Xry,aop,Qf6,Qxi];cases aev E.G t x <;> cases evO E.G t lo <;> cases evO E.G t hi <;> cases evO E.G t mx <;> rfl
 | fieldAddr ty x f=>show Q2z ty x f P E t h=_;simp only[Q2z,aop,Qf6,Qfe];cases aev E.G t x <;> rfl
 | field ty x f=>show Xrl ty x f P E t h=_;simp only[Xrl,aop,Qf6,Qfe];cases aev E.G t x <;> rfl
 | indexAddr ty x i=>show Q22 ty x i P E t h=_;simp only[Q22,aop,Qf6,Qfe];cases aev E.G t x <;> cases aev E.G t i <;> rfl
 | index ty x i=>show Xts ty x i P E t h=_;simp only[Xts,aop,Qf6,Qfe];cases aev E.G t x <;> cases aev E.G t i <;> rfl
 | lookup ty x k ok=>show Xlq ty x k ok P E t h=_;simp only[Xlq,aop,Qf6,Qfe];cases aev E.G t x <;> cases aev E.G t k <;> rfl
 | mapUpdate ty m k x=>show Q1c ty m k x P E t h=_;simp only[Q1c,aop,Qf6,Xop];cases aev E.G t m <;> cases aev E.G t k <;> cases aev E.G t x <;> rfl
 | mapEntry ty m k=>show Q8l ty m k P E t h=_;simp only[Q8l,aop,Qf6,Qxi];cases aev E.G t m <;> cases aev E.G t k <;> rfl
 | entryStore ty m st x=>show Qyu ty m st x P E t h=_;simp only[Qyu,aop,Qf6,Xop];cases aev E.G t m <;> cases aev E.G t st <;> cases aev E.G t x <;> rfl
 | range ty x=>show Xso ty x P E t h=_;simp only[Xso,aop,Qf6,Qxi];cases aev E.G t x <;> rfl
 | next x s=>show Xyi x s P E t h=_;simp only[Xyi,aop,Qf6,Qxi];cases aev E.G t x <;> rfl
 | entry x=>show Xub x P E t h=_;simp only[Xub,aop,Qf6,Qfe];cases aev E.G t x <;> rfl
 | typeAssert x xt ty ok=>show Xlj x xt ty ok P E t h=_;simp only[Xlj,aop,Qf6,Qfe];cases aev E.G t x <;> rfl
 | extract x i=>show Xh4 x i P E t h=_;simp only[Xh4,aop,Qf6,Qfe];cases aev E.G t x <;> rfl
 | call c =>
  show Xzm c P E t h=_
  simp only[Xzm,aop,Qf6]
  cases evs E.G t c.args.toList with
  | none=>rfl
  | some args =>
   simp only[ob_some]
   cases c.callee with
   | builtin b=>rfl
   | value f =>
    simp only
    cases aev E.G t f with
    | none=>rfl
    | some fv =>
     simp only[ob_some,Xy3]
     cases X8 fv args with
     | none=>rfl
     | some p=>rfl
   | invoke _ _=>rfl
 | go c=>rfl
 | defer c=>rfl
 | panic x =>
  show Xrp x P E t h=_
  simp only[Xrp,aop,Qf6]
  rcases aev E.G t x with _ | v
  ·rfl
  ·cases v <;> rfl
 | send _ _=>rfl
 | recv _ _ _=>rfl
 | select _ _=>rfl
def X3f(n:Nat)(d:Option Tmp):Bool:=Option.rec (motive:=fun _=>Bool) true (fun i=>Nat.blt i n) d
theorem Xsp(s:St)(d:Option Tmp):X3f s.t.size d=Ww s d:=by cases d <;> rfl
def X2h(s:St)(d:Option Tmp)(v:Value)(h:Heap):St:=Option.rec (motive:=fun _=>St) {s with h:=h} (fun i=>{t:=s.t.put i v,ds:=s.ds,h:=h}) d
theorem Xca(s:St)(d:Option Tmp)(v:Value)(h:Heap):X2h s d v h=s.put d v h:=by cases d <;> rfl
abbrev XS:=Option (Exit × St)
abbrev Xyo:=CallF→Option Tmp→St→XS
def X0q(o:Option Tmp)(s:St)(r:Option (AEnd × Heap)):XS:=ob r fun p=>Prod.rec (motive:=fun _=>XS) (fun e h=>AEnd.rec (motive:=fun _=>XS) (fun v=>some (.normal,X2h s o v h)) (fun ch=>some (.panic ch,{s with h:=h})) e) p
def X4r(v:Value)(h:Heap):Xyo:=fun _ o s=>some (.normal,X2h s o v h)
def X3l(h:Heap):Xyo:=fun _ o s=>some (.normal,X2h s o Xj h)
def X2g(f:FuncId)(args:List Value)(h:Heap):Xyo:=fun C o s=>X0q o s (C.fn f args h)
def X26(l:Nat)(args:List Value)(h:Heap):Xyo:=fun C o s=>X0q o s (C.rnd l args h)
def X1t(_:Deferred)(_:Heap):Xyo:=fun _ _ _=>none
def X29(v:Value)(h:Heap):Xyo:=fun _ _ s=>some (.panic [{v,recovered:=false}],{s with h:=h})
def X4x(r:Res)(C:CallF)(o:Option Tmp)(s:St):XS:=Res.rec (motive:=fun _=>Xyo) X4r X3l X2g X26 X1t X29 r C o s
def Xzj(P:Program)(E:Env2 P)(rd:Option Nat)(o:Oper)(s:St):XS:=match o.op with
 | .defer c=>match rd with
  | none=>match Q92 E s.t c with
   | some d=>some (.normal,({s with ds:=d::s.ds}:St).put o.dst Xj s.h)
   | none=>none
  | some _=>none
 | _=>none
def Qgi(P:Program)(E:Env2 P)(C:CallF)(rd:Option Nat)(o:Oper)(s:St):XS :=
 bq (X3f s.t.size o.dst) (Option.rec (motive:=fun _=>XS) (Xzj P E rd o s) (fun r=>X4x r C o.dst s) (X4d P E o.op s.t s.h)) none
theorem Xv6{P:Program}(E:Env2 P)(C:CallF)(rd:Option Nat)(o:Oper)(s:St):Qgi P E C rd o s=Qy1 E C rd o s:=by
 unfold Qgi Qy1
 rw[Xsp]
 cases hd:Ww s o.dst with
 | false=>rfl
 | true =>
  simp only[Bool.not_true,Bool.false_eq_true,if_false,bq_true]
  rw[Xza]
  have hdef:∀ c,o.op=.defer c→aop E s.t s.h o=none:=by
   intro c hc;simp[aop,hc]
  split
  ·rename_i c hc
   rw[hdef c hc]
   simp only[Xzj,hc]
   cases rd with
   | none=>cases Q92 E s.t c <;> rfl
   | some _=>rfl
  ·rename_i hne
   cases ha:aop E s.t s.h o with
   | none =>
    simp only[Xzj]
    all_goals (split <;> first | rfl | (rename_i c hc;exact absurd hc (hne c)))
   | some r =>
    simp only
    cases r with
    | val v h=>show some _=_;rw[Xca]
    | skip h=>show some _=_;rw[Xca]
    | enter f args h =>
     show X0q o.dst s (C.fn f args h)=_
     simp only[X0q]
     rcases C.fn f args h with _ | ⟨_ | _,h'⟩
     ·rfl
     ·simp only[ob_some,Xca]
     ·rfl
    | round f args h =>
     show X0q o.dst s (C.rnd f args h)=_
     simp only[X0q]
     rcases C.rnd f args h with _ | ⟨_ | _,h'⟩
     ·rfl
     ·simp only[ob_some,Xca]
     ·rfl
    | defer d h=>rfl
    | panic v h=>rfl
def X0h(ops:List Oper)(t:Tm)(o:Oper):Option Bool:=Option.rec (motive:=fun _=>Option Bool) (some true) (fun _=>X4 ops t o) o.guard
theorem Xvu(ops:List Oper)(t:Tm)(o:Oper):X0h ops t o=X4 ops t o:=by
 unfold X0h
 cases hg:o.guard with
 | none=>simp[X4,hg]
 | some p=>rfl
abbrev X31:=∀ P:Program,Env2 P→CallF→Option Nat→List Oper→St→XS
def goK(f:St→XS)(p:Exit × St):XS:=Prod.rec (motive:=fun _=>XS) (fun e s=>Exit.rec (motive:=fun _=>XS) (f s) (fun _=>none) (fun _=>none) none (fun ch=>some (.panic ch,s)) none e) p
def X4u:X31:=fun _ _ _ _ _ s=>some (.normal,s)
def Xzl(o:Oper)(_:List Oper)(f:X31):X31:=fun P E C rd ops s =>
 ob (X0h ops s.t o) fun b=>bq b (ob (Qgi P E C rd o s) (goK (f P E C rd ops))) (bq (X3f s.t.size o.dst) (f P E C rd ops (X2h s o.dst Xj s.h)) none)
def X2a(P:Program)(E:Env2 P)(C:CallF)(rd:Option Nat)(ops l:List Oper)(s:St):XS:=List.rec (motive:=fun _=>X31) X4u Xzl l P E C rd ops s
theorem Xsb{P:Program}(E:Env2 P)(C:CallF)(rd:Option Nat)(ops:List Oper):∀ (l:List Oper) (s:St),X2a P E C rd ops l s=Qy0 E C rd ops l s
 | [],s=>rfl
 | o::r,s=>by
  have ih:=Xsb E C rd ops r
  show Xzl o r (fun P E C rd ops s=>X2a P E C rd ops r s) P E C rd ops s=_
  simp only[Xzl,Qy0,Xvu,Xv6,Xsp,Xca,ih]
  cases X4 ops s.t o with
  | none=>rfl
  | some b =>
   simp only[ob_some]
   cases b with
   | true =>
    simp only[bq_true]
    rcases Qy1 E C rd o s with _ | ⟨e,s'⟩
    ·rfl
    ·cases e <;> first | rfl | (show X2a P E C rd ops r s'=_;exact ih s')
   | false =>
    simp only[bq_false]
    cases Ww s o.dst <;> rfl
abbrev Qoi:=∀ P:Program,Env2 P→CallF→Option Nat→Nat→St→XS
def Xes(f:St→XS)(p:Exit × St):XS:=Prod.rec (motive:=fun _=>XS) (fun e s=>Exit.rec (motive:=fun _=>XS) (f s) (fun i=>some (.exit i,s)) (fun i=>some (.goto i,s)) (some (.ret,s)) (fun ch=>some (.panic ch,s)) (some (.outgrown,s)) e) p
theorem Qme(f:St→XS)(s:St):Xes f (.normal,s)=f s:=rfl
def X2k:Qoi:=fun _ _ _ _ _ s=>some (.normal,s)
def Xzt(_:Nat)(ops:Array Oper)(draw:Bool):Qoi:=fun P E C rd _ s=>bq draw (ob (Qo5 E C ops.toList s) fun s'=>some (.normal,s')) (X2a P E C rd ops.toList ops.toList s)
def X4t(_ _:Code)(fx fy:Qoi):Qoi:=fun P E C rd k s=>ob (fx P E C rd k s) (Xes (fy P E C rd k))
def X49(c:Operand)(_ _:Code)(fx fy:Qoi):Qoi:=fun P E C r k s=>ob (rd c E.G.n s.t) fun v=>Value.rec (motive_1:=fun _=>XS) (motive_2:=fun _=>Unit) (motive_3:=fun _=>Unit)
 (fun b=>bq b (fx P E C r k s) (fy P E C r k s)) (fun _ _=>none) (fun _ _=>none) (fun _ _ _=>none) (fun _=>none) (fun _=>none) (fun _ _ _=>none) (fun _=>none) (fun _=>none) (fun _ _ _ _ _=>none) none (fun _ _ _=>none) none (fun _ _=>none) (fun _ _=>none)
 (fun _ _=>()) () (fun _ _ _ _=>()) v
def X0w(id:Nat)(_:Code)(f:Qoi):Qoi:=fun P E C rd k s=>ob (f P E C rd k s) fun p=>Prod.rec (motive:=fun _=>XS) (fun e s=>Exit.rec (motive:=fun _=>XS) (some (.normal,s)) (fun i=>bq (Nat.beq i id) (some (.normal,s)) (some (.exit i,s))) (fun i=>some (.goto i,s)) (some (.ret,s)) (fun ch=>some (.panic ch,s)) (some (.outgrown,s)) e) p
def Xxc(body:St→XS)(k:Nat):St→XS:=Nat.rec (motive:=fun _=>St→XS) (fun _=>none) (fun _ f s=>ob (body s) (Xes f)) k
def X3c(_:Code)(f:Qoi):Qoi:=fun P E C rd k s=>Xxc (f P E C rd k) k s
def X4a(g:Operand)(ps:Array Tmp)(asg bd:Code)(_ _:Qoi):Qoi:=fun _ E C rd _ s=>Xpu E C rd g ps asg bd s
def X3i(id:Nat):Qoi:=fun _ _ _ _ _ s=>some (.exit id,s)
def X0v(_:Code)(_:Qoi):Qoi:=fun _ _ _ _ _ _=>none
def X1k(_:Nat):Qoi:=X2k
def X3s(_:Nat):Qoi:=fun _ _ _ _ _ _=>none
def X4v:Qoi:=fun _ _ _ _ _ s=>some (.ret,s)
def Xzo(_:String):Qoi:=fun _ _ _ _ _ _=>none
def Qkg(P:Program)(E:Env2 P)(C:CallF)(rd:Option Nat)(k:Nat)(c:Code)(s:St):XS :=
 Code.rec (motive:=fun _=>Qoi) X2k Xzt X4t X49 X0w X3c X4a X3i X0v X1k X3s X4v Xzo c P E C rd k s
theorem Xoj{f g:St→XS}(h:∀ s,f s=g s):∀ (k:Nat) (s:St),Xxc f k s=Qvw g k s
 | 0,s=>rfl
 | k+1,s=>by
  show ob (f s) (Xes (Xxc f k))=_
  rw[h s]
  simp only[Qvw]
  rcases g s with _ | ⟨e,s'⟩
  ·rfl
  ·simp only[ob_some]
   cases e <;> first | rfl | (rw[Qme];exact Xoj h k s')
theorem Qm0{P:Program}(E:Env2 P)(C:CallF)(rd:Option Nat)(k:Nat):∀ (c:Code) (s:St),Qkg P E C rd k c s=Qgp E C rd k c s
 | .skip,s=>rfl
 | .region id ops true,s=>by
  show ob (Qo5 E C ops.toList s) _=_
  simp only[Qgp]
  cases Qo5 E C ops.toList s <;> rfl
 | .region id ops false,s=>by
  show X2a P E C rd ops.toList ops.toList s=_
  simp only[Qgp,Xsb]
 | .seq x y,s=>by
  show ob (Qkg P E C rd k x s) (Xes (Qkg P E C rd k y))=_
  rw[Qm0 E C rd k x s]
  simp only[Qgp]
  rcases Qgp E C rd k x s with _ | ⟨e,s'⟩
  ·rfl
  ·simp only[ob_some]
   cases e <;> first | rfl | (rw[Qme];exact Qm0 E C rd k y s')
 | .cond c x y,s=>by
  show ob (Go.Ab.rd c E.G.n s.t) _=_
  rw[Qf6]
  simp only[Qgp]
  rcases aev E.G s.t c with _ | v
  ·rfl
  ·cases v <;> first | rfl | skip
   rename_i b
   cases b with
   | true=>exact Qm0 E C rd k x s
   | false=>exact Qm0 E C rd k y s
 | .block id c,s=>by
  show ob (Qkg P E C rd k c s) _=_
  rw[Qm0 E C rd k c s]
  simp only[Qgp]
  rcases Qgp E C rd k c s with _ | ⟨e,s'⟩
  ·rfl
  ·simp only[ob_some]
   cases e <;> first | rfl | skip
   rename_i i
   simp only
   cases Nat.beq i id <;> rfl
 | .loop c,s=>by
  show Xxc (Qkg P E C rd k c) k s=_
  simp only[Qgp]
  exact Xoj (Qm0 E C rd k c) k s
 | .rangeFunc g ps asg bd,s=>rfl
 | .exit id,s=>rfl
 | .scope c,s=>rfl
 | .label l,s=>rfl
 | .goto l,s=>rfl
 | .ret,s=>rfl
 | .refuse w,s=>rfl
def Xp6 (P : Program) (E : Env2 P) (C : CallF) (D : Qdo) (k : Nat) (f : FuncId) (args : List Value) (h : Heap) : Option (AEnd × Heap) :=
  ob (E.fn.get f) fun fn => ob fn.body fun c => bq (Nat.ble args.length fn.ntmps) (match Qkg P E C none k c ⟨Yi fn args, [], h⟩ with
      | some (.normal, s) | some (.ret, s) => Y1 E D fn s.t s.ds .returning s.h
      | some (.panic ch, s) => Y1 E D fn s.t s.ds (.panicking ch) s.h
      | _ => none) none
theorem Xxb{P:Program}(E:Env2 P)(C:CallF)(D:Qdo)(k:Nat)(f:FuncId)(args:List Value)(h:Heap):Xp6 P E C D k f args h=Xlt E C D k f args h:=by
 unfold Xp6 Xlt
 cases E.fn.get f with
 | none=>rfl
 | some fn =>
  simp only[ob_some]
  cases fn.body with
  | none=>rfl
  | some c =>
   simp only[ob_some]
   cases Nat.ble args.length fn.ntmps with
   | false=>rfl
   | true =>
    simp only[bq_true,Qm0]
    rcases Qgp E C none k c ⟨Yi fn args,[],h⟩with _ | ⟨e,s⟩
    ·rfl
    ·cases e <;> rfl
def Xon(P:Program)(E:Env2 P)(C:CallF)(k:Nat)(l:Nat)(args:List Value)(h:Heap):Option (AEnd × Heap) :=
 match h.get l with
 | some (.obj (.loop .ready _ t ps asg bd _))=>match Xqx t.size ps.toList args with
  | false=>none
  | true=>match Qkg P E C (some l) k asg ⟨Xeg t ps.toList args,[],h⟩with
   | some (.normal,s1)=>match s1.h.get l with
    | some (.obj (.loop .ready p1 t1 ps1 as1 bd1 d1))=>match Qkg P E C (some l) k bd {s1 with h:=s1.h.set l (some (.obj (.loop .busy p1 t1 ps1 as1 bd1 d1)))} with
     | some (e,s2)=>match Xnh e,s2.h.get l with
      | some j,some (.obj (.loop _ _ t2 ps2 as2 bd2 d2))=>some (.ret (.bool j.isNone),s2.h.set l (some (.obj (.loop (if j.isNone then .ready else .done) j t2 ps2 as2 bd2 d2))))
      | _,_=>none
     | none=>none
    | _=>none
   | _=>none
 | _=>none
theorem Xue{P:Program}(E:Env2 P)(C:CallF)(k:Nat)(l:Nat)(args:List Value)(h:Heap):Xon P E C k l args h=Q9f E C k l args h:=by
 unfold Xon Q9f
 simp only[Qm0]
 rfl
def Ud(P:Program)(E:Env2 P)(X:Qm3)(k:Nat)(n:Nat):CallF :=
 Nat.rec (motive:=fun _=>CallF) ⟨X,fun _ _ _=>none⟩ (fun _ C=>⟨fun f args h=>Option.rec (motive:=fun _=>Option (AEnd × Heap)) (Xp6 P E C (Qrp E C k) k f args h) (fun r=>some r) (X f args h),fun l args h=>Xon P E C k l args h⟩) n
theorem Xis{P:Program}(E:Env2 P)(X:Qm3)(k:Nat):∀ n,Ud P E X k n=Xd2 E X k n
 | 0=>rfl
 | n+1=>by
  have ih:=Xis E X k n
  show(⟨fun f args h=>Option.rec (motive:=fun _=>Option (AEnd × Heap)) (Xp6 P E (Ud P E X k n) (Qrp E (Ud P E X k n) k) k f args h) (fun r=>some r) (X f args h),fun l args h=>Xon P E (Ud P E X k n) k l args h⟩:CallF)=_
  rw[ih]
  simp only[Xd2,CallF.mk.injEq]
  refine⟨?_,?_⟩
  ·funext f args h
   rw[Xxb]
   cases X f args h <;> rfl
  ·funext l args h
   exact Xue E _ k l args h
end Go.Ab
