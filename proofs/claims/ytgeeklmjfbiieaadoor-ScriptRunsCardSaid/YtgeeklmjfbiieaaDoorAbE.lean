import Derived.Test.YtgeeklmjfbiieaaDoorAbD
import Derived.KernelRfl
import Derived.ChangeArms
import Derived.OpenShut
import Derived.Lib.LaidU8
import Derived.ChangeSame
import Derived.RowKit
import Derived.MakeChecks
set_option linter.all false
noncomputable section
namespace Go.Ab
def Zep(P:Program)(f:Nat):Option Func:=match P.funcs[f]? with
 | some F=>if F.name == "runtime.NumGoroutine" then none else if F.body.isSome then some F else none
 | none=>none
theorem Zej{P:Program}{f:Nat}{F:Func}(h:Zep P f=some F):P.funcs[f]? = some F∧(F.name == "runtime.NumGoroutine")=false∧F.body.isSome=true:=by
 unfold Zep at h
 split at h
 ·rename_i F0 h0
  split at h
  ·cases h
  ·rename_i h1
   split at h
   ·rename_i h2;cases h;exact⟨h0,by simpa using h1,h2⟩
   ·cases h
 ·cases h
def Yxo(P:Program):Nat→Tr Func
 | 0 => .leaf
 | n+1=>(Yxo P n).put n (Zep P n)
theorem Yum(P:Program):∀ (n:Nat) (f:FuncId) (F:Func),(Yxo P n).get f=some F→Zep P f=some F
 | 0,f,F,h=>by simp[Yxo]at h
 | n+1,f,F,h=>by
  rw[Yxo,Tr.get_put]at h
  split at h
  ·rename_i e;subst e;exact h
  ·exact Yum P n f F h
def Zfb(P:Program)(f:Nat):Option ExtK:=match P.funcs[f]? with
 | some F=>Y7y F
 | none=>none
def Yyk(P:Program):Nat→Tr ExtK
 | 0 => .leaf
 | n+1=>(Yyk P n).put n (Zfb P n)
theorem Yws(P:Program):∀ (n:Nat) (f:FuncId) (x:ExtK),(Yyk P n).get f=some x→Zfb P f=some x
 | 0,f,x,h=>by simp[Yyk]at h
 | n+1,f,x,h=>by
  rw[Yyk,Tr.get_put]at h
  split at h
  ·rename_i e;subst e;exact h
  ·exact Yws P n f x h
theorem Zfp{P:Program}{f:Nat}{x:ExtK}(h:Zfb P f=some x):∃ F,P.funcs[f]? = some F∧Y7y F=some x:=by
 unfold Zfb at h
 split at h
 ·rename_i F hF;exact⟨F,hF,h⟩
 ·cases h
def mkE(P:Program)(n b:Nat):Env2 P :=
 {ty:=Yvm P P.types.size,tyok:=fun t r h=>Zdr (Yx3 P _ t r h),G:=⟨n,b⟩,fn:=Yxo P P.funcs.size,fnok:=fun f F h=>Zej (Yum P _ f F h),ex:=Yyk P P.funcs.size,exok:=fun f x h=>Zfp (Yws P _ f x h)}
end Go.Ab
noncomputable section
namespace Go.Ab
section
variable{H:Type}(P:Program)
def Xqb(g:TypeId→DataW H→Option (List Value))(tot:Nat):List Field→List (DataW H)→Nat→Option (List Value)
 | [],[],acc=>if acc == tot then some []else none
 | f::fs,d::ds,acc=>if f.offset == acc then(match g f.type d with
  | some l=>if l.length == P.cellsOf f.type then(match Xqb g tot fs ds (acc+l.length)with | some r=>some (l++r) | none=>none)else none
  | none=>none)else none
 | _,_,_=>none
def Yx8(g:DataW H→Option (List Value))(sz tot:Nat):List (DataW H)→Nat→Option (List Value)
 | [],acc=>if acc == tot then some []else none
 | d::ds,acc=>match g d with
  | some l=>if l.length == sz then(match Yx8 g sz tot ds (acc+sz)with | some r=>some (l++r) | none=>none)else none
  | none=>none
def Ymu:Nat→TypeId→DataW H→Option (List Value)
 | 0,_,_=>none
 | k+1,t,d =>
  match P.underlying t,d with
  | some .bool,.lit (.bool b)=>some [.bool b]
  | some (.int k'),.lit (.int _ n)=>some [.int k' n]
  | some .string,.lit (.string l)=>some [.string ⟨l.toArray⟩]
  | some (.struct fs),.agg ds=>Xqb P (Ymu k) (P.cellsOf t) fs.toList ds 0
  | some (.array n e),.agg ds=>if ds.length == n then Yx8 (Ymu k e) (P.cellsOf e) (P.cellsOf t) ds 0 else none
  | _,_=>none
end
section
variable{H:Type}{enc:TypeId × Value→H}{P:Program}{w:World}{base:Nat}{sp:Nat→Bool}{held:Bool}
theorem Yms{g:TypeId→DataW H→Option (List Value)}{cs:List Value}{n:Nat}
  (hg:∀ t d l cs p,g t d=some l→DataW.trod enc P w base sp held n t cs=some (d,p)→cs=l) :
  ∀ (fs:List Field) (ds:List (DataW H)) (acc:Nat) (l:List Value),Xqb P g cs.length fs ds acc=some l →
  (∀ (i:Nat) (f:Field) d,fs[i]? = some f→ds[i]? = some d→∃ p,DataW.trod enc P w base sp held n f.type ((cs.drop f.offset).take (P.cellsOf f.type))=some (d,p))→cs.drop acc=l
 | [],[],acc,l,h,_=>by
  simp only[Xqb]at h
  split at h
  ·rename_i e;cases h;simp at e;simp[e]
  ·cases h
 | f::fs,d::ds,acc,l,h,ht=>by
  simp only[Xqb]at h
  split at h
  ·rename_i e0
   simp only[beq_iff_eq]at e0
   split at h
   ·rename_i l0 hl0
    split at h
    ·rename_i e1
     simp only[beq_iff_eq]at e1
     split at h
     ·rename_i r hr
      cases h
      have ih:=Yms hg fs ds _ r hr (fun i f' d' hf hd=>ht (i+1) f' d' (by simpa using hf) (by simpa using hd))
      obtain⟨p,h0⟩:=ht 0 f d (by simp) (by simp)
      have h1:=hg _ _ _ _ _ hl0 h0
      rw[e0,← e1]at h1
      rw[← ih,← List.drop_drop,← List.take_append_drop l0.length (cs.drop acc),h1]
      simp
     ·cases h
    ·cases h
   ·cases h
  ·cases h
 | [],_::_,_,_,h,_=>by simp[Xqb]at h
 | _::_,[],_,_,h,_=>by simp[Xqb]at h
theorem Yxz{g:DataW H→Option (List Value)}{cs:List Value}{n sz:Nat}{e:TypeId}
  (hg:∀ d l cs p,g d=some l→DataW.trod enc P w base sp held n e cs=some (d,p)→cs=l) :
  ∀ (ds:List (DataW H)) (j:Nat) (l:List Value),Yx8 g sz cs.length ds (j*sz)=some l →
  (∀ (i:Nat) d,ds[i]? = some d→∃ p,DataW.trod enc P w base sp held n e ((cs.drop ((j+i)*sz)).take sz)=some (d,p))→cs.drop (j*sz)=l
 | [],j,l,h,_=>by
  simp only[Yx8]at h
  split at h
  ·rename_i e;cases h;simp at e;simp[e]
  ·cases h
 | d::ds,j,l,h,ht=>by
  simp only[Yx8]at h
  split at h
  ·rename_i l0 hl0
   split at h
   ·rename_i e1
    simp only[beq_iff_eq]at e1
    split at h
    ·rename_i r hr
     cases h
     have e2:j*sz+sz=(j+1)*sz:=by rw[Nat.add_mul];simp
     rw[e2]at hr
     have ih:=Yxz hg ds (j+1) r hr (fun i d' hd=>by
      have:=ht (i+1) d' (by simpa using hd)
      rwa [show j+(i+1)=j+1+i from by omega]at this)
     obtain⟨p,h0⟩:=ht 0 d (by simp)
     have h1:=hg _ _ _ _ hl0 h0
     simp only[Nat.add_zero]at h1
     rw[← ih,← e2,← List.drop_drop,← List.take_append_drop sz (cs.drop (j*sz)),h1]
     simp[e1]
    ·cases h
   ·cases h
  ·cases h
theorem Yd1:∀ (k:Nat) (t:TypeId) (d:DataW H) (l cs:List Value) (n:Nat) (p:List MemPlace),Ymu P k t d=some l→DataW.trod enc P w base sp held n t cs=some (d,p)→cs=l
 | 0,_,_,_,_,_,_,h,_=>by simp[Ymu]at h
 | k+1,t,d,l,cs,n,p,h,ht=>by
  simp only[Ymu]at h
  split at h
  ·rename_i b hu
   cases h
   obtain⟨b',rfl,e⟩:=DataW.trod_bool hu ht
   cases e;rfl
  ·rename_i k' k2 z hu
   cases h
   obtain⟨n',rfl,e,_⟩:=DataW.trod_int hu ht
   cases e;rfl
  ·rename_i s hu
   cases h
   obtain⟨s',rfl,e,_⟩:=DataW.trod_string hu ht
   cases e;simp
  ·rename_i fs ds hu
   obtain⟨xs,m,rfl,e,hl,hxl,hall⟩:=DataW.trod_struct hu ht
   simp only[Prod.mk.injEq,DataW.agg.injEq]at e
   rw[← hl]at h
   have:=Yms (n:=m) (fun t d l cs p h1 h2=>Yd1 k t d l cs m p h1 h2) _ _ _ _ h (fun i f d hf hd=>by
    have h1:=hall i f (by simpa using hf)
    rw[e.1,List.getElem?_map]at hd
    rw[h1]
    cases hx:xs[i]? with
    | none=>rw[hx]at hd;cases hd
    | some y=>rw[hx]at hd;cases hd;exact⟨y.2,rfl⟩)
   simpa using this
  ·rename_i n' e' ds hu
   obtain⟨xs,m,rfl,e,hl,hxl,hall⟩:=DataW.trod_array hu ht
   simp only[Prod.mk.injEq,DataW.agg.injEq]at e
   split at h
   ·rename_i hn
    rw[← hl]at h
    have:=Yxz (n:=m) (fun d l cs p h1 h2=>Yd1 k e' d l cs m p h1 h2) ds 0 l (by simpa using h) (fun i d hd=>by
     rw[e.1,List.getElem?_map]at hd
     cases hx:xs[i]? with
     | none=>rw[hx]at hd;cases hd
     | some y =>
      rw[hx]at hd;cases hd
      have hi:i < xs.length:=(List.getElem?_eq_some_iff.1 hx).1
      have h1:=hall i (by omega)
      rw[hx]at h1
      simp only[Nat.zero_add]
      exact⟨y.2,h1⟩)
    simpa using this
   ·cases h
  ·cases h
end
def Yxk:List (Nat × List Value)→Tr Blk
 | [] => .leaf
 | x::l=>(Yxk l).put x.1 (some (.cells false 0 x.2))
def Quh(n:Nat)(l:List (Nat × List Value)):Heap:=⟨n,n,Yxk l⟩
def Ynj(n:Nat):Ren:=fun b=>if b < n then some ⟨b,0,0,0,none⟩else none
theorem Xm3:∀ (l:List (Nat × List Value)) (b:Nat) (x:Blk),(Yxk l).get b=some x→∃ c,(b,c) ∈ l∧x=.cells false 0 c
 | [],b,x,h=>by simp[Yxk]at h
 | y::l,b,x,h=>by
  simp only[Yxk]at h
  rw[Tr.get_put]at h
  split at h
  ·rename_i e;subst e;cases h;exact⟨y.2,by simp,rfl⟩
  ·obtain⟨c,h1,h2⟩:=Xm3 l b x h
   exact⟨c,by simp[h1],h2⟩
theorem Y9u{W:World}{n:Nat}{l:List (Nat × List Value)}(hn:n≤W.heap.size)(hl:∀ x ∈ l,(∀ v ∈ x.2,flat v=true∧v.oneCell'=true)∧∃ C e fr,W.heap[x.1]? = some (.cells C e fr)∧C.toList=x.2) :
  HRel ⟨n,W.heap.size⟩ (Ynj n) (Quh n l) W:=by
 have hget:∀ b x,(Quh n l).get b=some x→b < n∧∃ c,(b,c) ∈ l∧x=.cells false 0 c:=by
  intro b x h
  unfold Heap.get at h
  split at h
  ·rename_i hb;exact⟨hb,Xm3 l b x h⟩
  ·cases h
 have hα:∀ b p,Ynj n b=some p→b < n∧p=⟨b,0,0,0,none⟩:=by
  intro b p h
  unfold Ynj at h
  split at h
  ·cases h;exact⟨by assumption,rfl⟩
  ·cases h
 have hown:∀ b,(Quh n l).own b=false:=by
  intro b
  unfold Heap.own
  cases hb:(Quh n l).get b with
  | none=>rfl
  | some x=>obtain⟨_,c,_,rfl⟩:=hget b x hb;rfl
 refine⟨fun b p h => ?_,fun b p x hb hx => ?_,fun b c p q _ _ _ ho _ => ?_,fun g hg=>⟨?_,hown g⟩,Nat.le_refl _,fun b x hx => ?_,fun b p x hb hx => ?_,Nat.le_refl _⟩
 ·obtain⟨h1,rfl⟩:=hα b p h
  exact⟨h1,trivial⟩
 ·obtain⟨h1,rfl⟩:=hα b p hb
  obtain⟨_,c,hc,rfl⟩:=hget b x hx
  obtain⟨hf,C,e,fr,h2,h3⟩:=hl _ hc
  refine⟨rfl,.inr ⟨C,e,fr.1,fr.2,h2,fun i v hv => ?_,fun h=>by cases h⟩⟩
  have hv':=hf v (List.mem_of_getElem? hv)
  simp only at h3
  refine⟨?_,flat_ok _ v hv'.1,hv'.2⟩
  rw[Qfm _ hv'.1,← hv,← h3]
  simp
 ·rw[hown b]at ho;cases ho
 ·simp[Ynj,show g < n from hg]
 ·obtain⟨_,c,hc,rfl⟩:=hget b x hx
  intro v hv
  exact⟨flat_ok _ v ((hl _ hc).1 v hv).1,((hl _ hc).1 v hv).2⟩
 ·obtain⟨h1,rfl⟩:=hα b p hb
  obtain⟨_,c,_,rfl⟩:=hget b x hx
  refine⟨fun h => ?_,fun _ _=>⟨Nat.lt_of_lt_of_le h1 hn,rfl⟩⟩
  simp[Blk.own]at h
def Zb8(P:Program)(laid:List (String × DataW Unit))(n:Nat)(l:List (Nat × List Value)):Prop :=
 ∀ x ∈ l,x.1 < n∧(∀ v ∈ x.2,flat v=true∧v.oneCell'=true)∧∃ name t d k,(name,d) ∈ laid∧P.globalNamed name=some x.1∧(P.globals[x.1]?).map (·.type)=some t∧Ymu P k t d=some x.2
theorem Yoq{P:Program}{W:World}{laid:List (String × DataW Unit)}{n:Nat}{l:List (Nat × List Value)}(h:laidMet P laid W)(hl:Zb8 P laid n l)(hn:n≤W.heap.size) :
  HRel ⟨n,W.heap.size⟩ (Ynj n) (Quh n l) W:=by
 refine Y9u hn fun x hx => ?_
 obtain⟨_,hf,name,t,d,k,hm,hg,ht,hd⟩:=hl x hx
 refine⟨hf,?_⟩
 obtain⟨g,t',cs,fuel,p,h1,h2,h3,h4⟩:=Lib.laidMet.reads h hm
 obtain rfl:=Option.some.inj (hg.symm.trans h1)
 obtain rfl:=Option.some.inj (ht.symm.trans h2)
 have:=Yd1 k _ _ _ _ _ _ hd h4
 unfold World.var? at h3
 rw[hg]at h3
 simp only[Option.bind_some]at h3
 split at h3
 ·rename_i C e fr hC
  cases h3
  exact⟨_,e,fr,hC,this⟩
 ·cases h3
end Go.Ab
noncomputable section
namespace Go.Ab
end Go.Ab
noncomputable section
namespace Go.Ab
def ob{A B:Type}(x:Option A)(f:A→Option B):Option B:=Option.rec (motive:=fun _=>Option B) none f x
@[simp] theorem ob_some {A B:Type} (a:A) (f:A→Option B):ob (some a) f=f a:=rfl
@[simp] theorem ob_none {A B:Type} (f:A→Option B):ob none f=none:=rfl
def bq{A:Type}(b:Bool)(x y:A):A:=Bool.rec (motive:=fun _=>A) y x b
@[simp] theorem bq_true {A:Type} (x y:A):bq true x y=x:=rfl
@[simp] theorem bq_false {A:Type} (x y:A):bq false x y=y:=rfl
def rT(i:Nat)(_:Nat)(t:Tm):Option Value:=t.t.get i
def rC(v:Value)(_:Nat)(_:Tm):Option Value:=bq (flat v) (some v) none
def rG(g n:Nat)(_:Tm):Option Value:=bq (Nat.blt g n) (some (.pointer (some ⟨g,0,none⟩))) none
def rF(f:FuncId)(_:Nat)(_:Tm):Option Value:=some (.func (.func f) #[] #[])
def rd(x:Operand)(n:Nat)(t:Tm):Option Value:=Operand.rec (motive:=fun _=>Nat→Tm→Option Value) rT rC rG rF x n t
theorem Qoj(G:Bs)(t:Tm)(x:Operand):rd x G.n t=aev G t x:=by
 cases x with
 | tmp i=>rfl
 | const v=>show rC v 0 t=_;simp only[rC,aev];cases flat v <;> rfl
 | global g =>
  show rG g G.n t=_
  simp only[rG,aev]
  by_cases h:g < G.n
  ·rw[show Nat.blt g G.n=true from by simpa using h];simp[h]
  ·rw[Bool.eq_false_iff.2 (fun hb:Nat.blt g G.n=true=>h (by simpa using hb))];simp[h]
 | func f=>rfl
def gvF(r:Option (Value × Heap)):Option Res:=ob r fun p=>Prod.rec (motive:=fun _=>Option Res) (fun v h=>some (.val v h)) p
def g0F(h:Heap)(r:Option Value):Option Res:=ob r fun v=>some (.val v h)
def gsF(r:Option Heap):Option Res:=ob r fun h=>some (.skip h)
theorem Xpn(r:Option (Value × Heap)):gvF r=gv r:=by cases r <;> rfl
theorem Qp1(h:Heap)(r:Option Value):g0F h r=g0 h r:=by cases r <;> rfl
theorem Y37(r:Option Heap):gsF r=gs r:=by cases r <;> rfl
abbrev OpF:=∀ P:Program,Env2 P→Tm→Heap→Option Res
def Y74(x:Operand):OpF:=fun _ E t h=>g0F h (rd x E.G.n t)
def Zk8(c a b:Operand):OpF:=fun _ E t h=>match rd c E.G.n t with
 | some (.bool true)=>g0F h (rd a E.G.n t)
 | some (.bool false)=>g0F h (rd b E.G.n t)
 | _=>none
def Y8g(e:TypeId):OpF:=fun _ E _ h=>gvF (Qe4 E.toEnv e h)
def Zov(_:TypeId)(x:Operand):OpF:=fun _ E t h=>ob (rd x E.G.n t) fun v=>gvF (X7w v h)
def Zca(ty:TypeId)(ps:Array (Nat × Operand)):OpF:=fun _ E t h=>ob (Qi E.G t ps.toList) fun l=>g0F h (Qr0 E.toEnv ty l)
def Xrb(ty:TypeId)(n:Nat)(ps:Array (Nat × Operand)):OpF:=fun _ E t h=>ob (Qi E.G t ps.toList) fun l=>gvF (Jp E.toEnv ty n l h)
def Xx1(ty:TypeId)(m k x:Operand):OpF:=fun _ E t h=>ob (rd m E.G.n t) fun a=>ob (rd k E.G.n t) fun b=>ob (rd x E.G.n t) fun c=>gsF (Qhp E.toEnv ty a b c h)
def Zjx(ty:TypeId)(a:Operand):OpF:=fun _ E t h=>ob (rd a E.G.n t) fun x=>g0F h (Qih E.toEnv ty x h)
def Y8i(ty:TypeId)(a v:Operand):OpF:=fun _ E t h=>ob (rd a E.G.n t) fun x=>ob (rd v E.G.n t) fun y=>gsF (Qeu E.toEnv ty x y h)
def oN1(_:Nat):OpF:=fun _ _ _ _=>none
def X91(x:Operand):OpF:=fun _ E t h=>ob (rd x E.G.n t) fun v=>g0F h (Xla v)
def Zp1(op:BinOp)(ty:TypeId)(x y:Operand)(_:TypeId):OpF:=fun _ E t h=>ob (rd x E.G.n t) fun a=>ob (rd y E.G.n t) fun b=>g0F h (Yu E.toEnv op ty (Q6 x || Q6 y) a b)
def oUn(op:UnOp)(_:TypeId)(x:Operand):OpF:=fun _ E t h=>ob (rd x E.G.n t) fun v=>g0F h (aUn op v)
def Zhi(src dst:TypeId)(x:Operand):OpF:=fun _ E t h=>ob (rd x E.G.n t) fun v=>bq (Qmr E.toEnv src dst) (g0F h (Qli E.toEnv src dst v)) (gvF (Xtj E.toEnv src dst v h))
def Yzp(ty:TypeId)(x:Operand):OpF:=fun _ E t h=>ob (rd x E.G.n t) fun v=>g0F h (Xxu E.toEnv ty v)
def Yrh(ty:TypeId)(x:Operand):OpF:=fun _ E t h=>ob (rd x E.G.n t) fun v=>g0F h (Xlu E.toEnv ty v)
def Y25(fn:Fn)(a b:Array Operand):OpF:=fun _ E t h=>ob (evs E.G t a.toList) fun x=>ob (evs E.G t b.toList) fun y=>g0F h (Xwy fn x y)
def Yp2(ty:TypeId)(r:Option Operand):OpF:=fun _ E t h=>ob (evO E.G t r) fun hv=>gvF (Q7i E.toEnv ty hv h)
def oN2(_:TypeId)(_:Operand):OpF:=fun _ _ _ _=>none
def Xxo(ty:TypeId)(n c:Operand):OpF:=fun _ E t h=>ob (rd n E.G.n t) fun x=>ob (rd c E.G.n t) fun y=>gvF (Qn3 E.toEnv ty x y h)
def Y8a(ty:TypeId)(x:Operand)(lo hi mx:Option Operand):OpF:=fun _ E t h=>ob (rd x E.G.n t) fun v=>ob (evO E.G t lo) fun a=>ob (evO E.G t hi) fun b=>ob (evO E.G t mx) fun c=>gvF (Qcd E.toEnv ty v a b c h)
def Xxd(ty:TypeId)(x:Operand)(f:Nat):OpF:=fun _ E t h=>ob (rd x E.G.n t) fun v=>g0F h (Ua E.toEnv ty v f)
def Zac(ty:TypeId)(x:Operand)(f:Nat):OpF:=fun _ E t h=>ob (rd x E.G.n t) fun v=>g0F h (Y4s E.toEnv ty v f)
def Xxc(ty:TypeId)(x i:Operand):OpF:=fun _ E t h=>ob (rd x E.G.n t) fun a=>ob (rd i E.G.n t) fun b=>g0F h (Zn E.toEnv ty a b)
def Zc5(ty:TypeId)(x i:Operand):OpF:=fun _ E t h=>ob (rd x E.G.n t) fun a=>ob (rd i E.G.n t) fun b=>g0F h (Yvu E.toEnv ty a b)
def Y0z(ty:TypeId)(x k:Operand)(ok:Bool):OpF:=fun _ E t h=>ob (rd x E.G.n t) fun a=>ob (rd k E.G.n t) fun b=>g0F h (Qoo E.toEnv ty a b ok h)
def Yhe(ty:TypeId)(m k:Operand):OpF:=fun _ E t h=>ob (rd m E.G.n t) fun a=>ob (rd k E.G.n t) fun b=>gvF (Q4m E.toEnv ty a b h)
def Xr0(_:TypeId)(m st x:Operand):OpF:=fun _ E t h=>ob (rd m E.G.n t) fun a=>ob (rd st E.G.n t) fun b=>ob (rd x E.G.n t) fun c=>gsF (Qrz a b c h)
def Zb4(ty:TypeId)(x:Operand):OpF:=fun _ E t h=>ob (rd x E.G.n t) fun v=>gvF (Ymw E.toEnv ty v h)
def Zja(x:Operand)(s:Bool):OpF:=fun _ E t h=>ob (rd x E.G.n t) fun v=>gvF (Y5l v s h)
def Zav(x:Operand):OpF:=fun _ E t h=>ob (rd x E.G.n t) fun v=>g0F h (Y3m v h)
def Y2h(x:Operand)(_ ty:TypeId)(ok:Bool):OpF:=fun _ E t h=>ob (rd x E.G.n t) fun v=>g0F h (X7i E.toEnv v ty ok)
def Ypt(x:Operand)(i:Nat):OpF:=fun _ E t h=>ob (rd x E.G.n t) fun v=>g0F h (Q8 v i)
def Zgm(P:Program)(E:Env2 P)(fv:Value)(args:List Value)(h:Heap):Option Res:=match Qj fv args with
 | some (f,l)=>match E.fn.get f with
  | some _=>some (.enter f l h)
  | none=>match E.ex.get f with
   | some x=>gv (Yn6 x l h)
   | none=>none
 | none=>Yh4 fv args h
def Zii(c:Call):OpF:=fun P E t h=>ob (evs E.G t c.args.toList) fun args=>match c.callee with
 | .builtin b=>Q5 E b c.argTypes.toList args h
 | .value f=>ob (rd f E.G.n t) fun fv=>Zgm P E fv args h
 | .invoke _ _=>none
def oN7(_:Call):OpF:=fun _ _ _ _=>none
def Zc4(x:Operand):OpF:=fun _ E t h=>match rd x E.G.n t with
 | some (.iface u v)=>some (.panic (.iface u v) h)
 | _=>none
def oN8(_ _:Operand):OpF:=fun _ _ _ _=>none
def oN9(_:TypeId)(_:Operand)(_:Bool):OpF:=fun _ _ _ _=>none
def Zqa(_:Array SelectCase)(_:Bool):OpF:=fun _ _ _ _=>none
def Zq1(P:Program)(E:Env2 P)(o:Op)(t:Tm)(h:Heap):Option Res :=
 Op.rec (motive:=fun _=>OpF) Y74 Y74 Zk8 Y8g Zov Zca Xrb Xx1 Zjx Y8i oN1 oN1 X91 Zp1 oUn Zhi Yzp Yrh Y25 Yp2 oN2 Xxo Y8a Xxd Zac Xxc Zc5 Y0z
  Xx1 Yhe Xr0 Zb4 Zja Zav Y2h Ypt Zii oN7 oN7 Zc4 oN8 oN9 Zqa o P E t h
theorem Zka{P:Program}(E:Env2 P)(t:Tm)(h:Heap)(o:Oper):Zq1 P E o.op t h=aop E t h o:=by
 obtain⟨d,op,ty,pos,af,g⟩:=o
 have two:∀ {A:Type} (x y:Option Value) (f:Value→Value→Option A),(match x,y with | some a,some b=>f a b | _,_=>none)=ob x fun a=>ob y fun b=>f a b:=by
  intro A x y f;cases x <;> cases y <;> rfl
 cases op with
 | move x=>show Y74 x P E t h=_;simp only[Y74,aop,Qoj,Qp1]
 | assign x=>show Y74 x P E t h=_;simp only[Y74,aop,Qoj,Qp1]
 | pick c a b =>
  show Zk8 c a b P E t h=_
  simp only[Zk8,aop,Qoj,Qp1]
  rcases aev E.G t c with _ | v
  ·rfl
  ·cases v <;> first | rfl | (rename_i b;cases b <;> rfl)
 | alloc e=>show Y8g e P E t h=_;simp only[Y8g,aop,Xpn]
 | box e x=>show Zov e x P E t h=_;simp only[Zov,aop,Qoj,Xpn];cases aev E.G t x <;> rfl
 | build ty ps=>show Zca ty ps P E t h=_;simp only[Zca,aop,Qp1];cases Qi E.G t ps.toList <;> rfl
 | buildSlice ty n ps=>show Xrb ty n ps P E t h=_;simp only[Xrb,aop,Xpn];cases Qi E.G t ps.toList <;> rfl
 | insert ty m k x=>show Xx1 ty m k x P E t h=_;simp only[Xx1,aop,Qoj,Y37];cases aev E.G t m <;> cases aev E.G t k <;> cases aev E.G t x <;> rfl
 | load ty a=>show Zjx ty a P E t h=_;simp only[Zjx,aop,Qoj,Qp1];cases aev E.G t a <;> rfl
 | store ty a v=>show Y8i ty a v P E t h=_;simp only[Y8i,aop,Qoj,Y37];cases aev E.G t a <;> cases aev E.G t v <;> rfl
 | ready g=>rfl
 | waits g=>rfl
 | nilCheck x=>show X91 x P E t h=_;simp only[X91,aop,Qoj,Qp1];cases aev E.G t x <;> rfl
 | binOp op ty x y yt=>show Zp1 op ty x y yt P E t h=_;simp only[Zp1,aop,Qoj,Qp1];cases aev E.G t x <;> cases aev E.G t y <;> rfl
 | unOp op ty x=>show oUn op ty x P E t h=_;simp only[oUn,aop,Qoj,Qp1];cases aev E.G t x <;> rfl
 | convert s d x =>
  show Zhi s d x P E t h=_;simp only[Zhi,aop,Qoj,Qp1,Xpn];cases aev E.G t x
  ·rfl
  ·cases Qmr E.toEnv s d <;> rfl
 | sliceToArrayPointer ty x=>show Yzp ty x P E t h=_;simp only[Yzp,aop,Qoj,Qp1];cases aev E.G t x <;> rfl
 | makeInterface ty x=>show Yrh ty x P E t h=_;simp only[Yrh,aop,Qoj,Qp1];cases aev E.G t x <;> rfl
 | makeFunc fn a b=>show Y25 fn a b P E t h=_;simp only[Y25,aop,Qp1];cases evs E.G t a.toList <;> cases evs E.G t b.toList <;> rfl
 | makeMap ty r=>show Yp2 ty r P E t h=_;simp only[Yp2,aop,Xpn];cases evO E.G t r <;> rfl
 | makeChan ty x=>rfl
 | makeSlice ty n c=>show Xxo ty n c P E t h=_;simp only[Xxo,aop,Qoj,Xpn];cases aev E.G t n <;> cases aev E.G t c <;> rfl
 | slice ty x lo hi mx=>show Y8a ty x lo hi mx P E t h=_;simp only[Y8a,aop,Qoj,Xpn];cases aev E.G t x <;> cases evO E.G t lo <;> cases evO E.G t hi <;> cases evO E.G t mx <;> rfl
 | fieldAddr ty x f=>show Xxd ty x f P E t h=_;simp only[Xxd,aop,Qoj,Qp1];cases aev E.G t x <;> rfl
 | field ty x f=>show Zac ty x f P E t h=_;simp only[Zac,aop,Qoj,Qp1];cases aev E.G t x <;> rfl
 | indexAddr ty x i=>show Xxc ty x i P E t h=_;simp only[Xxc,aop,Qoj,Qp1];cases aev E.G t x <;> cases aev E.G t i <;> rfl
 | index ty x i=>show Zc5 ty x i P E t h=_;simp only[Zc5,aop,Qoj,Qp1];cases aev E.G t x <;> cases aev E.G t i <;> rfl
 | lookup ty x k ok=>show Y0z ty x k ok P E t h=_;simp only[Y0z,aop,Qoj,Qp1];cases aev E.G t x <;> cases aev E.G t k <;> rfl
 | mapUpdate ty m k x=>show Xx1 ty m k x P E t h=_;simp only[Xx1,aop,Qoj,Y37];cases aev E.G t m <;> cases aev E.G t k <;> cases aev E.G t x <;> rfl
 | mapEntry ty m k=>show Yhe ty m k P E t h=_;simp only[Yhe,aop,Qoj,Xpn];cases aev E.G t m <;> cases aev E.G t k <;> rfl
 | entryStore ty m st x=>show Xr0 ty m st x P E t h=_;simp only[Xr0,aop,Qoj,Y37];cases aev E.G t m <;> cases aev E.G t st <;> cases aev E.G t x <;> rfl
 | range ty x=>show Zb4 ty x P E t h=_;simp only[Zb4,aop,Qoj,Xpn];cases aev E.G t x <;> rfl
 | next x s=>show Zja x s P E t h=_;simp only[Zja,aop,Qoj,Xpn];cases aev E.G t x <;> rfl
 | entry x=>show Zav x P E t h=_;simp only[Zav,aop,Qoj,Qp1];cases aev E.G t x <;> rfl
 | typeAssert x xt ty ok=>show Y2h x xt ty ok P E t h=_;simp only[Y2h,aop,Qoj,Qp1];cases aev E.G t x <;> rfl
 | extract x i=>show Ypt x i P E t h=_;simp only[Ypt,aop,Qoj,Qp1];cases aev E.G t x <;> rfl
 | call c =>
  show Zii c P E t h=_
  simp only[Zii,aop,Qoj]
  cases evs E.G t c.args.toList with
  | none=>rfl
  | some args =>
   simp only[ob_some]
   cases c.callee with
   | builtin b=>rfl
   | value f =>
    simp only
    cases aev E.G t f with
    | none=>rfl
    | some fv =>
     simp only[ob_some,Zgm]
     cases Qj fv args with
     | none=>rfl
     | some p=>rfl
   | invoke _ _=>rfl
 | go c=>rfl
 | defer c=>rfl
 | panic x =>
  show Zc4 x P E t h=_
  simp only[Zc4,aop,Qoj]
  rcases aev E.G t x with _ | v
  ·rfl
  ·cases v <;> rfl
 | send _ _=>rfl
 | recv _ _ _=>rfl
 | select _ _=>rfl
def Zpk(n:Nat)(d:Option Tmp):Bool:=Option.rec (motive:=fun _=>Bool) true (fun i=>Nat.blt i n) d
theorem Y9e(s:St)(d:Option Tmp):Zpk s.t.size d=Qf0 s d:=by cases d <;> rfl
def Zkp(s:St)(d:Option Tmp)(v:Value)(h:Heap):St:=Option.rec (motive:=fun _=>St) {s with h:=h} (fun i=>{t:=s.t.put i v,ds:=s.ds,h:=h}) d
theorem Ygm(s:St)(d:Option Tmp)(v:Value)(h:Heap):Zkp s d v h=s.put d v h:=by cases d <;> rfl
abbrev XS:=Option (Exit × St)
abbrev Zio:=CallF→Option Tmp→St→XS
def Zkm(o:Option Tmp)(s:St)(r:Option (AEnd × Heap)):XS:=ob r fun p=>Prod.rec (motive:=fun _=>XS) (fun e h=>AEnd.rec (motive:=fun _=>XS) (fun v=>some (.normal,Zkp s o v h)) (fun ch=>some (.panic ch,{s with h:=h})) e) p
def Zqj(v:Value)(h:Heap):Zio:=fun _ o s=>some (.normal,Zkp s o v h)
def Zpd(h:Heap):Zio:=fun _ o s=>some (.normal,Zkp s o X3 h)
def Zmo(f:FuncId)(args:List Value)(h:Heap):Zio:=fun C o s=>Zkm o s (C.fn f args h)
def Zm1(l:Nat)(args:List Value)(h:Heap):Zio:=fun C o s=>Zkm o s (C.rnd l args h)
def Zlf(_:Deferred)(_:Heap):Zio:=fun _ _ _=>none
def Zl9(v:Value)(h:Heap):Zio:=fun _ _ s=>some (.panic [{v,recovered:=false}],{s with h:=h})
def Zqb(r:Res)(C:CallF)(o:Option Tmp)(s:St):XS:=Res.rec (motive:=fun _=>Zio) Zqj Zpd Zmo Zm1 Zlf Zl9 r C o s
def Zi9(P:Program)(E:Env2 P)(rd:Option Nat)(o:Oper)(s:St):XS:=match o.op with
 | .defer c=>match rd with
  | none=>match X0w E s.t c with
   | some d=>some (.normal,({s with ds:=d::s.ds}:St).put o.dst X3 s.h)
   | none=>none
  | some _=>none
 | _=>none
def Qmp(P:Program)(E:Env2 P)(C:CallF)(rd:Option Nat)(o:Oper)(s:St):XS :=
 bq (Zpk s.t.size o.dst) (Option.rec (motive:=fun _=>XS) (Zi9 P E rd o s) (fun r=>Zqb r C o.dst s) (Zq1 P E o.op s.t s.h)) none
theorem Zdb{P:Program}(E:Env2 P)(C:CallF)(rd:Option Nat)(o:Oper)(s:St):Qmp P E C rd o s=Xl7 E C rd o s:=by
 unfold Qmp Xl7
 rw[Y9e]
 cases hd:Qf0 s o.dst with
 | false=>rfl
 | true =>
  simp only[Bool.not_true,Bool.false_eq_true,if_false,bq_true]
  rw[Zka]
  have hdef:∀ c,o.op=.defer c→aop E s.t s.h o=none:=by
   intro c hc;simp[aop,hc]
  split
  ·rename_i c hc
   rw[hdef c hc]
   simp only[Zi9,hc]
   cases rd with
   | none=>cases X0w E s.t c <;> rfl
   | some _=>rfl
  ·rename_i hne
   cases ha:aop E s.t s.h o with
   | none =>
    simp only[Zi9]
    all_goals (split <;> first | rfl | (rename_i c hc;exact absurd hc (hne c)))
   | some r =>
    simp only
    cases r with
    | val v h=>show some _=_;rw[Ygm]
    | skip h=>show some _=_;rw[Ygm]
    | enter f args h =>
     show Zkm o.dst s (C.fn f args h)=_
     simp only[Zkm]
     rcases C.fn f args h with _ | ⟨_ | _,h'⟩
     ·rfl
     ·simp only[ob_some,Ygm]
     ·rfl
    | round f args h =>
     show Zkm o.dst s (C.rnd f args h)=_
     simp only[Zkm]
     rcases C.rnd f args h with _ | ⟨_ | _,h'⟩
     ·rfl
     ·simp only[ob_some,Ygm]
     ·rfl
    | defer d h=>rfl
    | panic v h=>rfl
def Zi3(ops:List Oper)(t:Tm)(o:Oper):Option Bool:=Option.rec (motive:=fun _=>Option Bool) (some true) (fun _=>Qg ops t o) o.guard
theorem Zco(ops:List Oper)(t:Tm)(o:Oper):Zi3 ops t o=Qg ops t o:=by
 unfold Zi3
 cases hg:o.guard with
 | none=>simp[Qg,hg]
 | some p=>rfl
abbrev Zo1:=∀ P:Program,Env2 P→CallF→Option Nat→List Oper→St→XS
def goK(f:St→XS)(p:Exit × St):XS:=Prod.rec (motive:=fun _=>XS) (fun e s=>Exit.rec (motive:=fun _=>XS) (f s) (fun _=>none) (fun _=>none) none (fun ch=>some (.panic ch,s)) none e) p
def Zqg:Zo1:=fun _ _ _ _ _ s=>some (.normal,s)
def Zjb(o:Oper)(_:List Oper)(f:Zo1):Zo1:=fun P E C rd ops s =>
 ob (Zi3 ops s.t o) fun b=>bq b (ob (Qmp P E C rd o s) (goK (f P E C rd ops))) (bq (Zpk s.t.size o.dst) (f P E C rd ops (Zkp s o.dst X3 s.h)) none)
def Zmg(P:Program)(E:Env2 P)(C:CallF)(rd:Option Nat)(ops l:List Oper)(s:St):XS:=List.rec (motive:=fun _=>Zo1) Zqg Zjb l P E C rd ops s
theorem Y83{P:Program}(E:Env2 P)(C:CallF)(rd:Option Nat)(ops:List Oper):∀ (l:List Oper) (s:St),Zmg P E C rd ops l s=Xly E C rd ops l s
 | [],s=>rfl
 | o::r,s=>by
  have ih:=Y83 E C rd ops r
  show Zjb o r (fun P E C rd ops s=>Zmg P E C rd ops r s) P E C rd ops s=_
  simp only[Zjb,Xly,Zco,Zdb,Y9e,Ygm,ih]
  cases Qg ops s.t o with
  | none=>rfl
  | some b =>
   simp only[ob_some]
   cases b with
   | true =>
    simp only[bq_true]
    rcases Xl7 E C rd o s with _ | ⟨e,s'⟩
    ·rfl
    ·cases e <;> first | rfl | (show Zmg P E C rd ops r s'=_;exact ih s')
   | false =>
    simp only[bq_false]
    cases Qf0 s o.dst <;> rfl
abbrev Q54:=∀ P:Program,Env2 P→CallF→Option Nat→Nat→St→XS
def Ymk(f:St→XS)(p:Exit × St):XS:=Prod.rec (motive:=fun _=>XS) (fun e s=>Exit.rec (motive:=fun _=>XS) (f s) (fun i=>some (.exit i,s)) (fun i=>some (.goto i,s)) (some (.ret,s)) (fun ch=>some (.panic ch,s)) (some (.outgrown,s)) e) p
theorem Q0h(f:St→XS)(s:St):Ymk f (.normal,s)=f s:=rfl
def Zkx:Q54:=fun _ _ _ _ _ s=>some (.normal,s)
def Zjw(_:Nat)(ops:Array Oper)(draw:Bool):Q54:=fun P E C rd _ s=>bq draw (ob (Q21 E C ops.toList s) fun s'=>some (.normal,s')) (Zmg P E C rd ops.toList ops.toList s)
def Zq7(_ _:Code)(fx fy:Q54):Q54:=fun P E C rd k s=>ob (fx P E C rd k s) (Ymk (fy P E C rd k))
def Zoe(c:Operand)(_ _:Code)(fx fy:Q54):Q54:=fun P E C r k s=>ob (rd c E.G.n s.t) fun v=>Value.rec (motive_1:=fun _=>XS) (motive_2:=fun _=>Unit) (motive_3:=fun _=>Unit)
 (fun b=>bq b (fx P E C r k s) (fy P E C r k s)) (fun _ _=>none) (fun _ _=>none) (fun _ _ _=>none) (fun _=>none) (fun _=>none) (fun _ _ _=>none) (fun _=>none) (fun _=>none) (fun _ _ _ _ _=>none) none (fun _ _ _=>none) none (fun _ _=>none) (fun _ _=>none)
 (fun _ _=>()) () (fun _ _ _ _=>()) v
def Znf(id:Nat)(_:Code)(f:Q54):Q54:=fun P E C rd k s=>ob (f P E C rd k s) fun p=>Prod.rec (motive:=fun _=>XS) (fun e s=>Exit.rec (motive:=fun _=>XS) (some (.normal,s)) (fun i=>bq (Nat.beq i id) (some (.normal,s)) (some (.exit i,s))) (fun i=>some (.goto i,s)) (some (.ret,s)) (fun ch=>some (.panic ch,s)) (some (.outgrown,s)) e) p
def Zd2(body:St→XS)(k:Nat):St→XS:=Nat.rec (motive:=fun _=>St→XS) (fun _=>none) (fun _ f s=>ob (body s) (Ymk f)) k
def Zpf(_:Code)(f:Q54):Q54:=fun P E C rd k s=>Zd2 (f P E C rd k) k s
def Zot(g:Operand)(ps:Array Tmp)(asg bd:Code)(_ _:Q54):Q54:=fun _ E C rd _ s=>Y77 E C rd g ps asg bd s
def Zok(id:Nat):Q54:=fun _ _ _ _ _ s=>some (.exit id,s)
def Zlv(_:Code)(_:Q54):Q54:=fun _ _ _ _ _ _=>none
def Zn5(_:Nat):Q54:=Zkx
def Zp0(_:Nat):Q54:=fun _ _ _ _ _ _=>none
def Zqc:Q54:=fun _ _ _ _ _ s=>some (.ret,s)
def Zij(_:String):Q54:=fun _ _ _ _ _ _=>none
def Qz3(P:Program)(E:Env2 P)(C:CallF)(rd:Option Nat)(k:Nat)(c:Code)(s:St):XS :=
 Code.rec (motive:=fun _=>Q54) Zkx Zjw Zq7 Zoe Znf Zpf Zot Zok Zlv Zn5 Zp0 Zqc Zij c P E C rd k s
theorem Y4j{f g:St→XS}(h:∀ s,f s=g s):∀ (k:Nat) (s:St),Zd2 f k s=Q6a g k s
 | 0,s=>rfl
 | k+1,s=>by
  show ob (f s) (Ymk (Zd2 f k))=_
  rw[h s]
  simp only[Q6a]
  rcases g s with _ | ⟨e,s'⟩
  ·rfl
  ·simp only[ob_some]
   cases e <;> first | rfl | (rw[Q0h];exact Y4j h k s')
theorem Q0x{P:Program}(E:Env2 P)(C:CallF)(rd:Option Nat)(k:Nat):∀ (c:Code) (s:St),Qz3 P E C rd k c s=Qqa E C rd k c s
 | .skip,s=>rfl
 | .region id ops true,s=>by
  show ob (Q21 E C ops.toList s) _=_
  simp only[Qqa]
  cases Q21 E C ops.toList s <;> rfl
 | .region id ops false,s=>by
  show Zmg P E C rd ops.toList ops.toList s=_
  simp only[Qqa,Y83]
 | .seq x y,s=>by
  show ob (Qz3 P E C rd k x s) (Ymk (Qz3 P E C rd k y))=_
  rw[Q0x E C rd k x s]
  simp only[Qqa]
  rcases Qqa E C rd k x s with _ | ⟨e,s'⟩
  ·rfl
  ·simp only[ob_some]
   cases e <;> first | rfl | (rw[Q0h];exact Q0x E C rd k y s')
 | .cond c x y,s=>by
  show ob (Go.Ab.rd c E.G.n s.t) _=_
  rw[Qoj]
  simp only[Qqa]
  rcases aev E.G s.t c with _ | v
  ·rfl
  ·cases v <;> first | rfl | skip
   rename_i b
   cases b with
   | true=>exact Q0x E C rd k x s
   | false=>exact Q0x E C rd k y s
 | .block id c,s=>by
  show ob (Qz3 P E C rd k c s) _=_
  rw[Q0x E C rd k c s]
  simp only[Qqa]
  rcases Qqa E C rd k c s with _ | ⟨e,s'⟩
  ·rfl
  ·simp only[ob_some]
   cases e <;> first | rfl | skip
   rename_i i
   simp only
   cases Nat.beq i id <;> rfl
 | .loop c,s=>by
  show Zd2 (Qz3 P E C rd k c) k s=_
  simp only[Qqa]
  exact Y4j (Q0x E C rd k c) k s
 | .rangeFunc g ps asg bd,s=>rfl
 | .exit id,s=>rfl
 | .scope c,s=>rfl
 | .label l,s=>rfl
 | .goto l,s=>rfl
 | .ret,s=>rfl
 | .refuse w,s=>rfl
def Y7k (P : Program) (E : Env2 P) (C : CallF) (D : Qls) (k : Nat) (f : FuncId) (args : List Value) (h : Heap) : Option (AEnd × Heap) :=
  ob (E.fn.get f) fun fn => ob fn.body fun c => bq (Nat.ble args.length fn.ntmps) (match Qz3 P E C none k c ⟨Xs fn args, [], h⟩ with
      | some (.normal, s) | some (.ret, s) => Xf E D fn s.t s.ds .returning s.h
      | some (.panic ch, s) => Xf E D fn s.t s.ds (.panicking ch) s.h
      | _ => none) none
theorem Zft{P:Program}(E:Env2 P)(C:CallF)(D:Qls)(k:Nat)(f:FuncId)(args:List Value)(h:Heap):Y7k P E C D k f args h=Yzk E C D k f args h:=by
 unfold Y7k Yzk
 cases E.fn.get f with
 | none=>rfl
 | some fn =>
  simp only[ob_some]
  cases fn.body with
  | none=>rfl
  | some c =>
   simp only[ob_some]
   cases Nat.ble args.length fn.ntmps with
   | false=>rfl
   | true =>
    simp only[bq_true,Q0x]
    rcases Qqa E C none k c ⟨Xs fn args,[],h⟩with _ | ⟨e,s⟩
    ·rfl
    ·cases e <;> rfl
def Y56(P:Program)(E:Env2 P)(C:CallF)(k:Nat)(l:Nat)(args:List Value)(h:Heap):Option (AEnd × Heap) :=
 match h.get l with
 | some (.obj (.loop .ready _ t ps asg bd _))=>match Y5u t.size ps.toList args with
  | false=>none
  | true=>match Qz3 P E C (some l) k asg ⟨Yco t ps.toList args,[],h⟩with
   | some (.normal,s1)=>match s1.h.get l with
    | some (.obj (.loop .ready p1 t1 ps1 as1 bd1 d1))=>match Qz3 P E C (some l) k bd {s1 with h:=s1.h.set l (some (.obj (.loop .busy p1 t1 ps1 as1 bd1 d1)))} with
     | some (e,s2)=>match Yy7 e,s2.h.get l with
      | some j,some (.obj (.loop _ _ t2 ps2 as2 bd2 d2))=>some (.ret (.bool j.isNone),s2.h.set l (some (.obj (.loop (if j.isNone then .ready else .done) j t2 ps2 as2 bd2 d2))))
      | _,_=>none
     | none=>none
    | _=>none
   | _=>none
 | _=>none
theorem Za2{P:Program}(E:Env2 P)(C:CallF)(k:Nat)(l:Nat)(args:List Value)(h:Heap):Y56 P E C k l args h=Ygk E C k l args h:=by
 unfold Y56 Ygk
 simp only[Q0x]
 rfl
def Qik(P:Program)(E:Env2 P)(X:Q0u)(k:Nat)(n:Nat):CallF :=
 Nat.rec (motive:=fun _=>CallF) ⟨X,fun _ _ _=>none⟩ (fun _ C=>⟨fun f args h=>Option.rec (motive:=fun _=>Option (AEnd × Heap)) (Y7k P E C (Xas E C k) k f args h) (fun r=>some r) (X f args h),fun l args h=>Y56 P E C k l args h⟩) n
theorem Yvf{P:Program}(E:Env2 P)(X:Q0u)(k:Nat):∀ n,Qik P E X k n=Yku E X k n
 | 0=>rfl
 | n+1=>by
  have ih:=Yvf E X k n
  show(⟨fun f args h=>Option.rec (motive:=fun _=>Option (AEnd × Heap)) (Y7k P E (Qik P E X k n) (Xas E (Qik P E X k n) k) k f args h) (fun r=>some r) (X f args h),fun l args h=>Y56 P E (Qik P E X k n) k l args h⟩:CallF)=_
  rw[ih]
  simp only[Yku,CallF.mk.injEq]
  refine⟨?_,?_⟩
  ·funext f args h
   rw[Zft]
   cases X f args h <;> rfl
  ·funext l args h
   exact Za2 E _ k l args h
end Go.Ab
