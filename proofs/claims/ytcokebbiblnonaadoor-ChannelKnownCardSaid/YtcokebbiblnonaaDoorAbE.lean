/-
  GENERIC: AN ABSTRACT MACHINE FOR THE MODEL, PROVED RIGHT OVER ANY PROGRAM: part AbE.
-/
import Derived.Test.YtcokebbiblnonaaDoorAbD
import Derived.KernelRfl
import Derived.ChangeArms
import Derived.OpenShut
import Derived.Lib.LaidU8
import Derived.ChangeSame
import Derived.RowKit
import Derived.MakeChecks
set_option linter.all false
noncomputable section
namespace Go.Ab
def Y12(P:Program)(f:Nat):Option Func:=match P.funcs[f]? with
 | some F=>if F.name == "runtime.NumGoroutine" then none else if F.body.isSome then some F else none
 | none=>none
theorem Y29{P:Program}{f:Nat}{F:Func}(h:Y12 P f=some F):P.funcs[f]? = some F∧(F.name == "runtime.NumGoroutine")=false∧F.body.isSome=true:=by
 unfold Y12 at h
 split at h
 ·rename_i F0 h0
  split at h
  ·cases h
  ·rename_i h1
   split at h
   ·rename_i h2;cases h;exact⟨h0,by simpa using h1,h2⟩
   ·cases h
 ·cases h
def Yn8(P:Program):Nat→Tr Func
 | 0 => .leaf
 | n+1=>(Yn8 P n).put n (Y12 P n)
theorem Ylj(P:Program):∀ (n:Nat) (f:FuncId) (F:Func),(Yn8 P n).get f=some F→Y12 P f=some F
 | 0,f,F,h=>by simp[Yn8]at h
 | n+1,f,F,h=>by
  rw[Yn8,Tr.get_put]at h
  split at h
  ·rename_i e;subst e;exact h
  ·exact Ylj P n f F h
def Y2f(P:Program)(f:Nat):Option ExtK:=match P.funcs[f]? with
 | some F=>Ywa F
 | none=>none
def Ym8(P:Program):Nat→Tr ExtK
 | 0 => .leaf
 | n+1=>(Ym8 P n).put n (Y2f P n)
theorem Ymu(P:Program):∀ (n:Nat) (f:FuncId) (x:ExtK),(Ym8 P n).get f=some x→Y2f P f=some x
 | 0,f,x,h=>by simp[Ym8]at h
 | n+1,f,x,h=>by
  rw[Ym8,Tr.get_put]at h
  split at h
  ·rename_i e;subst e;exact h
  ·exact Ymu P n f x h
theorem Yzm{P:Program}{f:Nat}{x:ExtK}(h:Y2f P f=some x):∃ F,P.funcs[f]? = some F∧Ywa F=some x:=by
 unfold Y2f at h
 split at h
 ·rename_i F hF;exact⟨F,hF,h⟩
 ·cases h
def mkE(P:Program)(n b:Nat):Env2 P :=
 {ty:=Ym7 P P.types.size,tyok:=fun t r h=>Yzp (Ynz P _ t r h),G:=⟨n,b⟩,fn:=Yn8 P P.funcs.size,fnok:=fun f F h=>Y29 (Ylj P _ f F h),ex:=Ym8 P P.funcs.size,exok:=fun f x h=>Yzm (Ymu P _ f x h)}
end Go.Ab
noncomputable section
namespace Go.Ab
section
variable{H:Type}(P:Program)
def Xtt(g:TypeId→DataW H→Option (List Value))(tot:Nat):List Field→List (DataW H)→Nat→Option (List Value)
 | [],[],acc=>if acc == tot then some []else none
 | f::fs,d::ds,acc=>if f.offset == acc then(match g f.type d with
  | some l=>if l.length == P.cellsOf f.type then(match Xtt g tot fs ds (acc+l.length)with | some r=>some (l++r) | none=>none)else none
  | none=>none)else none
 | _,_,_=>none
def Ylv(g:DataW H→Option (List Value))(sz tot:Nat):List (DataW H)→Nat→Option (List Value)
 | [],acc=>if acc == tot then some []else none
 | d::ds,acc=>match g d with
  | some l=>if l.length == sz then(match Ylv g sz tot ds (acc+sz)with | some r=>some (l++r) | none=>none)else none
  | none=>none
def Ygd:Nat→TypeId→DataW H→Option (List Value)
 | 0,_,_=>none
 | k+1,t,d =>
  match P.underlying t,d with
  | some .bool,.lit (.bool b)=>some [.bool b]
  | some (.int k'),.lit (.int _ n)=>some [.int k' n]
  | some .string,.lit (.string l)=>some [.string ⟨l.toArray⟩]
  | some (.struct fs),.agg ds=>Xtt P (Ygd k) (P.cellsOf t) fs.toList ds 0
  | some (.array n e),.agg ds=>if ds.length == n then Ylv (Ygd k e) (P.cellsOf e) (P.cellsOf t) ds 0 else none
  | _,_=>none
end
section
variable{H:Type}{enc:TypeId × Value→H}{P:Program}{w:World}{base:Nat}{sp:Nat→Bool}{held:Bool}
theorem Yg2{g:TypeId→DataW H→Option (List Value)}{cs:List Value}{n:Nat}
  (hg:∀ t d l cs p,g t d=some l→DataW.trod enc P w base sp held n t cs=some (d,p)→cs=l) :
  ∀ (fs:List Field) (ds:List (DataW H)) (acc:Nat) (l:List Value),Xtt P g cs.length fs ds acc=some l →
  (∀ (i:Nat) (f:Field) d,fs[i]? = some f→ds[i]? = some d→∃ p,DataW.trod enc P w base sp held n f.type ((cs.drop f.offset).take (P.cellsOf f.type))=some (d,p))→cs.drop acc=l
 | [],[],acc,l,h,_=>by
  simp only[Xtt]at h
  split at h
  ·rename_i e;cases h;simp at e;simp[e]
  ·cases h
 | f::fs,d::ds,acc,l,h,ht=>by
  simp only[Xtt]at h
  split at h
  ·rename_i e0
   simp only[beq_iff_eq]at e0
   split at h
   ·rename_i l0 hl0
    split at h
    ·rename_i e1
     simp only[beq_iff_eq]at e1
     split at h
     ·rename_i r hr
      cases h
      have ih:=Yg2 hg fs ds _ r hr (fun i f' d' hf hd=>ht (i+1) f' d' (by simpa using hf) (by simpa using hd))
      obtain⟨p,h0⟩:=ht 0 f d (by simp) (by simp)
      have h1:=hg _ _ _ _ _ hl0 h0
      rw[e0,← e1]at h1
      rw[← ih,← List.drop_drop,← List.take_append_drop l0.length (cs.drop acc),h1]
      simp
     ·cases h
    ·cases h
   ·cases h
  ·cases h
 | [],_::_,_,_,h,_=>by simp[Xtt]at h
 | _::_,[],_,_,h,_=>by simp[Xtt]at h
theorem Ylo{g:DataW H→Option (List Value)}{cs:List Value}{n sz:Nat}{e:TypeId}
  (hg:∀ d l cs p,g d=some l→DataW.trod enc P w base sp held n e cs=some (d,p)→cs=l) :
  ∀ (ds:List (DataW H)) (j:Nat) (l:List Value),Ylv g sz cs.length ds (j*sz)=some l →
  (∀ (i:Nat) d,ds[i]? = some d→∃ p,DataW.trod enc P w base sp held n e ((cs.drop ((j+i)*sz)).take sz)=some (d,p))→cs.drop (j*sz)=l
 | [],j,l,h,_=>by
  simp only[Ylv]at h
  split at h
  ·rename_i e;cases h;simp at e;simp[e]
  ·cases h
 | d::ds,j,l,h,ht=>by
  simp only[Ylv]at h
  split at h
  ·rename_i l0 hl0
   split at h
   ·rename_i e1
    simp only[beq_iff_eq]at e1
    split at h
    ·rename_i r hr
     cases h
     have e2:j*sz+sz=(j+1)*sz:=by rw[Nat.add_mul];simp
     rw[e2]at hr
     have ih:=Ylo hg ds (j+1) r hr (fun i d' hd=>by
      have:=ht (i+1) d' (by simpa using hd)
      rwa [show j+(i+1)=j+1+i from by omega]at this)
     obtain⟨p,h0⟩:=ht 0 d (by simp)
     have h1:=hg _ _ _ _ hl0 h0
     simp only[Nat.add_zero]at h1
     rw[← ih,← e2,← List.drop_drop,← List.take_append_drop sz (cs.drop (j*sz)),h1]
     simp[e1]
    ·cases h
   ·cases h
  ·cases h
theorem Yap:∀ (k:Nat) (t:TypeId) (d:DataW H) (l cs:List Value) (n:Nat) (p:List MemPlace),Ygd P k t d=some l→DataW.trod enc P w base sp held n t cs=some (d,p)→cs=l
 | 0,_,_,_,_,_,_,h,_=>by simp[Ygd]at h
 | k+1,t,d,l,cs,n,p,h,ht=>by
  simp only[Ygd]at h
  split at h
  ·rename_i b hu
   cases h
   obtain⟨b',rfl,e⟩:=DataW.trod_bool hu ht
   cases e;rfl
  ·rename_i k' k2 z hu
   cases h
   obtain⟨n',rfl,e,_⟩:=DataW.trod_int hu ht
   cases e;rfl
  ·rename_i s hu
   cases h
   obtain⟨s',rfl,e,_⟩:=DataW.trod_string hu ht
   cases e;simp
  ·rename_i fs ds hu
   obtain⟨xs,m,rfl,e,hl,hxl,hall⟩:=DataW.trod_struct hu ht
   simp only[Prod.mk.injEq,DataW.agg.injEq]at e
   rw[← hl]at h
   have:=Yg2 (n:=m) (fun t d l cs p h1 h2=>Yap k t d l cs m p h1 h2) _ _ _ _ h (fun i f d hf hd=>by
    have h1:=hall i f (by simpa using hf)
    rw[e.1,List.getElem?_map]at hd
    rw[h1]
    cases hx:xs[i]? with
    | none=>rw[hx]at hd;cases hd
    | some y=>rw[hx]at hd;cases hd;exact⟨y.2,rfl⟩)
   simpa using this
  ·rename_i n' e' ds hu
   obtain⟨xs,m,rfl,e,hl,hxl,hall⟩:=DataW.trod_array hu ht
   simp only[Prod.mk.injEq,DataW.agg.injEq]at e
   split at h
   ·rename_i hn
    rw[← hl]at h
    have:=Ylo (n:=m) (fun d l cs p h1 h2=>Yap k e' d l cs m p h1 h2) ds 0 l (by simpa using h) (fun i d hd=>by
     rw[e.1,List.getElem?_map]at hd
     cases hx:xs[i]? with
     | none=>rw[hx]at hd;cases hd
     | some y =>
      rw[hx]at hd;cases hd
      have hi:i < xs.length:=(List.getElem?_eq_some_iff.1 hx).1
      have h1:=hall i (by omega)
      rw[hx]at h1
      simp only[Nat.zero_add]
      exact⟨y.2,h1⟩)
    simpa using this
   ·cases h
  ·cases h
end
def Yn7:List (Nat × List Value)→Tr Blk
 | [] => .leaf
 | x::l=>(Yn7 l).put x.1 (some (.cells false 0 x.2))
def Qxg(n:Nat)(l:List (Nat × List Value)):Heap:=⟨n,n,Yn7 l⟩
def Yh1(n:Nat):Ren:=fun b=>if b < n then some ⟨b,0,0,0⟩else none
theorem Xpu:∀ (l:List (Nat × List Value)) (b:Nat) (x:Blk),(Yn7 l).get b=some x→∃ c,(b,c) ∈ l∧x=.cells false 0 c
 | [],b,x,h=>by simp[Yn7]at h
 | y::l,b,x,h=>by
  simp only[Yn7]at h
  rw[Tr.get_put]at h
  split at h
  ·rename_i e;subst e;cases h;exact⟨y.2,by simp,rfl⟩
  ·obtain⟨c,h1,h2⟩:=Xpu l b x h
   exact⟨c,by simp[h1],h2⟩
theorem Yvn{W:World}{n:Nat}{l:List (Nat × List Value)}(hn:n≤W.heap.size)(hl:∀ x ∈ l,(∀ v ∈ x.2,flat v=true∧v.oneCell'=true)∧∃ C e fr,W.heap[x.1]? = some (.cells C e fr)∧C.toList=x.2) :
  HRel ⟨n,W.heap.size⟩ (Yh1 n) (Qxg n l) W:=by
 have hget:∀ b x,(Qxg n l).get b=some x→b < n∧∃ c,(b,c) ∈ l∧x=.cells false 0 c:=by
  intro b x h
  unfold Heap.get at h
  split at h
  ·rename_i hb;exact⟨hb,Xpu l b x h⟩
  ·cases h
 have hα:∀ b p,Yh1 n b=some p→b < n∧p=⟨b,0,0,0⟩:=by
  intro b p h
  unfold Yh1 at h
  split at h
  ·cases h;exact⟨by assumption,rfl⟩
  ·cases h
 have hown:∀ b,(Qxg n l).own b=false:=by
  intro b
  unfold Heap.own
  cases hb:(Qxg n l).get b with
  | none=>rfl
  | some x=>obtain⟨_,c,_,rfl⟩:=hget b x hb;rfl
 refine⟨fun b p h => ?_,fun b p x hb hx => ?_,fun b c p q _ _ _ ho _ => ?_,fun g hg=>⟨?_,hown g⟩,Nat.le_refl _,fun b x hx => ?_,fun b p x hb hx => ?_,Nat.le_refl _⟩
 ·obtain⟨h1,rfl⟩:=hα b p h
  exact⟨h1,Nat.lt_of_lt_of_le h1 hn⟩
 ·obtain⟨h1,rfl⟩:=hα b p hb
  obtain⟨_,c,hc,rfl⟩:=hget b x hx
  obtain⟨hf,C,e,fr,h2,h3⟩:=hl _ hc
  refine⟨rfl,.inr ⟨C,e,fr.1,fr.2,h2,fun i v hv => ?_,fun h=>by cases h⟩⟩
  have hv':=hf v (List.mem_of_getElem? hv)
  simp only at h3
  refine⟨?_,flat_ok _ v hv'.1,hv'.2⟩
  rw[Qf1 _ hv'.1,← hv,← h3]
  simp
 ·rw[hown b]at ho;cases ho
 ·simp[Yh1,show g < n from hg]
 ·obtain⟨_,c,hc,rfl⟩:=hget b x hx
  intro v hv
  exact⟨flat_ok _ v ((hl _ hc).1 v hv).1,((hl _ hc).1 v hv).2⟩
 ·obtain⟨h1,rfl⟩:=hα b p hb
  obtain⟨_,c,_,rfl⟩:=hget b x hx
  refine⟨fun h => ?_,fun _ _=>Nat.lt_of_lt_of_le h1 hn⟩
  simp[Blk.own]at h
def Yy2(P:Program)(laid:List (String × DataW Unit))(n:Nat)(l:List (Nat × List Value)):Prop :=
 ∀ x ∈ l,x.1 < n∧(∀ v ∈ x.2,flat v=true∧v.oneCell'=true)∧∃ name t d k,(name,d) ∈ laid∧P.globalNamed name=some x.1∧(P.globals[x.1]?).map (·.type)=some t∧Ygd P k t d=some x.2
theorem Ykj{P:Program}{W:World}{laid:List (String × DataW Unit)}{n:Nat}{l:List (Nat × List Value)}(h:laidMet P laid W)(hl:Yy2 P laid n l)(hn:n≤W.heap.size) :
  HRel ⟨n,W.heap.size⟩ (Yh1 n) (Qxg n l) W:=by
 refine Yvn hn fun x hx => ?_
 obtain⟨_,hf,name,t,d,k,hm,hg,ht,hd⟩:=hl x hx
 refine⟨hf,?_⟩
 obtain⟨g,t',cs,fuel,p,h1,h2,h3,h4⟩:=Lib.laidMet.reads h hm
 obtain rfl:=Option.some.inj (hg.symm.trans h1)
 obtain rfl:=Option.some.inj (ht.symm.trans h2)
 have:=Yap k _ _ _ _ _ _ hd h4
 unfold World.var? at h3
 rw[hg]at h3
 simp only[Option.bind_some]at h3
 split at h3
 ·rename_i C e fr hC
  cases h3
  exact⟨_,e,fr,hC,this⟩
 ·cases h3
end Go.Ab
noncomputable section
namespace Go.Ab
end Go.Ab
noncomputable section
namespace Go.Ab
def ob{A B:Type}(x:Option A)(f:A→Option B):Option B:=Option.rec (motive:=fun _=>Option B) none f x
@[simp] theorem ob_some {A B:Type} (a:A) (f:A→Option B):ob (some a) f=f a:=rfl
@[simp] theorem ob_none {A B:Type} (f:A→Option B):ob none f=none:=rfl
def bq{A:Type}(b:Bool)(x y:A):A:=Bool.rec (motive:=fun _=>A) y x b
@[simp] theorem bq_true {A:Type} (x y:A):bq true x y=x:=rfl
@[simp] theorem bq_false {A:Type} (x y:A):bq false x y=y:=rfl
def rT(i:Nat)(_:Nat)(t:Tm):Option Value:=t.t.get i
def rC(v:Value)(_:Nat)(_:Tm):Option Value:=bq (flat v) (some v) none
def rG(g n:Nat)(_:Tm):Option Value:=bq (Nat.blt g n) (some (.pointer (some ⟨g,0,none⟩))) none
def rF(f:FuncId)(_:Nat)(_:Tm):Option Value:=some (.func (.func f) #[] #[])
def rd(x:Operand)(n:Nat)(t:Tm):Option Value:=Operand.rec (motive:=fun _=>Nat→Tm→Option Value) rT rC rG rF x n t
theorem Qpe(G:Bs)(t:Tm)(x:Operand):rd x G.n t=aev G t x:=by
 cases x with
 | tmp i=>rfl
 | const v=>show rC v 0 t=_;simp only[rC,aev];cases flat v <;> rfl
 | global g =>
  show rG g G.n t=_
  simp only[rG,aev]
  by_cases h:g < G.n
  ·rw[show Nat.blt g G.n=true from by simpa using h];simp[h]
  ·rw[Bool.eq_false_iff.2 (fun hb:Nat.blt g G.n=true=>h (by simpa using hb))];simp[h]
 | func f=>rfl
def gvF(r:Option (Value × Heap)):Option Res:=ob r fun p=>Prod.rec (motive:=fun _=>Option Res) (fun v h=>some (.val v h)) p
def g0F(h:Heap)(r:Option Value):Option Res:=ob r fun v=>some (.val v h)
def gsF(r:Option Heap):Option Res:=ob r fun h=>some (.skip h)
theorem Xsb(r:Option (Value × Heap)):gvF r=gv r:=by cases r <;> rfl
theorem Qpt(h:Heap)(r:Option Value):g0F h r=g0 h r:=by cases r <;> rfl
theorem Yra(r:Option Heap):gsF r=gs r:=by cases r <;> rfl
abbrev OpF:=∀ P:Program,Env2 P→Tm→Heap→Option Res
def Yt6(x:Operand):OpF:=fun _ E t h=>g0F h (rd x E.G.n t)
def Y5r(c a b:Operand):OpF:=fun _ E t h=>match rd c E.G.n t with
 | some (.bool true)=>g0F h (rd a E.G.n t)
 | some (.bool false)=>g0F h (rd b E.G.n t)
 | _=>none
def Yyj(e:TypeId):OpF:=fun _ E _ h=>gvF (Qfm E.toEnv e h)
def Y9f(_:TypeId)(x:Operand):OpF:=fun _ E t h=>ob (rd x E.G.n t) fun v=>gvF (Yo5 v h)
def Yxb(ty:TypeId)(ps:Array (Nat × Operand)):OpF:=fun _ E t h=>ob (Qk E.G t ps.toList) fun l=>g0F h (Qd0 E.toEnv ty l)
def Xsq(ty:TypeId)(n:Nat)(ps:Array (Nat × Operand)):OpF:=fun _ E t h=>ob (Qk E.G t ps.toList) fun l=>gvF (Ub E.toEnv ty n l h)
def Xwv(ty:TypeId)(m k x:Operand):OpF:=fun _ E t h=>ob (rd m E.G.n t) fun a=>ob (rd k E.G.n t) fun b=>ob (rd x E.G.n t) fun c=>gsF (Qfh E.toEnv ty a b c h)
def Y6e(ty:TypeId)(a:Operand):OpF:=fun _ E t h=>ob (rd a E.G.n t) fun x=>g0F h (Qnh E.toEnv ty x h)
def Ywp(ty:TypeId)(a v:Operand):OpF:=fun _ E t h=>ob (rd a E.G.n t) fun x=>ob (rd v E.G.n t) fun y=>gsF (Qjf E.toEnv ty x y h)
def oN1(_:Nat):OpF:=fun _ _ _ _=>none
def X77(x:Operand):OpF:=fun _ E t h=>ob (rd x E.G.n t) fun v=>g0F h (Xja v)
def Y9u(op:BinOp)(ty:TypeId)(x y:Operand)(_:TypeId):OpF:=fun _ E t h=>ob (rd x E.G.n t) fun a=>ob (rd y E.G.n t) fun b=>g0F h (Zd E.toEnv op ty (Q8 x || Q8 y) a b)
def oUn(op:UnOp)(_:TypeId)(x:Operand):OpF:=fun _ E t h=>ob (rd x E.G.n t) fun v=>g0F h (aUn op v)
def Y5o(src dst:TypeId)(x:Operand):OpF:=fun _ E t h=>ob (rd x E.G.n t) fun v=>bq (Qww E.toEnv src dst) (g0F h (Qrl E.toEnv src dst v)) (gvF (Ygk E.toEnv src dst v h))
def Yqk(ty:TypeId)(x:Operand):OpF:=fun _ E t h=>ob (rd x E.G.n t) fun v=>g0F h (Yig E.toEnv ty v)
def Yhl(ty:TypeId)(x:Operand):OpF:=fun _ E t h=>ob (rd x E.G.n t) fun v=>g0F h (X21 E.toEnv ty v)
def Ype(fn:Fn)(a b:Array Operand):OpF:=fun _ E t h=>ob (evs E.G t a.toList) fun x=>ob (evs E.G t b.toList) fun y=>g0F h (X6q fn x y)
def Yi6(ty:TypeId)(r:Option Operand):OpF:=fun _ E t h=>ob (evO E.G t r) fun hv=>gvF (Qwn E.toEnv ty hv h)
def oN2(_:TypeId)(_:Operand):OpF:=fun _ _ _ _=>none
def Xwl(ty:TypeId)(n c:Operand):OpF:=fun _ E t h=>ob (rd n E.G.n t) fun x=>ob (rd c E.G.n t) fun y=>gvF (Qnk E.toEnv ty x y h)
def Yux(ty:TypeId)(x:Operand)(lo hi mx:Option Operand):OpF:=fun _ E t h=>ob (rd x E.G.n t) fun v=>ob (evO E.G t lo) fun a=>ob (evO E.G t hi) fun b=>ob (evO E.G t mx) fun c=>gvF (Qf8 E.toEnv ty v a b c h)
def Xwt(ty:TypeId)(x:Operand)(f:Nat):OpF:=fun _ E t h=>ob (rd x E.G.n t) fun v=>g0F h (Wm E.toEnv ty v f)
def Yz7(ty:TypeId)(x:Operand)(f:Nat):OpF:=fun _ E t h=>ob (rd x E.G.n t) fun v=>g0F h (Yr0 E.toEnv ty v f)
def Xwp(ty:TypeId)(x i:Operand):OpF:=fun _ E t h=>ob (rd x E.G.n t) fun a=>ob (rd i E.G.n t) fun b=>g0F h (J2 E.toEnv ty a b)
def Yuv(ty:TypeId)(x i:Operand):OpF:=fun _ E t h=>ob (rd x E.G.n t) fun a=>ob (rd i E.G.n t) fun b=>g0F h (Yru E.toEnv ty a b)
def Ypm(ty:TypeId)(x k:Operand)(ok:Bool):OpF:=fun _ E t h=>ob (rd x E.G.n t) fun a=>ob (rd k E.G.n t) fun b=>g0F h (Qkl E.toEnv ty a b ok h)
def X6u(ty:TypeId)(m k:Operand):OpF:=fun _ E t h=>ob (rd m E.G.n t) fun a=>ob (rd k E.G.n t) fun b=>gvF (Xa3 E.toEnv ty a b h)
def Xt9(_:TypeId)(m st x:Operand):OpF:=fun _ E t h=>ob (rd m E.G.n t) fun a=>ob (rd st E.G.n t) fun b=>ob (rd x E.G.n t) fun c=>gsF (Qt3 a b c h)
def Yvm(ty:TypeId)(x:Operand):OpF:=fun _ E t h=>ob (rd x E.G.n t) fun v=>gvF (Xxu E.toEnv ty v h)
def Y53(x:Operand)(s:Bool):OpF:=fun _ E t h=>ob (rd x E.G.n t) fun v=>gvF (Yui v s h)
def Yyf(x:Operand):OpF:=fun _ E t h=>ob (rd x E.G.n t) fun v=>g0F h (Yfy v h)
def Yox(x:Operand)(_ ty:TypeId)(ok:Bool):OpF:=fun _ E t h=>ob (rd x E.G.n t) fun v=>g0F h (Yi5 E.toEnv v ty ok)
def Yjv(x:Operand)(i:Nat):OpF:=fun _ E t h=>ob (rd x E.G.n t) fun v=>g0F h (Q9 v i)
def Y34(P:Program)(E:Env2 P)(fv:Value)(args:List Value)(h:Heap):Option Res:=match Ql fv args with
 | some (f,l)=>match E.fn.get f with
  | some _=>some (.enter f l h)
  | none=>match E.ex.get f with
   | some x=>gv (Yhc x l h)
   | none=>none
 | none=>X3p fv args h
def Y6a(c:Call):OpF:=fun P E t h=>ob (evs E.G t c.args.toList) fun args=>match c.callee with
 | .builtin b=>Q7 E b c.argTypes.toList args h
 | .value f=>ob (rd f E.G.n t) fun fv=>Y34 P E fv args h
 | .invoke _ _=>none
def oN7(_:Call):OpF:=fun _ _ _ _=>none
def Yxm(x:Operand):OpF:=fun _ E t h=>match rd x E.G.n t with
 | some (.iface u v)=>some (.panic (.iface u v) h)
 | _=>none
def oN8(_ _:Operand):OpF:=fun _ _ _ _=>none
def oN9(_:TypeId)(_:Operand)(_:Bool):OpF:=fun _ _ _ _=>none
def Zar(_:Array SelectCase)(_:Bool):OpF:=fun _ _ _ _=>none
def Zaq(P:Program)(E:Env2 P)(o:Op)(t:Tm)(h:Heap):Option Res :=
 Op.rec (motive:=fun _=>OpF) Yt6 Yt6 Y5r Yyj Y9f Yxb Xsq Xwv Y6e Ywp oN1 oN1 X77 Y9u oUn Y5o Yqk Yhl Ype Yi6 oN2 Xwl Yux Xwt Yz7 Xwp Yuv Ypm
  Xwv X6u Xt9 Yvm Y53 Yyf Yox Yjv Y6a oN7 oN7 Yxm oN8 oN9 Zar o P E t h
theorem Y5i{P:Program}(E:Env2 P)(t:Tm)(h:Heap)(o:Oper):Zaq P E o.op t h=aop E t h o:=by
 obtain⟨d,op,ty,pos,af,g⟩:=o
 have two:∀ {A:Type} (x y:Option Value) (f:Value→Value→Option A),(match x,y with | some a,some b=>f a b | _,_=>none)=ob x fun a=>ob y fun b=>f a b:=by
  intro A x y f;cases x <;> cases y <;> rfl
 cases op with
 | move x=>show Yt6 x P E t h=_;simp only[Yt6,aop,Qpe,Qpt]
 | assign x=>show Yt6 x P E t h=_;simp only[Yt6,aop,Qpe,Qpt]
 | pick c a b =>
  show Y5r c a b P E t h=_
  simp only[Y5r,aop,Qpe,Qpt]
  rcases aev E.G t c with _ | v
  ·rfl
  ·cases v <;> first | rfl | (rename_i b;cases b <;> rfl)
 | alloc e=>show Yyj e P E t h=_;simp only[Yyj,aop,Xsb]
 | box e x=>show Y9f e x P E t h=_;simp only[Y9f,aop,Qpe,Xsb];cases aev E.G t x <;> rfl
 | build ty ps=>show Yxb ty ps P E t h=_;simp only[Yxb,aop,Qpt];cases Qk E.G t ps.toList <;> rfl
 | buildSlice ty n ps=>show Xsq ty n ps P E t h=_;simp only[Xsq,aop,Xsb];cases Qk E.G t ps.toList <;> rfl
 | insert ty m k x=>show Xwv ty m k x P E t h=_;simp only[Xwv,aop,Qpe,Yra];cases aev E.G t m <;> cases aev E.G t k <;> cases aev E.G t x <;> rfl
 | load ty a=>show Y6e ty a P E t h=_;simp only[Y6e,aop,Qpe,Qpt];cases aev E.G t a <;> rfl
 | store ty a v=>show Ywp ty a v P E t h=_;simp only[Ywp,aop,Qpe,Yra];cases aev E.G t a <;> cases aev E.G t v <;> rfl
 | ready g=>rfl
 | waits g=>rfl
 | nilCheck x=>show X77 x P E t h=_;simp only[X77,aop,Qpe,Qpt];cases aev E.G t x <;> rfl
 | binOp op ty x y yt=>show Y9u op ty x y yt P E t h=_;simp only[Y9u,aop,Qpe,Qpt];cases aev E.G t x <;> cases aev E.G t y <;> rfl
 | unOp op ty x=>show oUn op ty x P E t h=_;simp only[oUn,aop,Qpe,Qpt];cases aev E.G t x <;> rfl
 | convert s d x =>
  show Y5o s d x P E t h=_;simp only[Y5o,aop,Qpe,Qpt,Xsb];cases aev E.G t x
  ·rfl
  ·cases Qww E.toEnv s d <;> rfl
 | sliceToArrayPointer ty x=>show Yqk ty x P E t h=_;simp only[Yqk,aop,Qpe,Qpt];cases aev E.G t x <;> rfl
 | makeInterface ty x=>show Yhl ty x P E t h=_;simp only[Yhl,aop,Qpe,Qpt];cases aev E.G t x <;> rfl
 | makeFunc fn a b=>show Ype fn a b P E t h=_;simp only[Ype,aop,Qpt];cases evs E.G t a.toList <;> cases evs E.G t b.toList <;> rfl
 | makeMap ty r=>show Yi6 ty r P E t h=_;simp only[Yi6,aop,Xsb];cases evO E.G t r <;> rfl
 | makeChan ty x=>rfl
 | makeSlice ty n c=>show Xwl ty n c P E t h=_;simp only[Xwl,aop,Qpe,Xsb];cases aev E.G t n <;> cases aev E.G t c <;> rfl
 | slice ty x lo hi mx=>show Yux ty x lo hi mx P E t h=_;simp only[Yux,aop,Qpe,Xsb];cases aev E.G t x <;> cases evO E.G t lo <;> cases evO E.G t hi <;> cases evO E.G t mx <;> rfl
 | fieldAddr ty x f=>show Xwt ty x f P E t h=_;simp only[Xwt,aop,Qpe,Qpt];cases aev E.G t x <;> rfl
 | field ty x f=>show Yz7 ty x f P E t h=_;simp only[Yz7,aop,Qpe,Qpt];cases aev E.G t x <;> rfl
 | indexAddr ty x i=>show Xwp ty x i P E t h=_;simp only[Xwp,aop,Qpe,Qpt];cases aev E.G t x <;> cases aev E.G t i <;> rfl
 | index ty x i=>show Yuv ty x i P E t h=_;simp only[Yuv,aop,Qpe,Qpt];cases aev E.G t x <;> cases aev E.G t i <;> rfl
 | lookup ty x k ok=>show Ypm ty x k ok P E t h=_;simp only[Ypm,aop,Qpe,Qpt];cases aev E.G t x <;> cases aev E.G t k <;> rfl
 | mapUpdate ty m k x=>show Xwv ty m k x P E t h=_;simp only[Xwv,aop,Qpe,Yra];cases aev E.G t m <;> cases aev E.G t k <;> cases aev E.G t x <;> rfl
 | mapEntry ty m k=>show X6u ty m k P E t h=_;simp only[X6u,aop,Qpe,Xsb];cases aev E.G t m <;> cases aev E.G t k <;> rfl
 | entryStore ty m st x=>show Xt9 ty m st x P E t h=_;simp only[Xt9,aop,Qpe,Yra];cases aev E.G t m <;> cases aev E.G t st <;> cases aev E.G t x <;> rfl
 | range ty x=>show Yvm ty x P E t h=_;simp only[Yvm,aop,Qpe,Xsb];cases aev E.G t x <;> rfl
 | next x s=>show Y53 x s P E t h=_;simp only[Y53,aop,Qpe,Xsb];cases aev E.G t x <;> rfl
 | entry x=>show Yyf x P E t h=_;simp only[Yyf,aop,Qpe,Qpt];cases aev E.G t x <;> rfl
 | typeAssert x xt ty ok=>show Yox x xt ty ok P E t h=_;simp only[Yox,aop,Qpe,Qpt];cases aev E.G t x <;> rfl
 | extract x i=>show Yjv x i P E t h=_;simp only[Yjv,aop,Qpe,Qpt];cases aev E.G t x <;> rfl
 | call c =>
  show Y6a c P E t h=_
  simp only[Y6a,aop,Qpe]
  cases evs E.G t c.args.toList with
  | none=>rfl
  | some args =>
   simp only[ob_some]
   cases c.callee with
   | builtin b=>rfl
   | value f =>
    simp only
    cases aev E.G t f with
    | none=>rfl
    | some fv =>
     simp only[ob_some,Y34]
     cases Ql fv args with
     | none=>rfl
     | some p=>rfl
   | invoke _ _=>rfl
 | go c=>rfl
 | defer c=>rfl
 | panic x =>
  show Yxm x P E t h=_
  simp only[Yxm,aop,Qpe]
  rcases aev E.G t x with _ | v
  ·rfl
  ·cases v <;> rfl
 | send _ _=>rfl
 | recv _ _ _=>rfl
 | select _ _=>rfl
def Y9k(n:Nat)(d:Option Tmp):Bool:=Option.rec (motive:=fun _=>Bool) true (fun i=>Nat.blt i n) d
theorem Yus(s:St)(d:Option Tmp):Y9k s.t.size d=Qf9 s d:=by cases d <;> rfl
def Qzc(s:St)(d:Option Tmp)(v:Value)(h:Heap):St:=Option.rec (motive:=fun _=>St) {s with h:=h} (fun i=>{t:=s.t.put i v,ds:=s.ds,h:=h}) d
theorem X3y(s:St)(d:Option Tmp)(v:Value)(h:Heap):Qzc s d v h=s.put d v h:=by cases d <;> rfl
abbrev XS:=Option (Exit × St)
abbrev Y63:=CallF→Option Tmp→St→XS
def Y6t(o:Option Tmp)(s:St)(r:Option (AEnd × Heap)):XS:=ob r fun p=>Prod.rec (motive:=fun _=>XS) (fun e h=>AEnd.rec (motive:=fun _=>XS) (fun v=>some (.normal,Qzc s o v h)) (fun ch=>some (.panic ch,{s with h:=h})) e) p
def Zbb(v:Value)(h:Heap):Y63:=fun _ o s=>some (.normal,Qzc s o v h)
def Za2(h:Heap):Y63:=fun _ o s=>some (.normal,Qzc s o Qu h)
def Y8o(f:FuncId)(args:List Value)(h:Heap):Y63:=fun C o s=>Y6t o s (C.fn f args h)
def Y7c(l:Nat)(args:List Value)(h:Heap):Y63:=fun C o s=>Y6t o s (C.rnd l args h)
def Y7v(_:Deferred)(_:Heap):Y63:=fun _ _ _=>none
def Y75(v:Value)(h:Heap):Y63:=fun _ _ s=>some (.panic [{v,recovered:=false}],{s with h:=h})
def Zau(r:Res)(C:CallF)(o:Option Tmp)(s:St):XS:=Res.rec (motive:=fun _=>Y63) Zbb Za2 Y8o Y7c Y7v Y75 r C o s
def Y6l(P:Program)(E:Env2 P)(rd:Option Nat)(o:Oper)(s:St):XS:=match o.op with
 | .defer c=>match rd with
  | none=>match X73 E s.t c with
   | some d=>some (.normal,({s with ds:=d::s.ds}:St).put o.dst Qu s.h)
   | none=>none
  | some _=>none
 | _=>none
def Y4t(P:Program)(E:Env2 P)(C:CallF)(rd:Option Nat)(o:Oper)(s:St):XS :=
 bq (Y9k s.t.size o.dst) (Option.rec (motive:=fun _=>XS) (Y6l P E rd o s) (fun r=>Zau r C o.dst s) (Zaq P E o.op s.t s.h)) none
theorem Y2d{P:Program}(E:Env2 P)(C:CallF)(rd:Option Nat)(o:Oper)(s:St):Y4t P E C rd o s=Xi3 E C rd o s:=by
 unfold Y4t Xi3
 rw[Yus]
 cases hd:Qf9 s o.dst with
 | false=>rfl
 | true =>
  simp only[Bool.not_true,Bool.false_eq_true,if_false,bq_true]
  rw[Y5i]
  have hdef:∀ c,o.op=.defer c→aop E s.t s.h o=none:=by
   intro c hc;simp[aop,hc]
  split
  ·rename_i c hc
   rw[hdef c hc]
   simp only[Y6l,hc]
   cases rd with
   | none=>cases X73 E s.t c <;> rfl
   | some _=>rfl
  ·rename_i hne
   cases ha:aop E s.t s.h o with
   | none =>
    simp only[Y6l]
    all_goals (split <;> first | rfl | (rename_i c hc;exact absurd hc (hne c)))
   | some r =>
    simp only
    cases r with
    | val v h=>show some _=_;rw[X3y]
    | skip h=>show some _=_;rw[X3y]
    | enter f args h =>
     show Y6t o.dst s (C.fn f args h)=_
     simp only[Y6t]
     rcases C.fn f args h with _ | ⟨_ | _,h'⟩
     ·rfl
     ·simp only[ob_some,X3y]
     ·rfl
    | round f args h =>
     show Y6t o.dst s (C.rnd f args h)=_
     simp only[Y6t]
     rcases C.rnd f args h with _ | ⟨_ | _,h'⟩
     ·rfl
     ·simp only[ob_some,X3y]
     ·rfl
    | defer d h=>rfl
    | panic v h=>rfl
def Y5j(ops:List Oper)(t:Tm)(o:Oper):Option Bool:=Option.rec (motive:=fun _=>Option Bool) (some true) (fun _=>Qh ops t o) o.guard
theorem Y08(ops:List Oper)(t:Tm)(o:Oper):Y5j ops t o=Qh ops t o:=by
 unfold Y5j
 cases hg:o.guard with
 | none=>simp[Qh,hg]
 | some p=>rfl
abbrev Y8w:=∀ P:Program,Env2 P→CallF→Option Nat→List Oper→St→XS
def goK(f:St→XS)(p:Exit × St):XS:=Prod.rec (motive:=fun _=>XS) (fun e s=>Exit.rec (motive:=fun _=>XS) (f s) (fun _=>none) (fun _=>none) none (fun ch=>some (.panic ch,s)) none e) p
def Zav:Y8w:=fun _ _ _ _ _ s=>some (.normal,s)
def Y4b(o:Oper)(_:List Oper)(f:Y8w):Y8w:=fun P E C rd ops s =>
 ob (Y5j ops s.t o) fun b=>bq b (ob (Y4t P E C rd o s) (goK (f P E C rd ops))) (bq (Y9k s.t.size o.dst) (f P E C rd ops (Qzc s o.dst Qu s.h)) none)
def Y79(P:Program)(E:Env2 P)(C:CallF)(rd:Option Nat)(ops l:List Oper)(s:St):XS:=List.rec (motive:=fun _=>Y8w) Zav Y4b l P E C rd ops s
theorem Yy3{P:Program}(E:Env2 P)(C:CallF)(rd:Option Nat)(ops:List Oper):∀ (l:List Oper) (s:St),Y79 P E C rd ops l s=Xpv E C rd ops l s
 | [],s=>rfl
 | o::r,s=>by
  have ih:=Yy3 E C rd ops r
  show Y4b o r (fun P E C rd ops s=>Y79 P E C rd ops r s) P E C rd ops s=_
  simp only[Y4b,Xpv,Y08,Y2d,Yus,X3y,ih]
  cases Qh ops s.t o with
  | none=>rfl
  | some b =>
   simp only[ob_some]
   cases b with
   | true =>
    simp only[bq_true]
    rcases Xi3 E C rd o s with _ | ⟨e,s'⟩
    ·rfl
    ·cases e <;> first | rfl | (show Y79 P E C rd ops r s'=_;exact ih s')
   | false =>
    simp only[bq_false]
    cases Qf9 s o.dst <;> rfl
abbrev Q6a:=∀ P:Program,Env2 P→CallF→Option Nat→Nat→St→XS
def Ycf(f:St→XS)(p:Exit × St):XS:=Prod.rec (motive:=fun _=>XS) (fun e s=>Exit.rec (motive:=fun _=>XS) (f s) (fun i=>some (.exit i,s)) (fun i=>some (.goto i,s)) (some (.ret,s)) (fun ch=>some (.panic ch,s)) (some (.outgrown,s)) e) p
theorem Q28(f:St→XS)(s:St):Ycf f (.normal,s)=f s:=rfl
def Y7m:Q6a:=fun _ _ _ _ _ s=>some (.normal,s)
def Y69(_:Nat)(ops:Array Oper)(draw:Bool):Q6a:=fun P E C rd _ s=>bq draw (ob (Q56 E C ops.toList s) fun s'=>some (.normal,s')) (Y79 P E C rd ops.toList ops.toList s)
def Zb1(_ _:Code)(fx fy:Q6a):Q6a:=fun P E C rd k s=>ob (fx P E C rd k s) (Ycf (fy P E C rd k))
def Za7(c:Operand)(_ _:Code)(fx fy:Q6a):Q6a:=fun P E C r k s=>ob (rd c E.G.n s.t) fun v=>Value.rec (motive_1:=fun _=>XS) (motive_2:=fun _=>Unit) (motive_3:=fun _=>Unit)
 (fun b=>bq b (fx P E C r k s) (fy P E C r k s)) (fun _ _=>none) (fun _ _=>none) (fun _ _ _=>none) (fun _=>none) (fun _=>none) (fun _ _ _=>none) (fun _=>none) (fun _=>none) (fun _ _ _ _ _=>none) none (fun _ _ _=>none) none (fun _ _=>none) (fun _ _=>none)
 (fun _ _=>()) () (fun _ _ _ _=>()) v
def Y8g(id:Nat)(_:Code)(f:Q6a):Q6a:=fun P E C rd k s=>ob (f P E C rd k s) fun p=>Prod.rec (motive:=fun _=>XS) (fun e s=>Exit.rec (motive:=fun _=>XS) (some (.normal,s)) (fun i=>bq (Nat.beq i id) (some (.normal,s)) (some (.exit i,s))) (fun i=>some (.goto i,s)) (some (.ret,s)) (fun ch=>some (.panic ch,s)) (some (.outgrown,s)) e) p
def Y0y(body:St→XS)(k:Nat):St→XS:=Nat.rec (motive:=fun _=>St→XS) (fun _=>none) (fun _ f s=>ob (body s) (Ycf f)) k
def Y9g(_:Code)(f:Q6a):Q6a:=fun P E C rd k s=>Y0y (f P E C rd k) k s
def Y9q(g:Operand)(ps:Array Tmp)(asg bd:Code)(_ _:Q6a):Q6a:=fun _ E C rd _ s=>Yto E C rd g ps asg bd s
def Y9e(id:Nat):Q6a:=fun _ _ _ _ _ s=>some (.exit id,s)
def Y87(_:Code)(_:Q6a):Q6a:=fun _ _ _ _ _ _=>none
def Y74(_:Nat):Q6a:=Y7m
def Za9(_:Nat):Q6a:=fun _ _ _ _ _ _=>none
def Zas:Q6a:=fun _ _ _ _ _ s=>some (.ret,s)
def Y5m(_:String):Q6a:=fun _ _ _ _ _ _=>none
def Qxe(P:Program)(E:Env2 P)(C:CallF)(rd:Option Nat)(k:Nat)(c:Code)(s:St):XS :=
 Code.rec (motive:=fun _=>Q6a) Y7m Y69 Zb1 Za7 Y8g Y9g Y9q Y9e Y87 Y74 Za9 Zas Y5m c P E C rd k s
theorem Yr7{f g:St→XS}(h:∀ s,f s=g s):∀ (k:Nat) (s:St),Y0y f k s=Xor g k s
 | 0,s=>rfl
 | k+1,s=>by
  show ob (f s) (Ycf (Y0y f k))=_
  rw[h s]
  simp only[Xor]
  rcases g s with _ | ⟨e,s'⟩
  ·rfl
  ·simp only[ob_some]
   cases e <;> first | rfl | (rw[Q28];exact Yr7 h k s')
theorem Q20{P:Program}(E:Env2 P)(C:CallF)(rd:Option Nat)(k:Nat):∀ (c:Code) (s:St),Qxe P E C rd k c s=Qus E C rd k c s
 | .skip,s=>rfl
 | .region id ops true,s=>by
  show ob (Q56 E C ops.toList s) _=_
  simp only[Qus]
  cases Q56 E C ops.toList s <;> rfl
 | .region id ops false,s=>by
  show Y79 P E C rd ops.toList ops.toList s=_
  simp only[Qus,Yy3]
 | .seq x y,s=>by
  show ob (Qxe P E C rd k x s) (Ycf (Qxe P E C rd k y))=_
  rw[Q20 E C rd k x s]
  simp only[Qus]
  rcases Qus E C rd k x s with _ | ⟨e,s'⟩
  ·rfl
  ·simp only[ob_some]
   cases e <;> first | rfl | (rw[Q28];exact Q20 E C rd k y s')
 | .cond c x y,s=>by
  show ob (Go.Ab.rd c E.G.n s.t) _=_
  rw[Qpe]
  simp only[Qus]
  rcases aev E.G s.t c with _ | v
  ·rfl
  ·cases v <;> first | rfl | skip
   rename_i b
   cases b with
   | true=>exact Q20 E C rd k x s
   | false=>exact Q20 E C rd k y s
 | .block id c,s=>by
  show ob (Qxe P E C rd k c s) _=_
  rw[Q20 E C rd k c s]
  simp only[Qus]
  rcases Qus E C rd k c s with _ | ⟨e,s'⟩
  ·rfl
  ·simp only[ob_some]
   cases e <;> first | rfl | skip
   rename_i i
   simp only
   cases Nat.beq i id <;> rfl
 | .loop c,s=>by
  show Y0y (Qxe P E C rd k c) k s=_
  simp only[Qus]
  exact Yr7 (Q20 E C rd k c) k s
 | .rangeFunc g ps asg bd,s=>rfl
 | .exit id,s=>rfl
 | .scope c,s=>rfl
 | .label l,s=>rfl
 | .goto l,s=>rfl
 | .ret,s=>rfl
 | .refuse w,s=>rfl
def Yu0 (P : Program) (E : Env2 P) (C : CallF) (D : Qmc) (k : Nat) (f : FuncId) (args : List Value) (h : Heap) : Option (AEnd × Heap) :=
  ob (E.fn.get f) fun fn => ob fn.body fun c => bq (Nat.ble args.length fn.ntmps) (match Qxe P E C none k c ⟨Yh fn args, [], h⟩ with
      | some (.normal, s) | some (.ret, s) => Xh E D fn s.t s.ds .returning s.h
      | some (.panic ch, s) => Xh E D fn s.t s.ds (.panicking ch) s.h
      | _ => none) none
theorem Y1m{P:Program}(E:Env2 P)(C:CallF)(D:Qmc)(k:Nat)(f:FuncId)(args:List Value)(h:Heap):Yu0 P E C D k f args h=Yq1 E C D k f args h:=by
 unfold Yu0 Yq1
 cases E.fn.get f with
 | none=>rfl
 | some fn =>
  simp only[ob_some]
  cases fn.body with
  | none=>rfl
  | some c =>
   simp only[ob_some]
   cases Nat.ble args.length fn.ntmps with
   | false=>rfl
   | true =>
    simp only[bq_true,Q20]
    rcases Qus E C none k c ⟨Yh fn args,[],h⟩with _ | ⟨e,s⟩
    ·rfl
    ·cases e <;> rfl
def Yqy(P:Program)(E:Env2 P)(C:CallF)(k:Nat)(l:Nat)(args:List Value)(h:Heap):Option (AEnd × Heap) :=
 match h.get l with
 | some (.obj (.loop .ready _ t ps asg bd _))=>match Ytt t.size ps.toList args with
  | false=>none
  | true=>match Qxe P E C (some l) k asg ⟨Yaj t ps.toList args,[],h⟩with
   | some (.normal,s1)=>match s1.h.get l with
    | some (.obj (.loop .ready p1 t1 ps1 as1 bd1 d1))=>match Qxe P E C (some l) k bd {s1 with h:=s1.h.set l (some (.obj (.loop .busy p1 t1 ps1 as1 bd1 d1)))} with
     | some (e,s2)=>match Yl0 e,s2.h.get l with
      | some j,some (.obj (.loop _ _ t2 ps2 as2 bd2 d2))=>some (.ret (.bool j.isNone),s2.h.set l (some (.obj (.loop (if j.isNone then .ready else .done) j t2 ps2 as2 bd2 d2))))
      | _,_=>none
     | none=>none
    | _=>none
   | _=>none
 | _=>none
theorem Yx3{P:Program}(E:Env2 P)(C:CallF)(k:Nat)(l:Nat)(args:List Value)(h:Heap):Yqy P E C k l args h=X8r E C k l args h:=by
 unfold Yqy X8r
 simp only[Q20]
 rfl
def Qdi(P:Program)(E:Env2 P)(X:Q6i)(k:Nat)(n:Nat):CallF :=
 Nat.rec (motive:=fun _=>CallF) ⟨X,fun _ _ _=>none⟩ (fun _ C=>⟨fun f args h=>Option.rec (motive:=fun _=>Option (AEnd × Heap)) (Yu0 P E C (Xs6 E C k) k f args h) (fun r=>some r) (X f args h),fun l args h=>Yqy P E C k l args h⟩) n
theorem Ylr{P:Program}(E:Env2 P)(X:Q6i)(k:Nat):∀ n,Qdi P E X k n=Ye4 E X k n
 | 0=>rfl
 | n+1=>by
  have ih:=Ylr E X k n
  show(⟨fun f args h=>Option.rec (motive:=fun _=>Option (AEnd × Heap)) (Yu0 P E (Qdi P E X k n) (Xs6 E (Qdi P E X k n) k) k f args h) (fun r=>some r) (X f args h),fun l args h=>Yqy P E (Qdi P E X k n) k l args h⟩:CallF)=_
  rw[ih]
  simp only[Ye4,CallF.mk.injEq]
  refine⟨?_,?_⟩
  ·funext f args h
   rw[Y1m]
   cases X f args h <;> rfl
  ·funext l args h
   exact Yx3 E _ k l args h
end Go.Ab
