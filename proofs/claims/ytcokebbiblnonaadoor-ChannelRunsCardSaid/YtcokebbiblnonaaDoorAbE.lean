/-
  GENERIC: AN ABSTRACT MACHINE FOR THE MODEL, PROVED RIGHT OVER ANY PROGRAM: part AbE.
-/
import Derived.Test.YtcokebbiblnonaaDoorAbD
import Derived.KernelRfl
import Derived.ChangeArms
import Derived.OpenShut
import Derived.Lib.LaidU8
import Derived.ChangeSame
import Derived.RowKit
import Derived.MakeChecks
set_option linter.all false
noncomputable section
namespace Go.Ab
def Zi3(P:Program)(f:Nat):Option Func:=match P.funcs[f]? with
 | some F=>if F.name == "runtime.NumGoroutine" then none else if F.body.isSome then some F else none
 | none=>none
theorem Zgj{P:Program}{f:Nat}{F:Func}(h:Zi3 P f=some F):P.funcs[f]? = some F∧(F.name == "runtime.NumGoroutine")=false∧F.body.isSome=true:=by
 unfold Zi3 at h
 split at h
 ·rename_i F0 h0
  split at h
  ·cases h
  ·rename_i h1
   split at h
   ·rename_i h2;cases h;exact⟨h0,by simpa using h1,h2⟩
   ·cases h
 ·cases h
def Y46(P:Program):Nat→Tr Func
 | 0 => .leaf
 | n+1=>(Y46 P n).put n (Zi3 P n)
theorem Y3o(P:Program) : ∀ (n:Nat) (f:FuncId) (F:Func),(Y46 P n).get f=some F→Zi3 P f=some F
 | 0,f,F,h=>by simp[Y46]at h
 | n+1,f,F,h=>by
  rw[Y46,Tr.get_put]at h
  split at h
  ·rename_i e;subst e;exact h
  ·exact Y3o P n f F h
def Zfl(P:Program)(f:Nat):Option ExtK:=match P.funcs[f]? with
 | some F=>Zda F
 | none=>none
def Y45(P:Program):Nat→Tr ExtK
 | 0 => .leaf
 | n+1=>(Y45 P n).put n (Zfl P n)
theorem Y34(P:Program) : ∀ (n:Nat) (f:FuncId) (x:ExtK),(Y45 P n).get f=some x→Zfl P f=some x
 | 0,f,x,h=>by simp[Y45]at h
 | n+1,f,x,h=>by
  rw[Y45,Tr.get_put]at h
  split at h
  ·rename_i e;subst e;exact h
  ·exact Y34 P n f x h
theorem Zge{P:Program}{f:Nat}{x:ExtK}(h:Zfl P f=some x) : ∃ F,P.funcs[f]? = some F∧Zda F=some x:=by
 unfold Zfl at h
 split at h
 ·rename_i F hF;exact⟨F,hF,h⟩
 ·cases h
def mkE(P:Program)(n b:Nat):Env2 P :=
 {ty:=Y2r P P.types.size,tyok:=fun t r h=>Zg7 (Y2v P _ t r h),G:=⟨n,b⟩,fn:=Y46 P P.funcs.size,fnok:=fun f F h=>Zgj (Y3o P _ f F h),ex:=Y45 P P.funcs.size,exok:=fun f x h=>Zge (Y34 P _ f x h)}
end Go.Ab
noncomputable section
namespace Go.Ab
section
variable{H:Type}(P:Program)
def Yng(g:TypeId→DataW H→Option (List Value))(tot:Nat):List Field→List (DataW H)→Nat→Option (List Value)
 | [],[],acc=>if acc == tot then some []else none
 | f::fs,d::ds,acc=>if f.offset == acc then(match g f.type d with
  | some l=>if l.length == P.cellsOf f.type then(match Yng g tot fs ds (acc+l.length)with | some r=>some (l++r) | none=>none)else none
  | none=>none)else none
 | _,_,_=>none
def Y3s(g:DataW H→Option (List Value))(sz tot:Nat):List (DataW H)→Nat→Option (List Value)
 | [],acc=>if acc == tot then some []else none
 | d::ds,acc=>match g d with
  | some l=>if l.length == sz then(match Y3s g sz tot ds (acc+sz)with | some r=>some (l++r) | none=>none)else none
  | none=>none
def Yz3:Nat→TypeId→DataW H→Option (List Value)
 | 0,_,_=>none
 | k+1,t,d =>
  match P.underlying t,d with
  | some .bool, .lit (.bool b)=>some [.bool b]
  | some (.int k'), .lit (.int _ n)=>some [.int k' n]
  | some .string, .lit (.string l)=>some [.string ⟨l.toArray⟩]
  | some (.struct fs), .agg ds=>Yng P (Yz3 k) (P.cellsOf t) fs.toList ds 0
  | some (.array n e), .agg ds=>if ds.length == n then Y3s (Yz3 k e) (P.cellsOf e) (P.cellsOf t) ds 0 else none
  | _,_=>none
end
section
variable{H:Type}{enc:TypeId × Value→H}{P:Program}{w:World}{base:Nat}{sp:Nat→Bool}{held:Bool}
theorem Yzb{g:TypeId→DataW H→Option (List Value)}{cs:List Value}{n:Nat}
  (hg : ∀ t d l cs p,g t d=some l→DataW.trod enc P w base sp held n t cs=some (d,p)→cs=l) :
  ∀ (fs:List Field) (ds:List (DataW H)) (acc:Nat) (l:List Value),Yng P g cs.length fs ds acc=some l →
  (∀ (i:Nat) (f:Field) d,fs[i]? = some f→ds[i]? = some d → ∃ p,DataW.trod enc P w base sp held n f.type ((cs.drop f.offset).take (P.cellsOf f.type))=some (d,p))→cs.drop acc=l
 | [],[],acc,l,h,_=>by
  simp only[Yng]at h
  split at h
  ·rename_i e;cases h;simp at e;simp[e]
  ·cases h
 | f::fs,d::ds,acc,l,h,ht=>by
  simp only[Yng]at h
  split at h
  ·rename_i e0
   simp only[beq_iff_eq]at e0
   split at h
   ·rename_i l0 hl0
    split at h
    ·rename_i e1
     simp only[beq_iff_eq]at e1
     split at h
     ·rename_i r hr
      cases h
      have ih:=Yzb hg fs ds _ r hr (fun i f' d' hf hd=>ht (i+1) f' d' (by simpa using hf) (by simpa using hd))
      obtain⟨p,h0⟩:=ht 0 f d (by simp) (by simp)
      have h1:=hg _ _ _ _ _ hl0 h0
      rw[e0,← e1]at h1
      rw[← ih,← List.drop_drop,← List.take_append_drop l0.length (cs.drop acc),h1]
      simp
     ·cases h
    ·cases h
   ·cases h
  ·cases h
 | [],_::_,_,_,h,_=>by simp[Yng]at h
 | _::_,[],_,_,h,_=>by simp[Yng]at h
theorem Y4c{g:DataW H→Option (List Value)}{cs:List Value}{n sz:Nat}{e:TypeId}
  (hg : ∀ d l cs p,g d=some l→DataW.trod enc P w base sp held n e cs=some (d,p)→cs=l) :
  ∀ (ds:List (DataW H)) (j:Nat) (l:List Value),Y3s g sz cs.length ds (j*sz)=some l →
  (∀ (i:Nat) d,ds[i]? = some d → ∃ p,DataW.trod enc P w base sp held n e ((cs.drop ((j+i)*sz)).take sz)=some (d,p))→cs.drop (j*sz)=l
 | [],j,l,h,_=>by
  simp only[Y3s]at h
  split at h
  ·rename_i e;cases h;simp at e;simp[e]
  ·cases h
 | d::ds,j,l,h,ht=>by
  simp only[Y3s]at h
  split at h
  ·rename_i l0 hl0
   split at h
   ·rename_i e1
    simp only[beq_iff_eq]at e1
    split at h
    ·rename_i r hr
     cases h
     have e2:j*sz+sz=(j+1)*sz:=by rw[Nat.add_mul];simp
     rw[e2]at hr
     have ih:=Y4c hg ds (j+1) r hr (fun i d' hd=>by
      have:=ht (i+1) d' (by simpa using hd)
      rwa [show j+(i+1)=j+1+i from by omega]at this)
     obtain⟨p,h0⟩:=ht 0 d (by simp)
     have h1:=hg _ _ _ _ hl0 h0
     simp only[Nat.add_zero]at h1
     rw[← ih,← e2,← List.drop_drop,← List.take_append_drop sz (cs.drop (j*sz)),h1]
     simp[e1]
    ·cases h
   ·cases h
  ·cases h
theorem Yvc : ∀ (k:Nat) (t:TypeId) (d:DataW H) (l cs:List Value) (n:Nat) (p:List MemPlace),Yz3 P k t d=some l→DataW.trod enc P w base sp held n t cs=some (d,p)→cs=l
 | 0,_,_,_,_,_,_,h,_=>by simp[Yz3]at h
 | k+1,t,d,l,cs,n,p,h,ht=>by
  simp only[Yz3]at h
  split at h
  ·rename_i b hu
   cases h
   obtain⟨b',rfl,e⟩:=DataW.trod_bool hu ht
   cases e;rfl
  ·rename_i k' k2 z hu
   cases h
   obtain⟨n',rfl,e,_⟩:=DataW.trod_int hu ht
   cases e;rfl
  ·rename_i s hu
   cases h
   obtain⟨s',rfl,e,_⟩:=DataW.trod_string hu ht
   cases e;simp
  ·rename_i fs ds hu
   obtain⟨xs,m,rfl,e,hl,hxl,hall⟩:=DataW.trod_struct hu ht
   simp only[Prod.mk.injEq,DataW.agg.injEq]at e
   rw[← hl]at h
   have:=Yzb (n:=m) (fun t d l cs p h1 h2=>Yvc k t d l cs m p h1 h2) _ _ _ _ h (fun i f d hf hd=>by
    have h1:=hall i f (by simpa using hf)
    rw[e.1,List.getElem?_map]at hd
    rw[h1]
    cases hx:xs[i]? with
    | none=>rw[hx]at hd;cases hd
    | some y=>rw[hx]at hd;cases hd;exact⟨y.2,rfl⟩)
   simpa using this
  ·rename_i n' e' ds hu
   obtain⟨xs,m,rfl,e,hl,hxl,hall⟩:=DataW.trod_array hu ht
   simp only[Prod.mk.injEq,DataW.agg.injEq]at e
   split at h
   ·rename_i hn
    rw[← hl]at h
    have:=Y4c (n:=m) (fun d l cs p h1 h2=>Yvc k e' d l cs m p h1 h2) ds 0 l (by simpa using h) (fun i d hd=>by
     rw[e.1,List.getElem?_map]at hd
     cases hx:xs[i]? with
     | none=>rw[hx]at hd;cases hd
     | some y =>
      rw[hx]at hd;cases hd
      have hi:i < xs.length:=(List.getElem?_eq_some_iff.1 hx).1
      have h1:=hall i (by omega)
      rw[hx]at h1
      simp only[Nat.zero_add]
      exact⟨y.2,h1⟩)
    simpa using this
   ·cases h
  ·cases h
end
def Y2w:List (Nat × List Value)→Tr Blk
 | [] => .leaf
 | x::l=>(Y2w l).put x.1 (some (.cells false 0 x.2))
def Xyt(n:Nat)(l:List (Nat × List Value)):Heap:=⟨n,n,Y2w l⟩
def Yzp(n:Nat):Ren:=fun b=>if b < n then some ⟨b,0,0,0⟩else none
theorem Ykn : ∀ (l:List (Nat × List Value)) (b:Nat) (x:Blk),(Y2w l).get b=some x → ∃ c,(b,c) ∈ l∧x = .cells false 0 c
 | [],b,x,h=>by simp[Y2w]at h
 | y::l,b,x,h=>by
  simp only[Y2w]at h
  rw[Tr.get_put]at h
  split at h
  ·rename_i e;subst e;cases h;exact⟨y.2,by simp,rfl⟩
  ·obtain⟨c,h1,h2⟩:=Ykn l b x h
   exact⟨c,by simp[h1],h2⟩
theorem Zc9{W:World}{n:Nat}{l:List (Nat × List Value)}(hn:n≤W.heap.size)(hl : ∀ x ∈ l,(∀ v ∈ x.2,flat v=true∧v.oneCell'=true) ∧ ∃ C e fr,W.heap[x.1]? = some (.cells C e fr)∧C.toList=x.2) :
  HRel ⟨n,W.heap.size⟩ (Yzp n) (Xyt n l) W:=by
 have hget : ∀ b x,(Xyt n l).get b=some x→b < n ∧ ∃ c,(b,c) ∈ l∧x = .cells false 0 c:=by
  intro b x h
  unfold Heap.get at h
  split at h
  ·rename_i hb;exact⟨hb,Ykn l b x h⟩
  ·cases h
 have hα : ∀ b p,Yzp n b=some p→b < n∧p=⟨b,0,0,0⟩:=by
  intro b p h
  unfold Yzp at h
  split at h
  ·cases h;exact⟨by assumption,rfl⟩
  ·cases h
 have hown : ∀ b,(Xyt n l).own b=false:=by
  intro b
  unfold Heap.own
  cases hb:(Xyt n l).get b with
  | none=>rfl
  | some x=>obtain⟨_,c,_,rfl⟩:=hget b x hb;rfl
 refine⟨fun b p h => ?_,fun b p x hb hx => ?_,fun b c p q _ _ _ ho _ => ?_,fun g hg=>⟨?_,hown g⟩,Nat.le_refl _,fun b x hx => ?_,fun b p x hb hx => ?_,Nat.le_refl _⟩
 ·obtain⟨h1,rfl⟩:=hα b p h
  exact⟨h1,Nat.lt_of_lt_of_le h1 hn⟩
 ·obtain⟨h1,rfl⟩:=hα b p hb
  obtain⟨_,c,hc,rfl⟩:=hget b x hx
  obtain⟨hf,C,e,fr,h2,h3⟩:=hl _ hc
  refine⟨rfl, .inr ⟨C,e,fr.1,fr.2,h2,fun i v hv => ?_,fun h=>by cases h⟩⟩
  have hv':=hf v (List.mem_of_getElem? hv)
  simp only at h3
  refine⟨?_,flat_ok _ v hv'.1,hv'.2⟩
  rw[Qtr _ hv'.1,← hv,← h3]
  simp
 ·rw[hown b]at ho;cases ho
 ·simp[Yzp,show g < n from hg]
 ·obtain⟨_,c,hc,rfl⟩:=hget b x hx
  intro v hv
  exact⟨flat_ok _ v ((hl _ hc).1 v hv).1,((hl _ hc).1 v hv).2⟩
 ·obtain⟨h1,rfl⟩:=hα b p hb
  obtain⟨_,c,_,rfl⟩:=hget b x hx
  refine⟨fun h => ?_,fun _ _=>Nat.lt_of_lt_of_le h1 hn⟩
  simp[Blk.own]at h
def Zes(P:Program)(laid:List (String × DataW Unit))(n:Nat)(l:List (Nat × List Value)):Prop :=
 ∀ x ∈ l,x.1 < n∧(∀ v ∈ x.2,flat v=true∧v.oneCell'=true) ∧ ∃ name t d k,(name,d) ∈ laid∧P.globalNamed name=some x.1∧(P.globals[x.1]?).map (·.type)=some t∧Yz3 P k t d=some x.2
theorem Y1f{P:Program}{W:World}{laid:List (String × DataW Unit)}{n:Nat}{l:List (Nat × List Value)}(h:laidMet P laid W)(hl:Zes P laid n l)(hn:n≤W.heap.size) :
  HRel ⟨n,W.heap.size⟩ (Yzp n) (Xyt n l) W:=by
 refine Zc9 hn fun x hx => ?_
 obtain⟨_,hf,name,t,d,k,hm,hg,ht,hd⟩:=hl x hx
 refine⟨hf,?_⟩
 obtain⟨g,t',cs,fuel,p,h1,h2,h3,h4⟩:=Lib.laidMet.reads h hm
 obtain rfl:=Option.some.inj (hg.symm.trans h1)
 obtain rfl:=Option.some.inj (ht.symm.trans h2)
 have:=Yvc k _ _ _ _ _ _ hd h4
 unfold World.var? at h3
 rw[hg]at h3
 simp only[Option.bind_some]at h3
 split at h3
 ·rename_i C e fr hC
  cases h3
  exact⟨_,e,fr,hC,this⟩
 ·cases h3
end Go.Ab
noncomputable section
namespace Go.Ab
end Go.Ab
noncomputable section
namespace Go.Ab
def ob{A B:Type}(x:Option A)(f:A→Option B):Option B:=Option.rec (motive:=fun _=>Option B) none f x
@[simp] theorem ob_some {A B:Type} (a:A) (f:A→Option B):ob (some a) f=f a:=rfl
@[simp] theorem ob_none {A B:Type} (f:A→Option B):ob none f=none:=rfl
def bq{A:Type}(b:Bool)(x y:A):A:=Bool.rec (motive:=fun _=>A) y x b
@[simp] theorem bq_true {A:Type} (x y:A):bq true x y=x:=rfl
@[simp] theorem bq_false {A:Type} (x y:A):bq false x y=y:=rfl
def rT(i:Nat)(_:Nat)(t:Tm):Option Value:=t.t.get i
def rC(v:Value)(_:Nat)(_:Tm):Option Value:=bq (flat v) (some v) none
def rG(g n:Nat)(_:Tm):Option Value:=bq (Nat.blt g n) (some (.pointer (some ⟨g,0,none⟩))) none
def rF(f:FuncId)(_:Nat)(_:Tm):Option Value:=some (.func (.func f) #[] #[])
def rd(x:Operand)(n:Nat)(t:Tm):Option Value:=Operand.rec (motive:=fun _=>Nat→Tm→Option Value) rT rC rG rF x n t
theorem Xmr(G:Bs)(t:Tm)(x:Operand):rd x G.n t=aev G t x:=by
 cases x with
 | tmp i=>rfl
 | const v=>show rC v 0 t=_;simp only[rC,aev];cases flat v <;> rfl
 | global g =>
  show rG g G.n t=_
  simp only[rG,aev]
  by_cases h:g < G.n
  ·rw[show Nat.blt g G.n=true from by simpa using h];simp[h]
  ·rw[Bool.eq_false_iff.2 (fun hb:Nat.blt g G.n=true=>h (by simpa using hb))];simp[h]
 | func f=>rfl
def gvF(r:Option (Value × Heap)):Option Res:=ob r fun p=>Prod.rec (motive:=fun _=>Option Res) (fun v h=>some (.val v h)) p
def g0F(h:Heap)(r:Option Value):Option Res:=ob r fun v=>some (.val v h)
def gsF(r:Option Heap):Option Res:=ob r fun h=>some (.skip h)
theorem Ylg(r:Option (Value × Heap)):gvF r=gv r:=by cases r <;> rfl
theorem Xn2(h:Heap)(r:Option Value):g0F h r=g0 h r:=by cases r <;> rfl
theorem Y8u(r:Option Heap):gsF r=gs r:=by cases r <;> rfl
abbrev OpF := ∀ P:Program,Env2 P→Tm→Heap→Option Res
def Y9p(x:Operand):OpF:=fun _ E t h=>g0F h (rd x E.G.n t)
def Zjb(c a b:Operand):OpF:=fun _ E t h=>match rd c E.G.n t with
 | some (.bool true)=>g0F h (rd a E.G.n t)
 | some (.bool false)=>g0F h (rd b E.G.n t)
 | _=>none
def Zeg(e:TypeId):OpF:=fun _ E _ h=>gvF (Q10 E.toEnv e h)
def Zq9(_:TypeId)(x:Operand):OpF:=fun _ E t h=>ob (rd x E.G.n t) fun v=>gvF (Y6w v h)
def Ze4(ty:TypeId)(ps:Array (Nat × Operand)):OpF:=fun _ E t h=>ob (Qh E.G t ps.toList) fun l=>g0F h (Xp4 E.toEnv ty l)
def Ynu(ty:TypeId)(n:Nat)(ps:Array (Nat × Operand)):OpF:=fun _ E t h=>ob (Qh E.G t ps.toList) fun l=>gvF (Qhq E.toEnv ty n l h)
def Yrj(ty:TypeId)(m k x:Operand):OpF:=fun _ E t h=>ob (rd m E.G.n t) fun a=>ob (rd k E.G.n t) fun b=>ob (rd x E.G.n t) fun c=>gsF (Qvd E.toEnv ty a b c h)
def Zk6(ty:TypeId)(a:Operand):OpF:=fun _ E t h=>ob (rd a E.G.n t) fun x=>g0F h (Xhb E.toEnv ty x h)
def Zed(ty:TypeId)(a v:Operand):OpF:=fun _ E t h=>ob (rd a E.G.n t) fun x=>ob (rd v E.G.n t) fun y=>gsF (Q8p E.toEnv ty x y h)
def oN1(_:Nat):OpF:=fun _ _ _ _=>none
def Yvo(x:Operand):OpF:=fun _ E t h=>ob (rd x E.G.n t) fun v=>g0F h (Yhn v)
def Zp9(op:BinOp)(ty:TypeId)(x y:Operand)(_:TypeId):OpF:=fun _ E t h=>ob (rd x E.G.n t) fun a=>ob (rd y E.G.n t) fun b=>g0F h (Qa5 E.toEnv op ty (Q6 x || Q6 y) a b)
def oUn(op:UnOp)(_:TypeId)(x:Operand):OpF:=fun _ E t h=>ob (rd x E.G.n t) fun v=>g0F h (aUn op v)
def Zkx(src dst:TypeId)(x:Operand):OpF:=fun _ E t h=>ob (rd x E.G.n t) fun v=>bq (Xy2 E.toEnv src dst) (g0F h (Xpd E.toEnv src dst v)) (gvF (Yz5 E.toEnv src dst v h))
def Y63(ty:TypeId)(x:Operand):OpF:=fun _ E t h=>ob (rd x E.G.n t) fun v=>g0F h (Y13 E.toEnv ty v)
def Y0g(ty:TypeId)(x:Operand):OpF:=fun _ E t h=>ob (rd x E.G.n t) fun v=>g0F h (Yv4 E.toEnv ty v)
def Y65(fn:Fn)(a b:Array Operand):OpF:=fun _ E t h=>ob (evs E.G t a.toList) fun x=>ob (evs E.G t b.toList) fun y=>g0F h (Yvr fn x y)
def Y1i(ty:TypeId)(r:Option Operand):OpF:=fun _ E t h=>ob (evO E.G t r) fun hv=>gvF (Xy5 E.toEnv ty hv h)
def oN2(_:TypeId)(_:Operand):OpF:=fun _ _ _ _=>none
def Yss(ty:TypeId)(n c:Operand):OpF:=fun _ E t h=>ob (rd n E.G.n t) fun x=>ob (rd c E.G.n t) fun y=>gvF (Xhj E.toEnv ty x y h)
def Zba(ty:TypeId)(x:Operand)(lo hi mx:Option Operand):OpF:=fun _ E t h=>ob (rd x E.G.n t) fun v=>ob (evO E.G t lo) fun a=>ob (evO E.G t hi) fun b=>ob (evO E.G t mx) fun c=>gvF (Qx5 E.toEnv ty v a b c h)
def Ysp(ty:TypeId)(x:Operand)(f:Nat):OpF:=fun _ E t h=>ob (rd x E.G.n t) fun v=>g0F h (Qjg E.toEnv ty v f)
def Zc2(ty:TypeId)(x:Operand)(f:Nat):OpF:=fun _ E t h=>ob (rd x E.G.n t) fun v=>g0F h (Y85 E.toEnv ty v f)
def Yru(ty:TypeId)(x i:Operand):OpF:=fun _ E t h=>ob (rd x E.G.n t) fun a=>ob (rd i E.G.n t) fun b=>g0F h (Vo E.toEnv ty a b)
def Zdc(ty:TypeId)(x i:Operand):OpF:=fun _ E t h=>ob (rd x E.G.n t) fun a=>ob (rd i E.G.n t) fun b=>g0F h (Y8m E.toEnv ty a b)
def Y67(ty:TypeId)(x k:Operand)(ok:Bool):OpF:=fun _ E t h=>ob (rd x E.G.n t) fun a=>ob (rd k E.G.n t) fun b=>g0F h (Xat E.toEnv ty a b ok h)
def Yw7(ty:TypeId)(m k:Operand):OpF:=fun _ E t h=>ob (rd m E.G.n t) fun a=>ob (rd k E.G.n t) fun b=>gvF (X9n E.toEnv ty a b h)
def Yoi(_:TypeId)(m st x:Operand):OpF:=fun _ E t h=>ob (rd m E.G.n t) fun a=>ob (rd st E.G.n t) fun b=>ob (rd x E.G.n t) fun c=>gsF (Xsr a b c h)
def Zeq(ty:TypeId)(x:Operand):OpF:=fun _ E t h=>ob (rd x E.G.n t) fun v=>gvF (Ytj E.toEnv ty v h)
def Zl9(x:Operand)(s:Bool):OpF:=fun _ E t h=>ob (rd x E.G.n t) fun v=>gvF (Zap v s h)
def Zcl(x:Operand):OpF:=fun _ E t h=>ob (rd x E.G.n t) fun v=>g0F h (Yzd v h)
def Y6i(x:Operand)(_ ty:TypeId)(ok:Bool):OpF:=fun _ E t h=>ob (rd x E.G.n t) fun v=>g0F h (Y1g E.toEnv v ty ok)
def Y1l(x:Operand)(i:Nat):OpF:=fun _ E t h=>ob (rd x E.G.n t) fun v=>g0F h (Q7 v i)
def Ziv(P:Program)(E:Env2 P)(fv:Value)(args:List Value)(h:Heap):Option Res:=match Qi fv args with
 | some (f,l)=>match E.fn.get f with
  | some _=>some (.enter f l h)
  | none=>match E.ex.get f with
   | some x=>gv (Yz7 x l h)
   | none=>none
 | none=>Ywm fv args h
def Zke(c:Call):OpF:=fun P E t h=>ob (evs E.G t c.args.toList) fun args=>match c.callee with
 | .builtin b=>Q5 E b c.argTypes.toList args h
 | .value f=>ob (rd f E.G.n t) fun fv=>Ziv P E fv args h
 | .invoke _ _=>none
def oN7(_:Call):OpF:=fun _ _ _ _=>none
def Zd8(x:Operand):OpF:=fun _ E t h=>match rd x E.G.n t with
 | some (.iface u v)=>some (.panic (.iface u v) h)
 | _=>none
def oN8(_ _:Operand):OpF:=fun _ _ _ _=>none
def oN9(_:TypeId)(_:Operand)(_:Bool):OpF:=fun _ _ _ _=>none
def Zr2(_:Array SelectCase)(_:Bool):OpF:=fun _ _ _ _=>none
def Zqi(P:Program)(E:Env2 P)(o:Op)(t:Tm)(h:Heap):Option Res :=
 Op.rec (motive:=fun _=>OpF) Y9p Y9p Zjb Zeg Zq9 Ze4 Ynu Yrj Zk6 Zed oN1 oN1 Yvo Zp9 oUn Zkx Y63 Y0g Y65 Y1i oN2 Yss Zba Ysp Zc2 Yru Zdc Y67
  Yrj Yw7 Yoi Zeq Zl9 Zcl Y6i Y1l Zke oN7 oN7 Zd8 oN8 oN9 Zr2 o P E t h
theorem Zjy{P:Program}(E:Env2 P)(t:Tm)(h:Heap)(o:Oper):Zqi P E o.op t h=aop E t h o:=by
 obtain⟨d,op,ty,pos,af,g⟩:=o
 have two : ∀ {A:Type} (x y:Option Value) (f:Value→Value→Option A),(match x,y with | some a,some b=>f a b | _,_=>none)=ob x fun a=>ob y fun b=>f a b:=by
  intro A x y f;cases x <;> cases y <;> rfl
 cases op with
 | move x=>show Y9p x P E t h=_;simp only[Y9p,aop,Xmr,Xn2]
 | assign x=>show Y9p x P E t h=_;simp only[Y9p,aop,Xmr,Xn2]
 | pick c a b =>
  show Zjb c a b P E t h=_
  simp only[Zjb,aop,Xmr,Xn2]
  rcases aev E.G t c with _ | v
  ·rfl
  ·cases v <;> first | rfl | (rename_i b;cases b <;> rfl)
 | alloc e=>show Zeg e P E t h=_;simp only[Zeg,aop,Ylg]
 | box e x=>show Zq9 e x P E t h=_;simp only[Zq9,aop,Xmr,Ylg];cases aev E.G t x <;> rfl
 | build ty ps=>show Ze4 ty ps P E t h=_;simp only[Ze4,aop,Xn2];cases Qh E.G t ps.toList <;> rfl
 | buildSlice ty n ps=>show Ynu ty n ps P E t h=_;simp only[Ynu,aop,Ylg];cases Qh E.G t ps.toList <;> rfl
 | insert ty m k x=>show Yrj ty m k x P E t h=_;simp only[Yrj,aop,Xmr,Y8u];cases aev E.G t m <;> cases aev E.G t k <;> cases aev E.G t x <;> rfl
 | load ty a=>show Zk6 ty a P E t h=_;simp only[Zk6,aop,Xmr,Xn2];cases aev E.G t a <;> rfl
 | store ty a v=>show Zed ty a v P E t h=_;simp only[Zed,aop,Xmr,Y8u];cases aev E.G t a <;> cases aev E.G t v <;> rfl
 | ready g=>rfl
 | waits g=>rfl
 | nilCheck x=>show Yvo x P E t h=_;simp only[Yvo,aop,Xmr,Xn2];cases aev E.G t x <;> rfl
 | binOp op ty x y yt=>show Zp9 op ty x y yt P E t h=_;simp only[Zp9,aop,Xmr,Xn2];cases aev E.G t x <;> cases aev E.G t y <;> rfl
 | unOp op ty x=>show oUn op ty x P E t h=_;simp only[oUn,aop,Xmr,Xn2];cases aev E.G t x <;> rfl
 | convert s d x =>
  show Zkx s d x P E t h=_;simp only[Zkx,aop,Xmr,Xn2,Ylg];cases aev E.G t x
  ·rfl
  ·cases Xy2 E.toEnv s d <;> rfl
 | sliceToArrayPointer ty x=>show Y63 ty x P E t h=_;simp only[Y63,aop,Xmr,Xn2];cases aev E.G t x <;> rfl
 | makeInterface ty x=>show Y0g ty x P E t h=_;simp only[Y0g,aop,Xmr,Xn2];cases aev E.G t x <;> rfl
 | makeFunc fn a b=>show Y65 fn a b P E t h=_;simp only[Y65,aop,Xn2];cases evs E.G t a.toList <;> cases evs E.G t b.toList <;> rfl
 | makeMap ty r=>show Y1i ty r P E t h=_;simp only[Y1i,aop,Ylg];cases evO E.G t r <;> rfl
 | makeChan ty x=>rfl
 | makeSlice ty n c=>show Yss ty n c P E t h=_;simp only[Yss,aop,Xmr,Ylg];cases aev E.G t n <;> cases aev E.G t c <;> rfl
 | slice ty x lo hi mx=>show Zba ty x lo hi mx P E t h=_;simp only[Zba,aop,Xmr,Ylg];cases aev E.G t x <;> cases evO E.G t lo <;> cases evO E.G t hi <;> cases evO E.G t mx <;> rfl
 | fieldAddr ty x f=>show Ysp ty x f P E t h=_;simp only[Ysp,aop,Xmr,Xn2];cases aev E.G t x <;> rfl
 | field ty x f=>show Zc2 ty x f P E t h=_;simp only[Zc2,aop,Xmr,Xn2];cases aev E.G t x <;> rfl
 | indexAddr ty x i=>show Yru ty x i P E t h=_;simp only[Yru,aop,Xmr,Xn2];cases aev E.G t x <;> cases aev E.G t i <;> rfl
 | index ty x i=>show Zdc ty x i P E t h=_;simp only[Zdc,aop,Xmr,Xn2];cases aev E.G t x <;> cases aev E.G t i <;> rfl
 | lookup ty x k ok=>show Y67 ty x k ok P E t h=_;simp only[Y67,aop,Xmr,Xn2];cases aev E.G t x <;> cases aev E.G t k <;> rfl
 | mapUpdate ty m k x=>show Yrj ty m k x P E t h=_;simp only[Yrj,aop,Xmr,Y8u];cases aev E.G t m <;> cases aev E.G t k <;> cases aev E.G t x <;> rfl
 | mapEntry ty m k=>show Yw7 ty m k P E t h=_;simp only[Yw7,aop,Xmr,Ylg];cases aev E.G t m <;> cases aev E.G t k <;> rfl
 | entryStore ty m st x=>show Yoi ty m st x P E t h=_;simp only[Yoi,aop,Xmr,Y8u];cases aev E.G t m <;> cases aev E.G t st <;> cases aev E.G t x <;> rfl
 | range ty x=>show Zeq ty x P E t h=_;simp only[Zeq,aop,Xmr,Ylg];cases aev E.G t x <;> rfl
 | next x s=>show Zl9 x s P E t h=_;simp only[Zl9,aop,Xmr,Ylg];cases aev E.G t x <;> rfl
 | entry x=>show Zcl x P E t h=_;simp only[Zcl,aop,Xmr,Xn2];cases aev E.G t x <;> rfl
 | typeAssert x xt ty ok=>show Y6i x xt ty ok P E t h=_;simp only[Y6i,aop,Xmr,Xn2];cases aev E.G t x <;> rfl
 | extract x i=>show Y1l x i P E t h=_;simp only[Y1l,aop,Xmr,Xn2];cases aev E.G t x <;> rfl
 | call c =>
  show Zke c P E t h=_
  simp only[Zke,aop,Xmr]
  cases evs E.G t c.args.toList with
  | none=>rfl
  | some args =>
   simp only[ob_some]
   cases c.callee with
   | builtin b=>rfl
   | value f =>
    simp only
    cases aev E.G t f with
    | none=>rfl
    | some fv =>
     simp only[ob_some,Ziv]
     cases Qi fv args with
     | none=>rfl
     | some p=>rfl
   | invoke _ _=>rfl
 | go c=>rfl
 | defer c=>rfl
 | panic x =>
  show Zd8 x P E t h=_
  simp only[Zd8,aop,Xmr]
  rcases aev E.G t x with _ | v
  ·rfl
  ·cases v <;> rfl
 | send _ _=>rfl
 | recv _ _ _=>rfl
 | select _ _=>rfl
def Zpm(n:Nat)(d:Option Tmp):Bool:=Option.rec (motive:=fun _=>Bool) true (fun i=>Nat.blt i n) d
theorem Zca(s:St)(d:Option Tmp):Zpm s.t.size d=Qw0 s d:=by cases d <;> rfl
def X5h(s:St)(d:Option Tmp)(v:Value)(h:Heap):St:=Option.rec (motive:=fun _=>St) {s with h:=h} (fun i => {t:=s.t.put i v,ds:=s.ds,h:=h}) d
theorem Yx9(s:St)(d:Option Tmp)(v:Value)(h:Heap):X5h s d v h=s.put d v h:=by cases d <;> rfl
abbrev XS:=Option (Exit × St)
abbrev Zkz:=CallF→Option Tmp→St→XS
def Zmr(o:Option Tmp)(s:St)(r:Option (AEnd × Heap)):XS:=ob r fun p=>Prod.rec (motive:=fun _=>XS) (fun e h=>AEnd.rec (motive:=fun _=>XS) (fun v=>some (.normal,X5h s o v h)) (fun ch=>some (.panic ch,{s with h:=h})) e) p
def Zqy(v:Value)(h:Heap):Zkz:=fun _ o s=>some (.normal,X5h s o v h)
def Zpf(h:Heap):Zkz:=fun _ o s=>some (.normal,X5h s o Ya h)
def Znd(f:FuncId)(args:List Value)(h:Heap):Zkz:=fun C o s=>Zmr o s (C.fn f args h)
def Zn3(l:Nat)(args:List Value)(h:Heap):Zkz:=fun C o s=>Zmr o s (C.rnd l args h)
def Zog(_:Deferred)(_:Heap):Zkz:=fun _ _ _=>none
def Zni(v:Value)(h:Heap):Zkz:=fun _ _ s=>some (.panic [{v,recovered:=false}],{s with h:=h})
def Zqo(r:Res)(C:CallF)(o:Option Tmp)(s:St):XS:=Res.rec (motive:=fun _=>Zkz) Zqy Zpf Znd Zn3 Zog Zni r C o s
def Zjq(P:Program)(E:Env2 P)(rd:Option Nat)(o:Oper)(s:St):XS:=match o.op with
 | .defer c=>match rd with
  | none=>match Yve E s.t c with
   | some d=>some (.normal,({s with ds:=d::s.ds}:St).put o.dst Ya s.h)
   | none=>none
  | some _=>none
 | _=>none
def Zjv(P:Program)(E:Env2 P)(C:CallF)(rd:Option Nat)(o:Oper)(s:St):XS :=
 bq (Zpm s.t.size o.dst) (Option.rec (motive:=fun _=>XS) (Zjq P E rd o s) (fun r=>Zqo r C o.dst s) (Zqi P E o.op s.t s.h)) none
theorem Zhr{P:Program}(E:Env2 P)(C:CallF)(rd:Option Nat)(o:Oper)(s:St):Zjv P E C rd o s=Ykq E C rd o s:=by
 unfold Zjv Ykq
 rw[Zca]
 cases hd:Qw0 s o.dst with
 | false=>rfl
 | true =>
  simp only[Bool.not_true,Bool.false_eq_true,if_false,bq_true]
  rw[Zjy]
  have hdef : ∀ c,o.op = .defer c→aop E s.t s.h o=none:=by
   intro c hc;simp[aop,hc]
  split
  ·rename_i c hc
   rw[hdef c hc]
   simp only[Zjq,hc]
   cases rd with
   | none=>cases Yve E s.t c <;> rfl
   | some _=>rfl
  ·rename_i hne
   cases ha:aop E s.t s.h o with
   | none =>
    simp only[Zjq]
    all_goals (split <;> first | rfl | (rename_i c hc;exact absurd hc (hne c)))
   | some r =>
    simp only
    cases r with
    | val v h=>show some _=_;rw[Yx9]
    | skip h=>show some _=_;rw[Yx9]
    | enter f args h =>
     show Zmr o.dst s (C.fn f args h)=_
     simp only[Zmr]
     rcases C.fn f args h with _ | ⟨_ | _,h'⟩
     ·rfl
     ·simp only[ob_some,Yx9]
     ·rfl
    | round f args h =>
     show Zmr o.dst s (C.rnd f args h)=_
     simp only[Zmr]
     rcases C.rnd f args h with _ | ⟨_ | _,h'⟩
     ·rfl
     ·simp only[ob_some,Yx9]
     ·rfl
    | defer d h=>rfl
    | panic v h=>rfl
def Zly(ops:List Oper)(t:Tm)(o:Oper):Option Bool:=Option.rec (motive:=fun _=>Option Bool) (some true) (fun _=>Qf ops t o) o.guard
theorem Zfi(ops:List Oper)(t:Tm)(o:Oper):Zly ops t o=Qf ops t o:=by
 unfold Zly
 cases hg:o.guard with
 | none=>simp[Qf,hg]
 | some p=>rfl
abbrev Zp0 := ∀ P:Program,Env2 P→CallF→Option Nat→List Oper→St→XS
def goK(f:St→XS)(p:Exit × St):XS:=Prod.rec (motive:=fun _=>XS) (fun e s=>Exit.rec (motive:=fun _=>XS) (f s) (fun _=>none) (fun _=>none) none (fun ch=>some (.panic ch,s)) none e) p
def Zqq:Zp0:=fun _ _ _ _ _ s=>some (.normal,s)
def Zl4(o:Oper)(_:List Oper)(f:Zp0):Zp0:=fun P E C rd ops s =>
 ob (Zly ops s.t o) fun b=>bq b (ob (Zjv P E C rd o s) (goK (f P E C rd ops))) (bq (Zpm s.t.size o.dst) (f P E C rd ops (X5h s o.dst Ya s.h)) none)
def Zmz(P:Program)(E:Env2 P)(C:CallF)(rd:Option Nat)(ops l:List Oper)(s:St):XS:=List.rec (motive:=fun _=>Zp0) Zqq Zl4 l P E C rd ops s
theorem Ze0{P:Program}(E:Env2 P)(C:CallF)(rd:Option Nat)(ops:List Oper) : ∀ (l:List Oper) (s:St),Zmz P E C rd ops l s=Ymd E C rd ops l s
 | [],s=>rfl
 | o::r,s=>by
  have ih:=Ze0 E C rd ops r
  show Zl4 o r (fun P E C rd ops s=>Zmz P E C rd ops r s) P E C rd ops s=_
  simp only[Zl4,Ymd,Zfi,Zhr,Zca,Yx9,ih]
  cases Qf ops s.t o with
  | none=>rfl
  | some b =>
   simp only[ob_some]
   cases b with
   | true =>
    simp only[bq_true]
    rcases Ykq E C rd o s with _ | ⟨e,s'⟩
    ·rfl
    ·cases e <;> first | rfl | (show Zmz P E C rd ops r s'=_;exact ih s')
   | false =>
    simp only[bq_false]
    cases Qw0 s o.dst <;> rfl
abbrev X91 := ∀ P:Program,Env2 P→CallF→Option Nat→Nat→St→XS
def Yy6(f:St→XS)(p:Exit × St):XS:=Prod.rec (motive:=fun _=>XS) (fun e s=>Exit.rec (motive:=fun _=>XS) (f s) (fun i=>some (.exit i,s)) (fun i=>some (.goto i,s)) (some (.ret,s)) (fun ch=>some (.panic ch,s)) (some (.outgrown,s)) e) p
theorem X63(f:St→XS)(s:St):Yy6 f (.normal,s)=f s:=rfl
def Znq:X91:=fun _ _ _ _ _ s=>some (.normal,s)
def Zlm(_:Nat)(ops:Array Oper)(draw:Bool):X91:=fun P E C rd _ s=>bq draw (ob (X8q E C ops.toList s) fun s'=>some (.normal,s')) (Zmz P E C rd ops.toList ops.toList s)
def Zqp(_ _:Code)(fx fy:X91):X91:=fun P E C rd k s=>ob (fx P E C rd k s) (Yy6 (fy P E C rd k))
def Zp8(c:Operand)(_ _:Code)(fx fy:X91):X91:=fun P E C r k s=>ob (rd c E.G.n s.t) fun v=>Value.rec (motive_1:=fun _=>XS) (motive_2:=fun _=>Unit) (motive_3:=fun _=>Unit)
 (fun b=>bq b (fx P E C r k s) (fy P E C r k s)) (fun _ _=>none) (fun _ _=>none) (fun _ _ _=>none) (fun _=>none) (fun _=>none) (fun _ _ _=>none) (fun _=>none) (fun _=>none) (fun _ _ _ _ _=>none) none (fun _ _ _=>none) none (fun _ _=>none) (fun _ _=>none)
 (fun _ _=>()) () (fun _ _ _ _=>()) v
def Zn7(id:Nat)(_:Code)(f:X91):X91:=fun P E C rd k s=>ob (f P E C rd k s) fun p=>Prod.rec (motive:=fun _=>XS) (fun e s=>Exit.rec (motive:=fun _=>XS) (some (.normal,s)) (fun i=>bq (Nat.beq i id) (some (.normal,s)) (some (.exit i,s))) (fun i=>some (.goto i,s)) (some (.ret,s)) (fun ch=>some (.panic ch,s)) (some (.outgrown,s)) e) p
def Zfm(body:St→XS)(k:Nat):St→XS:=Nat.rec (motive:=fun _=>St→XS) (fun _=>none) (fun _ f s=>ob (body s) (Yy6 f)) k
def Zpq(_:Code)(f:X91):X91:=fun P E C rd k s=>Zfm (f P E C rd k) k s
def Zpv(g:Operand)(ps:Array Tmp)(asg bd:Code)(_ _:X91):X91:=fun _ E C rd _ s=>Zaf E C rd g ps asg bd s
def Zq4(id:Nat):X91:=fun _ _ _ _ _ s=>some (.exit id,s)
def Zo9(_:Code)(_:X91):X91:=fun _ _ _ _ _ _=>none
def Znp(_:Nat):X91:=Znq
def Zpx(_:Nat):X91:=fun _ _ _ _ _ _=>none
def Zqn:X91:=fun _ _ _ _ _ s=>some (.ret,s)
def Zla(_:String):X91:=fun _ _ _ _ _ _=>none
def X59(P:Program)(E:Env2 P)(C:CallF)(rd:Option Nat)(k:Nat)(c:Code)(s:St):XS :=
 Code.rec (motive:=fun _=>X91) Znq Zlm Zqp Zp8 Zn7 Zpq Zpv Zq4 Zo9 Znp Zpx Zqn Zla c P E C rd k s
theorem Y73{f g:St→XS}(h : ∀ s,f s=g s) : ∀ (k:Nat) (s:St),Zfm f k s=Yno g k s
 | 0,s=>rfl
 | k+1,s=>by
  show ob (f s) (Yy6 (Zfm f k))=_
  rw[h s]
  simp only[Yno]
  rcases g s with _ | ⟨e,s'⟩
  ·rfl
  ·simp only[ob_some]
   cases e <;> first | rfl | (rw[X63];exact Y73 h k s')
theorem X68{P:Program}(E:Env2 P)(C:CallF)(rd:Option Nat)(k:Nat) : ∀ (c:Code) (s:St),X59 P E C rd k c s=Xwm E C rd k c s
 | .skip,s=>rfl
 | .region id ops true,s=>by
  show ob (X8q E C ops.toList s) _=_
  simp only[Xwm]
  cases X8q E C ops.toList s <;> rfl
 | .region id ops false,s=>by
  show Zmz P E C rd ops.toList ops.toList s=_
  simp only[Xwm,Ze0]
 | .seq x y,s=>by
  show ob (X59 P E C rd k x s) (Yy6 (X59 P E C rd k y))=_
  rw[X68 E C rd k x s]
  simp only[Xwm]
  rcases Xwm E C rd k x s with _ | ⟨e,s'⟩
  ·rfl
  ·simp only[ob_some]
   cases e <;> first | rfl | (rw[X63];exact X68 E C rd k y s')
 | .cond c x y,s=>by
  show ob (Go.Ab.rd c E.G.n s.t) _=_
  rw[Xmr]
  simp only[Xwm]
  rcases aev E.G s.t c with _ | v
  ·rfl
  ·cases v <;> first | rfl | skip
   rename_i b
   cases b with
   | true=>exact X68 E C rd k x s
   | false=>exact X68 E C rd k y s
 | .block id c,s=>by
  show ob (X59 P E C rd k c s) _=_
  rw[X68 E C rd k c s]
  simp only[Xwm]
  rcases Xwm E C rd k c s with _ | ⟨e,s'⟩
  ·rfl
  ·simp only[ob_some]
   cases e <;> first | rfl | skip
   rename_i i
   simp only
   cases Nat.beq i id <;> rfl
 | .loop c,s=>by
  show Zfm (X59 P E C rd k c) k s=_
  simp only[Xwm]
  exact Y73 (X68 E C rd k c) k s
 | .rangeFunc g ps asg bd,s=>rfl
 | .exit id,s=>rfl
 | .scope c,s=>rfl
 | .label l,s=>rfl
 | .goto l,s=>rfl
 | .ret,s=>rfl
 | .refuse w,s=>rfl
def Y9s (P : Program) (E : Env2 P) (C : CallF) (D : Xh0) (k : Nat) (f : FuncId) (args : List Value) (h : Heap) : Option (AEnd × Heap) :=
  ob (E.fn.get f) fun fn => ob fn.body fun c => bq (Nat.ble args.length fn.ntmps) (match X59 P E C none k c ⟨Ji fn args, [], h⟩ with
      | some (.normal, s) | some (.ret, s) => Ye E D fn s.t s.ds .returning s.h
      | some (.panic ch, s) => Ye E D fn s.t s.ds (.panicking ch) s.h
      | _ => none) none
theorem Zfr{P:Program}(E:Env2 P)(C:CallF)(D:Xh0)(k:Nat)(f:FuncId)(args:List Value)(h:Heap):Y9s P E C D k f args h=Y5w E C D k f args h:=by
 unfold Y9s Y5w
 cases E.fn.get f with
 | none=>rfl
 | some fn =>
  simp only[ob_some]
  cases fn.body with
  | none=>rfl
  | some c =>
   simp only[ob_some]
   cases Nat.ble args.length fn.ntmps with
   | false=>rfl
   | true =>
    simp only[bq_true,X68]
    rcases Xwm E C none k c ⟨Ji fn args,[],h⟩with _ | ⟨e,s⟩
    ·rfl
    ·cases e <;> rfl
def Y88(P:Program)(E:Env2 P)(C:CallF)(k:Nat)(l:Nat)(args:List Value)(h:Heap):Option (AEnd × Heap) :=
 match h.get l with
 | some (.obj (.loop .ready _ t ps asg bd _))=>match Y91 t.size ps.toList args with
  | false=>none
  | true=>match X59 P E C (some l) k asg ⟨Yx5 t ps.toList args,[],h⟩with
   | some (.normal,s1)=>match s1.h.get l with
    | some (.obj (.loop .ready p1 t1 ps1 as1 bd1 d1))=>match X59 P E C (some l) k bd {s1 with h:=s1.h.set l (some (.obj (.loop .busy p1 t1 ps1 as1 bd1 d1)))} with
     | some (e,s2)=>match Y2g e,s2.h.get l with
      | some j,some (.obj (.loop _ _ t2 ps2 as2 bd2 d2))=>some (.ret (.bool j.isNone),s2.h.set l (some (.obj (.loop (if j.isNone then .ready else .done) j t2 ps2 as2 bd2 d2))))
      | _,_=>none
     | none=>none
    | _=>none
   | _=>none
 | _=>none
theorem Zc1{P:Program}(E:Env2 P)(C:CallF)(k:Nat)(l:Nat)(args:List Value)(h:Heap):Y88 P E C k l args h=Yx3 E C k l args h:=by
 unfold Y88 Yx3
 simp only[X68]
 rfl
def Qsk(P:Program)(E:Env2 P)(X:X9c)(k:Nat)(n:Nat):CallF :=
 Nat.rec (motive:=fun _=>CallF) ⟨X,fun _ _ _=>none⟩ (fun _ C=>⟨fun f args h=>Option.rec (motive:=fun _=>Option (AEnd × Heap)) (Y9s P E C (Ylw E C k) k f args h) (fun r=>some r) (X f args h),fun l args h=>Y88 P E C k l args h⟩) n
theorem Y3e{P:Program}(E:Env2 P)(X:X9c)(k:Nat) : ∀ n,Qsk P E X k n=Yy2 E X k n
 | 0=>rfl
 | n+1=>by
  have ih:=Y3e E X k n
  show(⟨fun f args h=>Option.rec (motive:=fun _=>Option (AEnd × Heap)) (Y9s P E (Qsk P E X k n) (Ylw E (Qsk P E X k n) k) k f args h) (fun r=>some r) (X f args h),fun l args h=>Y88 P E (Qsk P E X k n) k l args h⟩:CallF)=_
  rw[ih]
  simp only[Yy2,CallF.mk.injEq]
  refine⟨?_,?_⟩
  ·funext f args h
   rw[Zfr]
   cases X f args h <;> rfl
  ·funext l args h
   exact Zc1 E _ k l args h
end Go.Ab
