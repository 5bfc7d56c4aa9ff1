import Derived.Test.YtapodfgjkmddlaaGreatDoorAbD
import Derived.KernelRfl
import Derived.ChangeArms
import Derived.OpenShut
import Derived.Lib.LaidU8
import Derived.ChangeSame
import Derived.RowKit
import Derived.MakeChecks
set_option linter.all false
noncomputable section
namespace Go.Ab
def Jin(P:Program)(f:Nat):Option Func:=match P.funcs[f]? with
 | some F=>if F.name == "runtime.NumGoroutine" then none else if F.body.isSome then some F else none
 | none=>none
def Jjr{P:Program}{f:Nat}{F:Func}(h:Jin P f=some F):P.funcs[f]? = some F/\(F.name == "runtime.NumGoroutine")=false/\F.body.isSome=true:=by
 unfold Jin at h;split at h
 ·rename_i F0 h0;split at h
  ·cases h
  ·rename_i h1;split at h
   ·rename_i h2;cases h;exact⟨h0,by simpa using h1,h2⟩
   ·cases h
 ·cases h
def Zzc(P:Program):Nat->Tr Func
 | 0 => .leaf
 | n+1=>(Zzc P n).put n (Jin P n)
def Zsg(P:Program):∀ (n:Nat) (f:FuncId) (F:Func),(Zzc P n).get f=some F->Jin P f=some F
 | 0,f,F,h=>by simp[Zzc]at h
 | n+1,f,F,h=>by
  rw[Zzc,Tr.get_put]at h;split at h
  ·rename_i e;subst e;exact h
  ·exact Zsg P n f F h
def Jjt(P:Program)(f:Nat):Option ExtK:=match P.funcs[f]? with
 | some F=>Jet F
 | none=>none
def Zzh(P:Program):Nat->Tr ExtK
 | 0 => .leaf
 | n+1=>(Zzh P n).put n (Jjt P n)
def Zyw(P:Program):∀ (n:Nat) (f:FuncId) (x:ExtK),(Zzh P n).get f=some x->Jjt P f=some x
 | 0,f,x,h=>by simp[Zzh]at h
 | n+1,f,x,h=>by
  rw[Zzh,Tr.get_put]at h;split at h
  ·rename_i e;subst e;exact h
  ·exact Zyw P n f x h
def Jiq{P:Program}{f:Nat}{x:ExtK}(h:Jjt P f=some x):∃ F,P.funcs[f]? = some F/\Jet F=some x:=by
 unfold Jjt at h;split at h
 ·rename_i F hF;exact⟨F,hF,h⟩
 ·cases h
def mkE(P:Program)(n b:Nat):Env2 P :=
 {ty:=Zs4 P P.types.size,tyok:=fun t r h=>Ji3 (Zvt P _ t r h),G:=⟨n,b⟩,fn:=Zzc P P.funcs.size,fnok:=fun f F h=>Jjr (Zsg P _ f F h),ex:=Zzh P P.funcs.size,exok:=fun f x h=>Jiq (Zyw P _ f x h)}
section
variable{H:Type}(P:Program)
def Yao(g:TypeId->DataW H->Option (List Value))(tot:Nat):List Field->List (DataW H)->Nat->Option (List Value)
 | [],[],acc=>if acc == tot then some []else none
 | f::fs,d::ds,acc=>if f.offset == acc then(match g f.type d with
  | some l=>if l.length == P.cellsOf f.type then(match Yao g tot fs ds (acc+l.length)with | some r=>some (l++r) | none=>none)else none
  | none=>none)else none
 | _,_,_=>none
def Zw2(g:DataW H->Option (List Value))(sz tot:Nat):List (DataW H)->Nat->Option (List Value)
 | [],acc=>if acc == tot then some []else none
 | d::ds,acc=>match g d with
  | some l=>if l.length == sz then(match Zw2 g sz tot ds (acc+sz)with | some r=>some (l++r) | none=>none)else none
  | none=>none
def Zh6:Nat->TypeId->DataW H->Option (List Value)
 | 0,_,_=>none
 | k+1,t,d =>
  match P.underlying t,d with
  | some .bool,.lit (.bool b)=>some [.bool b]
  | some (.int k'),.lit (.int _ n)=>some [.int k' n]
  | some .string,.lit (.string l)=>some [.string ⟨l.toArray⟩]
  | some (.struct fs),.agg ds=>Yao P (Zh6 k) (P.cellsOf t) fs.toList ds 0
  | some (.array n e),.agg ds=>if ds.length == n then Zw2 (Zh6 k e) (P.cellsOf e) (P.cellsOf t) ds 0 else none
  | _,_=>none
end
section
variable{H:Type}{enc:TypeId × Value->H}{P:Program}{w:World}{base:Nat}{sp:Nat->Bool}{held:Bool}
def Zhw{g:TypeId->DataW H->Option (List Value)}{cs:List Value}{n:Nat}
  (hg:∀ t d l cs p,g t d=some l->DataW.trod enc P w base sp held n t cs=some (d,p)->cs=l) :
  ∀ (fs:List Field) (ds:List (DataW H)) (acc:Nat) (l:List Value),Yao P g cs.length fs ds acc=some l ->
  (∀ (i:Nat) (f:Field) d,fs[i]? = some f->ds[i]? = some d->∃ p,DataW.trod enc P w base sp held n f.type ((cs.drop f.offset).take (P.cellsOf f.type))=some (d,p))->cs.drop acc=l
 | [],[],acc,l,h,_=>by
  simp only[Yao]at h;split at h
  ·rename_i e;cases h;simp at e;simp[e]
  ·cases h
 | f::fs,d::ds,acc,l,h,ht=>by
  simp only[Yao]at h;split at h
  ·rename_i e0;simp only[beq_iff_eq]at e0;split at h
   ·rename_i l0 hl0;split at h
    ·rename_i e1;simp only[beq_iff_eq]at e1;split at h
     ·rename_i r hr;cases h;have ih:=Zhw hg fs ds _ r hr (fun i f' d' hf hd=>ht (i+1) f' d' (by simpa using hf) (by simpa using hd));obtain⟨p,h0⟩:=ht 0 f d (by simp) (by simp);have h1:=hg _ _ _ _ _ hl0 h0;rw[e0,<- e1]at h1;rw[<- ih,<- bR,<- bf l0.length (cs.drop acc),h1];simp
     ·cases h
    ·cases h
   ·cases h
  ·cases h
 | [],_::_,_,_,h,_=>by simp[Yao]at h
 | _::_,[],_,_,h,_=>by simp[Yao]at h
def Zro{g:DataW H->Option (List Value)}{cs:List Value}{n sz:Nat}{e:TypeId}
  (hg:∀ d l cs p,g d=some l->DataW.trod enc P w base sp held n e cs=some (d,p)->cs=l) :
  ∀ (ds:List (DataW H)) (j:Nat) (l:List Value),Zw2 g sz cs.length ds (j*sz)=some l ->
  (∀ (i:Nat) d,ds[i]? = some d->∃ p,DataW.trod enc P w base sp held n e ((cs.drop ((j+i)*sz)).take sz)=some (d,p))->cs.drop (j*sz)=l
 | [],j,l,h,_=>by
  simp only[Zw2]at h;split at h
  ·rename_i e;cases h;simp at e;simp[e]
  ·cases h
 | d::ds,j,l,h,ht=>by
  simp only[Zw2]at h;split at h
  ·rename_i l0 hl0;split at h
   ·rename_i e1;simp only[beq_iff_eq]at e1;split at h
    ·rename_i r hr;cases h;have e2:j*sz+sz=(j+1)*sz:=by rw[bF];simp
     rw[e2]at hr;have ih:=Zro hg ds (j+1) r hr (fun i d' hd=>by
      have:=ht (i+1) d' (by simpa using hd);rwa [show j+(i+1)=j+1+i from by omega]at this)
     obtain⟨p,h0⟩:=ht 0 d (by simp);have h1:=hg _ _ _ _ hl0 h0;simp only[bX]at h1;rw[<- ih,<- e2,<- bR,<- bf sz (cs.drop (j*sz)),h1];simp[e1]
    ·cases h
   ·cases h
  ·cases h
def Y29:∀ (k:Nat) (t:TypeId) (d:DataW H) (l cs:List Value) (n:Nat) (p:List MemPlace),Zh6 P k t d=some l->DataW.trod enc P w base sp held n t cs=some (d,p)->cs=l
 | 0,_,_,_,_,_,_,h,_=>by simp[Zh6]at h
 | k+1,t,d,l,cs,n,p,h,ht=>by
  simp only[Zh6]at h;split at h
  ·rename_i b hu;cases h;obtain⟨b',rfl,e⟩:=DataW.trod_bool hu ht;cases e;rfl
  ·rename_i k' k2 z hu;cases h;obtain⟨n',rfl,e,_⟩:=DataW.trod_int hu ht;cases e;rfl
  ·rename_i s hu;cases h;obtain⟨s',rfl,e,_⟩:=DataW.trod_string hu ht;cases e;simp
  ·rename_i fs ds hu;obtain⟨xs,m,rfl,e,hl,hxl,hall⟩:=dJ hu ht;simp only[bG,DataW.agg.injEq]at e;rw[<- hl]at h;have:=Zhw (n:=m) (fun t d l cs p h1 h2=>Y29 k t d l cs m p h1 h2) _ _ _ _ h (fun i f d hf hd=>by
    have h1:=hall i f (by simpa using hf);rw[e.1,List.getElem?_map]at hd;rw[h1];cases hx:xs[i]? with
    | none=>rw[hx]at hd;cases hd
    | some y=>rw[hx]at hd;cases hd;exact⟨y.2,rfl⟩)
   simpa using this
  ·rename_i n' e' ds hu;obtain⟨xs,m,rfl,e,hl,hxl,hall⟩:=DataW.trod_array hu ht;simp only[bG,DataW.agg.injEq]at e;split at h
   ·rename_i hn;rw[<- hl]at h;have:=Zro (n:=m) (fun d l cs p h1 h2=>Y29 k e' d l cs m p h1 h2) ds 0 l (by simpa using h) (fun i d hd=>by
     rw[e.1,List.getElem?_map]at hd;cases hx:xs[i]? with
     | none=>rw[hx]at hd;cases hd
     | some y =>
      rw[hx]at hd;cases hd;have hi:i < xs.length:=(List.getElem?_eq_some_iff.1 hx).1;have h1:=hall i (by omega);rw[hx]at h1;simp only[ba];exact⟨y.2,h1⟩)
    simpa using this
   ·cases h
  ·cases h
end
def Zvp:List (Nat × List Value)->Tr Blk
 | [] => .leaf
 | x::l=>(Zvp l).put x.1 (some (.cells false 0 x.2))
def Q31(n:Nat)(l:List (Nat × List Value)):Heap:=⟨n,n,Zvp l⟩
def Yri(n:Nat):Ren:=fun b=>if b < n then some ⟨b,0,0,0,none⟩else none
def X2l:∀ (l:List (Nat × List Value)) (b:Nat) (x:Blk),(Zvp l).get b=some x->∃ c,(b,c) ∈ l/\x=.cells false 0 c
 | [],b,x,h=>by simp[Zvp]at h
 | y::l,b,x,h=>by
  simp only[Zvp]at h;rw[Tr.get_put]at h;split at h
  ·rename_i e;subst e;cases h;exact⟨y.2,by simp,rfl⟩
  ·obtain⟨c,h1,h2⟩:=X2l l b x h;exact⟨c,by simp[h1],h2⟩
def Zqp{W:World}{n:Nat}{l:List (Nat × List Value)}(hn:n<=W.heap.size)(hl:∀ x ∈ l,(∀ v ∈ x.2,flat v=true/\v.oneCell'=true)/\∃ C e fr,W.heap[x.1]? = some (.cells C e fr)/\C.toList=x.2) :
  HRel ⟨n,W.heap.size⟩ (Yri n) (Q31 n l) W:=by
 have hget:∀ b x,(Q31 n l).get b=some x->b < n/\∃ c,(b,c) ∈ l/\x=.cells false 0 c:=by
  intro b x h;unfold Heap.get at h;split at h
  ·rename_i hb;exact⟨hb,X2l l b x h⟩
  ·cases h
 have hα:∀ b p,Yri n b=some p->b < n/\p=⟨b,0,0,0,none⟩:=by
  intro b p h;unfold Yri at h;split at h
  ·cases h;exact⟨by assumption,rfl⟩
  ·cases h
 have hown:∀ b,(Q31 n l).own b=false:=by
  intro b;unfold Heap.own;cases hb:(Q31 n l).get b with
  | none=>rfl
  | some x=>obtain⟨_,c,_,rfl⟩:=hget b x hb;rfl
 refine⟨fun b p h => ?_,fun b p x hb hx => ?_,fun b c p q _ _ _ ho _ => ?_,fun g hg=>⟨?_,hown g⟩,ab _,fun b x hx => ?_,fun b p x hb hx => ?_,ab _⟩
 ·obtain⟨h1,rfl⟩:=hα b p h;exact⟨h1,trivial⟩
 ·obtain⟨h1,rfl⟩:=hα b p hb;obtain⟨_,c,hc,rfl⟩:=hget b x hx;obtain⟨hf,C,e,fr,h2,h3⟩:=hl _ hc;refine⟨rfl,.inr ⟨C,e,fr.1,fr.2,h2,fun i v hv => ?_,fun h=>by cases h⟩⟩;have hv':=hf v (List.mem_of_getElem? hv);simp only at h3;refine⟨?_,flat_ok _ v hv'.1,hv'.2⟩;rw[Qgu _ hv'.1,<- hv,<- h3];simp
 ·rw[hown b]at ho;cases ho
 ·simp[Yri,show g < n from hg]
 ·obtain⟨_,c,hc,rfl⟩:=hget b x hx;intro v hv;exact⟨flat_ok _ v ((hl _ hc).1 v hv).1,((hl _ hc).1 v hv).2⟩
 ·obtain⟨h1,rfl⟩:=hα b p hb;obtain⟨_,c,_,rfl⟩:=hget b x hx;refine⟨fun h => ?_,fun _ _=>⟨au h1 hn,rfl⟩⟩;simp[Blk.own]at h
def Jer(P:Program)(laid:List (String × DataW Unit))(n:Nat)(l:List (Nat × List Value)):Prop :=
 ∀ x ∈ l,x.1 < n/\(∀ v ∈ x.2,flat v=true/\v.oneCell'=true)/\∃ name t d k,(name,d) ∈ laid/\P.globalNamed name=some x.1/\(P.globals[x.1]?).map (·.type)=some t/\Zh6 P k t d=some x.2
def Zq8{P:Program}{W:World}{laid:List (String × DataW Unit)}{n:Nat}{l:List (Nat × List Value)}(h:laidMet P laid W)(hl:Jer P laid n l)(hn:n<=W.heap.size) :
  HRel ⟨n,W.heap.size⟩ (Yri n) (Q31 n l) W:=by
 refine Zqp hn fun x hx => ?_;obtain⟨_,hf,name,t,d,k,hm,hg,ht,hd⟩:=hl x hx;refine⟨hf,?_⟩;obtain⟨g,t',cs,fuel,p,h1,h2,h3,h4⟩:=Lib.laidMet.reads h hm;obtain rfl:=bz (hg.symm.trans h1);obtain rfl:=bz (ht.symm.trans h2);have:=Y29 k _ _ _ _ _ _ hd h4;unfold World.var? at h3;rw[hg]at h3;simp only[dc]at h3;split at h3
 ·rename_i C e fr hC;cases h3;exact⟨_,e,fr,hC,this⟩
 ·cases h3
def ob{A B:Type}(x:Option A)(f:A->Option B):Option B:=Option.rec (motive:=fun _=>Option B) none f x
@[simp] def ob_some {A B:Type} (a:A) (f:A->Option B):ob (some a) f=f a:=rfl
@[simp] def ob_none {A B:Type} (f:A->Option B):ob none f=none:=rfl
def bq{A:Type}(b:Bool)(x y:A):A:=Bool.rec (motive:=fun _=>A) y x b
@[simp] def bq_true {A:Type} (x y:A):bq true x y=x:=rfl
@[simp] def bq_false {A:Type} (x y:A):bq false x y=y:=rfl
def rT(i:Nat)(_:Nat)(t:Tm):Option Value:=t.t.get i
def rC(v:Value)(_:Nat)(_:Tm):Option Value:=bq (flat v) (some v) none
def rG(g n:Nat)(_:Tm):Option Value:=bq (Nat.blt g n) (some (.pointer (some ⟨g,0,none⟩))) none
def rF(f:FuncId)(_:Nat)(_:Tm):Option Value:=some (.func (.func f) #[] #[])
def rd(x:Operand)(n:Nat)(t:Tm):Option Value:=Operand.rec (motive:=fun _=>Nat->Tm->Option Value) rT rC rG rF x n t
def Q1f(G:Bs)(t:Tm)(x:Operand):rd x G.n t=aev G t x:=by
 cases x with
 | tmp i=>rfl
 | const v=>show rC v 0 t=_;simp only[rC,aev];cases flat v <;> rfl
 | global g =>
  show rG g G.n t=_;simp only[rG,aev];by_cases h:g < G.n
  ·rw[show Nat.blt g G.n=true from by simpa using h];simp[h]
  ·rw[bJ.2 (fun hb:Nat.blt g G.n=true=>h (by simpa using hb))];simp[h]
 | func f=>rfl
def gvF(r:Option (Value × Heap)):Option Res:=ob r fun p=>Prod.rec (motive:=fun _=>Option Res) (fun v h=>some (.val v h)) p
def g0F(h:Heap)(r:Option Value):Option Res:=ob r fun v=>some (.val v h)
def gsF(r:Option Heap):Option Res:=ob r fun h=>some (.skip h)
def X7k(r:Option (Value × Heap)):gvF r=gv r:=by cases r <;> rfl
def Q1z(h:Heap)(r:Option Value):g0F h r=g0 h r:=by cases r <;> rfl
def Z6j(r:Option Heap):gsF r=gs r:=by cases r <;> rfl
abbrev OpF:=∀ P:Program,Env2 P->Tm->Heap->Option Res
def Z7r(x:Operand):OpF:=fun _ E t h=>g0F h (rd x E.G.n t)
def Jlv(c a b:Operand):OpF:=fun _ E t h=>match rd c E.G.n t with
 | some (.bool true)=>g0F h (rd a E.G.n t)
 | some (.bool false)=>g0F h (rd b E.G.n t)
 | _=>none
def Jbq(e:TypeId):OpF:=fun _ E _ h=>gvF (Qbx E.toEnv e h)
def Jto(_:TypeId)(x:Operand):OpF:=fun _ E t h=>ob (rd x E.G.n t) fun v=>gvF (Zzo v h)
def Jd8(ty:TypeId)(ps:Array (Nat × Operand)):OpF:=fun _ E t h=>ob (Qh E.G t ps.toList) fun l=>g0F h (Qn1 E.toEnv ty l)
def Ydg(ty:TypeId)(n:Nat)(ps:Array (Nat × Operand)):OpF:=fun _ E t h=>ob (Qh E.G t ps.toList) fun l=>gvF (W7 E.toEnv ty n l h)
def Ylz(ty:TypeId)(m k x:Operand):OpF:=fun _ E t h=>ob (rd m E.G.n t) fun a=>ob (rd k E.G.n t) fun b=>ob (rd x E.G.n t) fun c=>gsF (Qgc E.toEnv ty a b c h)
def Jnt(ty:TypeId)(a:Operand):OpF:=fun _ E t h=>ob (rd a E.G.n t) fun x=>g0F h (Qjm E.toEnv ty x h)
def Jcj(ty:TypeId)(a v:Operand):OpF:=fun _ E t h=>ob (rd a E.G.n t) fun x=>ob (rd v E.G.n t) fun y=>gsF (Qbw E.toEnv ty x y h)
def oN1(_:Nat):OpF:=fun _ _ _ _=>none
def Y2a(x:Operand):OpF:=fun _ E t h=>ob (rd x E.G.n t) fun v=>g0F h (Xzw v)
def Jub(op:BinOp)(ty:TypeId)(x y:Operand)(_:TypeId):OpF:=fun _ E t h=>ob (rd x E.G.n t) fun a=>ob (rd y E.G.n t) fun b=>g0F h (Y9 E.toEnv op ty (Q8 x || Q8 y) a b)
def oUn(op:UnOp)(_:TypeId)(x:Operand):OpF:=fun _ E t h=>ob (rd x E.G.n t) fun v=>g0F h (aUn op v)
def Jmh(src dst:TypeId)(x:Operand):OpF:=fun _ E t h=>ob (rd x E.G.n t) fun v=>bq (Qy5 E.toEnv src dst) (g0F h (Q3n E.toEnv src dst v)) (gvF (Xla E.toEnv src dst v h))
def Z1h(ty:TypeId)(x:Operand):OpF:=fun _ E t h=>ob (rd x E.G.n t) fun v=>g0F h (Yni E.toEnv ty v)
def Zn4(ty:TypeId)(x:Operand):OpF:=fun _ E t h=>ob (rd x E.G.n t) fun v=>g0F h (Xi2 E.toEnv ty v)
def Z1i(fn:Fn)(a b:Array Operand):OpF:=fun _ E t h=>ob (evs E.G t a.toList) fun x=>ob (evs E.G t b.toList) fun y=>g0F h (X93 fn x y)
def Zlu(ty:TypeId)(r:Option Operand):OpF:=fun _ E t h=>ob (evO E.G t r) fun hv=>gvF (Q3w E.toEnv ty hv h)
def oN2(_:TypeId)(_:Operand):OpF:=fun _ _ _ _=>none
def Yo8(ty:TypeId)(n c:Operand):OpF:=fun _ E t h=>ob (rd n E.G.n t) fun x=>ob (rd c E.G.n t) fun y=>gvF (Qpf E.toEnv ty x y h)
def Jdr(ty:TypeId)(x:Operand)(lo hi mx:Option Operand):OpF:=fun _ E t h=>ob (rd x E.G.n t) fun v=>ob (evO E.G t lo) fun a=>ob (evO E.G t hi) fun b=>ob (evO E.G t mx) fun c=>gvF (Qes E.toEnv ty v a b c h)
def Yq6(ty:TypeId)(x:Operand)(f:Nat):OpF:=fun _ E t h=>ob (rd x E.G.n t) fun v=>g0F h (Vv E.toEnv ty v f)
def Jev(ty:TypeId)(x:Operand)(f:Nat):OpF:=fun _ E t h=>ob (rd x E.G.n t) fun v=>g0F h (Z5m E.toEnv ty v f)
def Yoh(ty:TypeId)(x i:Operand):OpF:=fun _ E t h=>ob (rd x E.G.n t) fun a=>ob (rd i E.G.n t) fun b=>g0F h (V5 E.toEnv ty a b)
def Jch(ty:TypeId)(x i:Operand):OpF:=fun _ E t h=>ob (rd x E.G.n t) fun a=>ob (rd i E.G.n t) fun b=>g0F h (Zyp E.toEnv ty a b)
def Z2x(ty:TypeId)(x k:Operand)(ok:Bool):OpF:=fun _ E t h=>ob (rd x E.G.n t) fun a=>ob (rd k E.G.n t) fun b=>g0F h (Qjo E.toEnv ty a b ok h)
def Y5l(ty:TypeId)(m k:Operand):OpF:=fun _ E t h=>ob (rd m E.G.n t) fun a=>ob (rd k E.G.n t) fun b=>gvF (Qpu E.toEnv ty a b h)
def Ycu(_:TypeId)(m st x:Operand):OpF:=fun _ E t h=>ob (rd m E.G.n t) fun a=>ob (rd st E.G.n t) fun b=>ob (rd x E.G.n t) fun c=>gsF (Qir a b c h)
def Jc5(ty:TypeId)(x:Operand):OpF:=fun _ E t h=>ob (rd x E.G.n t) fun v=>gvF (Yqp E.toEnv ty v h)
def Joh(x:Operand)(s:Bool):OpF:=fun _ E t h=>ob (rd x E.G.n t) fun v=>gvF (Z7a v s h)
def Jbd(x:Operand):OpF:=fun _ E t h=>ob (rd x E.G.n t) fun v=>g0F h (Zhd v h)
def Zzx(x:Operand)(_ ty:TypeId)(ok:Bool):OpF:=fun _ E t h=>ob (rd x E.G.n t) fun v=>g0F h (Xzy E.toEnv v ty ok)
def Zo0(x:Operand)(i:Nat):OpF:=fun _ E t h=>ob (rd x E.G.n t) fun v=>g0F h (Q9 v i)
def Jke(P:Program)(E:Env2 P)(fv:Value)(args:List Value)(h:Heap):Option Res:=match Qi fv args with
 | some (f,l)=>match E.fn.get f with
  | some _=>some (.enter f l h)
  | none=>match E.ex.get f with
   | some x=>gv (Y2m x l h)
   | none=>none
 | none=>Yr0 fv args h
def Jom(c:Call):OpF:=fun P E t h=>ob (evs E.G t c.args.toList) fun args=>match c.callee with
 | .builtin b=>Q7 E b c.argTypes.toList args h
 | .value f=>ob (rd f E.G.n t) fun fv=>Jke P E fv args h
 | .invoke _ _=>none
def oN7(_:Call):OpF:=fun _ _ _ _=>none
def Jdj(x:Operand):OpF:=fun _ E t h=>match rd x E.G.n t with
 | some (.iface u v)=>some (.panic (.iface u v) h)
 | _=>none
def oN8(_ _:Operand):OpF:=fun _ _ _ _=>none
def oN9(_:TypeId)(_:Operand)(_:Bool):OpF:=fun _ _ _ _=>none
def Jvh(_:Array SelectCase)(_:Bool):OpF:=fun _ _ _ _=>none
def Juv(P:Program)(E:Env2 P)(o:Op)(t:Tm)(h:Heap):Option Res :=
 Op.rec (motive:=fun _=>OpF) Z7r Z7r Jlv Jbq Jto Jd8 Ydg Ylz Jnt Jcj oN1 oN1 Y2a Jub oUn Jmh Z1h Zn4 Z1i Zlu oN2 Yo8 Jdr Yq6 Jev Yoh Jch Z2x
  Ylz Y5l Ycu Jc5 Joh Jbd Zzx Zo0 Jom oN7 oN7 Jdj oN8 oN9 Jvh o P E t h
def Jo6{P:Program}(E:Env2 P)(t:Tm)(h:Heap)(o:Oper):Juv P E o.op t h=aop E t h o:=by
 obtain⟨d,op,ty,pos,af,g⟩:=o;have two:∀ {A:Type} (x y:Option Value) (f:Value->Value->Option A),(match x,y with | some a,some b=>f a b | _,_=>none)=ob x fun a=>ob y fun b=>f a b:=by
  intro A x y f;cases x <;> cases y <;> rfl
 cases op with
 | move x=>show Z7r x P E t h=_;simp only[Z7r,aop,Q1f,Q1z]
 | assign x=>show Z7r x P E t h=_;simp only[Z7r,aop,Q1f,Q1z]
 | pick c a b =>
  show Jlv c a b P E t h=_;simp only[Jlv,aop,Q1f,Q1z];rcases aev E.G t c with _ | v
  ·rfl
  ·cases v <;> first | rfl | (rename_i b;cases b <;> rfl)
 | alloc e=>show Jbq e P E t h=_;simp only[Jbq,aop,X7k]
 | box e x=>show Jto e x P E t h=_;simp only[Jto,aop,Q1f,X7k];cases aev E.G t x <;> rfl
 | build ty ps=>show Jd8 ty ps P E t h=_;simp only[Jd8,aop,Q1z];cases Qh E.G t ps.toList <;> rfl
 | buildSlice ty n ps=>show Ydg ty n ps P E t h=_;simp only[Ydg,aop,X7k];cases Qh E.G t ps.toList <;> rfl
 | insert ty m k x=>show Ylz ty m k x P E t h=_;simp only[Ylz,aop,Q1f,Z6j];cases aev E.G t m <;> cases aev E.G t k <;> cases aev E.G t x <;> rfl
 | load ty a=>show Jnt ty a P E t h=_;simp only[Jnt,aop,Q1f,Q1z];cases aev E.G t a <;> rfl
 | store ty a v=>show Jcj ty a v P E t h=_;simp only[Jcj,aop,Q1f,Z6j];cases aev E.G t a <;> cases aev E.G t v <;> rfl
 | ready g=>rfl
 | waits g=>rfl
 | nilCheck x=>show Y2a x P E t h=_;simp only[Y2a,aop,Q1f,Q1z];cases aev E.G t x <;> rfl
 | binOp op ty x y yt=>show Jub op ty x y yt P E t h=_;simp only[Jub,aop,Q1f,Q1z];cases aev E.G t x <;> cases aev E.G t y <;> rfl
 | unOp op ty x=>show oUn op ty x P E t h=_;simp only[oUn,aop,Q1f,Q1z];cases aev E.G t x <;> rfl
 | convert s d x =>
  show Jmh s d x P E t h=_;simp only[Jmh,aop,Q1f,Q1z,X7k];cases aev E.G t x
  ·rfl
  ·cases Qy5 E.toEnv s d <;> rfl
 | sliceToArrayPointer ty x=>show Z1h ty x P E t h=_;simp only[Z1h,aop,Q1f,Q1z];cases aev E.G t x <;> rfl
 | makeInterface ty x=>show Zn4 ty x P E t h=_;simp only[Zn4,aop,Q1f,Q1z];cases aev E.G t x <;> rfl
 | makeFunc fn a b=>show Z1i fn a b P E t h=_;simp only[Z1i,aop,Q1z];cases evs E.G t a.toList <;> cases evs E.G t b.toList <;> rfl
 | makeMap ty r=>show Zlu ty r P E t h=_;simp only[Zlu,aop,X7k];cases evO E.G t r <;> rfl
 | makeChan ty x=>rfl
 | makeSlice ty n c=>show Yo8 ty n c P E t h=_;simp only[Yo8,aop,Q1f,X7k];cases aev E.G t n <;> cases aev E.G t c <;> rfl
 | slice ty x lo hi mx=>show Jdr ty x lo hi mx P E t h=_;simp only[Jdr,aop,Q1f,X7k];cases aev E.G t x <;> cases evO E.G t lo <;> cases evO E.G t hi <;> cases evO E.G t mx <;> rfl
 | fieldAddr ty x f=>show Yq6 ty x f P E t h=_;simp only[Yq6,aop,Q1f,Q1z];cases aev E.G t x <;> rfl
 | field ty x f=>show Jev ty x f P E t h=_;simp only[Jev,aop,Q1f,Q1z];cases aev E.G t x <;> rfl
 | indexAddr ty x i=>show Yoh ty x i P E t h=_;simp only[Yoh,aop,Q1f,Q1z];cases aev E.G t x <;> cases aev E.G t i <;> rfl
 | index ty x i=>show Jch ty x i P E t h=_;simp only[Jch,aop,Q1f,Q1z];cases aev E.G t x <;> cases aev E.G t i <;> rfl
 | lookup ty x k ok=>show Z2x ty x k ok P E t h=_;simp only[Z2x,aop,Q1f,Q1z];cases aev E.G t x <;> cases aev E.G t k <;> rfl
 | mapUpdate ty m k x=>show Ylz ty m k x P E t h=_;simp only[Ylz,aop,Q1f,Z6j];cases aev E.G t m <;> cases aev E.G t k <;> cases aev E.G t x <;> rfl
 | mapEntry ty m k=>show Y5l ty m k P E t h=_;simp only[Y5l,aop,Q1f,X7k];cases aev E.G t m <;> cases aev E.G t k <;> rfl
 | entryStore ty m st x=>show Ycu ty m st x P E t h=_;simp only[Ycu,aop,Q1f,Z6j];cases aev E.G t m <;> cases aev E.G t st <;> cases aev E.G t x <;> rfl
 | range ty x=>show Jc5 ty x P E t h=_;simp only[Jc5,aop,Q1f,X7k];cases aev E.G t x <;> rfl
 | next x s=>show Joh x s P E t h=_;simp only[Joh,aop,Q1f,X7k];cases aev E.G t x <;> rfl
 | entry x=>show Jbd x P E t h=_;simp only[Jbd,aop,Q1f,Q1z];cases aev E.G t x <;> rfl
 | typeAssert x xt ty ok=>show Zzx x xt ty ok P E t h=_;simp only[Zzx,aop,Q1f,Q1z];cases aev E.G t x <;> rfl
 | extract x i=>show Zo0 x i P E t h=_;simp only[Zo0,aop,Q1f,Q1z];cases aev E.G t x <;> rfl
 | call c =>
  show Jom c P E t h=_;simp only[Jom,aop,Q1f];cases evs E.G t c.args.toList with
  | none=>rfl
  | some args =>
   simp only[ob_some];cases c.callee with
   | builtin b=>rfl
   | value f =>
    simp only;cases aev E.G t f with
    | none=>rfl
    | some fv =>
     simp only[ob_some,Jke];cases Qi fv args with
     | none=>rfl
     | some p=>rfl
   | invoke _ _=>rfl
 | go c=>rfl
 | defer c=>rfl
 | panic x =>
  show Jdj x P E t h=_;simp only[Jdj,aop,Q1f];rcases aev E.G t x with _ | v
  ·rfl
  ·cases v <;> rfl
 | send _ _=>rfl
 | recv _ _ _=>rfl
 | select _ _=>rfl
def Jtr(n:Nat)(d:Option Tmp):Bool:=Option.rec (motive:=fun _=>Bool) true (fun i=>Nat.blt i n) d
def Jbi(s:St)(d:Option Tmp):Jtr s.t.size d=Qoy s d:=by cases d <;> rfl
def Jqw(s:St)(d:Option Tmp)(v:Value)(h:Heap):St:=Option.rec (motive:=fun _=>St) {s with h:=h} (fun i=>{t:=s.t.put i v,ds:=s.ds,h:=h}) d
def Yz2(s:St)(d:Option Tmp)(v:Value)(h:Heap):Jqw s d v h=s.put d v h:=by cases d <;> rfl
abbrev XS:=Option (Exit × St)
abbrev Jn8:=CallF->Option Tmp->St->XS
def Joo(o:Option Tmp)(s:St)(r:Option (AEnd × Heap)):XS:=ob r fun p=>Prod.rec (motive:=fun _=>XS) (fun e h=>AEnd.rec (motive:=fun _=>XS) (fun v=>some (.normal,Jqw s o v h)) (fun ch=>some (.panic ch,{s with h:=h})) e) p
def Jva(v:Value)(h:Heap):Jn8:=fun _ o s=>some (.normal,Jqw s o v h)
def Jtu(h:Heap):Jn8:=fun _ o s=>some (.normal,Jqw s o Qt h)
def Jpr(f:FuncId)(args:List Value)(h:Heap):Jn8:=fun C o s=>Joo o s (C.fn f args h)
def Jqt(l:Nat)(args:List Value)(h:Heap):Jn8:=fun C o s=>Joo o s (C.rnd l args h)
def Jr0(_:Deferred)(_:Heap):Jn8:=fun _ _ _=>none
def Jqs(v:Value)(h:Heap):Jn8:=fun _ _ s=>some (.panic [{v,recovered:=false}],{s with h:=h})
def Jvt(r:Res)(C:CallF)(o:Option Tmp)(s:St):XS:=Res.rec (motive:=fun _=>Jn8) Jva Jtu Jpr Jqt Jr0 Jqs r C o s
def Jnv(P:Program)(E:Env2 P)(rd:Option Nat)(o:Oper)(s:St):XS:=match o.op with
 | .defer c=>match rd with
  | none=>match Y3z E s.t c with
   | some d=>some (.normal,({s with ds:=d::s.ds}:St).put o.dst Qt s.h)
   | none=>none
  | some _=>none
 | _=>none
def Q7r(P:Program)(E:Env2 P)(C:CallF)(rd:Option Nat)(o:Oper)(s:St):XS :=
 bq (Jtr s.t.size o.dst) (Option.rec (motive:=fun _=>XS) (Jnv P E rd o s) (fun r=>Jvt r C o.dst s) (Juv P E o.op s.t s.h)) none
def Jj4{P:Program}(E:Env2 P)(C:CallF)(rd:Option Nat)(o:Oper)(s:St):Q7r P E C rd o s=Yjr E C rd o s:=by
 unfold Q7r Yjr;rw[Jbi];cases hd:Qoy s o.dst with
 | false=>rfl
 | true =>
  simp only[bV,av,if_false,bq_true];rw[Jo6];have hdef:∀ c,o.op=.defer c->aop E s.t s.h o=none:=by
   intro c hc;simp[aop,hc]
  split
  ·rename_i c hc;rw[hdef c hc];simp only[Jnv,hc];cases rd with
   | none=>cases Y3z E s.t c <;> rfl
   | some _=>rfl
  ·rename_i hne;cases ha:aop E s.t s.h o with
   | none =>
    simp only[Jnv]
    all_goals (split <;> first | rfl | (rename_i c hc;exact absurd hc (hne c)))
   | some r =>
    simp only;cases r with
    | val v h=>show some _=_;rw[Yz2]
    | skip h=>show some _=_;rw[Yz2]
    | enter f args h =>
     show Joo o.dst s (C.fn f args h)=_;simp only[Joo];rcases C.fn f args h with _ | ⟨_ | _,h'⟩
     ·rfl
     ·simp only[ob_some,Yz2]
     ·rfl
    | round f args h =>
     show Joo o.dst s (C.rnd f args h)=_;simp only[Joo];rcases C.rnd f args h with _ | ⟨_ | _,h'⟩
     ·rfl
     ·simp only[ob_some,Yz2]
     ·rfl
    | defer d h=>rfl
    | panic v h=>rfl
def Jm6(ops:List Oper)(t:Tm)(o:Oper):Option Bool:=Option.rec (motive:=fun _=>Option Bool) (some true) (fun _=>Qg ops t o) o.guard
def Jhu(ops:List Oper)(t:Tm)(o:Oper):Jm6 ops t o=Qg ops t o:=by
 unfold Jm6;cases hg:o.guard with
 | none=>simp[Qg,hg]
 | some p=>rfl
abbrev Jsk:=∀ P:Program,Env2 P->CallF->Option Nat->List Oper->St->XS
def goK(f:St->XS)(p:Exit × St):XS:=Prod.rec (motive:=fun _=>XS) (fun e s=>Exit.rec (motive:=fun _=>XS) (f s) (fun _=>none) (fun _=>none) none (fun ch=>some (.panic ch,s)) none e) p
def Jvg:Jsk:=fun _ _ _ _ _ s=>some (.normal,s)
def Jnd(o:Oper)(_:List Oper)(f:Jsk):Jsk:=fun P E C rd ops s =>
 ob (Jm6 ops s.t o) fun b=>bq b (ob (Q7r P E C rd o s) (goK (f P E C rd ops))) (bq (Jtr s.t.size o.dst) (f P E C rd ops (Jqw s o.dst Qt s.h)) none)
def Jpe(P:Program)(E:Env2 P)(C:CallF)(rd:Option Nat)(ops l:List Oper)(s:St):XS:=List.rec (motive:=fun _=>Jsk) Jvg Jnd l P E C rd ops s
def Jg2{P:Program}(E:Env2 P)(C:CallF)(rd:Option Nat)(ops:List Oper):∀ (l:List Oper) (s:St),Jpe P E C rd ops l s=Yxv E C rd ops l s
 | [],s=>rfl
 | o::r,s=>by
  have ih:=Jg2 E C rd ops r;show Jnd o r (fun P E C rd ops s=>Jpe P E C rd ops r s) P E C rd ops s=_;simp only[Jnd,Yxv,Jhu,Jj4,Jbi,Yz2,ih];cases Qg ops s.t o with
  | none=>rfl
  | some b =>
   simp only[ob_some];cases b with
   | true =>
    simp only[bq_true];rcases Yjr E C rd o s with _ | ⟨e,s'⟩
    ·rfl
    ·cases e <;> first | rfl | (show Jpe P E C rd ops r s'=_;exact ih s')
   | false =>
    simp only[bq_false];cases Qoy s o.dst <;> rfl
abbrev Xln:=∀ P:Program,Env2 P->CallF->Option Nat->Nat->St->XS
def Y8q(f:St->XS)(p:Exit × St):XS:=Prod.rec (motive:=fun _=>XS) (fun e s=>Exit.rec (motive:=fun _=>XS) (f s) (fun i=>some (.exit i,s)) (fun i=>some (.goto i,s)) (some (.ret,s)) (fun ch=>some (.panic ch,s)) (some (.outgrown,s)) e) p
def Xj4(f:St->XS)(s:St):Y8q f (.normal,s)=f s:=rfl
def Jpd:Xln:=fun _ _ _ _ _ s=>some (.normal,s)
def Jl7(_:Nat)(ops:Array Oper)(draw:Bool):Xln:=fun P E C rd _ s=>bq draw (ob (Ybv E C ops.toList s) fun s'=>some (.normal,s')) (Jpe P E C rd ops.toList ops.toList s)
def Jvy(_ _:Code)(fx fy:Xln):Xln:=fun P E C rd k s=>ob (fx P E C rd k s) (Y8q (fy P E C rd k))
def Jtf(c:Operand)(_ _:Code)(fx fy:Xln):Xln:=fun P E C r k s=>ob (rd c E.G.n s.t) fun v=>Value.rec (motive_1:=fun _=>XS) (motive_2:=fun _=>Unit) (motive_3:=fun _=>Unit)
 (fun b=>bq b (fx P E C r k s) (fy P E C r k s)) (fun _ _=>none) (fun _ _=>none) (fun _ _ _=>none) (fun _=>none) (fun _=>none) (fun _ _ _=>none) (fun _=>none) (fun _=>none) (fun _ _ _ _ _=>none) none (fun _ _ _=>none) none (fun _ _=>none) (fun _ _=>none)
 (fun _ _=>()) () (fun _ _ _ _=>()) v
def Jr1(id:Nat)(_:Code)(f:Xln):Xln:=fun P E C rd k s=>ob (f P E C rd k s) fun p=>Prod.rec (motive:=fun _=>XS) (fun e s=>Exit.rec (motive:=fun _=>XS) (some (.normal,s)) (fun i=>bq (Nat.beq i id) (some (.normal,s)) (some (.exit i,s))) (fun i=>some (.goto i,s)) (some (.ret,s)) (fun ch=>some (.panic ch,s)) (some (.outgrown,s)) e) p
def Jjo(body:St->XS)(k:Nat):St->XS:=Nat.rec (motive:=fun _=>St->XS) (fun _=>none) (fun _ f s=>ob (body s) (Y8q f)) k
def Jt2(_:Code)(f:Xln):Xln:=fun P E C rd k s=>Jjo (f P E C rd k) k s
def Jty(g:Operand)(ps:Array Tmp)(asg bd:Code)(_ _:Xln):Xln:=fun _ E C rd _ s=>Z93 E C rd g ps asg bd s
def Jsv(id:Nat):Xln:=fun _ _ _ _ _ s=>some (.exit id,s)
def Jrj(_:Code)(_:Xln):Xln:=fun _ _ _ _ _ _=>none
def Jrg(_:Nat):Xln:=Jpd
def Juj(_:Nat):Xln:=fun _ _ _ _ _ _=>none
def Jvs:Xln:=fun _ _ _ _ _ s=>some (.ret,s)
def Jmg(_:String):Xln:=fun _ _ _ _ _ _=>none
def Xdb(P:Program)(E:Env2 P)(C:CallF)(rd:Option Nat)(k:Nat)(c:Code)(s:St):XS :=
 Code.rec (motive:=fun _=>Xln) Jpd Jl7 Jvy Jtf Jr1 Jt2 Jty Jsv Jrj Jrg Juj Jvs Jmg c P E C rd k s
def Z6c{f g:St->XS}(h:∀ s,f s=g s):∀ (k:Nat) (s:St),Jjo f k s=X0n g k s
 | 0,s=>rfl
 | k+1,s=>by
  show ob (f s) (Y8q (Jjo f k))=_;rw[h s];simp only[X0n];rcases g s with _ | ⟨e,s'⟩
  ·rfl
  ·simp only[ob_some];cases e <;> first | rfl | (rw[Xj4];exact Z6c h k s')
def Xhz{P:Program}(E:Env2 P)(C:CallF)(rd:Option Nat)(k:Nat):∀ (c:Code) (s:St),Xdb P E C rd k c s=Q4d E C rd k c s
 | .skip,s=>rfl
 | .region id ops true,s=>by
  show ob (Ybv E C ops.toList s) _=_;simp only[Q4d];cases Ybv E C ops.toList s <;> rfl
 | .region id ops false,s=>by
  show Jpe P E C rd ops.toList ops.toList s=_;simp only[Q4d,Jg2]
 | .seq x y,s=>by
  show ob (Xdb P E C rd k x s) (Y8q (Xdb P E C rd k y))=_;rw[Xhz E C rd k x s];simp only[Q4d];rcases Q4d E C rd k x s with _ | ⟨e,s'⟩
  ·rfl
  ·simp only[ob_some];cases e <;> first | rfl | (rw[Xj4];exact Xhz E C rd k y s')
 | .cond c x y,s=>by
  show ob (Go.Ab.rd c E.G.n s.t) _=_;rw[Q1f];simp only[Q4d];rcases aev E.G s.t c with _ | v
  ·rfl
  ·cases v <;> first | rfl | skip
   rename_i b;cases b with
   | true=>exact Xhz E C rd k x s
   | false=>exact Xhz E C rd k y s
 | .block id c,s=>by
  show ob (Xdb P E C rd k c s) _=_;rw[Xhz E C rd k c s];simp only[Q4d];rcases Q4d E C rd k c s with _ | ⟨e,s'⟩
  ·rfl
  ·simp only[ob_some];cases e <;> first | rfl | skip
   rename_i i;simp only;cases Nat.beq i id <;> rfl
 | .loop c,s=>by
  show Jjo (Xdb P E C rd k c) k s=_;simp only[Q4d];exact Z6c (Xhz E C rd k c) k s
 | .rangeFunc g ps asg bd,s=>rfl
 | .exit id,s=>rfl
 | .scope c,s=>rfl
 | .label l,s=>rfl
 | .goto l,s=>rfl
 | .ret,s=>rfl
 | .refuse w,s=>rfl
def Z7x (P : Program) (E : Env2 P) (C : CallF) (D : Qwn) (k : Nat) (f : FuncId) (args : List Value) (h : Heap) : Option (AEnd × Heap) :=
  ob (E.fn.get f) fun fn => ob fn.body fun c => bq (Nat.ble args.length fn.ntmps) (match Xdb P E C none k c ⟨Xm fn args, [], h⟩ with
      | some (.normal, s) | some (.ret, s) => X2 E D fn s.t s.ds .returning s.h
      | some (.panic ch, s) => X2 E D fn s.t s.ds (.panicking ch) s.h
      | _ => none) none
def Jid{P:Program}(E:Env2 P)(C:CallF)(D:Qwn)(k:Nat)(f:FuncId)(args:List Value)(h:Heap):Z7x P E C D k f args h=Z2n E C D k f args h:=by
 unfold Z7x Z2n;cases E.fn.get f with
 | none=>rfl
 | some fn =>
  simp only[ob_some];cases fn.body with
  | none=>rfl
  | some c =>
   simp only[ob_some];cases Nat.ble args.length fn.ntmps with
   | false=>rfl
   | true =>
    simp only[bq_true,Xhz];rcases Q4d E C none k c ⟨Xm fn args,[],h⟩with _ | ⟨e,s⟩
    ·rfl
    ·cases e <;> rfl
def Z6d(P:Program)(E:Env2 P)(C:CallF)(k:Nat)(l:Nat)(args:List Value)(h:Heap):Option (AEnd × Heap) :=
 match h.get l with
 | some (.obj (.loop .ready _ t ps asg bd _))=>match Z70 t.size ps.toList args with
  | false=>none
  | true=>match Xdb P E C (some l) k asg ⟨Yms t ps.toList args,[],h⟩with
   | some (.normal,s1)=>match s1.h.get l with
    | some (.obj (.loop .ready p1 t1 ps1 as1 bd1 d1))=>match Xdb P E C (some l) k bd {s1 with h:=s1.h.set l (some (.obj (.loop .busy p1 t1 ps1 as1 bd1 d1)))} with
     | some (e,s2)=>match Zi6 e,s2.h.get l with
      | some j,some (.obj (.loop _ _ t2 ps2 as2 bd2 d2))=>some (.ret (.bool j.isNone),s2.h.set l (some (.obj (.loop (if j.isNone then .ready else .done) j t2 ps2 as2 bd2 d2))))
      | _,_=>none
     | none=>none
    | _=>none
   | _=>none
 | _=>none
def Jaw{P:Program}(E:Env2 P)(C:CallF)(k:Nat)(l:Nat)(args:List Value)(h:Heap):Z6d P E C k l args h=Y1p E C k l args h:=by
 unfold Z6d Y1p;simp only[Xhz];rfl
def Qrw(P:Program)(E:Env2 P)(X:Xhm)(k:Nat)(n:Nat):CallF :=
 Nat.rec (motive:=fun _=>CallF) ⟨X,fun _ _ _=>none⟩ (fun _ C=>⟨fun f args h=>Option.rec (motive:=fun _=>Option (AEnd × Heap)) (Z7x P E C (Xue E C k) k f args h) (fun r=>some r) (X f args h),fun l args h=>Z6d P E C k l args h⟩) n
def Zvi{P:Program}(E:Env2 P)(X:Xhm)(k:Nat):∀ n,Qrw P E X k n=Y9t E X k n
 | 0=>rfl
 | n+1=>by
  have ih:=Zvi E X k n;show(⟨fun f args h=>Option.rec (motive:=fun _=>Option (AEnd × Heap)) (Z7x P E (Qrw P E X k n) (Xue E (Qrw P E X k n) k) k f args h) (fun r=>some r) (X f args h),fun l args h=>Z6d P E (Qrw P E X k n) k l args h⟩:CallF)=_;rw[ih];simp only[Y9t,CallF.mk.injEq];refine⟨?_,?_⟩
  ·funext f args h;rw[Jid];cases X f args h <;> rfl
  ·funext l args h;exact Jaw E _ k l args h
end Go.Ab
