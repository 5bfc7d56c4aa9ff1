import Derived.Test.YtapodfgjkmddlaaGreatDoorAbB
import Derived.RangeFuncRecord
set_option linter.all false
noncomputable section
namespace Go.Ab
structure Env2 (P:Program) extends Env P where
 fn:Tr Func
 fnok:∀ f F,fn.get f=some F->P.funcs[f]? = some F/\(F.name == "runtime.NumGoroutine")=false/\F.body.isSome=true
 ex:Tr ExtK
 exok:∀ f x,ex.get f=some x->∃ F,P.funcs[f]? = some F/\Jet F=some x
inductive Res where
 | val (v:Value) (h:Heap)
 | skip (h:Heap)
 | enter (f:FuncId) (args:List Value) (h:Heap)
 | round (l:Nat) (args:List Value) (h:Heap)
 | defer (d:Deferred) (h:Heap)
 | panic (v:Value) (h:Heap)
def evs(G:Bs)(t:Tm):List Operand->Option (List Value)
 | []=>some []
 | x::l=>match aev G t x,evs G t l with
  | some v,some vs=>some (v::vs)
  | _,_=>none
def Qh(G:Bs)(t:Tm):List (Nat × Operand)->Option (List (Nat × Value))
 | []=>some []
 | (i,x)::l=>match aev G t x,Qh G t l with
  | some v,some vs=>some ((i,v)::vs)
  | _,_=>none
def evO(G:Bs)(t:Tm):Option Operand->Option (Option Value)
 | none=>some none
 | some x=>(aev G t x).map some
def gv(r:Option (Value × Heap)):Option Res:=match r with | some (v,h)=>some (.val v h) | none=>none
def g0(h:Heap)(r:Option Value):Option Res:=match r with | some v=>some (.val v h) | none=>none
def gs(r:Option Heap):Option Res:=match r with | some h=>some (.skip h) | none=>none
def Qi(f:Value)(args:List Value):Option (FuncId × List Value) :=
 match f with
 | .func (.func f) first captured=>some (f,first.toList++args++captured.toList)
 | _=>none
def Yms:Tm->List Tmp->List Value->Tm
 | t,p::ps,v::vs=>Yms (t.put p v) ps vs
 | t,_,_=>t
def Z70(n:Nat):List Tmp->List Value->Bool
 | [],[]=>true
 | p::ps,_::vs=>Nat.blt p n && Z70 n ps vs
 | _,_=>false
def Yr0(f:Value)(args:List Value)(h:Heap):Option Res :=
 match f with
 | .func (.yield l) ⟨[]⟩ _=>match h.get l with
  | some (.obj (.loop _ _ t ps _ _ _))=>if Z70 t.size ps.toList args then some (.round l args h)else none
  | _=>none
 | _=>none
def Q7{P:Program}(E:Env2 P)(b:Builtin)(ts:List TypeId)(args:List Value)(h:Heap):Option Res :=
 match b,ts,args with
 | .len,[t],[x]=>g0 h (Qkc E.toEnv t x h)
 | .cap,[t],[x]=>g0 h (Jsc E.toEnv t x)
 | .append,[t,tx],[s,x]=>gv (Qjr E.toEnv t tx s x h)
 | .copy,[t,_],[d,s]=>gv (Ybj E.toEnv t d s h)
 | .max,_,l=>g0 h (Yox true l)
 | .min,_,l=>g0 h (Yox false l)
 | .panic,_,[.iface t v]=>some (.panic (.iface t v) h)
 | .delete,t::_,[m,k]=>gv (Ydq E.toEnv t m k h)
 | .clear,t::_,[x]=>gv (Yf0 E.toEnv t x h)
 | _,_,_=>none
def aop{P:Program}(E:Env2 P)(t:Tm)(h:Heap)(o:Oper):Option Res :=
 match o.op with
 | .move x | .assign x=>g0 h (aev E.G t x)
 | .pick c a b=>match aev E.G t c with
  | some (.bool true)=>g0 h (aev E.G t a)
  | some (.bool false)=>g0 h (aev E.G t b)
  | _=>none
 | .alloc e=>gv (Qbx E.toEnv e h)
 | .box _ x=>match aev E.G t x with
  | some v=>gv (Zzo v h)
  | none=>none
 | .build ty ps=>match Qh E.G t ps.toList with
  | some l=>g0 h (Qn1 E.toEnv ty l)
  | none=>none
 | .buildSlice ty n ps=>match Qh E.G t ps.toList with
  | some l=>gv (W7 E.toEnv ty n l h)
  | none=>none
 | .load ty a=>match aev E.G t a with
  | some x=>g0 h (Qjm E.toEnv ty x h)
  | none=>none
 | .store ty a v=>match aev E.G t a,aev E.G t v with
  | some x,some y=>gs (Qbw E.toEnv ty x y h)
  | _,_=>none
 | .nilCheck x=>match aev E.G t x with
  | some v=>g0 h (Xzw v)
  | none=>none
 | .binOp op ty x y _=>match aev E.G t x,aev E.G t y with
  | some a,some b=>g0 h (Y9 E.toEnv op ty (Q8 x || Q8 y) a b)
  | _,_=>none
 | .unOp op _ x=>match aev E.G t x with
  | some v=>g0 h (aUn op v)
  | none=>none
 | .convert src dst x=>match aev E.G t x with
  | some v=>match Qy5 E.toEnv src dst with
   | true=>g0 h (Q3n E.toEnv src dst v)
   | false=>gv (Xla E.toEnv src dst v h)
  | none=>none
 | .sliceToArrayPointer ty x=>match aev E.G t x with
  | some v=>g0 h (Yni E.toEnv ty v)
  | none=>none
 | .makeInterface ty x=>match aev E.G t x with
  | some v=>g0 h (Xi2 E.toEnv ty v)
  | none=>none
 | .makeFunc fn a b=>match evs E.G t a.toList,evs E.G t b.toList with
  | some x,some y=>g0 h (X93 fn x y)
  | _,_=>none
 | .makeSlice ty n c=>match aev E.G t n,aev E.G t c with
  | some x,some y=>gv (Qpf E.toEnv ty x y h)
  | _,_=>none
 | .slice ty x lo hi mx=>match aev E.G t x,evO E.G t lo,evO E.G t hi,evO E.G t mx with
  | some v,some a,some b,some c=>gv (Qes E.toEnv ty v a b c h)
  | _,_,_,_=>none
 | .fieldAddr ty x f=>match aev E.G t x with
  | some v=>g0 h (Vv E.toEnv ty v f)
  | none=>none
 | .field ty x f=>match aev E.G t x with
  | some v=>g0 h (Z5m E.toEnv ty v f)
  | none=>none
 | .indexAddr ty x i=>match aev E.G t x,aev E.G t i with
  | some a,some b=>g0 h (V5 E.toEnv ty a b)
  | _,_=>none
 | .index ty x i=>match aev E.G t x,aev E.G t i with
  | some a,some b=>g0 h (Zyp E.toEnv ty a b)
  | _,_=>none
 | .typeAssert x _ ty ok=>match aev E.G t x with
  | some v=>g0 h (Xzy E.toEnv v ty ok)
  | none=>none
 | .extract x i=>match aev E.G t x with
  | some v=>g0 h (Q9 v i)
  | none=>none
 | .panic x=>match aev E.G t x with
  | some (.iface u v)=>some (.panic (.iface u v) h)
  | _=>none
 | .makeMap ty r=>match evO E.G t r with
  | some hv=>gv (Q3w E.toEnv ty hv h)
  | none=>none
 | .lookup ty x k ok=>match aev E.G t x,aev E.G t k with
  | some a,some b=>g0 h (Qjo E.toEnv ty a b ok h)
  | _,_=>none
 | .mapUpdate ty m k x=>match aev E.G t m,aev E.G t k,aev E.G t x with
  | some a,some b,some c=>gs (Qgc E.toEnv ty a b c h)
  | _,_,_=>none
 | .insert ty m k x=>match aev E.G t m,aev E.G t k,aev E.G t x with
  | some a,some b,some c=>gs (Qgc E.toEnv ty a b c h)
  | _,_,_=>none
 | .mapEntry ty m k=>match aev E.G t m,aev E.G t k with
  | some a,some b=>gv (Qpu E.toEnv ty a b h)
  | _,_=>none
 | .entryStore _ m st x=>match aev E.G t m,aev E.G t st,aev E.G t x with
  | some a,some b,some c=>gs (Qir a b c h)
  | _,_,_=>none
 | .range ty x=>match aev E.G t x with
  | some v=>gv (Yqp E.toEnv ty v h)
  | none=>none
 | .next x s=>match aev E.G t x with
  | some v=>gv (Z7a v s h)
  | none=>none
 | .entry x=>match aev E.G t x with
  | some v=>g0 h (Zhd v h)
  | none=>none
 | .call c=>match evs E.G t c.args.toList with
  | none=>none
  | some args=>match c.callee with
   | .builtin b=>Q7 E b c.argTypes.toList args h
   | .value f=>match aev E.G t f with
    | some fv=>match Qi fv args with
     | some (f,l)=>match E.fn.get f with
      | some _=>some (.enter f l h)
      | none=>match E.ex.get f with
       | some x=>gv (Y2m x l h)
       | none=>none
     | none=>Yr0 fv args h
    | none=>none
   | .invoke _ _=>none
 | _=>none
def Jsg(P:Program)(G:Bs)(Z:Ren)(h:Heap)(w:World)(s:Sem Next):Res->Prop
 | .val v h' => ∃ Z' w',s.run P w=.ok (.value (ren Z' v)) w'/\okV (dom Z') v/\Ext h.next Z Z'/\HRel G Z' h' w'/\Turn Z h w Z' h' w'
 | .skip h' => ∃ w',s.run P w=.ok .skip w'/\HRel G Z h' w'/\Turn Z h w Z h' w'
 | .enter f args h'=>h'=h/\s.run P w=.ok (.enter f (args.map (ren Z)).toArray) w/\∀ v ∈ args,okV (dom Z) v
 | .round l args h'=>h'=h/\dom Z l/\(∀ v ∈ args,okV (dom Z) v)/\∃ st pend t ps as bd d,h.get l=some (.obj (.loop st pend t ps as bd d))/\∃ fn tmps,TRel Z (Yms t ps.toList args) tmps/\s.run P w=.ok (.round (W8 Z l) fn tmps as bd) w
 | .defer d h'=>h'=h/\s.run P w=.ok (.defer (Qxs Z d)) w/\Yes (dom Z) d
 | .panic v h'=>h'=h/\s.run P w=.halt (.panic (ren Z v)) w/\okV (dom Z) v
section
variable{P:Program}{Z:Ren}{h:Heap}{w:World}
def Zr0{G:Bs}(H:HRel G Z h w){t:Tm}{a:Act}(ht:TRel Z t a.tmps):∀ {l:List Operand} {vs:List Value},evs G t l=some vs->l.map a.eval=vs.map (ren Z)/\∀ v ∈ vs,okV (dom Z) v
 | [],vs,hv=>by simp[evs]at hv;subst hv;simp
 | x::l,vs,hv=>by
  simp only[evs]at hv;split at hv
  ·rename_i v r h1 h2;cases hv;have a1:=Xvk H ht h1;have a2:=Zr0 H ht h2;exact⟨by simp[a1.2,a2.1],by simpa using⟨a1.1,a2.2⟩⟩
  ·cases hv
def Yqk{G:Bs}(H:HRel G Z h w){t:Tm}{a:Act}(ht:TRel Z t a.tmps):∀ {l:List (Nat × Operand)} {vs:List (Nat × Value)},Qh G t l=some vs ->
  l.map (fun p=>(p.1,a.eval p.2))=vs.map (fun p=>(p.1,ren Z p.2))/\∀ p ∈ vs,okV (dom Z) p.2
 | [],vs,hv=>by simp[Qh]at hv;subst hv;simp
 | (i,x)::l,vs,hv=>by
  simp only[Qh]at hv;split at hv
  ·rename_i v r h1 h2;cases hv;have a1:=Xvk H ht h1;have a2:=Yqk H ht h2;refine⟨by simp[a1.2,a2.1],fun p hp => ?_⟩;rcases ap.1 hp with rfl | hp
   ·exact a1.1
   ·exact a2.2 p hp
  ·cases hv
def Z4k{G:Bs}(H:HRel G Z h w){t:Tm}{a:Act}(ht:TRel Z t a.tmps){x:Option Operand}{v:Option Value}(hv:evO G t x=some v):x.map a.eval=v.map (ren Z):=by
 cases x with
 | none=>simp[evO]at hv;subst hv;rfl
 | some x =>
  simp only[evO,ak]at hv;obtain⟨u,hu,rfl⟩:=hv;simp[(Xvk H ht hu).2]
def Qcm{G:Bs}{s:Sem Value}{v:Value}{h':Heap}(hg:Gives P G Z h w s v h'):Jsg P G Z h w (do pure (.value (<- s))) (.val v h'):=by
 obtain⟨Z',w',r1,r2⟩:=hg;exact⟨Z',w',by simp[r1],r2⟩
def Xn5{G:Bs}(H:HRel G Z h w){s:Sem Next}{v:Value}(hv:okV (dom Z) v)(hr:s.run P w=.ok (.value (ren Z v)) w):Jsg P G Z h w s (.val v h) :=
 ⟨Z,w,hr,hv,Ext.refl _ _,H,Turn.refl _ _ _⟩
def Qsm{r:Option (Value × Heap)}{x:Res}(h:gv r=some x):∃ v h',r=some (v,h')/\x=.val v h':=by
 unfold gv at h;split at h
 ·cases h;exact⟨_,_,rfl,rfl⟩
 ·cases h
def Qez{h:Heap}{r:Option Value}{x:Res}(hx:g0 h r=some x):∃ v,r=some v/\x=.val v h:=by
 unfold g0 at hx;split at hx
 ·cases hx;exact⟨_,rfl,rfl⟩
 ·cases hx
def Ybp{r:Option Heap}{x:Res}(h:gs r=some x):∃ h',r=some h'/\x=.skip h':=by
 unfold gs at h;split at h
 ·cases h;exact⟨_,rfl,rfl⟩
 ·cases h
end
section
variable{P:Program}{Z:Ren}{h:Heap}{w:World}
def Xim(t:TypeId)(v:Value)(w:World):(Instr.panic (.iface t v)).run P w=.halt (.panic (.iface t v)) w:=rfl
def Z0b(E:Env2 P)(H:HRel E.G Z h w){b:Builtin}{ts:Array TypeId}{ty:TypeId}{cs:Array Bool}{args:List Value}{r:Res}(ha:∀ v ∈ args,okV (dom Z) v)
  (hr:Q7 E b ts.toList args h=some r):Jsg P E.G Z h w (builtin b ts ty cs (args.map (ren Z)).toArray) r:=by
 unfold Q7 at hr;split at hr
 ·rename_i t x hts;obtain⟨v,hv,rfl⟩:=Qez hr;have e1:ts = #[t]:=by apply bu;simpa using hts
  subst e1;exact Qcm (Jlz E.toEnv H (ha x (by simp)) hv)
 ·rename_i t x hts;obtain⟨v,hv,rfl⟩:=Qez hr;have e1:ts = #[t]:=by apply bu;simpa using hts
  subst e1;exact Qcm (Jmz E.toEnv H hv)
 ·rename_i t tx s x hts;obtain⟨v,h',hv,rfl⟩:=Qsm hr;have e1:ts = #[t,tx]:=by apply bu;simpa using hts
  subst e1;exact Qcm (Z80 E.toEnv H (ha s (by simp)) (ha x (by simp)) hv)
 ·rename_i t tx d s hts;obtain⟨v,h',hv,rfl⟩:=Qsm hr;have e1:ts = #[t,tx]:=by apply bu;simpa using hts
  subst e1;exact Qcm (Jgv E.toEnv H (ha d (by simp)) (ha s (by simp)) hv)
 ·obtain⟨v,hv,rfl⟩:=Qez hr;exact Qcm (Zho (mx:=true) H ts ty hv)
 ·obtain⟨v,hv,rfl⟩:=Qez hr;exact Qcm (Zho (mx:=false) H ts ty hv)
 ·rename_i t v;cases hr;exact⟨rfl,by simp[builtin,Xim,Result.andThen],ha _ (by simp)⟩
 ·rename_i t tl m k hts;obtain⟨v,h',hv,rfl⟩:=Qsm hr;have e1:ts=(t::tl).toArray:=by apply bu;simpa using hts
  subst e1;exact Qcm (Z99 E.toEnv H (ha m (by simp)) hv)
 ·rename_i t tl x hts;obtain⟨v,h',hv,rfl⟩:=Qsm hr;have e1:ts=(t::tl).toArray:=by apply bu;simpa using hts
  subst e1;exact Qcm (Jew E.toEnv H (ha x (by simp)) hv)
 ·cases hr
def Z5e:∀ {ps:List Tmp} {t:Tm} {vs:List Value} {tmps:Array Value},TRel Z t tmps->Z70 t.size ps vs=true->(∀ v ∈ vs,okV (dom Z) v) ->
  TRel Z (Yms t ps vs) ((ps.zip (vs.map (ren Z))).foldl (fun tmps x=>tmps.setIfInBounds x.1 x.2) tmps)
 | [],t,[],tmps,h,_,_=>by simpa[Yms]using h
 | p::ps,t,v::vs,tmps,h,hp,hv=>by
  simp only[Z70,ao,cu]at hp;simp only[Yms,aE,List.zip_cons_cons,du];exact Z5e (h.put hp.1 (hv v (by simp))) (by simpa[Tm.put]using hp.2) (fun x hx=>hv x (by simp[hx]))
 | [],t,_::_,_,_,hp,_=>by simp[Z70]at hp
 | _::_,t,[],_,_,hp,_=>by simp[Z70]at hp
def Yzo{n:Nat}:∀ {ps:List Tmp} {vs:List Value},Z70 n ps vs=true->vs.length=ps.length
 | [],[],_=>rfl
 | p::ps,v::vs,h=>by
  simp only[Z70,ao]at h;simp[Yzo h.2]
 | [],_::_,h=>by simp[Z70]at h
 | _::_,[],h=>by simp[Z70]at h
def Jcu{G:Bs}(H:HRel G Z h w){f:Value}{args:List Value}{r:Res}(hf:okV (dom Z) f)(ha:∀ v ∈ args,okV (dom Z) v)(hc:Yr0 f args h=some r) :
  ∃ l captured,ren Z f=.func (.yield (W8 Z l)) #[] captured/\r=.round l args h/\dom Z l/\∃ st pend t ps as bd d,h.get l=some (.obj (.loop st pend t ps as bd d))/\∃ fn tmps,TRel Z (Yms t ps.toList args) tmps /\
   (Instr.yield (W8 Z l) (args.map (ren Z)).toArray).run P w=.ok (.round (W8 Z l) fn tmps as bd) w:=by
 unfold Yr0 at hc;split at hc
 ·rename_i l captured;split at hc
  ·rename_i st pend t ps as bd d hg;split at hc
   ·rename_i hps;cases hc;simp only[okV]at hf;obtain⟨p,hp⟩:=az.1 hf.1;obtain⟨f0,o,f1,hd,fn,tmps,rfl,ht⟩:=H.fits l p _ hp hg;have hl:W8 Z l=p.blk:=(by simp[W8,hp]);refine⟨l,captured.map (ren Z),by simp[ren,Ykn,Qub],rfl,hf.1,st,pend,t,ps,as,bd,d,hg,fn,_,Z5e ht hps ha,?_⟩;rw[hl,run_yield f1 (by simp[Yzo hps])];simp only[Result.ok.injEq,and_true];congr 1;rw[<- Array.foldl_toList];simp
   ·cases hc
  ·cases hc
 ·cases hc
def Zi5{f:Value}{args:List Value}{fid:FuncId}{l:List Value}(hf:okV (dom Z) f)(ha:∀ v ∈ args,okV (dom Z) v)(hc:Qi f args=some (fid,l)) :
  (∀ v ∈ l,okV (dom Z) v)/\∃ first captured:Array Value,ren Z f=.func (.func fid) first captured/\(l.map (ren Z)).toArray=first++(args.map (ren Z)).toArray++captured:=by
 unfold Qi at hc;split at hc
 ·rename_i fi first captured
  cases hc;simp only[okV,Q8x]at hf;refine⟨fun v hv => ?_,first.map (ren Z),captured.map (ren Z),by simp[ren,Ykn,Qub],by simp⟩;simp only[al,cY]at hv;rcases hv with(hv | hv) | hv
  ·exact hf.1 v hv
  ·exact ha v hv
  ·exact hf.2 v hv
 ·cases hc
def Q00(E:Env2 P)(H:HRel E.G Z h w){t:Tm}{a:Act}(ht:TRel Z t a.tmps){o:Oper}{r:Res}(hr:aop E t h o=some r):Jsg P E.G Z h w (execOp a.eval o) r:=by
 unfold aop at hr;have ev:∀ {x:Operand} {v:Value},aev E.G t x=some v->okV (dom Z) v/\a.eval x=ren Z v:=fun hx=>Xvk H ht hx;split at hr
 ·rename_i x hop;obtain⟨v,hv,rfl⟩:=Qez hr;exact Xn5 H (ev hv).1 (by simp only[execOp,hop,(ev hv).2];rfl)
 ·rename_i x hop;obtain⟨v,hv,rfl⟩:=Qez hr;exact Xn5 H (ev hv).1 (by simp only[execOp,hop,(ev hv).2];rfl)
 ·rename_i c x y hop;split at hr
  ·rename_i hc;obtain⟨v,hv,rfl⟩:=Qez hr;exact Xn5 H (ev hv).1 (by simp[execOp,hop,(ev hv).2,(ev hc).2,asBool])
  ·rename_i hc;obtain⟨v,hv,rfl⟩:=Qez hr;exact Xn5 H (ev hv).1 (by simp[execOp,hop,(ev hv).2,(ev hc).2,asBool])
  ·cases hr
 ·rename_i e hop;obtain⟨v,h',hv,rfl⟩:=Qsm hr;simp only[execOp,hop];exact Qcm (Jcv E.toEnv H hv)
 ·rename_i e x hop;split at hr
  ·rename_i v0 h0;obtain⟨v,h',hv,rfl⟩:=Qsm hr;simp only[execOp,hop,(ev h0).2];exact Qcm (Jn5 H (ev h0).1 hv)
  ·cases hr
 ·rename_i ty ps hop;split at hr
  ·rename_i l hl;obtain⟨v,hv,rfl⟩:=Qez hr;obtain⟨e1,e2⟩:=Yqk H ht hl;have e3:(ps.map fun x=>(x.1,a.eval x.2))=(l.map fun p=>(p.1,ren Z p.2)).toArray:=by apply bu;rw[bh,e1]
   simp only[execOp,hop];rw[e3];exact Qcm (Jap E.toEnv H e2 hv)
  ·cases hr
 ·rename_i ty n ps hop;split at hr
  ·rename_i l hl;obtain⟨v,h',hv,rfl⟩:=Qsm hr;obtain⟨e1,e2⟩:=Yqk H ht hl;have e3:(ps.map fun x=>(x.1,a.eval x.2))=(l.map fun p=>(p.1,ren Z p.2)).toArray:=by apply bu;rw[bh,e1]
   simp only[execOp,hop];rw[e3];exact Qcm (Zfb E.toEnv H e2 hv)
  ·cases hr
 ·rename_i ty x hop;split at hr
  ·rename_i v0 h0;obtain⟨v,hv,rfl⟩:=Qez hr;simp only[execOp,hop,(ev h0).2];exact Qcm (Jjb E.toEnv H (ev h0).1 hv)
  ·cases hr
 ·rename_i ty x y hop;split at hr
  ·rename_i v0 v1 h0 h1;obtain⟨h',hv,rfl⟩:=Ybp hr;obtain⟨w',r1,r2⟩:=Jb0 E.toEnv H (ev h0).1 (ev h1).1 hv;exact⟨w',by simp[execOp,hop,(ev h0).2,(ev h1).2,r1],r2⟩
  ·cases hr
 ·rename_i x hop;split at hr
  ·rename_i v0 h0;obtain⟨v,hv,rfl⟩:=Qez hr;obtain⟨n,op,ty,p,af,g⟩:=o;simp only at hop;subst hop;obtain⟨rfl,h2⟩:=Zsp (P:=P) hv w n x ty p af g a.eval (ev h0).2;exact Xn5 H (ev h0).1 h2
  ·cases hr
 ·rename_i op ty x y yt hop;split at hr
  ·rename_i v0 v1 h0 h1;obtain⟨v,hv,rfl⟩:=Qez hr;simp only[execOp,hop,(ev h0).2,(ev h1).2];exact Qcm (Jl4 E.toEnv H hv)
  ·cases hr
 ·rename_i op ty x hop;split at hr
  ·rename_i v0 h0;obtain⟨v,hv,rfl⟩:=Qez hr;simp only[execOp,hop,(ev h0).2];exact Qcm (Jrh H hv)
  ·cases hr
 ·rename_i s d x hop;split at hr
  ·rename_i v0 h0;simp only[execOp,hop,(ev h0).2];split at hr
   ·obtain⟨v,hv,rfl⟩:=Qez hr;exact Qcm (Z0w E.toEnv H hv)
   ·obtain⟨v,h',hv,rfl⟩:=Qsm hr;exact Qcm (Jdq E.toEnv H (ev h0).1 hv)
  ·cases hr
 ·rename_i ty x hop;split at hr
  ·rename_i v0 h0;obtain⟨v,hv,rfl⟩:=Qez hr;simp only[execOp,hop,(ev h0).2];exact Qcm (Z7c E.toEnv H (ev h0).1 hv)
  ·cases hr
 ·rename_i ty x hop;split at hr
  ·rename_i v0 h0;obtain⟨v,hv,rfl⟩:=Qez hr;simp only[execOp,hop,(ev h0).2];exact Qcm (Z28 E.toEnv H (ev h0).1 hv)
  ·cases hr
 ·rename_i fn x y hop;split at hr
  ·rename_i l1 l2 h1 h2;obtain⟨v,hv,rfl⟩:=Qez hr;obtain⟨a1,a2⟩:=Zr0 H ht h1;obtain⟨b1,b2⟩:=Zr0 H ht h2;have e1:x.map a.eval=(l1.map (ren Z)).toArray:=by apply bu;rw[bh,a1]
   have e2:y.map a.eval=(l2.map (ren Z)).toArray:=by apply bu;rw[bh,b1]
   simp only[execOp,hop];rw[e1,e2];exact Qcm (Z8s H a2 b2 hv)
  ·cases hr
 ·rename_i ty x y hop;split at hr
  ·rename_i v0 v1 h0 h1;obtain⟨v,h',hv,rfl⟩:=Qsm hr;simp only[execOp,hop,(ev h0).2,(ev h1).2];exact Qcm (Zie E.toEnv H hv)
  ·cases hr
 ·rename_i ty x lo hi mx hop;split at hr
  ·rename_i v0 l0 l1 l2 h0 e0 e1 e2;obtain⟨v,h',hv,rfl⟩:=Qsm hr;simp only[execOp,hop,(ev h0).2,Z4k H ht e0,Z4k H ht e1,Z4k H ht e2];exact Qcm (Jdt E.toEnv H (ev h0).1 hv)
  ·cases hr
 ·rename_i ty x f hop;split at hr
  ·rename_i v0 h0;obtain⟨v,hv,rfl⟩:=Qez hr;simp only[execOp,hop,(ev h0).2];exact Qcm (Zkt E.toEnv H (ev h0).1 hv)
  ·cases hr
 ·rename_i ty x f hop;split at hr
  ·rename_i v0 h0;obtain⟨v,hv,rfl⟩:=Qez hr;simp only[execOp,hop,(ev h0).2];exact Qcm (Jeq E.toEnv H (ev h0).1 hv)
  ·cases hr
 ·rename_i ty x y hop;split at hr
  ·rename_i v0 v1 h0 h1;obtain⟨v,hv,rfl⟩:=Qez hr;simp only[execOp,hop,(ev h0).2,(ev h1).2];exact Qcm (Zp4 E.toEnv H (ev h0).1 hv)
  ·cases hr
 ·rename_i ty x y hop;split at hr
  ·rename_i v0 v1 h0 h1;obtain⟨v,hv,rfl⟩:=Qez hr;simp only[execOp,hop,(ev h0).2,(ev h1).2];exact Qcm (Jba E.toEnv H (ev h0).1 hv)
  ·cases hr
 ·rename_i x xt ty ok hop;split at hr
  ·rename_i v0 h0;obtain⟨v,hv,rfl⟩:=Qez hr;simp only[execOp,hop,(ev h0).2];exact Qcm (Z9a E.toEnv H (ev h0).1 hv)
  ·cases hr
 ·rename_i x i hop;split at hr
  ·rename_i v0 h0;obtain⟨v,hv,rfl⟩:=Qez hr;simp only[execOp,hop,(ev h0).2];exact Qcm (Z2i H (ev h0).1 hv)
  ·cases hr
 ·rename_i x hop;split at hr
  ·rename_i u v h0;cases hr;refine⟨rfl,?_,(ev h0).1⟩;simp[execOp,hop,(ev h0).2,ren_iface,Xim,Result.andThen]
  ·cases hr
 ·rename_i ty r hop;split at hr
  ·rename_i hv e0;obtain⟨v,h',hv,rfl⟩:=Qsm hr;simp only[execOp,hop,Z4k H ht e0];exact Qcm (Z0h E.toEnv H hv)
  ·cases hr
 ·rename_i ty x k ok hop;split at hr
  ·rename_i v0 v1 h0 h1;obtain⟨v,hv,rfl⟩:=Qez hr;simp only[execOp,hop,(ev h0).2,(ev h1).2];exact Qcm (Z8q E.toEnv H (ev h0).1 hv)
  ·cases hr
 ·rename_i ty m k x hop;split at hr
  ·rename_i v0 v1 v2 h0 h1 h2;obtain⟨h',hv,rfl⟩:=Ybp hr;obtain⟨w',r1,r2,r3⟩:=Yla E.toEnv H (k:=v1) (ev h0).1 (ev h2).1 hv;exact⟨w',by simp[execOp,hop,(ev h0).2,(ev h1).2,(ev h2).2,r1],r2,r3⟩
  ·cases hr
 ·rename_i ty m k x hop;split at hr
  ·rename_i v0 v1 v2 h0 h1 h2;obtain⟨h',hv,rfl⟩:=Ybp hr;obtain⟨w',r1,r2,r3⟩:=Yla E.toEnv H (k:=v1) (ev h0).1 (ev h2).1 hv;exact⟨w',by simp[execOp,hop,(ev h0).2,(ev h1).2,(ev h2).2,r1],r2,r3⟩
  ·cases hr
 ·rename_i ty m k hop;split at hr
  ·rename_i v0 v1 h0 h1;obtain⟨v,h',hv,rfl⟩:=Qsm hr;simp only[execOp,hop,(ev h0).2,(ev h1).2];exact Qcm (Zwj E.toEnv H (ev h0).1 hv)
  ·cases hr
 ·rename_i ty m st x hop;split at hr
  ·rename_i v0 v1 v2 h0 h1 h2;obtain⟨h',hv,rfl⟩:=Ybp hr;obtain⟨w',r1,r2,r3⟩:=Y8t (P:=P) (t:=ty) H (st:=v1) (ev h0).1 (ev h2).1 hv;exact⟨w',by simp[execOp,hop,(ev h0).2,(ev h1).2,(ev h2).2,r1],r2,r3⟩
  ·cases hr
 ·rename_i ty x hop;split at hr
  ·rename_i v0 h0;obtain⟨v,h',hv,rfl⟩:=Qsm hr;simp only[execOp,hop,(ev h0).2];exact Qcm (Jau E.toEnv H (ev h0).1 hv)
  ·cases hr
 ·rename_i x s hop;split at hr
  ·rename_i v0 h0;obtain⟨v,h',hv,rfl⟩:=Qsm hr;simp only[execOp,hop,(ev h0).2];exact Qcm (Jgl H (ev h0).1 hv)
  ·cases hr
 ·rename_i x hop;split at hr
  ·rename_i v0 h0;obtain⟨v,hv,rfl⟩:=Qez hr;simp only[execOp,hop,(ev h0).2];exact Qcm (Jfe H (ev h0).1 hv)
  ·cases hr
 ·rename_i c hop;split at hr
  ·cases hr
  ·rename_i args hargs;obtain⟨e1,e2⟩:=Zr0 H ht hargs;have e3:c.args.map a.eval=(args.map (ren Z)).toArray:=by apply bu;rw[bh,e1]
   split at hr
   ·rename_i b hb;have:=Z0b (ty:=o.type) (cs:=c.args.map fun | .const _=>true | _=>false) (ts:=c.argTypes) E H e2 hr;have he:(execOp a.eval o)=builtin b c.argTypes o.type (c.args.map fun | .const _=>true | _=>false) (args.map (ren Z)).toArray:=by
     simp only[execOp,hop,resolve,hb,e3];rfl
    rw[he];exact this
   ·rename_i f hf;split at hr
    ·rename_i fv hfv;split at hr
     ·rename_i fid l hc;split at hr
      ·rename_i F hF;cases hr;obtain⟨o1,first,captured,o2,o3⟩:=Zi5 (ev hfv).1 e2 hc;obtain⟨g1,g2,g3⟩:=E.fnok _ _ hF;refine⟨rfl,?_,o1⟩;have hbody:F.body.isNone=false:=by cases hb:F.body <;> simp[hb]at g3 ⊢
       simp only[execOp,hop,resolve,hf,e3,(ev hfv).2,o2,Deferred.ofValue,aq,aJ,ac,invoke,callFunc,run_program,g1,g2,av,if_false,hbody,o3]
      ·split at hr
       ·rename_i x hex;obtain⟨v,h',hv,rfl⟩:=Qsm hr;obtain⟨o1,first,captured,o2,o3⟩:=Zi5 (ev hfv).1 e2 hc;obtain⟨F,g1,gx⟩:=E.exok _ _ hex;obtain⟨g2,g3,g4,g5⟩:=Jix gx;obtain⟨Z',w',r1,r2⟩:=Jdh (P:=P) H o1 hv;rw[o3]at r1;have hmark:∀ m,(mark m).run P w=.ok () w:=fun _=>rfl;refine⟨Z',w',?_,r2⟩;simp only[execOp,hop,resolve,hf,e3,(ev hfv).2,o2,Deferred.ofValue,aq,aJ,ac,invoke,callFunc,run_program,g1,g2,av,if_false,g3,if_true,hmark,g4,g5,r1]
       ·cases hr
     ·obtain⟨l,captured,q1,rfl,q2,st,pend,t',ps,as,bd,d,q3,fn,tmps,q4,q5⟩:=Jcu (P:=P) H (ev hfv).1 e2 hr;refine⟨rfl,q2,e2,st,pend,t',ps,as,bd,d,q3,fn,tmps,q4,?_⟩;simp only[execOp,hop,resolve,hf,e3,(ev hfv).2,q1,Deferred.ofValue,aq,aJ,ac,invoke,Array.empty_append,q5]
    ·cases hr
   ·cases hr
 ·cases hr
end
structure St where
 t:Tm
 ds:List Deferred
 h:Heap
def Yf9(Z:Ren)(p:PanicEntry):PanicEntry:={v:=ren Z p.v,recovered:=p.recovered,goexit:=p.goexit}
def Qos(Z:Ren):Exit->Exit
 | .panic ch => .panic (ch.map (Yf9 Z))
 | e=>e
def Q24(D:Nat->Prop):Exit->Prop
 | .panic ch => ∀ p ∈ ch,okV D p.v
 | .outgrown=>False
 | _=>True
inductive AEnd where
 | ret (v:Value)
 | panic (ch:List PanicEntry)
def Qz1(Z:Ren):AEnd->Ending
 | .ret v => .returned (ren Z v)
 | .panic ch => .panicked (ch.map (Yf9 Z))
def Xy1(D:Nat->Prop):AEnd->Prop
 | .ret v=>okV D v
 | .panic ch => ∀ p ∈ ch,okV D p.v
structure SRel (G:Bs) (Z:Ren) (s:St) (a:Act) (w:World):Prop where
 h:HRel G Z s.h w
 t:TRel Z s.t a.tmps
 ds:a.defers=s.ds.map (Qxs Z)
 okd:∀ d ∈ s.ds,Yes (dom Z) d
def Qvk(rd:Option Nat)(Z:Ren):Fence:=match rd with
 | none=>Fence.wide
 | some l=>Fence.wide.inRound (W8 Z l)
def CW(P:Program)(G:Bs)(rd:Option Nat)(n:Nat)(c:Code)(s:St)(Q:Exit->St->Prop):Prop :=
 ∀ Z a w,SRel G Z s a w->(∀ l,rd=some l->dom Z l)->c.wpIn (Qvk rd Z) 0 P (fun e' a' w' => ∃ Z' e s',Q e s'/\e'=Qos Z' e/\Q24 (dom Z') e/\Ext n Z Z'/\Turn Z s.h w Z' s'.h w'/\SRel G Z' s' a' w') a w
def CallOK(P:Program)(G:Bs)(f:FuncId)(args:List Value)(h:Heap)(R:AEnd->Heap->Prop):Prop :=
 ∀ Z w,HRel G Z h w->(∀ v ∈ args,okV (dom Z) v)->CallsIn Fence.wide 0 P f (args.map (ren Z)).toArray w
  (fun e w' => ∃ Z' r h',R r h'/\e=Qz1 Z' r/\Xy1 (dom Z') r/\Ext h.next Z Z'/\Turn Z h w Z' h' w'/\HRel G Z' h' w')
def X17(P:Program)(G:Bs)(l:Nat)(args:List Value)(h:Heap)(R:AEnd->Heap->Prop):Prop :=
 ∀ (Z:Ren) (w:World) (β:Ren) (rd:Option Nat) st pend t ps as bd d fn tmps,HRel G Z h w->dom Z l->(∀ v ∈ args,okV (dom Z) v)->h.get l=some (.obj (.loop st pend t ps as bd d))->TRel Z (Yms t ps.toList args) tmps ->
  RoundIn (Qvk rd β) 0 P (W8 Z l) fn tmps as bd w
   (fun e w' => ∃ Z' r h',R r h'/\e=Qz1 Z' r/\Xy1 (dom Z') r/\Ext h.next Z Z'/\Turn Z h w Z' h' w'/\HRel G Z' h' w')
def CallOK.mono{P:Program}{G:Bs}{f:FuncId}{args:List Value}{h:Heap}{R R':AEnd->Heap->Prop}(hc:CallOK P G f args h R)(hr:∀ r h',R r h'->R' r h'):CallOK P G f args h R' :=
 fun Z w H ha=>(hc Z w H ha).mono fun _ _ ⟨Z',r,h',h1,h2⟩=>⟨Z',r,h',hr _ _ h1,h2⟩
def CW.mono{P:Program}{G:Bs}{rd:Option Nat}{n m:Nat}{c:Code}{s:St}{Q Q':Exit->St->Prop}(hc:CW P G rd n c s Q)(hmn:m<=n)(hq:∀ e s',Q e s'->Q' e s'):CW P G rd m c s Q' :=
 fun Z a w H hl=>wpIn_mono (hc Z a w H hl) fun _ _ _ ⟨Z',e,s',h1,h2,h3,h4,h5⟩=>⟨Z',e,s',hq _ _ h1,h2,h3,h4.mono hmn,h5⟩
def St.put(s:St)(d:Option Tmp)(v:Value)(h:Heap):St:=match d with
 | none=>{s with h:=h}
 | some i=>{t:=s.t.put i v,ds:=s.ds,h:=h}
def Qoy(s:St)(d:Option Tmp):Bool:=match d with
 | none=>true
 | some i=>Nat.blt i s.t.size
section
variable{P:Program}{G:Bs}{Z:Ren}{s:St}{a:Act}{w:World}
def Q23{Z β:Ren}{D:Nat->Prop}(h:∀ b,D b->β b=Z b){d:Deferred}(hd:Yes D d):Qxs β d=Qxs Z d:=by
 obtain⟨t,args⟩:=d;cases t <;> simp only[Yes,Qxs]at hd ⊢
 ·rename_i f c;have h1:ren β (.func f #[] c)=ren Z (.func f #[] c):=ren_congr h _ hd.1;simp only[ren,Value.func.injEq]at h1;rw[h1.1,h1.2.2,renA_congr h _ hd.2]
 ·rw[renA_congr h _ hd]
 ·rw[renA_congr h _ hd]
 ·rw[Qc5 (h _ hd.1),renA_congr h _ hd.2]
def Xct{D E:Nat->Prop}(h:∀ b,D b->E b){d:Deferred}(hd:Yes D d):Yes E d:=by
 obtain⟨t,args⟩:=d;cases t <;> simp only[Yes]at hd ⊢
 ·exact⟨okV_mono h _ hd.1,okA_mono h _ hd.2⟩
 ·exact okA_mono h _ hd
 ·exact okA_mono h _ hd
 ·exact⟨h _ hd.1,okA_mono h _ hd.2⟩
def SRel.step(S:SRel G Z s a w){Z':Ren}{h':Heap}{w':World}(he:Ext s.h.next Z Z')(H':HRel G Z' h' w'):SRel G Z' {s with h:=h' } a w':=by
 have hd:∀ b,dom Z b->Z' b=Z b:=fun b hb=>he b (Qkr S.h hb);refine⟨H',S.t.ext S.h he,?_,fun d hd'=>Xct (fun b hb=>by simpa[dom,hd b hb]using hb) (S.okd d hd')⟩;rw[S.ds];apply bA;intro d hd';exact(Q23 hd (S.okd d hd')).symm
def SRel.put(S:SRel G Z s a w){d:Option Tmp}{v:Value}(hd:Qoy s d=true)(hv:okV (dom Z) v):SRel G Z (s.put d v s.h) (a.put d (ren Z v)) w:=by
 cases d with
 | none=>exact⟨S.h,S.t,S.ds,S.okd⟩
 | some i =>
  simp only[Qoy,cu]at hd;exact⟨S.h,S.t.put hd hv,S.ds,S.okd⟩
def Jbp{rd:Option Nat}{Q:Exit->St->Prop}(hq:Q .normal s):CW P G rd s.h.next .skip s Q :=
 fun Z _ _ S _=>wpIn_skip ⟨Z,.normal,s,hq,rfl,trivial,Ext.refl _ _,Turn.refl _ _ _,S⟩
def Z6l{rd:Option Nat}{l:Nat}{Q:Exit->St->Prop}(hq:Q .normal s):CW P G rd s.h.next (.label l) s Q :=
 fun Z _ _ S _=>wpIn_label ⟨Z,.normal,s,hq,rfl,trivial,Ext.refl _ _,Turn.refl _ _ _,S⟩
def Jfw{rd:Option Nat}{id:Nat}{Q:Exit->St->Prop}(hq:Q (.exit id) s):CW P G rd s.h.next (.exit id) s Q :=
 fun Z _ _ S _=>wpIn_exit ⟨Z,.exit id,s,hq,rfl,trivial,Ext.refl _ _,Turn.refl _ _ _,S⟩
def Jka{rd:Option Nat}{Q:Exit->St->Prop}(hq:Q .ret s):CW P G rd s.h.next .ret s Q :=
 fun Z _ _ S _=>wpIn_ret ⟨Z,.ret,s,hq,rfl,trivial,Ext.refl _ _,Turn.refl _ _ _,S⟩
def X1m{rd:Option Nat}{n:Nat}{Z β:Ren}{G:Bs}{s:St}{w:World}{a:Act}(S:SRel G Z s a w)(he:Ext s.h.next Z β)(hl:∀ l,rd=some l->dom Z l):Qvk rd β=Qvk rd Z/\(∀ l,rd=some l->dom β l)/\n=n:=by
 refine⟨?_,fun l h => ?_,rfl⟩
 ·cases rd with
  | none=>rfl
  | some l=>simp only[Qvk,Qc5 (he l (Qkr S.h (hl l rfl)))]
 ·have:=he l (Qkr S.h (hl l h));simpa[dom,this]using hl l h
def Jkk{rd:Option Nat}{x y:Code}{Q:Exit->St->Prop}(h:CW P G rd s.h.next x s (fun e s'=>s.h.next<=s'.h.next/\(e=.normal->CW P G rd s'.h.next y s' Q)/\(e ≠ .normal->Q e s'))) :
  CW P G rd s.h.next (.seq x y) s Q:=by
 intro Z a w S hl;refine wpIn_seq (wpIn_mono (h Z a w S hl) ?_);rintro e' a' w' ⟨Z',e,s',⟨hn,hq1,hq2⟩,rfl,hoe,hext,hturn,S'⟩;by_cases hne:e=.normal
 ·subst hne;obtain⟨f1,f2,_⟩:=X1m (rd:=rd) (n:=0) S hext hl;have:=hq1 rfl Z' a' w' S' f2;rw[f1]at this;show y.wpIn _ _ _ _ _ _;refine wpIn_mono this ?_;rintro e'' a'' w'' ⟨Z'',e2,s'',g1,g2,g3,g4,g5,g6⟩;exact⟨Z'',e2,s'',g1,g2,g3,hext.trans g4 hn,hturn.trans g5,g6⟩
 ·have : ∃ Z'_1 e_1 s'_1,Q e_1 s'_1/\Qos Z' e=Qos Z'_1 e_1/\Q24 (dom Z'_1) e_1/\Ext s.h.next Z Z'_1/\Turn Z s.h w Z'_1 s'_1.h w'/\SRel G Z'_1 s'_1 a' w':=⟨Z',e,s',hq2 hne,rfl,hoe,hext,hturn,S'⟩;cases e <;> first
   | exact absurd rfl hne
   | exact this
def Z3y{rd:Option Nat}{c:Operand}{x y:Code}{Q:Exit->St->Prop}{b:Bool}(hc:aev G s.t c=some (.bool b))(h:CW P G rd s.h.next (if b then x else y) s Q):CW P G rd s.h.next (.cond c x y) s Q:=by
 intro Z a w S hl;exact wpIn_cond (by rw[(Xvk S.h S.t hc).2,ren_bool]) (h Z a w S hl)
def Z69{rd:Option Nat}{id n:Nat}{c:Code}{Q:Exit->St->Prop}(h:CW P G rd n c s (fun e s'=>match e with
  | .exit id'=>if id'=id then Q .normal s' else Q (.exit id') s'
  | e=>Q e s')):CW P G rd n (.block id c) s Q:=by
 intro Z a w S hl;refine wpIn_block (wpIn_mono (h Z a w S hl) ?_);rintro e' a' w' ⟨Z',e,s',hq,rfl,hoe,hext,hturn,S'⟩;cases e with
 | exit id' =>
  simp only[Qos,Exit.inBlock];simp only at hq;split
  ·rename_i hid;rw[if_pos hid]at hq;exact⟨Z',.normal,s',hq,rfl,trivial,hext,hturn,S'⟩
  ·rename_i hid;rw[if_neg hid]at hq;exact⟨Z',.exit id',s',hq,rfl,trivial,hext,hturn,S'⟩
 | outgrown=>exact hoe.elim
 | normal=>exact⟨Z',_,s',hq,rfl,hoe,hext,hturn,S'⟩
 | goto l=>exact⟨Z',_,s',hq,rfl,hoe,hext,hturn,S'⟩
 | ret=>exact⟨Z',_,s',hq,rfl,hoe,hext,hturn,S'⟩
 | panic ch=>exact⟨Z',_,s',hq,rfl,hoe,hext,hturn,S'⟩
def Zvz{p:Nat->Prop}:∀ k,p k->∃ j,p j/\∀ i,p i->j<=i:=by
 intro k;induction k using Nat.strongRecOn with
 | _ k ih =>
  intro hk;by_cases hj:∃ j,j < k/\p j
  ·obtain⟨j,h1,h2⟩:=hj;exact ih j h1 h2
  ·exact⟨k,hk,fun i hi=>Nat.le_of_not_lt fun hlt=>hj ⟨i,hlt,hi⟩⟩
def Jd7{rd:Option Nat}{n:Nat}{c:Code}{Q:Exit->St->Prop}(I:Nat->St->Prop){k:Nat}(h0:I k s)(hrd:∀ l,rd=some l->l < n)(hn:n<=s.h.next)
  (round:∀ k s,I k s->n<=s.h.next->CW P G rd n c s (fun e s'=>n<=s'.h.next/\(e=.normal->∃ k',k' < k/\I k' s')/\(e ≠ .normal->Q e s'))):CW P G rd n (.loop c) s Q:=by
 intro Z a w S hl
 let J:Nat->Act->World->Prop:=fun k a' w' => ∃ Z' s',I k s'/\n<=s'.h.next/\Ext n Z Z'/\Turn Z s.h w Z' s'.h w'/\SRel G Z' s' a' w'
 have hμ:∃ μ:Act->World->Nat,∀ a w,(∃ k,J k a w)->J (μ a w) a w/\∀ j,J j a w->μ a w<=j:=by
  have : ∀ x:Act × World,∃ m:Nat,(∃ k,J k x.1 x.2)->J m x.1 x.2/\∀ j,J j x.1 x.2->m<=j:=fun x=>by
   by_cases hx:∃ k,J k x.1 x.2
   ·obtain⟨k,hk⟩:=hx;obtain⟨m,h1,h2⟩:=Zvz (p:=fun k=>J k x.1 x.2) k hk;exact⟨m,fun _=>⟨h1,h2⟩⟩
   ·exact⟨0,fun h=>absurd h hx⟩
  exact⟨fun a w=>(this (a,w)).choose,fun a w h=>(this (a,w)).choose_spec h⟩
 obtain⟨μ,hμ⟩:=hμ;refine wpIn_loop (fun a w => ∃ k,J k a w) μ ⟨k,Z,s,h0,hn,Ext.refl _ _,Turn.refl _ _ _,S⟩ fun a1 w1 hJ => ?_;obtain⟨⟨Z1,s1,hI,hn1,hext1,hturn1,S1⟩,hleast⟩:=hμ a1 w1 hJ;have hf:Qvk rd Z1=Qvk rd Z:=by
  cases rd with
  | none=>rfl
  | some l=>simp only[Qvk,Qc5 (hext1 l (hrd l rfl))]
 have hl1:∀ l,rd=some l->dom Z1 l:=fun l hl'=>by
  have:=hext1 l (hrd l hl');simpa[dom,this]using hl l hl'
 have hr:=round _ s1 hI hn1 Z1 a1 w1 S1 hl1;rw[hf]at hr;refine wpIn_mono hr ?_;rintro e' a' w' ⟨Z',e,s',⟨hn',hq1,hq2⟩,rfl,hoe,hext,hturn,S'⟩;by_cases hne:e=.normal
 ·subst hne;obtain⟨k',hk',hI'⟩:=hq1 rfl;have hJ':J k' a' w':=⟨Z',s',hI',hn',hext1.trans hext (ab _),hturn1.trans hturn,S'⟩;exact⟨⟨k',hJ'⟩,dD ((hμ a' w' ⟨k',hJ'⟩).2 k' hJ') hk'⟩
 ·have : ∃ Z'_1 e_1 s'_1,Q e_1 s'_1/\Qos Z' e=Qos Z'_1 e_1/\Q24 (dom Z'_1) e_1/\Ext n Z Z'_1/\Turn Z s.h w Z'_1 s'_1.h w'/\SRel G Z'_1 s'_1 a' w' :=
   ⟨Z',e,s',hq2 hne,rfl,hoe,hext1.trans hext (ab _),hturn1.trans hturn,S'⟩
  cases e <;> first
   | exact absurd rfl hne
   | exact this
end
structure CallF where
 fn:FuncId->List Value->Heap->Option (AEnd × Heap)
 rnd:Nat->List Value->Heap->Option (AEnd × Heap)
structure CallsSound (P:Program) (G:Bs) (C:CallF):Prop where
 fn:∀ f args h r h',C.fn f args h=some (r,h')->CallOK P G f args h (fun r1 h1=>r1=r/\h1=h')
 rnd:∀ l args h r h',C.rnd l args h=some (r,h')->X17 P G l args h (fun r1 h1=>r1=r/\h1=h')
def Qg(ops:List Oper)(t:Tm)(o:Oper):Option Bool :=
 match o.guard with
 | none=>some true
 | some (j,want)=>match nth ops j with
  | none=>some false
  | some oj=>match oj.dst with
   | none=>some false
   | some d=>match t.t.get d with
    | some (.bool b)=>some (b == want)
    | some _=>some false
    | none=>none
def Qt:Value:=.tuple #[]
def Y3z{P:Program}(E:Env2 P)(t:Tm)(c:Call):Option Deferred :=
 match c.callee with
 | .value f=>match aev E.G t f,evs E.G t c.args.toList with
  | some (.func (.func fn) first captured),some args=>some {target:=.fn (.func fn) captured,args:=first++args.toArray}
  | _,_=>none
 | _=>none
def Yjr{P:Program}(E:Env2 P)(C:CallF)(rd:Option Nat)(o:Oper)(s:St):Option (Exit × St) :=
 if !Qoy s o.dst then none else
 match o.op with
 | .defer c=>match rd with
  | none=>match Y3z E s.t c with
   | some d=>some (.normal,({s with ds:=d::s.ds}:St).put o.dst Qt s.h)
   | none=>none
  | some _=>none
 | _=>match aop E s.t s.h o with
  | some (.val v h)=>some (.normal,s.put o.dst v h)
  | some (.skip h)=>some (.normal,s.put o.dst Qt h)
  | some (.panic v h)=>some (.panic [{v,recovered:=false}],{s with h:=h})
  | some (.enter f args h)=>match C.fn f args h with
   | some (.ret v,h')=>some (.normal,s.put o.dst v h')
   | some (.panic ch,h')=>some (.panic ch,{s with h:=h' })
   | none=>none
  | some (.round l args h)=>match C.rnd l args h with
   | some (.ret v,h')=>some (.normal,s.put o.dst v h')
   | some (.panic ch,h')=>some (.panic ch,{s with h:=h' })
   | none=>none
  | _=>none
def Yxv{P:Program}(E:Env2 P)(C:CallF)(rd:Option Nat)(ops:List Oper):List Oper->St->Option (Exit × St)
 | [],s=>some (.normal,s)
 | o::r,s =>
  match Qg ops s.t o with
  | some true=>match Yjr E C rd o s with
   | some (.normal,s')=>Yxv E C rd ops r s'
   | some (.panic ch,s')=>some (.panic ch,s')
   | _=>none
  | some false=>if Qoy s o.dst then Yxv E C rd ops r (s.put o.dst Qt s.h)else none
  | none=>none
section
variable{P:Program}{Z:Ren}{s:St}{a:Act}{w:World}
def Q0u(rd:Option Nat)(Z:Ren)(f:FuncId):(Qvk rd Z).fn f:=by cases rd <;> exact trivial
def Qrg(rd:Option Nat)(Z:Ren):(Qvk rd Z).depth=none:=by cases rd <;> rfl
def Q6a(rd:Option Nat)(Z:Ren):(Qvk rd Z).round=rd.map (W8 Z):=by cases rd <;> rfl
def Xfy{rd:Option Nat}{Z:Ren}{n:Nat}{f:FuncId}{args:Array Value}{w:World}{R:Ending->World->Prop}(h:CallsIn Fence.wide n P f args w R):CallsIn (Qvk rd Z) n P f args w R:=by
 cases rd with
 | none=>exact h
 | some l=>exact h
def Q3h{G:Bs}{t:Tm}{tmps:Array Value}(ht:TRel Z t tmps){ops:Array Oper}{o:Oper}{b:Bool}(h:Qg ops.toList t o=some b):Region.wanted o (yielded ops tmps)=b:=by
 have _:=G;unfold Qg at h;unfold Region.wanted;split at h
 ·rename_i hg;rw[hg];cases h;rfl
 ·rename_i j want hg;rw[hg];simp only;rw[Xv5,Array.getElem?_toList]at h;unfold yielded;split at h
  ·rename_i hj;cases h;simp[hj]
  ·rename_i oj hj;split at h
   ·rename_i hd;cases h;simp[hj,hd]
   ·rename_i d hd;split at h
    ·rename_i q hq;cases h;have:=(ht.vals d _ hq).2;simp[hj,hd,this]
    ·rename_i v hq hne;cases h;have:=(ht.vals d _ hne).2;simp only[hj,hd,dc,this];cases v <;> simp[ren];rename_i b;exact absurd rfl (hq b)
    ·cases h
def Zxc(E:Env2 P)(S:SRel E.G Z s a w){c:Call}{d:Deferred}(hd:Y3z E s.t c=some d)(ty:TypeId):Yes (dom Z) d/\(resolve a.eval c ty).run P w=.ok (Qxs Z d) w:=by
 unfold Y3z at hd;split at hd
 ·rename_i f hf;split at hd
  ·rename_i fn first captured args h1 h2
   cases hd;obtain⟨e1,e2⟩:=Xvk S.h S.t h1;obtain⟨e3,e4⟩:=Zr0 S.h S.t h2;have e5:c.args.map a.eval=(args.map (ren Z)).toArray:=by apply bu;rw[bh,e3]
   simp only[okV,Q8x]at e1;refine⟨?_,?_⟩
   ·simp only[Yes,okV,Q8x];refine⟨⟨by simp,e1.2⟩,fun v hv => ?_⟩;rcases Array.mem_append.1 hv with hv | hv
    ·exact e1.1 v hv
    ·exact e4 v (by simpa using hv)
   ·simp only[resolve,hf,e5,e2,ren,Ykn,Deferred.ofValue,aJ,Qxs,Qub,Array.map_append,List.map_toArray]
  ·cases hd
 ·cases hd
def SRel.putU{G:Bs}(S:SRel G Z s a w){d:Option Tmp}(hd:Qoy s d=true):SRel G Z (s.put d Qt s.h) (a.put d undef) w:=by
 have:=S.put (v:=Qt) hd (by simp[Qt,okV,okA,okL]);simpa[Qt,undef,ren,renA,renL]using this
def eO(s:St)(d:Option Tmp)(v:Value)(h:Heap):s.put d v h=({s with h:=h}:St).put d v h:=by cases d <;> rfl
def Z4w(E:Env2 P){C:CallF}(hC:CallsSound P E.G C){rd:Option Nat}{o:Oper}{e:Exit}{s1:St}(hs:Yjr E C rd o s=some (e,s1))(S:SRel E.G Z s a w)
  {next:Act->World->Prop} {Q:Exit->Act->World->Prop}
  (hn:∀ Z' a' w',Ext s.h.next Z Z'->Turn Z s.h w Z' s1.h w'->SRel E.G Z' s1 a' w'->e=.normal->next a' w')
  (hp:∀ Z' a' w',Ext s.h.next Z Z'->Turn Z s.h w Z' s1.h w'->SRel E.G Z' s1 a' w'->∀ ch,e=.panic ch->Q24 (dom Z') e->Q (Qos Z' e) a' w') :
  o.wpIn (Qvk rd Z) 0 P a w next Q:=by
 refine⟨fun f _=>Q0u rd Z f,?_⟩;unfold Yjr at hs;split at hs
 ·cases hs
 ·rename_i hdst;have hdst':Qoy s o.dst=true:=by simpa using hdst
  split at hs
  ·rename_i c hop;split at hs
   ·split at hs
    ·rename_i d hd;cases hs;obtain⟨d1,d2⟩:=Zxc E S hd o.type;have : (o.semAt (Qvk none Z).round a.eval).run P w=.ok (.defer (Qxs Z d)) w:=by
      rw[Q6a];simp[Oper.semAt,execOp,hop,d2]
     rw[this];refine hn Z _ w (Ext.refl _ _) ?_ ?_ rfl
     ·cases o.dst <;> exact Turn.refl _ _ _
     ·have S1:SRel E.G Z {s with ds:=d::s.ds} {a with defers:=Qxs Z d::a.defers} w :=
       ⟨S.h,S.t,by simp[S.ds],fun x hx=>by rcases ap.1 hx with rfl | hx;exact d1;exact S.okd x hx⟩
      exact S1.putU hdst'
    ·cases hs
   ·cases hs
  ·rename_i hop;have hsem:o.semAt (Qvk rd Z).round a.eval=execOp a.eval o:=dC _ _ _ hop;rw[hsem];split at hs
   ·rename_i v h hr;cases hs;obtain⟨Z',w',r1,r2,r3,r4,r5⟩:=Q00 E S.h S.t hr;rw[r1];have S1:=S.step r3 r4;refine hn Z' _ w' r3 ?_ ?_ rfl
    ·cases o.dst <;> exact r5
    ·have:=S1.put (d:=o.dst) (v:=v) (by cases hd:o.dst <;> simp only[hd,Qoy]at hdst' ⊢;exact hdst') r2;rw[eO];exact this
   ·rename_i h hr;cases hs;obtain⟨w',r1,r2,r3⟩:=Q00 E S.h S.t hr;rw[r1];have S1:=S.step (Ext.refl _ _) r2;refine hn Z _ w' (Ext.refl _ _) ?_ ?_ rfl
    ·cases o.dst <;> exact r3
    ·have:=S1.putU (d:=o.dst) (by cases hd:o.dst <;> simp only[hd,Qoy]at hdst' ⊢;exact hdst');rw[eO];exact this
   ·rename_i v h hr;cases hs;obtain⟨rfl,r1,r2⟩:=Q00 E S.h S.t hr;rw[r1];exact hp Z a w (Ext.refl _ _) (Turn.refl _ _ _) S _ rfl (by simpa[Q24]using r2)
   ·rename_i f args h hr;obtain⟨rfl,r1,r2⟩:=Q00 E S.h S.t hr;rw[r1,dF];refine⟨by rw[Qrg];simp,Xfy ?_⟩;split at hs
    ·rename_i v h' hc;cases hs;refine(hC.fn _ _ _ _ _ hc Z w S.h r2).mono ?_;rintro e' w' ⟨Z',r,h1,⟨rfl,rfl⟩,rfl,q1,q2,q3,q4⟩;have S1:=S.step q2 q4;refine hn Z' _ w' q2 ?_ ?_ rfl
     ·cases o.dst <;> exact q3
     ·have:=S1.put (d:=o.dst) (v:=v) (by cases hd:o.dst <;> simp only[hd,Qoy]at hdst' ⊢;exact hdst') q1;rw[eO];exact this
    ·rename_i ch h' hc;cases hs;refine(hC.fn _ _ _ _ _ hc Z w S.h r2).mono ?_;rintro e' w' ⟨Z',r,h1,⟨rfl,rfl⟩,rfl,q1,q2,q3,q4⟩;exact hp Z' a w' q2 q3 (S.step q2 q4) _ rfl q1
    ·cases hs
   ·rename_i l args h hr;obtain⟨rfl,k1,r2,st,pend,t',ps,as,bd,d,k2,fn,tmps,k3,r1⟩:=Q00 E S.h S.t hr;rw[r1,dE];refine⟨by rw[Qrg];simp,?_⟩;split at hs
    ·rename_i v h' hc;cases hs;refine(hC.rnd _ _ _ _ _ hc Z w Z rd _ _ _ _ _ _ _ _ _ S.h k1 r2 k2 k3).mono ?_;rintro e' w' ⟨Z',r,h1,⟨rfl,rfl⟩,rfl,q1,q2,q3,q4⟩;have S1:=S.step q2 q4;refine hn Z' _ w' q2 ?_ ?_ rfl
     ·cases o.dst <;> exact q3
     ·have:=S1.put (d:=o.dst) (v:=v) (by cases hd:o.dst <;> simp only[hd,Qoy]at hdst' ⊢;exact hdst') q1;rw[eO];exact this
    ·rename_i ch h' hc;cases hs;refine(hC.rnd _ _ _ _ _ hc Z w Z rd _ _ _ _ _ _ _ _ _ S.h k1 r2 k2 k3).mono ?_;rintro e' w' ⟨Z',r,h1,⟨rfl,rfl⟩,rfl,q1,q2,q3,q4⟩;exact hp Z' a w' q2 q3 (S.step q2 q4) _ rfl q1
    ·cases hs
   ·cases hs
def Jv5(G:Bs)(n:Nat)(Z:Ren)(h:Heap)(w:World)(Q:Exit->St->Prop):Exit->Act->World->Prop :=
 fun e' a' w' => ∃ Z' e s',Q e s'/\e'=Qos Z' e/\Q24 (dom Z') e/\Ext n Z Z'/\Turn Z h w Z' s'.h w'/\SRel G Z' s' a' w'
def Zzt(E:Env2 P){C:CallF}(hC:CallsSound P E.G C){rd:Option Nat}{ops:Array Oper}{Q:Exit->Act->World->Prop}:∀ (l:List Oper) (i:Nat) (s:St) (Z:Ren) (a:Act) (w:World) (e:Exit) (s1:St),
  ops.toList.drop i=l->Yxv E C rd ops.toList l s=some (e,s1)->SRel E.G Z s a w->(∀ l,rd=some l->dom Z l) ->
  (∀ Z' a' w',Ext s.h.next Z Z'->Turn Z s.h w Z' s1.h w'->SRel E.G Z' s1 a' w'->Q24 (dom Z') e->Q (Qos Z' e) a' w') ->
  wpOpsIn (Qvk rd Z) 0 P ops Q (List.range' i l.length) a w
 | [],i,s,Z,a,w,e,s1,_,h,S,_,hQ=>by
  simp only[Yxv,ar,bG]at h;obtain⟨rfl,rfl⟩:=h;exact hQ Z a w (Ext.refl _ _) (Turn.refl _ _ _) S trivial
 | o::r,i,s,Z,a,w,e,s1,hdrop,h,S,hl,hQ=>by
  have ho:ops[i]? = some o:=by
   have:=congrArg (fun l=>l[0]?) hdrop;simpa[List.getElem?_drop]using this
  have hdrop':ops.toList.drop (i+1)=r:=by
   have:=congrArg List.tail hdrop;simpa[dY]using this
  simp only[aS,df,wpOpsIn,ho];simp only[Yxv]at h;split at h
  ·rename_i hw;rw[if_pos (Q3h (G:=E.G) S.t hw)];split at h
   ·rename_i s' hst;refine Z4w E hC hst S (fun Z' a' w' h1 h2 h3 _ => ?_) (fun Z' a' w' _ _ _ ch hch _=>by cases hch);obtain⟨f1,f2,_⟩:=X1m (rd:=rd) (n:=0) S h1 hl;have:=Zzt E hC (Q:=Q) r (i+1) s' Z' a' w' e s1 hdrop' h h3 f2 (fun Z'' a'' w'' g1 g2 g3 g4=>hQ Z'' a'' w'' (h1.trans g1 h2.next) (h2.trans g2) g3 g4);rwa [f1]at this
   ·rename_i ch s' hst;cases h;refine Z4w E hC hst S (fun Z' a' w' _ _ _ hne=>by cases hne) (fun Z' a' w' h1 h2 h3 ch' hch hok => ?_);exact hQ Z' a' w' h1 h2 h3 hok
   ·cases h
  ·rename_i hw;rw[if_neg (by rw[Q3h (G:=E.G) S.t hw];simp)];refine⟨fun f _=>Q0u rd Z f,?_⟩;split at h
   ·rename_i hd;have hh:(s.put o.dst Qt s.h).h=s.h:=by cases o.dst <;> rfl
    have:=Zzt E hC (Q:=Q) r (i+1) _ Z _ w e s1 hdrop' h (S.putU hd) hl (by rw[hh];exact hQ);exact this
   ·cases h
  ·cases h
def Jg4(E:Env2 P){C:CallF}(hC:CallsSound P E.G C){rd:Option Nat}{id:Nat}{ops:Array Oper}{Q:Exit->St->Prop}{e:Exit}{s1:St}(h:Yxv E C rd ops.toList ops.toList s=some (e,s1))(hQ:Q e s1) :
  CW P E.G rd s.h.next (.region id ops false) s Q:=by
 intro Z a w S hl;have:=Zzt E hC (ops:=ops) ops.toList 0 s Z a w e s1 rfl h S hl (Q:=Jv5 E.G s.h.next Z s.h w Q) (fun Z' a' w' h1 h2 h3 h4=>⟨Z',e,s1,hQ,rfl,h4,h1,h2,h3⟩);rw[dA,<- cU]at this;exact wpIn_region this
end
structure LowOK (h h':Heap):Prop where
 next:h.next<=h'.next
 low:h'.low<=h.low
 same:∀ b,b < h.next->b < h'.low->h'.get b=h.get b
def LowOK.refl(h:Heap):LowOK h h:=⟨ab _,ab _,fun _ _ _=>rfl⟩
def LowOK.trans{a b c:Heap}(x:LowOK a b)(y:LowOK b c):LowOK a c :=
 ⟨ai x.next y.next,ai y.low x.low,fun k h1 h2=>(y.same k (au h1 x.next) h2).trans (x.same k h1 (au h2 y.low))⟩
def LowOK.set(h:Heap)(b:Nat)(x:Option Blk)(hb:b < h.next):LowOK h (h.set b x) :=
 ⟨ab _,dS _ _,fun k _ h2=>by
  rw[gY hb];have : k < b:=au h2 (Nat.min_le_right _ _);rw[if_neg (by omega)]⟩
def LowOK.push(h:Heap)(x:Blk):LowOK h (h.push x) :=
 ⟨bH _,ab _,fun k h1 _=>by rw[Heap.get_push,if_neg (by omega)]⟩
def Xs5{h h':Heap}{a:Addr}{l:List Value}(hh:storeAt h a l=some h'):LowOK h h':=by
 unfold storeAt at hh;split at hh
 ·rename_i sz c hg;rw[ak]at hh;obtain⟨c',_,rfl⟩:=hh;exact LowOK.set _ _ _ (Heap.get_lt hg)
 ·cases hh
def Res.heap:Res->Heap
 | .val _ h | .skip h | .enter _ _ h | .round _ _ h | .defer _ h | .panic _ h=>h
section
variable{P:Program}
def Zgz{E:Env P}{t:TypeId}{x:Value}{lo hi mx:Option Value}{h h':Heap}{v:Value}(hv:Qes E t x lo hi mx h=some (v,h')):LowOK h h':=by
 have hcut:∀ {ad:Addr} {sz used l n:Nat} {h h':Heap} {v:Value},Qes.aCut ad sz used l n h=some (v,h')->LowOK h h':=by
  intro ad sz used l n h h' v hc;unfold Qes.aCut at hc;split at hc
  ·cases hc;exact LowOK.refl _
  ·split at hc
   ·cases hc;exact LowOK.refl _
   ·split at hc
    ·cases hc;exact LowOK.push _ _
    ·cases hc
 have hmap:∀ {o:Option Value} {h h':Heap} {v:Value},o.map (fun v=>(v,h))=some (v,h')->LowOK h h':=by
  intro o h h' v ho;rw[ak]at ho;obtain⟨_,_,hq⟩:=ho;cases hq;exact LowOK.refl _
 unfold Qes at hv
 repeat' (first | (cases hv;done) | (exact hmap hv) | (exact hcut hv) | (cases hv;exact LowOK.refl _) | split at hv | simp only at hv)
def Z3x{E:Env P}{t tx:TypeId}{s x:Value}{h h':Heap}{v:Value}(hv:Qjr E t tx s x h=some (v,h')):LowOK h h':=by
 have hst:∀ {a:Addr} {l:List Value} {u:Value} {h h':Heap} {v:Value},(storeAt h a l).map (fun h'=>(u,h'))=some (v,h')->LowOK h h':=by
  intro a l u h h' v ho;rw[ak]at ho;obtain⟨_,h1,hq⟩:=ho;cases hq;exact Xs5 h1
 unfold Qjr at hv;simp only at hv
 repeat' (first | (cases hv;done) | (exact hst hv) | (cases hv;exact LowOK.push _ _) | (cases hv;exact LowOK.refl _) |
  (cases hv;exact(LowOK.set _ _ _ (Heap.get_lt (by assumption))).trans (LowOK.push _ _)) | split at hv)
def Z7j{E:Env P}{t:TypeId}{x v:Value}{h h':Heap}(hv:Yf0 E t x h=some (v,h')):LowOK h h':=by
 unfold Yf0 at hv
 repeat' (first | (cases hv;done) | (cases hv;exact LowOK.refl _) | (cases hv;exact LowOK.set _ _ _ (Heap.get_lt (by assumption))) | (rw[ak]at hv;obtain⟨_,h1,hq⟩:=hv;cases hq;exact Xs5 h1) | split at hv)
def Zv3{E:Env2 P}{b:Builtin}{ts:List TypeId}{args:List Value}{h:Heap}{r:Res}(hr:Q7 E b ts args h=some r):LowOK h r.heap:=by
 unfold Q7 at hr;split at hr
 ·obtain⟨v,_,rfl⟩:=Qez hr;exact LowOK.refl _
 ·obtain⟨v,_,rfl⟩:=Qez hr;exact LowOK.refl _
 ·obtain⟨v,h',hv,rfl⟩:=Qsm hr;exact Z3x hv
 ·obtain⟨v,h',hv,rfl⟩:=Qsm hr;unfold Ybj at hv
  repeat' (first | (cases hv;done) | (cases hv;exact LowOK.refl _) | (rw[ak]at hv;obtain⟨_,h1,hq⟩:=hv;cases hq;exact Xs5 h1) | split at hv)
 ·obtain⟨v,_,rfl⟩:=Qez hr;exact LowOK.refl _
 ·obtain⟨v,_,rfl⟩:=Qez hr;exact LowOK.refl _
 ·cases hr;exact LowOK.refl _
 ·obtain⟨v,h',hv,rfl⟩:=Qsm hr;unfold Ydq at hv
  repeat' (first | (cases hv;done) | (cases hv;exact LowOK.set _ _ _ (Heap.get_lt (by assumption))) | split at hv)
 ·obtain⟨v,h',hv,rfl⟩:=Qsm hr;exact Z7j hv
 ·cases hr
def Z8e{f:Value}{args:List Value}{h:Heap}{r:Res}(hr:Yr0 f args h=some r):LowOK h r.heap:=by
 unfold Yr0 at hr
 repeat' (first | (cases hr;done) | (cases hr;exact LowOK.refl _) | split at hr)
def Zdz{E:Env P}{t:TypeId}{m k x:Value}{h h':Heap}(hv:Qgc E t m k x h=some h'):LowOK h h':=by
 unfold Qgc at hv
 repeat' (first | (cases hv;done) | (cases hv;exact LowOK.set _ _ _ (Heap.get_lt (by assumption))) | split at hv)
def Zut{E:Env P}{t:TypeId}{hint:Option Value}{h h':Heap}{v:Value}(hv:Q3w E t hint h=some (v,h')):LowOK h h':=by
 unfold Q3w at hv
 repeat' (first | (cases hv;done) | (cases hv;exact LowOK.push _ _) | split at hv)
def Z8j{E:Env P}{t:TypeId}{x v:Value}{h h':Heap}(hv:Yqp E t x h=some (v,h')):LowOK h h':=by
 unfold Yqp at hv
 repeat' (first | (cases hv;done) | (cases hv;exact LowOK.push _ _) | split at hv)
def Yyx{it:Value}{isS:Bool}{h:Heap}{x:Value × Heap}(hx:x ∈ Qxn it isS h):LowOK h x.2:=by
 unfold Qxn at hx;split at hx
 ·rename_i r;split at hx
  ·rename_i hg;split at hx
   ·split at hx
    ·rw[aw]at hx;subst hx;exact LowOK.set _ _ _ (Heap.get_lt hg)
    ·rw[aw]at hx;subst hx;exact LowOK.refl _
   ·cases hx
  ·split at hx
   ·cases hx
   ·rw[aw]at hx;subst hx;exact LowOK.refl _
  ·rename_i hg;split at hx
   ·split at hx
    ·cases hx
    ·obtain⟨c,_,rfl⟩:=am.1 hx;cases c with
     | none=>exact LowOK.refl _
     | some e=>exact LowOK.set _ _ _ (Heap.get_lt hg)
   ·cases hx
  ·cases hx
 ·cases hx
def Jcl{it:Value}{isS:Bool}{v:Value}{h h':Heap}(hv:Z7a it isS h=some (v,h')):LowOK h h':=by
 unfold Z7a at hv;split at hv
 ·rename_i x hx;cases hv;exact Yyx (x:=(v,h')) (it:=it) (isS:=isS) (by rw[hx];simp)
 ·cases hv
def Z7m{x:ExtK}{l:List Value}{v:Value}{h h':Heap}(hv:Y2m x l h=some (v,h')):LowOK h h':=by
 unfold Y2m at hv
 repeat' (first | (cases hv;done) | (cases hv;exact LowOK.refl _) | (cases hv;exact LowOK.push _ _) | split at hv)
def Zor{E:Env P}{t:TypeId}{m k v:Value}{h h':Heap}(hv:Qpu E t m k h=some (v,h')):LowOK h h':=by
 unfold Qpu at hv
 repeat' (first | (cases hv;done) | (cases hv;exact LowOK.set _ _ _ (Heap.get_lt (by assumption))) | split at hv)
def Y0u{m st x:Value}{h h':Heap}(hv:Qir m st x h=some h'):LowOK h h':=by
 unfold Qir at hv
 repeat' (first | (cases hv;done) | (cases hv;exact LowOK.set _ _ _ (Heap.get_lt (by assumption))) | split at hv)
def Qxw {E : Env2 P} {t : Tm} {h : Heap} {o : Oper} {r : Res} (hr : aop E t h o = some r) : LowOK h r.heap := by
  unfold aop at hr;have k0 : ∀ {x : Option Value}, g0 h x = some r -> LowOK h r.heap := fun hx => by obtain ⟨v, _, rfl⟩ := Qez hx; exact LowOK.refl _
  repeat' (first | (cases hr; done) | (exact k0 hr) | (exact Zv3 hr) | (exact Z8e hr) | (cases hr; exact LowOK.refl _) |
    (obtain ⟨v, h', hv, rfl⟩ := Qsm hr
     first
      | exact Zgz hv
      | exact Zut hv
      | exact Z8j hv
      | exact Jcl hv
      | exact Zor hv
      | exact Z7m hv
      | (rcases Z88 hv with rfl | ⟨_, rfl⟩
         · exact LowOK.refl _
         · exact LowOK.push _ _)
      | (unfold Qbx at hv; split at hv <;> cases hv; exact LowOK.push _ _)
      | (unfold Zzo at hv; split at hv <;> cases hv; exact LowOK.push _ _)
      | (unfold W7 at hv; repeat' (first | (cases hv; done) | (rw [ak] at hv; obtain ⟨_, h1, hq⟩ := hv; cases hq; exact LowOK.push _ _) | split at hv))
      | (unfold Qpf at hv; repeat' (first | (cases hv; done) | (cases hv; exact LowOK.push _ _) | split at hv))) |
    (obtain ⟨h', hv, rfl⟩ := Ybp hr
     exact Zdz hv) |
    (obtain ⟨h', hv, rfl⟩ := Ybp hr
     exact Y0u hv) |
    (obtain ⟨h', hv, rfl⟩ := Ybp hr
     unfold Qbw at hv
     repeat' (first | (cases hv; done) | (unfold Yzu at hv; split at hv <;> first | exact Xs5 hv | cases hv) | split at hv)) |
    split at hr)
structure CallsLow (C:CallF):Prop where
 fn:∀ f args h r h',C.fn f args h=some (r,h')->LowOK h h'
 rnd:∀ f args h r h',C.rnd f args h=some (r,h')->LowOK h h'
def Zwr{E:Env2 P}{C:CallF}(hC:CallsLow C){rd:Option Nat}{o:Oper}{s s1:St}{e:Exit}(hs:Yjr E C rd o s=some (e,s1)):LowOK s.h s1.h:=by
 have hput:∀ (s:St) d v h,(s.put d v h).h=h:=fun s d v h=>by cases d <;> rfl
 unfold Yjr at hs;split at hs
 ·cases hs
 ·split at hs
  ·split at hs
   ·split at hs
    ·cases hs;rw[hput];exact LowOK.refl _
    ·cases hs
   ·cases hs
  ·split at hs
   ·rename_i v h hr;cases hs;rw[hput];exact Qxw hr
   ·rename_i h hr;cases hs;rw[hput];exact Qxw hr
   ·rename_i v h hr;cases hs;exact Qxw hr
   ·rename_i f args h hr;have h1:=Qxw hr;split at hs
    ·rename_i hc;cases hs;rw[hput];exact h1.trans (hC.fn _ _ _ _ _ hc)
    ·rename_i hc;cases hs;exact h1.trans (hC.fn _ _ _ _ _ hc)
    ·cases hs
   ·rename_i f args h hr;have h1:=Qxw hr;split at hs
    ·rename_i hc;cases hs;rw[hput];exact h1.trans (hC.rnd _ _ _ _ _ hc)
    ·rename_i hc;cases hs;exact h1.trans (hC.rnd _ _ _ _ _ hc)
    ·cases hs
   ·cases hs
end
def Qx4{P:Program}(E:Env2 P)(C:CallF)(o:Oper)(t:Tm)(h:Heap):Option (Value × Heap) :=
 match aop E t h o with
 | some (.val v h)=>some (v,h)
 | some (.skip h)=>some (Qt,h)
 | some (.enter f args h)=>match C.fn f args h with
  | some (.ret v,h')=>some (v,h')
  | _=>none
 | some (.round l args h)=>match C.rnd l args h with
  | some (.ret v,h')=>some (v,h')
  | _=>none
 | _=>none
def X1s{G:Bs}{t t':Tm}:∀ {l:List Operand},(∀ x ∈ l,aev G t x=aev G t' x)->evs G t l=evs G t' l
 | [],_=>rfl
 | x::l,h=>by simp only[evs,h x (by simp),X1s (l:=l) fun y hy=>h y (by simp[hy])]
def Yhd{G:Bs}{t t':Tm}:∀ {l:List (Nat × Operand)},(∀ x ∈ l.map (·.2),aev G t x=aev G t' x)->Qh G t l=Qh G t' l
 | [],_=>rfl
 | (i,x)::l,h=>by simp only[Qh,h x (by simp),Yhd (l:=l) fun y hy=>h y (by simp only[aE,ap];exact .inr hy)]
def Ygq{G:Bs}{t t':Tm}{x:Option Operand}(h:∀ y,x=some y->aev G t y=aev G t' y):evO G t x=evO G t' x:=by
 cases x with
 | none=>rfl
 | some y=>simp only[evO,h y rfl]
section
variable{P:Program}{Z:Ren}{h:Heap}{w:World}{a:Act}
def Jb5 (E : Env2 P) {t t' : Tm} (o : Oper) (hx : ∀ x ∈ o.op.operands, aev E.G t x = aev E.G t' x) (h : Heap) : aop E t h o = aop E t' h o := by
  unfold aop;split <;> first
    | rfl
    | (rename_i hop; rw [hop] at hx; simp only [Op.operands] at hx
       first
        | (rw [hx _ (by simp)]; done)
        | (rename_i a b; rw [hx a (by simp), hx b (by simp)]; done)
        | (rename_i a b _; rw [hx a (by simp), hx b (by simp)]; done)
        | (rename_i c a b; rw [hx c (by simp), hx a (by simp), hx b (by simp)]; done)
        | (rw [Yhd fun x hm => hx x (by simpa using hm)]; done)
        | (rw [X1s fun x hm => hx x (by simp at hm ⊢; exact .inl hm), X1s fun x hm => hx x (by simp at hm ⊢; exact .inr hm)]; done)
        | (rename_i r; rw [Ygq fun y hy => hx y (by subst hy; simp)]; done)
        | (rename_i m k v; rw [hx m (by simp), hx k (by simp), hx v (by simp)]; done)
        | (rename_i x lo hi mx
           rw [hx x (by simp), Ygq fun y hy => hx y (by subst hy; simp), Ygq fun y hy => hx y (by subst hy; simp), Ygq fun y hy => hx y (by subst hy; simp)]; done)
        | (rename_i c
           rw [X1s fun x hm => hx x (by simp only [Call.operands]; simp at hm ⊢; exact .inr hm)];split
           · rfl
           · split
             · rfl
             · rename_i f hf
               rw [hx f (by simp only [Call.operands,hf]; simp)]
             · rfl))
def Xpt(E:Env2 P)(C:CallF){t t':Tm}(o:Oper)(hx:∀ x ∈ o.op.operands,aev E.G t x=aev E.G t' x)(h:Heap):Qx4 E C o t h=Qx4 E C o t' h:=by
 unfold Qx4;rw[Jb5 E o hx h]
def X16{E:Env2 P}{C:CallF}(hC:CallsLow C){o:Oper}{t:Tm}{h h1:Heap}{v:Value}(hs:Qx4 E C o t h=some (v,h1)):LowOK h h1:=by
 unfold Qx4 at hs;split at hs
 ·rename_i hr;cases hs;exact Qxw hr
 ·rename_i hr;cases hs;exact Qxw hr
 ·rename_i hr;have h1:=Qxw hr;split at hs
  ·rename_i hc;cases hs;exact h1.trans (hC.fn _ _ _ _ _ hc)
  ·cases hs
 ·rename_i hr;have h1:=Qxw hr;split at hs
  ·rename_i hc;cases hs;exact h1.trans (hC.rnd _ _ _ _ _ hc)
  ·cases hs
 ·cases hs
def Ys(o:Oper):Bool:=match o.op with
 | .defer _=>false
 | _=>true
def Zn1(E:Env2 P){C:CallF}(hC:CallsSound P E.G C){rd:Option Nat}{β:Ren}{o:Oper}{t:Tm}{v:Value}{h1:Heap}(hd:Ys o=true)(hs:Qx4 E C o t h=some (v,h1))(H:HRel E.G Z h w)(ht:TRel Z t a.tmps)
  {next:Act->World->Prop} {Q:Exit->Act->World->Prop}
  (hn:∀ Z' w',Ext h.next Z Z'->Turn Z h w Z' h1 w'->HRel E.G Z' h1 w'->okV (dom Z') v->next (a.put o.dst (ren Z' v)) w') :
  o.wpIn (Qvk rd β) 0 P a w next Q:=by
 refine⟨fun f _=>Q0u rd β f,?_⟩;have hsem:o.semAt (Qvk rd β).round a.eval=execOp a.eval o:=dC _ _ _ (fun c hc=>by simp[Ys,hc]at hd);rw[hsem];unfold Qx4 at hs;split at hs
 ·rename_i hr;cases hs;obtain⟨Z',w',r1,r2,r3,r4,r5⟩:=Q00 E H ht hr;rw[r1];exact hn Z' w' r3 r5 r4 r2
 ·rename_i hr;cases hs;obtain⟨w',r1,r2,r3⟩:=Q00 E H ht hr;rw[r1];have:=hn Z w' (Ext.refl _ _) r3 r2 (by simp[Qt,okV,okA,okL]);have e:ren Z Qt=undef:=by simp[Qt,undef]
  rw[e]at this;exact this
 ·rename_i f args h0 hr;obtain⟨rfl,r1,r2⟩:=Q00 E H ht hr;split at hs
  ·rename_i v' h' hc;cases hs;rw[r1,dF];refine⟨by rw[Qrg];simp,Xfy ?_⟩;refine(hC.fn _ _ _ _ _ hc Z w H r2).mono ?_;rintro e' w' ⟨Z',r,h2,⟨rfl,rfl⟩,rfl,q1,q2,q3,q4⟩;exact hn Z' w' q2 q3 q4 q1
  ·cases hs
 ·rename_i l args h0 hr;obtain⟨rfl,k1,r2,st,pend,t',ps,as,bd,d,k2,fn,tmps,k3,r1⟩:=Q00 E H ht hr;split at hs
  ·rename_i v' h' hc;cases hs;rw[r1,dE];refine⟨by rw[Qrg];simp,?_⟩;refine(hC.rnd _ _ _ _ _ hc Z w β rd _ _ _ _ _ _ _ _ _ H k1 r2 k2 k3).mono ?_;rintro e' w' ⟨Z',r,h2,⟨rfl,rfl⟩,rfl,q1,q2,q3,q4⟩;exact hn Z' w' q2 q3 q4 q1
  ·cases hs
 ·cases hs
def Yq{P:Program}(E:Env2 P)(o:Oper):Bool:=match o.op with
 | .move _ | .assign _ | .pick .. | .build .. | .nilCheck _ | .binOp .. | .unOp .. | .sliceToArrayPointer .. | .makeInterface .. | .makeFunc .. | .fieldAddr .. | .field .. | .indexAddr .. | .index .. | .typeAssert .. | .extract .. => true
 | .convert src dst _=>Qy5 E.toEnv src dst
 | _=>false
def Y7b(E:Env2 P)(C:CallF){o:Oper}(hf:Yq E o=true){t:Tm}{h h1:Heap}{v:Value}(hs:Qx4 E C o t h=some (v,h1))(h':Heap):h1=h/\Qx4 E C o t h'=some (v,h'):=by
 have key:∀ r,aop E t h o=some r->∃ v,r=.val v h/\aop E t h' o=some (.val v h'):=by
  intro r hr;unfold Yq at hf;unfold aop at hr ⊢;split at hf <;> first
   | (cases hf;done)
   | skip
  all_goals
   rename_i hop;simp only[hop]at hr ⊢
   try simp only[hf]at hr ⊢
   first
   | (obtain⟨u,hu,rfl⟩:=Qez hr;exact⟨u,rfl,by simp only[g0,hu]⟩)
   | (split at hr <;> first
     | (cases hr;done)
     | (obtain⟨u,hu,rfl⟩:=Qez hr;refine⟨u,rfl,?_⟩;simp only[g0, *];done))
 unfold Qx4 at hs ⊢;cases hr:aop E t h o with
 | none=>simp[hr]at hs
 | some r =>
  obtain⟨u,rfl,hu⟩:=key r hr;rw[hr]at hs;simp only at hs;cases hs;exact⟨rfl,by rw[hu]⟩
def loadAt{P:Program}(E:Env2 P)(t:Tm)(o:Oper):Option Nat:=match o.op with
 | .load _ a=>match aev E.G t a with
  | some (.pointer (some a))=>some a.block
  | _=>none
 | .lookup _ x _ _=>match aev E.G t x with
  | some (.map (some b))=>some b
  | _=>none
 | _=>none
def Yl(o:Oper):Bool:=match o.op with
 | .load _ _=>true
 | .lookup .. => true
 | _=>false
def ldv{P:Program}(E:Env2 P)(t:Tm)(o:Oper)(h:Heap):Option Value:=match o.op with
 | .load ty a=>match aev E.G t a with
  | some x=>Qjm E.toEnv ty x h
  | none=>none
 | .lookup ty x k ok=>match aev E.G t x,aev E.G t k with
  | some a,some b=>Qjo E.toEnv ty a b ok h
  | _,_=>none
 | _=>none
def Zn9{h h':Heap}{a:Addr}(hg:h'.get a.block=h.get a.block)(n:Nat):cellsAt h' a n=cellsAt h a n:=by
 unfold cellsAt;rw[hg]
def Xdu{h h':Heap}{a:Addr}(hg:h'.get a.block=h.get a.block)(r:TyRec):Zlf r h' a=Zlf r h a:=by
 unfold Zlf;simp only[Zn9 hg]
def Ykq{E:Env2 P}{o:Oper}{t:Tm}(hl:Yl o=true)(hs:(!Yl o || (loadAt E t o).isSome)=true):(loadAt E t o).isSome=true:=by
 simpa[hl]using hs
def Yic(E:Env P){ty:TypeId}{k:Value}{ok:Bool}{b:Nat}{h h':Heap}(hg:h'.get b=h.get b):Qjo E ty (.map (some b)) k ok h'=Qjo E ty (.map (some b)) k ok h:=by
 have he:Q51 (.map (some b)) h'=Q51 (.map (some b)) h:=by simp only[Q51,hg]
 simp only[Qjo,he]
def Jof{E:Env2 P}{C:CallF}{o:Oper}{t:Tm}{v:Value}{h1:Heap}{b:Nat}(hl:loadAt E t o=some b)(hs:Qx4 E C o t h=some (v,h1)) :
  h1=h/\∀ h':Heap,h'.get b=h.get b->Qx4 E C o t h'=some (v,h'):=by
 unfold loadAt at hl;split at hl
 ·rename_i ty a hop;split at hl
  ·rename_i p ha;cases hl;simp only[Qx4,aop,hop,ha]at hs ⊢;cases hv:Qjm E.toEnv ty (.pointer (some p)) h with
   | none=>simp[hv,g0]at hs
   | some u =>
    simp only[hv,g0]at hs;cases hs;refine⟨rfl,fun h' hg => ?_⟩;have : Qjm E.toEnv ty (.pointer (some p)) h'=some v:=by
     rw[<- hv];unfold Qjm;split
     ·rename_i a r e1 e2;cases e1;exact Xdu hg _
     ·rfl
    simp only[this,g0]
  ·cases hl
 ·rename_i ty x k ok hop;split at hl
  ·rename_i m hx;cases hl;simp only[Qx4,aop,hop,hx]at hs ⊢;cases hk:aev E.G t k with
   | none=>simp[hk]at hs
   | some kv =>
    simp only[hk]at hs ⊢;cases hv:Qjo E.toEnv ty (.map (some b)) kv ok h with
    | none=>simp[hv,g0]at hs
    | some u =>
     simp only[hv,g0]at hs;cases hs;refine⟨rfl,fun h' hg => ?_⟩;rw[Yic E.toEnv hg,hv];rfl
  ·cases hl
 ·cases hl
def Zhg{G:Bs}{Z:Ren}{E:Env2 P}(hG:E.G=G)(H:HRel G Z h w){t:Tm}{tmps:Array Value}(ht:TRel Z t tmps){o:Oper}{b:Nat}(hl:loadAt E t o=some b):dom Z b:=by
 subst hG;unfold loadAt at hl;split at hl
 ·split at hl
  ·rename_i p ha;cases hl;have:=(Xvk (a:=⟨tmps,[]⟩) H ht ha).1;simp only[okV]at this;exact this.1
  ·cases hl
 ·split at hl
  ·rename_i m ha;cases hl;have:=(Xvk (a:=⟨tmps,[]⟩) H ht ha).1;simpa only[okV]using this
  ·cases hl
 ·cases hl
def Zhi{E:Env2 P}{C:CallF}{o:Oper}{t:Tm}(hl:Yl o=true)(h:Heap):Qx4 E C o t h=(ldv E t o h).map (fun v=>(v,h)):=by
 unfold Yl at hl;split at hl
 ·rename_i ty a hop;simp only[Qx4,aop,hop,ldv];cases aev E.G t a with
  | none=>rfl
  | some x =>
   simp only[g0];cases Qjm E.toEnv ty x h <;> rfl
 ·rename_i ty x k ok hop;simp only[Qx4,aop,hop,ldv];cases aev E.G t x with
  | none=>rfl
  | some a =>
   cases aev E.G t k with
   | none=>rfl
   | some b =>
    simp only[g0];cases Qjo E.toEnv ty a b ok h <;> rfl
 ·cases hl
def Yp4{E:Env2 P}{o:Oper}{t:Tm}{b:Nat}(hl:loadAt E t o=some b){h h':Heap}(hg:h'.get b=h.get b):ldv E t o h'=ldv E t o h:=by
 unfold loadAt at hl;split at hl
 ·rename_i ty a hop;split at hl
  ·rename_i ad hx;cases hl;simp only[ldv,hop,hx,Qjm];cases E.ty.get ty with
   | none=>rfl
   | some r=>exact Xdu hg r
  ·cases hl
 ·rename_i ty x k ok hop;split at hl
  ·rename_i m hx;cases hl;simp only[ldv,hop,hx];cases aev E.G t k with
   | none=>rfl
   | some kv=>exact Yic E.toEnv hg
  ·cases hl
 ·cases hl
def Jh2{E:Env2 P}{o:Oper}{t:Tm}{h h':Heap}(hg:∀ b,h'.get b=h.get b):ldv E t o h'=ldv E t o h:=by
 unfold ldv;split
 ·split
  ·simp only[Qjm];split
   ·exact Xdu (hg _) _
   ·rfl
  ·rfl
 ·split
  ·rename_i a b e1 e2;have he:Q51 a h'=Q51 a h:=by
    unfold Q51;split
    ·rfl
    ·rw[hg]
    ·rfl
   simp only[Qjo,he]
  ·rfl
 ·rfl
def Zvn{E:Env2 P}{t t':Tm}{o:Oper}(hx:∀ x ∈ o.op.operands,aev E.G t x=aev E.G t' x):loadAt E t o=loadAt E t' o:=by
 unfold loadAt;split
 ·rename_i ty a hop;rw[hop]at hx;simp only[Op.operands]at hx;rw[hx a (by simp)]
 ·rename_i ty x k ok hop;rw[hop]at hx;simp only[Op.operands]at hx;rw[hx x (by simp)]
 ·rfl
end
def Z19(B:List Nat):List Edge->Option Nat
 | []=>some 0
 | e::r=>match Z19 B r with
  | none=>none
  | some s=>if Region.binds .any e then(match nth B e.on with
   | some b=>some (s ||| 2 ^ e.on ||| b)
   | none=>none)else some s
def Q25:List Oper->List Nat->Option (List Nat)
 | [],B=>some B
 | o::r,B=>match Z19 B o.after.toList with
  | some b=>Q25 r (B ++ [b])
  | none=>none
def Jop(x:Nat):List Nat->Bool
 | []=>false
 | y::l=>x == y || Jop x l
def looks (ops : List Oper) (o : Oper) : List Tmp :=
  (o.op.operands.toList.filterMap fun | .tmp t => some t | _ => none) ++
  (match o.guard with
   | some (g, _) => match nth ops g with
     | some og => og.dst.toList
     | none => []
   | none => [])
def Yqw (ops : List Oper) (x y : Oper) : Bool :=
  (match x.dst with
   | some d => !Jop d (looks ops y) && !(match y.dst with | some c => d == c | none => false)
   | none => true) &&
  (match y.dst with
   | some d => !Jop d (looks ops x)
   | none => true)
def Jhd(ops:List Oper)(b:Nat)(oj:Oper):List Oper->Nat->Bool
 | [],_=>true
 | oi::r,i=>(b.testBit i || Yqw ops oi oj) && Jhd ops b oj r (i+1)
def Qa4(ops:List Oper):List Oper->List Nat->List Oper->Bool
 | o::r,b::B,past=>Jhd ops b o past 0 && Qa4 ops r B (past ++ [o])
 | [],[],_=>true
 | _,_,_=>false
def Uz{P:Program}(E:Env2 P)(j bj:Nat):List Oper->List Nat->Nat->Bool
 | o::r,b::B,i=>(Yq E o || Yl o || (if i < j then bj.testBit i else if i == j then true else b.testBit j)) && Uz E j bj r B (i+1)
 | _,_,_=>true
def Qdh(h:Heap):Heap:={h with low:=h.next}
def X78(h h1:Heap):Heap:={h1 with low:=min h.low h1.low}
inductive LRec where
 | ld (t:Tm) (o:Oper)
 | wr (h0 h1:Heap)
def Ypu{P:Program}(E:Env2 P)(s:St)(o:Oper)(h1:Heap):Option LRec :=
 if Yl o then some (.ld s.t o)else if Yq E o then none else if Nat.ble s.h.next h1.low then none else some (.wr s.h h1)
def X74:Option Addr->Option Addr->Bool
 | none,none=>true
 | some a,some b=>Nat.beq a.block b.block && Nat.beq a.off b.off && (match a.spot,b.spot with | none,none=>true | _,_=>false)
 | _,_=>false
def Jdg:Int->Int->Bool
 | .ofNat a,.ofNat b=>Nat.beq a b
 | .negSucc a,.negSucc b=>Nat.beq a b
 | _,_=>false
def Ylk:List UInt8->List UInt8->Bool
 | [],[]=>true
 | a::l,b::r=>Nat.beq a.toNat b.toNat && Ylk l r
 | _,_=>false
def Xf6:Value->Value->Bool
 | .bool a,.bool b=>a == b
 | .int k a,.int j b=>decide (k=j) && Jdg a b
 | .string a,.string b=>Ylk a.data.toList b.data.toList
 | .pointer a,.pointer b=>X74 a b
 | .slice a n c,.slice b m d=>X74 a b && Nat.beq n m && Nat.beq c d
 | .map none,.map none=>true
 | .map (some a),.map (some b)=>Nat.beq a b
 | .nilFunc,.nilFunc=>true
 | .nilIface,.nilIface=>true
 | _,_=>false
def Za5:List Value->List Value->Bool
 | [],[]=>true
 | a::l,b::r=>Xf6 a b && Za5 l r
 | _,_=>false
def Zfo:Value->Value->Bool
 | .agg a,.agg b=>Za5 a.toList b.toList
 | a,b=>Xf6 a b
def Zh2:List Value->List Value->Bool
 | [],[]=>true
 | a::l,b::r=>Zfo a b && Zh2 l r
 | _,_=>false
def Xzz:Option Value->Option Value->Bool
 | none,none=>true
 | some (.tuple a),some (.tuple b)=>Zh2 a.toList b.toList
 | some a,some b=>Zfo a b
 | _,_=>false
def Y1{P:Program}(E:Env2 P)(i bi:Nat)(h0 h1:Heap):List (Option LRec)->List Nat->Nat->Bool
 | some (.ld t o)::R,bk::Bs,k=>((if k < i then bi.testBit k else bk.testBit i) || Xzz (ldv E t o h1) (ldv E t o h0)) && Y1 E i bi h0 h1 R Bs (k+1)
 | _::R,_::Bs,k=>Y1 E i bi h0 h1 R Bs (k+1)
 | _,_,_=>true
def Yk{P:Program}(E:Env2 P)(R0:List (Option LRec))(B0:List Nat):List (Option LRec)->List Nat->Nat->Bool
 | some (.wr h0 h1)::R,bi::Bs,i=>Y1 E i bi h0 h1 R0 B0 0 && Yk E R0 B0 R Bs (i+1)
 | _::R,_::Bs,i=>Yk E R0 B0 R Bs (i+1)
 | _,_,_=>true
def Xlo{P:Program}(E:Env2 P)(ops:List Oper)(B:List Nat)(i:Nat)(o:Oper)(s:St)(h1:Heap):Bool :=
 (Yq E o || Nat.ble s.h.next h1.low || Yl o || Uz E i ((nth B i).getD 0) ops B 0) && (!Yl o || (loadAt E s.t o).isSome)
def Wj(x:Option LRec):Option (St × List (Option LRec))->Option (St × List (Option LRec))
 | some (s,R)=>some (s,x::R)
 | none=>none
def Zt0{P:Program}(E:Env2 P)(C:CallF)(ops:List Oper)(B:List Nat):List Oper->Nat->St->Option (St × List (Option LRec))
 | [],_,s=>some (s,[])
 | o::r,i,s =>
  if !(Qoy s o.dst && Ys o)then none else
  match Qg ops s.t o with
  | some false=>Wj none (Zt0 E C ops B r (i+1) (s.put o.dst Qt s.h))
  | some true=>match Qx4 E C o s.t (Qdh s.h)with
   | some (v,h1) =>
    if Xlo E ops B i o s h1 then Wj (Ypu E s o h1) (Zt0 E C ops B r (i+1) (s.put o.dst v (X78 s.h h1)))
    else none
   | none=>none
  | none=>none
def Ybv{P:Program}(E:Env2 P)(C:CallF)(ops:List Oper)(s:St):Option St :=
 match Q25 ops []with
 | some B=>if Qa4 ops ops B []then(match Zt0 E C ops B ops 0 s with
  | some (s1,R)=>if Yk E R B R B 0 then some s1 else none
  | none=>none)else none
 | none=>none
def Zrg{a b:Option Addr}(h:X74 a b=true):a=b:=by
 unfold X74 at h;split at h
 ·rfl
 ·rename_i a b;obtain⟨b1,o1,s1⟩:=a;obtain⟨b2,o2,s2⟩:=b;simp only[ao]at h;obtain⟨⟨h1,h2⟩,h3⟩:=h;have e1:=aK h1;have e2:=aK h2;subst e1;subst e2;cases s1 <;> cases s2 <;> first | rfl | simp at h3
 ·cases h
def Jiu{a b:Int}(h:Jdg a b=true):a=b:=by
 unfold Jdg at h;split at h
 ·rw[aK h]
 ·rw[aK h]
 ·cases h
def Zhk:∀ {a b:List UInt8},Ylk a b=true->a=b
 | [],[],_=>rfl
 | a::l,b::r,h=>by
  simp only[Ylk,ao]at h;rw[dR.1 (aK h.1),Zhk h.2]
 | [],_::_,h=>by simp[Ylk]at h
 | _::_,[],h=>by simp[Ylk]at h
def Zxh{a b:Value}(h:Xf6 a b=true):a=b:=by
 unfold Xf6 at h;split at h
 ·rw[eq_of_beq h]
 ·simp only[ao,decide_eq_true_eq]at h;rw[h.1,Jiu h.2]
 ·rename_i a b;have:=Zhk h;cases a;cases b;congr 2;exact bu this
 ·rw[Zrg h]
 ·simp only[ao]at h;rw[Zrg h.1.1,aK h.1.2,aK h.2]
 ·rfl
 ·rw[aK h]
 ·rfl
 ·rfl
 ·cases h
def Z6h:∀ {a b:List Value},Za5 a b=true->a=b
 | [],[],_=>rfl
 | a::l,b::r,h=>by
  simp only[Za5,ao]at h;rw[Zxh h.1,Z6h h.2]
 | [],_::_,h=>by simp[Za5]at h
 | _::_,[],h=>by simp[Za5]at h
def Z6w{a b:Value}(h:Zfo a b=true):a=b:=by
 unfold Zfo at h;split at h
 ·rw[bu (Z6h h)]
 ·exact Zxh h
def Zuc:∀ {a b:List Value},Zh2 a b=true->a=b
 | [],[],_=>rfl
 | a::l,b::r,h=>by
  simp only[Zh2,ao]at h;rw[Z6w h.1,Zuc h.2]
 | [],_::_,h=>by simp[Zh2]at h
 | _::_,[],h=>by simp[Zh2]at h
def Jh5{a b:Option Value}(h:Xzz a b=true):a=b:=by
 unfold Xzz at h;split at h
 ·rfl
 ·rw[bu (Zuc h)]
 ·rw[Z6w h]
 ·cases h
def Zml{x:Nat}:∀ {l:List Nat},Jop x l=true↔x ∈ l
 | []=>by simp[Jop]
 | y::l=>by simp[Jop,Zml (l:=l)]
def Zh5{B:List Nat}:∀ {es:List Edge} {s:Nat},Z19 B es=some s->∀ e ∈ es,Region.binds .any e=true->∃ b,B[e.on]? = some b
 | [],_,_,e,he,_=>by simp at he
 | e0::r,s,h,e,he,hb=>by
  simp only[Z19]at h;split at h
  ·cases h
  ·rename_i s0 hs0;rcases ap.1 he with rfl | he
   ·rw[if_pos hb]at h;rw[Xv5]at h;split at h
    ·rename_i b hb';exact⟨b,hb'⟩
    ·cases h
   ·exact Zh5 hs0 e he hb
def Zh0{B:List Nat}:∀ {es:List Edge} {s:Nat},Z19 B es=some s->∀ i,s.testBit i=true->∃ e ∈ es,Region.binds .any e=true/\(i=e.on ∨ ∃ b,B[e.on]? = some b/\b.testBit i=true)
 | [],s,h,i,hi=>by simp[Z19]at h;subst h;simp at hi
 | e0::r,s,h,i,hi=>by
  simp only[Z19]at h;split at h
  ·cases h
  ·rename_i s0 hs0;have ih:=Zh0 hs0 i;split at h
   ·rename_i hb;rw[Xv5]at h;split at h
    ·rename_i b hb';cases h;simp only[Nat.testBit_or,bM,Nat.testBit_two_pow]at hi;rcases hi with(hi | hi) | hi
     ·obtain⟨e,h1,h2⟩:=ih hi;exact⟨e,aN _ h1,h2⟩
     ·simp only[decide_eq_true_eq]at hi;exact⟨e0,bo,hb,.inl hi.symm⟩
     ·exact⟨e0,bo,hb,.inr ⟨b,hb',hi⟩⟩
    ·cases h
   ·cases h;obtain⟨e,h1,h2⟩:=ih hi;exact⟨e,aN _ h1,h2⟩
structure BefOk (ops:List Oper) (B:List Nat):Prop where
 len:B.length=ops.length
 on:∀ (j:Nat) (o:Oper),ops[j]? = some o->∀ e ∈ o.after.toList,Region.binds .any e=true->e.on < j
 bits:∀ (j:Nat) (o:Oper) (b:Nat),ops[j]? = some o->B[j]? = some b->∀ i,b.testBit i=true->∃ e ∈ o.after.toList,Region.binds .any e=true/\(i=e.on ∨ ∃ b',B[e.on]? = some b'/\b'.testBit i=true)
def Yzr:∀ (r past:List Oper) (B0 B:List Nat),Q25 r B0=some B->BefOk past B0->BefOk (past++r) B
 | [],past,B0,B,h,hp=>by simp only[Q25,ar]at h;subst h;simpa using hp
 | o::r,past,B0,B,h,hp=>by
  simp only[Q25]at h;split at h
  ·rename_i b hb;have:=Yzr r (past ++ [o]) (B0 ++ [b]) B h ⟨by simp[hp.len],?_,?_⟩
   ·simpa using this
   ·intro j oj hj e he hbd;by_cases hlt:j < past.length
    ·rw[List.getElem?_append_left hlt]at hj;exact hp.on j oj hj e he hbd
    ·have hj':j=past.length:=by
      have : j < (past ++ [o]).length:=by
       rcases aU j (past ++ [o]).length with h | h
       ·exact h
       ·rw[List.getElem?_eq_none h]at hj;cases hj
      simp at this;omega
     subst hj';simp at hj;subst hj;obtain⟨b',hb'⟩:=Zh5 hb e he hbd;have : e.on < B0.length:=by
      rcases aU e.on B0.length with h | h
      ·exact h
      ·rw[List.getElem?_eq_none h]at hb';cases hb'
     rw[hp.len]at this;exact this
   ·intro j oj bj hj hbj i hi;by_cases hlt:j < past.length
    ·rw[List.getElem?_append_left hlt]at hj;rw[List.getElem?_append_left (by rw[hp.len];exact hlt)]at hbj;obtain⟨e,h1,h2,h3⟩:=hp.bits j oj bj hj hbj i hi;refine⟨e,h1,h2,h3.imp id ?_⟩;rintro⟨b',h4,h5⟩;have : e.on < B0.length:=by
      rcases aU e.on B0.length with h | h
      ·exact h
      ·rw[List.getElem?_eq_none h]at h4;cases h4
     exact⟨b',by rw[List.getElem?_append_left this];exact h4,h5⟩
    ·have hj':j=past.length:=by
      have : j < (past ++ [o]).length:=by
       rcases aU j (past ++ [o]).length with h | h
       ·exact h
       ·rw[List.getElem?_eq_none h]at hj;cases hj
      simp at this;omega
     subst hj';simp at hj;subst hj;have hbj':bj=b:=by
      rw[<- hp.len]at hbj;simpa using hbj.symm
     subst hbj';obtain⟨e,h1,h2,h3⟩:=Zh0 hb i hi;refine⟨e,h1,h2,h3.imp id ?_⟩;rintro⟨b',h4,h5⟩;have : e.on < B0.length:=by
      rcases aU e.on B0.length with h | h
      ·exact h
      ·rw[List.getElem?_eq_none h]at h4;cases h4
     exact⟨b',by rw[List.getElem?_append_left this];exact h4,h5⟩
  ·cases h
def Zhv{ops:List Oper}{b:Nat}{oj:Oper}:∀ {l:List Oper} {i:Nat},Jhd ops b oj l i=true->∀ (k:Nat) (o:Oper),l[k]? = some o->b.testBit (i+k)=true∨Yqw ops o oj=true
 | [],_,_,k,o,ho=>by simp at ho
 | o0::r,i,h,k,o,ho=>by
  simp only[Jhd,ao,bM]at h;cases k with
  | zero=>simp at ho;subst ho;exact h.1
  | succ k =>
   simp at ho;have:=Zhv h.2 k o ho;rwa [show i+1+k=i+(k+1) by omega]at this
def Xxn{ops:List Oper}:∀ {r:List Oper} {B:List Nat} {past:List Oper},Qa4 ops r B past=true ->
  ∀ (k:Nat) (o:Oper) (b:Nat),r[k]? = some o->B[k]? = some b->∀ (i:Nat) (oi:Oper),i < past.length+k->(past++r)[i]? = some oi->b.testBit i=true∨Yqw ops oi o=true
 | [],B,past,_,k,o,b,ho,_,_,_,_,_=>by simp at ho
 | o0::r,[],past,h,_,_,_,_,_,_,_,_,_=>by simp[Qa4]at h
 | o0::r,b0::B,past,h,k,o,b,ho,hb,i,oi,hi,hoi=>by
  simp only[Qa4,ao]at h;cases k with
  | zero =>
   simp at ho hb;subst ho;subst hb;simp only[bX]at hi;rw[List.getElem?_append_left hi]at hoi;have:=Zhv h.1 i oi hoi;rwa [ba]at this
  | succ k =>
   simp at ho hb;refine Xxn h.2 k o b ho hb i oi (by simp;omega) ?_;rw[aM];exact hoi
def Yrj{P:Program}{E:Env2 P}{j bj:Nat}:∀ {l:List Oper} {B:List Nat} {i:Nat},Uz E j bj l B i=true->∀ (k:Nat) (o:Oper) (b:Nat),l[k]? = some o->B[k]? = some b ->
  Yq E o=true∨Yl o=true∨i+k=j∨(i+k < j/\bj.testBit (i+k)=true)∨(j < i+k/\b.testBit j=true)
 | [],_,_,_,k,o,_,ho,_=>by simp at ho
 | _::_,[],_,_,k,_,_,_,hb=>by simp at hb
 | o0::r,b0::B,i,h,k,o,b,ho,hb=>by
  simp only[Uz,ao,bM]at h;cases k with
  | zero =>
   simp at ho hb;subst ho;subst hb;rcases h.1 with(h1 | h1) | h1
   ·exact .inl h1
   ·exact .inr (.inl h1)
   ·split at h1
    ·rename_i hlt;exact .inr (.inr (.inr (.inl ⟨by simpa using hlt,by simpa using h1⟩)))
    ·rename_i hge;split at h1
     ·rename_i heq;exact .inr (.inr (.inl (by simpa using heq)))
     ·rename_i hne;have : i≠j:=(by simpa using hne);exact .inr (.inr (.inr (.inr ⟨by omega,by simpa using h1⟩)))
  | succ k =>
   simp at ho hb;have:=Yrj h.2 k o b ho hb;rwa [show i+1+k=i+(k+1) by omega]at this
def Yke{P:Program}{E:Env2 P}{i bi:Nat}{h0 h1:Heap}:∀ {R:List (Option LRec)} {Bs:List Nat} {k0:Nat},Y1 E i bi h0 h1 R Bs k0=true->∀ (k:Nat) (t:Tm) (o:Oper) (bk:Nat),R[k]? = some (some (.ld t o))->Bs[k]? = some bk ->
  ldv E t o h1=ldv E t o h0∨(k0+k < i/\bi.testBit (k0+k)=true)∨(i<=k0+k/\bk.testBit i=true)
 | [],_,_,_,k,t,o,bk,hr,_=>by simp at hr
 | r::R,[],_,_,k,t,o,bk,_,hb=>by simp at hb
 | r::R,b::Bs,k0,h,k,t,o,bk,hr,hb=>by
  cases k with
  | zero =>
   simp only[List.getElem?_cons_zero,ar]at hr hb;subst hr;subst hb;simp only[Y1,ao,bM]at h;rcases h.1 with h2 | h2
   ·split at h2
    ·exact .inr (.inl ⟨by simpa,by simpa using h2⟩)
    ·exact .inr (.inr ⟨by simp;omega,h2⟩)
   ·exact .inl (Jh5 h2)
  | succ k =>
   have hrec:Y1 E i bi h0 h1 R Bs (k0+1)=true:=by
    unfold Y1 at h;split at h
    ·rename_i e1 e2;cases e1;cases e2;simp only[ao]at h;exact h.2
    ·rename_i e1 e2;cases e1;cases e2;exact h
    ·rename_i hne;first | exact(hne _ _ _ _ rfl rfl).elim | rfl
   have:=Yke hrec k t o bk (by simpa using hr) (by simpa using hb);rw[show k0+1+k=k0+(k+1)from by omega]at this;exact this
def Yqv{P:Program}{E:Env2 P}{R0:List (Option LRec)}{B0:List Nat}:∀ {R:List (Option LRec)} {Bs:List Nat} {i0:Nat},Yk E R0 B0 R Bs i0=true->∀ (i:Nat) (h0 h1:Heap) (bi:Nat),R[i]? = some (some (.wr h0 h1))->Bs[i]? = some bi->Y1 E (i0+i) bi h0 h1 R0 B0 0=true
 | [],_,_,_,i,h0,h1,bi,hr,_=>by simp at hr
 | r::R,[],_,_,i,h0,h1,bi,_,hb=>by simp at hb
 | r::R,b::Bs,i0,h,i,h0,h1,bi,hr,hb=>by
  cases i with
  | zero =>
   simp only[List.getElem?_cons_zero,ar]at hr hb;subst hr;subst hb;simp only[Yk,ao]at h;exact h.1
  | succ i =>
   have hrec:Yk E R0 B0 R Bs (i0+1)=true:=by
    unfold Yk at h;split at h
    ·rename_i e1 e2;cases e1;cases e2;simp only[ao]at h;exact h.2
    ·rename_i e1 e2;cases e1;cases e2;exact h
    ·rename_i hne;first | exact(hne _ _ _ _ rfl rfl).elim | rfl
   have:=Yqv hrec i h0 h1 bi (by simpa using hr) (by simpa using hb);rwa [show i0+1+i=i0+(i+1)from by omega]at this
mutual
def okV_and{D E:Nat->Prop}:(v:Value)->okV D v->okV E v->okV (fun b=>D b/\E b) v
 | .pointer (some a),h,k=>by simp only[okV]at h k ⊢;exact⟨⟨h.1,k.1⟩,h.2⟩
 | .pointer none,_,_=>by simp[okV]
 | .slice (some a) _ _,h,k=>by simp only[okV]at h k ⊢;exact⟨⟨h.1,k.1⟩,h.2⟩
 | .slice none _ _,h,_=>by simpa only[okV]using h
 | .map (some r),h,k=>by simp only[okV]at h k ⊢;exact⟨h,k⟩
 | .map none,_,_=>by simp[okV]
 | .chan (some _),h,_=>by simp[okV]at h
 | .chan none,_,_=>by simp[okV]
 | .func fn f c,h,k=>by
  cases fn <;> simp only[okV]at h k ⊢ <;>
   first
    | exact⟨okA_and f h.1 k.1,okA_and c h.2 k.2⟩
    | exact⟨⟨h.1,k.1⟩,okA_and f h.2.1 k.2.1,okA_and c h.2.2 k.2.2⟩
 | .iface _ v,h,k=>by simp only[okV]at h k ⊢;exact okV_and v h k
 | .agg cs,h,k=>by simp only[okV]at h k ⊢;exact⟨okA_and cs h.1 k.1,h.2⟩
 | .tuple cs,h,k=>by simp only[okV]at h k ⊢;exact okA_and cs h k
 | .bool _,_,_=>by simp[okV]
 | .int _ _,_,_=>by simp[okV]
 | .float _ _,_,_=>by simp[okV]
 | .complex _ _ _,_,_=>by simp[okV]
 | .string _,_,_=>by simp[okV]
 | .nilFunc,_,_=>by simp[okV]
 | .nilIface,_,_=>by simp[okV]
def okA_and{D E:Nat->Prop}:(v:Array Value)->okA D v->okA E v->okA (fun b=>D b/\E b) v
 | ⟨l⟩,h,k=>by simp only[okA]at h k ⊢;exact okL_and l h k
def okL_and{D E:Nat->Prop}:(v:List Value)->okL D v->okL E v->okL (fun b=>D b/\E b) v
 | [],_,_=>by simp[okL]
 | v::l,h,k=>by simp only[okL]at h k ⊢;exact⟨okV_and v h.1 k.1,okL_and l h.2 k.2⟩
end
def Jnr{D E:Nat->Prop}{x:Blk}(h:okB D x)(k:okB E x):okB (fun b=>D b/\E b) x:=by
 cases x with
 | cells o z c=>exact fun v hv=>⟨okV_and v (h v hv).1 (k v hv).1,(h v hv).2⟩
 | map es c=>exact fun e he=>⟨(h e he).1,okV_and _ (h e he).2 (k e he).2⟩
 | obj o =>
  cases o with
  | loop st pend t ps as bd d=>exact⟨fun i v hv=>okV_and v (h.1 i v hv) (k.1 i v hv),h.2,k.2⟩
  | defs=>trivial
  | strIter b n=>trivial
  | mapIter m since seen last=>exact fun b hb=>⟨h b hb,k b hb⟩
  | any=>trivial
def Fits.keepD{Z β:Ren}{p:Place}{w w':World}{x:Blk}{D:Nat->Prop}(hf:Fits Z p w x)(hx:Go.Ab.okB D x)(h:∀ b,D b->β b=Z b)(hD:∀ b,D b->dom Z b)(hw:w'.heap[p.blk]? = w.heap[p.blk]?):Fits β p w' x:=by
 have hd:∀ b,D b->dom β b:=fun b hb=>by have:=hD b hb;simpa[dom,h b hb]using this
 cases x with
 | cells own sz c =>
  obtain⟨hsz,hf⟩:=hf;rcases hf with hf | ⟨C,e,lo,hi,h1,h2,h3⟩
  ·exact⟨hsz,.inl hf⟩
  refine⟨hsz,.inr ⟨C,e,lo,hi,by rw[hw,h1],fun i v hv => ?_,h3⟩⟩;have hv':=(hx v (List.mem_of_getElem? hv)).1;obtain⟨a1,_,a3⟩:=h2 i v hv;exact⟨by rw[a1,ren_congr h v hv'],okV_mono hd v hv',a3⟩
 | map es clk =>
  obtain⟨h0,h1,h2⟩:=hf;refine⟨h0,?_,fun e he=>⟨(h2 e he).1,okV_mono hd _ (hx e he).2⟩⟩;rw[hw,h1];congr 2;apply cZ;intro e he;exact(Ypp h (h2 e he).1 (hx e he).2).symm
 | obj o =>
  obtain⟨h0,o',h1,h2⟩:=hf;refine⟨h0,o',by rw[hw,h1],?_⟩;cases o with
  | loop st pend t ps as bd d =>
   obtain⟨h3,fn,tmps,h4,h5⟩:=h2;exact⟨hd d hx.2,fn,tmps,by rw[h4,Qc5 (h d hx.2)],h5.size,fun i v hv=>⟨okV_mono hd v (hx.1 i v hv),by rw[(h5.vals i v hv).2,ren_congr h v (hx.1 i v hv)]⟩⟩
  | defs=>exact h2
  | strIter b n=>exact h2
  | mapIter m since seen last =>
   obtain⟨h3,h4⟩:=h2;refine⟨fun b hb=>hd b (hx b hb),?_⟩;rw[h4];cases m with
   | none=>rfl
   | some b=>simp only[ax,Qc5 (h b (hx b rfl))]
  | any=>trivial
def Ren.below(Z:Ren)(n:Nat):Ren:=fun b=>if b < n then Z b else none
section
variable{P:Program}{G:Bs}{Z:Ren}{h:Heap}{w:World}
def HRel.restrict(H:HRel G Z h w){h':Heap}(hn:G.n<=h'.next)(hg:∀ b,Go.Ab.dom Z b->b < h'.next->h'.get b=h.get b)(hwf:∀ b x,h'.get b=some x->okB (fun c=>c < h'.next) x):HRel G (Ren.below Z h'.next) h' w:=by
 have hb:∀ b p,Ren.below Z h'.next b=some p->b < h'.next/\Z b=some p:=by
  intro b p hp;unfold Ren.below at hp;split at hp
  ·exact⟨by assumption,hp⟩
  ·cases hp
 refine⟨fun b p hp=>⟨(hb b p hp).1,(H.dom b p (hb b p hp).2).2⟩,fun b p x hp hx => ?_,fun b c p q hp hq hne ho hl => ?_,fun g hg' => ?_,hn,hwf,fun b p x hp hx => ?_,H.bsz⟩
 ·obtain⟨h1,h2⟩:=hb b p hp;have hx':h.get b=some x:=by rw[<- hg b (Qw5 h2) h1];exact hx
  have hf:=H.fits b p x h2 hx';refine hf.keepD (Jnr hf.okB (hwf b x hx)) (fun c hc => ?_) (fun c hc=>hc.1) rfl;unfold Ren.below;rw[if_pos hc.2]
 ·obtain⟨h1,h2⟩:=hb b p hp;obtain⟨h3,h4⟩:=hb c q hq;exact H.apart b c p q h2 h4 hne (by rw[<- Qpw (hg b (Qw5 h2) h1)];exact ho) (by rw[<- Ypy (hg c (Qw5 h4) h3)];exact hl)
 ·have hlt:g < h'.next:=by omega
  refine⟨by unfold Ren.below;rw[if_pos hlt];exact(H.glob g hg').1,?_⟩;rw[Qpw (hg g (Qw5 (H.glob g hg').1) hlt)];exact(H.glob g hg').2
 ·obtain⟨h1,h2⟩:=hb b p hp;exact H.base b p x h2 (by rw[<- hg b (Qw5 h2) h1];exact hx)
def Zu3(E:Env2 P){C:CallF}(hC:CallsSound P E.G C){o:Oper}{t:Tm}{a:Act}{v:Value}{h1:Heap}(hs:Qx4 E C o t h=some (v,h1))(H:HRel E.G Z h w)(ht:TRel Z t a.tmps) :
  ∃ Z' w',Ext h.next Z Z'/\HRel E.G Z' h1 w'/\okV (dom Z') v:=by
 unfold Qx4 at hs;split at hs
 ·rename_i hr;cases hs;obtain⟨Z',w',r1,r2,r3,r4,r5⟩:=Q00 E H ht hr;exact⟨Z',w',r3,r4,r2⟩
 ·rename_i hr;cases hs;obtain⟨w',r1,r2,r3⟩:=Q00 E H ht hr;exact⟨Z,w',Ext.refl _ _,r2,by simp[Qt,okV,okA,okL]⟩
 ·rename_i f args h0 hr;obtain⟨rfl,r1,r2⟩:=Q00 E H ht hr;split at hs
  ·rename_i v' h' hc;cases hs;obtain⟨e,w',fr,⟨Z',r,h2,⟨rfl,rfl⟩,_,q1,q2,q3,q4⟩,_⟩:=(hC.fn _ _ _ _ _ hc Z w H r2).2 [] (room_wide _);exact⟨Z',w',q2,q4,q1⟩
  ·cases hs
 ·rename_i l args h0 hr;obtain⟨rfl,k1,r2,st,pend,t',ps,as,bd,d,k2,fn,tmps,k3,r1⟩:=Q00 E H ht hr;split at hs
  ·rename_i v' h' hc;cases hs;obtain⟨_,hround⟩:=hC.rnd _ _ _ _ _ hc Z w Z none st pend t' ps as bd d fn tmps H k1 r2 k2 k3;obtain⟨e,w',⟨Z',r,h2,⟨rfl,rfl⟩,_,q1,q2,q3,q4⟩,_⟩:=hround default [] (room_wide _);exact⟨Z',w',q2,q4,q1⟩
  ·cases hs
 ·cases hs
end
def Jbe{P:Program}(E:Env2 P)(C:CallF)(ops:List Oper)(B:List Nat)(i:Nat)(o:Oper)(s s':St):Prop :=
 Qoy s o.dst=true/\Ys o=true/\((Qg ops s.t o=some false/\s'=s.put o.dst Qt s.h) ∨
  (Qg ops s.t o=some true/\∃ v h1,Qx4 E C o s.t (Qdh s.h)=some (v,h1)/\s'=s.put o.dst v (X78 s.h h1)/\Xlo E ops B i o s h1=true))
def Yos{x:Option LRec}{r:Option (St × List (Option LRec))}{s:St}{R:List (Option LRec)}(h:Wj x r=some (s,R)):∃ R',r=some (s,R')/\R=x::R':=by
 unfold Wj at h;split at h
 ·cases h;exact⟨_,rfl,rfl⟩
 ·cases h
def Jpc{P:Program}(E:Env2 P)(C:CallF)(ops:List Oper)(o:Oper)(s s':St)(x:Option LRec):Prop :=
 (Qg ops s.t o=some false/\x=none)∨(Qg ops s.t o=some true/\∃ v h1,Qx4 E C o s.t (Qdh s.h)=some (v,h1)/\s'=s.put o.dst v (X78 s.h h1)/\x=Ypu E s o h1)
def Yck{P:Program}{E:Env2 P}{C:CallF}{ops:List Oper}{B:List Nat}:∀ (r:List Oper) (i:Nat) (s s1:St) (R:List (Option LRec)),Zt0 E C ops B r i s=some (s1,R) ->
  ∃ σ:Nat->St,σ i=s/\σ (i+r.length)=s1/\(∀ k o,r[k]? = some o->Jbe E C ops B (i+k) o (σ (i+k)) (σ (i+k+1)))/\∀ k o,r[k]? = some o->∃ x,R[k]? = some x/\Jpc E C ops o (σ (i+k)) (σ (i+k+1)) x
 | [],i,s,s1,R,h=>by
  simp only[Zt0,ar,bG]at h;exact⟨fun _=>s,rfl,h.1,fun k o ho=>by simp at ho,fun k o ho=>by simp at ho⟩
 | o0::r,i,s,s1,R,h=>by
  have key:∀ s' x,Jbe E C ops B i o0 s s'->Jpc E C ops o0 s s' x->Wj x (Zt0 E C ops B r (i+1) s')=some (s1,R) ->
    ∃ σ:Nat->St,σ i=s/\σ (i+(o0::r).length)=s1/\(∀ k o,(o0::r)[k]? = some o->Jbe E C ops B (i+k) o (σ (i+k)) (σ (i+k+1)))/\∀ k o,(o0::r)[k]? = some o->∃ x,R[k]? = some x/\Jpc E C ops o (σ (i+k)) (σ (i+k+1)) x:=by
   intro s' x hst hx hrun;obtain⟨R',hrun',rfl⟩:=Yos hrun;obtain⟨σ,e1,e2,e3,e4⟩:=Yck r (i+1) s' s1 R' hrun';refine⟨fun j=>if j=i then s else σ j,by simp,?_,?_,?_⟩
   ·simp only[aS];rw[if_neg (by omega),show i+(r.length+1)=i+1+r.length by omega];exact e2
   ·intro k o ho;cases k with
    | zero =>
     simp at ho;subst ho;simp only[bX,if_true];rw[if_neg (by omega),e1];exact hst
    | succ k =>
     simp at ho;show Jbe E C ops B (i+(k+1)) o (if i+(k+1)=i then s else σ (i+(k+1))) (if i+(k+1)+1=i then s else σ (i+(k+1)+1));rw[if_neg (by omega),if_neg (by omega)];have:=e3 k o ho;rwa [show i+1+k=i+(k+1) by omega]at this
   ·intro k o ho;cases k with
    | zero =>
     simp at ho;subst ho;refine⟨x,rfl,?_⟩;simp only[bX,if_true];rw[if_neg (by omega),e1];exact hx
    | succ k =>
     simp at ho;obtain⟨y,h1,h2⟩:=e4 k o ho;refine⟨y,h1,?_⟩;show Jpc E C ops o (if i+(k+1)=i then s else σ (i+(k+1))) (if i+(k+1)+1=i then s else σ (i+(k+1)+1)) y;rw[if_neg (by omega),if_neg (by omega)];rwa [show i+1+k=i+(k+1) by omega]at h2
  simp only[Zt0]at h;split at h
  ·cases h
  ·rename_i hc;simp only[bS,da,ao]at hc;split at h
   ·rename_i hw;exact key _ _ ⟨hc.1,hc.2,.inl ⟨hw,rfl⟩⟩ (.inl ⟨hw,rfl⟩) h
   ·rename_i hw;split at h
    ·rename_i v h1 hv;split at h
     ·rename_i hq;exact key _ _ ⟨hc.1,hc.2,.inr ⟨hw,v,h1,hv,rfl,hq⟩⟩ (.inr ⟨hw,v,h1,hv,rfl,rfl⟩) h
     ·cases h
    ·cases h
   ·cases h
structure Canon {P:Program} (E:Env2 P) (C:CallF) (ops:Array Oper) (B:List Nat) (σ:Nat->St):Prop where
 bef:BefOk ops.toList B
 pairs:∀ (j i:Nat) (oj oi:Oper) (b:Nat),ops[j]? = some oj->ops[i]? = some oi->B[j]? = some b->i < j->b.testBit i=true∨Yqw ops.toList oi oj=true
 step:∀ (i:Nat) (o:Oper),ops[i]? = some o->Jbe E C ops.toList B i o (σ i) (σ (i+1))
 cross:∃ R:List (Option LRec),Yk E R B R B 0=true/\∀ (k:Nat) (o:Oper),ops[k]? = some o->∃ x,R[k]? = some x/\Jpc E C ops.toList o (σ k) (σ (k+1)) x
section
variable{P:Program}{E:Env2 P}{C:CallF}{ops:Array Oper}{B:List Nat}{σ:Nat->St}
def Zmo(E:Env2 P)(ops:Array Oper)(σ:Nat->St)(i:Nat):Prop:=∃ o,ops[i]? = some o/\(Yq E o=true∨Qg ops.toList (σ i).t o=some false∨(loadAt E (σ i).t o).isSome=true)
def Qyz(s:St)(d:Option Tmp)(v:Value)(h:Heap):(s.put d v h).h=h:=by cases d <;> rfl
def Jks(s:St)(d:Option Tmp)(v:Value)(h:Heap):(s.put d v h).ds=s.ds:=by cases d <;> rfl
def Z62(s:St)(d:Option Tmp)(v:Value)(h:Heap):(s.put d v h).t.size=s.t.size:=by cases d <;> rfl
def Z2j(s:St)(d:Option Tmp)(v:Value)(h:Heap)(x:Nat)(hx:d≠some x):(s.put d v h).t.t.get x=s.t.t.get x:=by
 cases d with
 | none=>rfl
 | some i =>
  simp only[St.put,Tm.put,Tr.get_put];rw[if_neg (fun e=>hx (by rw[e]))]
def Xzn(s:St)(i:Nat)(v:Value)(h:Heap):(s.put (some i) v h).t.t.get i=some v:=by
 simp[St.put,Tm.put,Tr.get_put]
def Zu0(h:Heap)(b:Nat):(Qdh h).get b=h.get b:=rfl
def Ynj(h h1:Heap)(b:Nat):(X78 h h1).get b=h1.get b:=rfl
def Canon.next_le(c:Canon E C ops B σ)(hL:CallsLow C){i:Nat}(hi:i < ops.size):(σ i).h.next<=(σ (i+1)).h.next:=by
 have ho:ops[i]? = some ops[i]:=by simp[hi]
 obtain⟨_,_,h⟩:=c.step i _ ho;rcases h with⟨_,h⟩ | ⟨_,v,h1,hv,h,_⟩
 ·rw[h,Qyz];exact ab _
 ·rw[h,Qyz];exact(X16 hL hv).next
def Canon.next_mono(c:Canon E C ops B σ)(hL:CallsLow C):∀ {i j:Nat},i<=j->j<=ops.size->(σ i).h.next<=(σ j).h.next:=by
 intro i j hij;induction hij with
 | refl=>exact fun _=>ab _
 | step h ih=>exact fun hj=>ai (ih (by omega)) (c.next_le hL (by omega))
def Canon.size(c:Canon E C ops B σ):∀ {i:Nat},i<=ops.size->(σ i).t.size=(σ 0).t.size:=by
 intro i;induction i with
 | zero=>exact fun _=>rfl
 | succ i ih =>
  intro hi;have ho:ops[i]? = some ops[i]:=by simp[show i < ops.size by omega]
  obtain⟨_,_,h⟩:=c.step i _ ho;rcases h with⟨_,h⟩ | ⟨_,v,h1,hv,h,_⟩
  ·rw[h,Z62];exact ih (by omega)
  ·rw[h,Z62];exact ih (by omega)
def Canon.dss(c:Canon E C ops B σ):∀ {i:Nat},i<=ops.size->(σ i).ds=(σ 0).ds:=by
 intro i;induction i with
 | zero=>exact fun _=>rfl
 | succ i ih =>
  intro hi;have ho:ops[i]? = some ops[i]:=by simp[show i < ops.size by omega]
  obtain⟨_,_,h⟩:=c.step i _ ho;rcases h with⟨_,h⟩ | ⟨_,v,h1,hv,h,_⟩
  ·rw[h,Jks];exact ih (by omega)
  ·rw[h,Jks];exact ih (by omega)
def Canon.free(c:Canon E C ops B σ){i:Nat}(hf:Zmo E ops σ i):(σ (i+1)).h.next=(σ i).h.next/\∀ b,(σ (i+1)).h.get b=(σ i).h.get b:=by
 obtain⟨o,ho,hf⟩:=hf;obtain⟨_,_,h⟩:=c.step i _ ho;rcases h with⟨_,h⟩ | ⟨hw,v,h1,hv,h,_⟩
 ·rw[h,Qyz];exact⟨rfl,fun _=>rfl⟩
 ·rcases hf with hf | hf
  ·obtain⟨rfl,_⟩:=Y7b E C hf hv (σ i).h;rw[h,Qyz];exact⟨rfl,fun _=>rfl⟩
  ·rcases hf with hf | hf
   ·rw[hw]at hf;cases hf
   ·obtain⟨b,hb⟩:=az.1 hf;obtain⟨rfl,_⟩:=Jof hb hv;rw[h,Qyz];exact⟨rfl,fun _=>rfl⟩
def Jh1(σ:Nat->St)(i:Nat):Prop:=∀ b,b < (σ i).h.next->(σ (i+1)).h.get b=(σ i).h.get b
def Jvw(E:Env2 P)(ops:Array Oper)(B:List Nat)(σ:Nat->St)(i:Nat):Prop:=∀ k,k < ops.size->¬ Zmo E ops σ k->k≠i->(k < i/\∃ b,B[i]? = some b/\b.testBit k=true)∨(i < k/\∃ b,B[k]? = some b/\b.testBit i=true)
def Juc(E:Env2 P)(ops:Array Oper)(B:List Nat)(σ:Nat->St)(i:Nat):Prop:=∀ k ok c,ops[k]? = some ok->Qg ops.toList (σ k).t ok=some true->loadAt E (σ k).t ok=some c->c < (σ i).h.next ->
 ldv E (σ k).t ok (σ (i+1)).h=ldv E (σ k).t ok (σ i).h∨(k < i/\∃ b,B[i]? = some b/\b.testBit k=true)∨(i < k/\∃ b,B[k]? = some b/\b.testBit i=true)
def Yjb{E:Env2 P}{t:Tm}{o:Oper}{b:Nat}(h:loadAt E t o=some b):Yl o=true:=by
 unfold loadAt at h;unfold Yl;split at h
 ·rename_i hop;simp[hop]
 ·rename_i hop;simp[hop]
 ·cases h
def Canon.kinds(c:Canon E C ops B σ)(hL:CallsLow C){i:Nat}(hi:i < ops.size):Zmo E ops σ i∨Jh1 σ i∨(Jvw E ops B σ i/\Juc E ops B σ i):=by
 have ho:ops[i]? = some ops[i]:=by simp[hi]
 have hib:i < B.length:=by rw[c.bef.len];simpa using hi
 obtain⟨_,_,h⟩:=c.step i _ ho;rcases h with⟨hw,h⟩ | ⟨hw,v,h1,hv,h,hq⟩
 ·exact .inl ⟨_,ho,.inr (.inl hw)⟩
 ·unfold Xlo at hq;rw[ao]at hq;obtain⟨hq,hkl⟩:=hq;simp only[bM,bU]at hq;rcases hq with((hq | hq) | hq) | hq
  ·exact .inl ⟨_,ho,.inl hq⟩
  ·refine .inr (.inl fun b hb => ?_);rw[h,Qyz,Ynj];have:=(X16 hL hv).same b hb (au hb hq);rw[this,Zu0]
  ·exact .inl ⟨_,ho,.inr (.inr (Ykq hq hkl))⟩
  ·by_cases hld:(loadAt E (σ i).t ops[i]).isSome=true
   ·exact .inl ⟨_,ho,.inr (.inr hld)⟩
   by_cases hfr:Yq E ops[i]=true
   ·exact .inl ⟨_,ho,.inl hfr⟩
   by_cases hqu:(σ i).h.next<=h1.low
   ·refine .inr (.inl fun b hb => ?_);rw[h,Qyz,Ynj];have:=(X16 hL hv).same b hb (au hb hqu);rw[this,Zu0]
   refine .inr (.inr ⟨fun k hk hnf hne => ?_,fun k ok cc hko hwk hl hcc => ?_⟩)
   ·have hko:ops.toList[k]? = some ops[k]:=(by simp[hk]);have hkb:k < B.length:=(by rw[c.bef.len];simpa using hk);have:=Yrj hq k ops[k] B[k] hko (List.getElem?_eq_getElem hkb);simp only[ba]at this;rcases this with h0 | h0 | h0 | ⟨h0,h2⟩ | ⟨h0,h2⟩
    ·exact absurd ⟨_,by simp[hk],.inl h0⟩ hnf
    ·exfalso;have hko':ops[k]? = some ops[k]:=(by simp[hk]);obtain⟨_,_,hs⟩:=c.step k _ hko';rcases hs with⟨hw',_⟩ | ⟨_,v',h1',hv',_,hsk⟩
     ·exact hnf ⟨_,hko',.inr (.inl hw')⟩
     ·unfold Xlo at hsk;rw[ao]at hsk;exact hnf ⟨_,hko',.inr (.inr (Ykq h0 hsk.2))⟩
    ·exact absurd h0 hne
    ·refine .inl ⟨h0,B[i],List.getElem?_eq_getElem hib,?_⟩;simpa[List.getElem?_eq_getElem hib,Xv5]using h2
    ·exact .inr ⟨h0,B[k],List.getElem?_eq_getElem hkb,h2⟩
   ·obtain⟨R,hR,hrec⟩:=c.cross;have hks:k < ops.size:=by
     rcases aU k ops.size with h | h
     ·exact h
     ·rw[Array.getElem?_eq_none h]at hko;cases hko
    have hkb:k < B.length:=(by rw[c.bef.len];simpa using hks);obtain⟨xi,hxi,hri⟩:=hrec i _ ho;have hnl:Yl ops[i]=false:=by
     cases hh:Yl ops[i]with
     | false=>rfl
     | true=>exact absurd (Ykq hh hkl) hld
    have hwr:xi=some (.wr (σ i).h h1):=by
     rcases hri with⟨hw',_⟩ | ⟨_,v',h1',hv',_,rfl⟩
     ·rw[hw]at hw';cases hw'
     ·rw[hv]at hv';cases hv';unfold Ypu;rw[if_neg (by simp[hnl]),if_neg hfr,if_neg (fun h=>hqu (cK h))]
    obtain⟨xk,hxk,hrk⟩:=hrec k _ hko;have hlk:Yl ok=true:=Yjb hl;have hldk:xk=some (.ld (σ k).t ok):=by
     rcases hrk with⟨hw',_⟩ | ⟨_,v',h1',hv',_,rfl⟩
     ·rw[hwk]at hw';cases hw'
     ·unfold Ypu;rw[if_pos hlk]
    subst hldk;subst hwr;have h3:=Yqv hR i (σ i).h h1 B[i] hxi (List.getElem?_eq_getElem hib);rw[ba]at h3;have h4:=Yke h3 k (σ k).t ok B[k] hxk (List.getElem?_eq_getElem hkb);rw[ba]at h4;rcases h4 with h4 | ⟨h4,h5⟩ | ⟨h4,h5⟩
    ·left;rw[<- h4];exact Jh2 (fun b=>by rw[h,Qyz,Ynj])
    ·exact .inr (.inl ⟨h4,B[i],List.getElem?_eq_getElem hib,h5⟩)
    ·rcases aU i k with h6 | h6
     ·exact .inr (.inr ⟨h6,B[k],List.getElem?_eq_getElem hkb,h5⟩)
     ·have : k=i:=(by omega);subst this;rw[ho]at hko;cases hko;rw[hl]at hld;simp at hld
def Canon.still2(_:Canon E C ops B σ){f:Heap->Option Value}:∀ {i j:Nat},i<=j->(∀ k,i<=k->k < j->f (σ (k+1)).h=f (σ k).h)->f (σ j).h=f (σ i).h:=by
 intro i j hij;induction hij with
 | refl=>exact fun _=>rfl
 | step h ih =>
  rename_i j;intro hk;rw[hk j h (bD _)];exact ih fun k h1 h2=>hk k h1 (by omega)
def Canon.still(c:Canon E C ops B σ)(hL:CallsLow C):∀ {i j:Nat},i<=j->j<=ops.size->(∀ k,i<=k->k < j->Zmo E ops σ k∨Jh1 σ k)->∀ b,b < (σ i).h.next->(σ j).h.get b=(σ i).h.get b:=by
 intro i j hij;induction hij with
 | refl=>exact fun _ _ _ _=>rfl
 | step h ih =>
  rename_i j;intro hj hk b hb;have hij:i<=j:=h;rw[<- ih (by omega) (fun k h1 h2=>hk k h1 (by omega)) b hb];rcases hk j hij (bD _)with h1 | h1
  ·exact(c.free h1).2 b
  ·exact h1 b (au hb (c.next_mono hL hij (by omega)))
def Canon.wf(c:Canon E C ops B σ)(hC:CallsSound P E.G C){Z:Ren}{tmps:Array Value}{w:World}(H:HRel E.G Z (σ 0).h w)(ht:TRel Z (σ 0).t tmps) :
  ∀ i,i<=ops.size->∃ Z' w' tmps',HRel E.G Z' (σ i).h w'/\TRel Z' (σ i).t tmps':=by
 intro i;induction i with
 | zero=>exact fun _=>⟨Z,w,tmps,H,ht⟩
 | succ i ih =>
  intro hi;obtain⟨Z1,w1,t1,H1,T1⟩:=ih (by omega);have ho:ops[i]? = some ops[i]:=by simp[show i < ops.size by omega]
  obtain⟨hd,_,h⟩:=c.step i _ ho;have hput:∀ (Z2:Ren) (v:Value) (h2:Heap),TRel Z2 (σ i).t t1->okV (dom Z2) v->∃ t2,TRel Z2 ((σ i).put (ops[i]).dst v h2).t t2:=by
   intro Z2 v h2 hT hv;cases hdd:(ops[i]).dst with
   | none=>exact⟨t1,hT⟩
   | some d =>
    rw[hdd]at hd;simp only[Qoy,cu]at hd;exact⟨_,hT.put hd hv⟩
  rcases h with⟨_,h⟩ | ⟨_,v,h1,hv,h,_⟩
  ·obtain⟨t2,T2⟩:=hput Z1 Qt (σ i).h T1 (by simp[Qt,okV,okA,okL]);exact⟨Z1,w1,t2,by rw[h,Qyz];exact H1,by rw[h];exact T2⟩
  ·have H1':HRel E.G Z1 (Qdh (σ i).h) w1:=H1.congr (h':=Qdh (σ i).h) H1.globs (fun b hb=>Qkr H1 hb) (fun _ _=>rfl) H1.wf;obtain⟨Z2,w2,e2,H2,v2⟩:=Zu3 E hC (a:=⟨t1,[]⟩) hv H1' T1;obtain⟨t2,T2⟩:=hput Z2 v (X78 (σ i).h h1) (T1.ext H1 e2) v2;refine⟨Z2,w2,t2,?_,by rw[h];exact T2⟩;rw[h,Qyz];exact H2.congr (h':=X78 (σ i).h h1) H2.globs (fun b hb=>Qkr H2 hb) (fun _ _=>rfl) H2.wf
end
section
variable{P:Program}{E:Env2 P}{C:CallF}{ops:Array Oper}{B:List Nat}{σ:Nat->St}
abbrev Did(listed:Array Bool)(j:Nat):Prop:=listed.getD j false=true
structure Inv (E:Env2 P) (ops:Array Oper) (B:List Nat) (σ:Nat->St) (Z0:Ren) (w0:World) (listed:Array Bool) (Z:Ren) (a:Act) (w:World) (T:Tm) (p:Nat):Prop where
 down:∀ j o,ops[j]? = some o->Did listed j->∀ e ∈ o.after.toList,Region.binds .any e=true->Did listed e.on
 small:∀ j,Did listed j->j < ops.size
 t:TRel Z T a.tmps
 ts:T.size=(σ 0).t.size
 tv:∀ x i,i<=ops.size->(∀ j o,ops[j]? = some o->o.dst=some x->(Did listed j↔j < i))->T.t.get x=(σ i).t.t.get x
 ds:a.defers=(σ 0).ds.map (Qxs Z)
 okd:∀ d ∈ (σ 0).ds,Yes (dom Z) d
 ple:p<=ops.size
 h:HRel E.G Z (σ p).h w
 top:∀ j,Did listed j->¬ Zmo E ops σ j->j < p
 last:p=0 ∨ ∃ j,Did listed j/\¬ Zmo E ops σ j/\p=j+1
 dom:∀ b,dom Z b->b < (σ 0).h.next ∨ ∃ j,Did listed j/\(σ j).h.next<=b/\b < (σ (j+1)).h.next
 ext:Ext (σ 0).h.next Z0 Z
 turn:Turn Z0 (σ 0).h w0 Z (σ p).h w
def Z4b{listed:Array Bool}{i j:Nat}(hi:i < listed.size):Did (listed.setIfInBounds i true) j↔j=i∨Did listed j:=by
 simp only[Did,Array.getD_eq_getD_getElem?,Array.getElem?_setIfInBounds];by_cases h:i=j
 ·subst h;simp[hi]
 ·rw[if_neg h];exact⟨.inr,fun h'=>h'.elim (fun e=>absurd e.symm h) id⟩
def Q7q(c:Canon E C ops B σ){D:Nat->Prop}(hd:∀ j o,ops[j]? = some o->D j->∀ e ∈ o.after.toList,Region.binds .any e=true->D e.on) :
  ∀ j b i,D j->B[j]? = some b->b.testBit i=true->D i:=by
 intro j;induction j using Nat.strongRecOn with
 | _ j ih =>
  intro b i hj hb hi;have hlt:j < ops.size:=by
   rcases aU j B.length with h | h
   ·rw[c.bef.len]at h;simpa using h
   ·rw[List.getElem?_eq_none h]at hb;cases hb
  have ho:ops[j]? = some ops[j]:=by simp[hlt]
  have ho':ops.toList[j]? = some ops[j]:=by simp[hlt]
  obtain⟨e,he,hbd,h⟩:=c.bef.bits j _ b ho' hb i hi;have h1:=hd j _ ho hj e he hbd;rcases h with rfl | ⟨b',hb',hi'⟩
  ·exact h1
  ·exact ih e.on (c.bef.on j _ ho' e he hbd) b' i h1 hb' hi'
def X2i(c:Canon E C ops B σ){D:Nat->Prop}(hd:∀ j o,ops[j]? = some o->D j->∀ e ∈ o.after.toList,Region.binds .any e=true->D e.on){i:Nat}{o:Oper}(ho:ops[i]? = some o)
  (hr:∀ e ∈ o.after.toList,Region.binds .any e=true->D e.on) {b:Nat} (hb:B[i]? = some b) {k:Nat} (hk:b.testBit k=true):D k:=by
 obtain⟨e,he,hbd,h⟩:=c.bef.bits i _ b (by simpa using ho) hb k hk;rcases h with rfl | ⟨b',hb',hi'⟩
 ·exact hr e he hbd
 ·exact Q7q c hd e.on b' k (hr e he hbd) hb' hi'
def Zi8(c:Canon E C ops B σ){i:Nat}(hi:i < ops.size):∃ b,B[i]? = some b:=by
 have : i < B.length:=by rw[c.bef.len];simpa using hi
 exact⟨_,List.getElem?_eq_getElem this⟩
def Zyz{ops:List Oper}{x y:Oper}(h:Yqw ops x y=true){d:Nat}(hx:x.dst=some d):d ∉ looks ops y/\y.dst≠some d:=by
 simp only[Yqw,hx,ao,bS]at h;refine⟨fun hm=>by rw[Zml.2 hm]at h;simp at h,fun hy => ?_⟩;rw[hy]at h;simp at h
def apart_dst' {ops:List Oper}{x y:Oper}(h:Yqw ops x y=true){d:Nat}(hy:y.dst=some d):d ∉ looks ops x:=by
 simp only[Yqw,ao,hy,bS]at h;intro hm;have:=h.2;rw[Zml.2 hm]at this;simp at this
def Inv.looks(c:Canon E C ops B σ){Z0 Z:Ren}{w0 w:World}{listed:Array Bool}{a:Act}{T:Tm}{p:Nat}(I:Inv E ops B σ Z0 w0 listed Z a w T p){i:Nat}{o:Oper}(ho:ops[i]? = some o)(hni:¬ Did listed i)
  (hr:∀ e ∈ o.after.toList,Region.binds .any e=true->Did listed e.on) (x:Nat) (hx:x ∈ Go.Ab.looks ops.toList o):T.t.get x=(σ i).t.t.get x:=by
 have hi:i < ops.size:=by
  rcases aU i ops.size with h | h
  ·exact h
  ·rw[Array.getElem?_eq_none h]at ho;cases ho
 obtain⟨bi,hbi⟩:=Zi8 c hi;refine I.tv x i (by omega) fun j oj hoj hdj=>⟨fun hj => ?_,fun hj => ?_⟩
 ·rcases dH j i with h | h | h
  ·exact h
  ·subst h;exact absurd hj hni
  ·have hjs:j < ops.size:=I.small j hj;obtain⟨bj,hbj⟩:=Zi8 c hjs;rcases c.pairs j i oj o bj hoj ho hbj h with h1 | h1
   ·exact absurd (Q7q c I.down j bj i hj hbj h1) hni
   ·exact absurd hx (apart_dst' h1 hdj)
 ·rcases c.pairs i j o oj bi ho hoj hbi hj with h1 | h1
  ·exact X2i c I.down ho hr hbi h1
  ·exact absurd hx (Zyz h1 hdj).1
def Zqk{ops:List Oper}{o:Oper}{G:Bs}{t t':Tm}(h:∀ x ∈ looks ops o,t.t.get x=t'.t.get x):(∀ x ∈ o.op.operands,aev G t x=aev G t' x)/\Qg ops t o=Qg ops t' o:=by
 constructor
 ·intro x hx;cases x with
  | tmp i =>
   simp only[aev];refine h i ?_;simp only[looks,al,List.mem_filterMap];exact .inl ⟨.tmp i,by simpa using hx,rfl⟩
  | _=>rfl
 ·unfold Qg;split
  ·rfl
  ·rename_i j want hg;split
   ·rfl
   ·rename_i oj hoj;split
    ·rfl
    ·rename_i d hd;rw[h d];simp only[looks,hg,hoj,hd,al];exact .inr (by simp)
def Inv.tmps(c:Canon E C ops B σ){Z0 Z:Ren}{w0 w:World}{listed:Array Bool}{a:Act}{T:Tm}{p:Nat}(I:Inv E ops B σ Z0 w0 listed Z a w T p){i:Nat}{o:Oper}(ho:ops[i]? = some o)(hni:¬ Did listed i)(hsz:listed.size=ops.size)
  {v:Value} {h1:Heap} (hst:σ (i+1)=(σ i).put o.dst v h1) :
  ∀ x k,k<=ops.size->(∀ j o',ops[j]? = some o'->o'.dst=some x->(Did (listed.setIfInBounds i true) j↔j < k))->(match o.dst with | some d=>(T.put d v).t | none=>T.t).get x=(σ k).t.t.get x:=by
 intro x k hk hsep;have hi:i < ops.size:=by
  rcases aU i ops.size with h | h
  ·exact h
  ·rw[Array.getElem?_eq_none h]at ho;cases ho
 have hdid:∀ j,Did (listed.setIfInBounds i true) j↔j=i∨Did listed j:=fun j=>Z4b (by rw[hsz];exact hi);by_cases hx:o.dst=some x
 ·have hik:i < k:=(hsep i o ho hx).1 ((hdid i).2 (.inl rfl));rw[hx];simp only[Tm.put,Tr.get_put,if_true];have hnone:∀ k',i < k'->k'<=k->(σ k').t.t.get x=(σ (i+1)).t.t.get x:=by
   intro k' h1 h2;induction k' with
   | zero=>omega
   | succ k' ih =>
    by_cases he:k'=i
    ·subst he;rfl
    ·have hk':k' < ops.size:=(by omega);have ho':ops[k']? = some ops[k']:=(by simp[hk']);have hne:(ops[k']).dst≠some x:=by
      intro hd;have hdd:=(hsep k' _ ho' hd).2 (by omega);rcases(hdid k').1 hdd with h | h
      ·exact he h
      ·obtain⟨b,hb⟩:=Zi8 c hk';rcases c.pairs k' i _ o b ho' ho hb (by omega)with h3 | h3
       ·exact hni (Q7q c I.down k' b i h hb h3)
       ·exact(Zyz h3 hx).2 hd
     obtain⟨_,_,h⟩:=c.step k' _ ho';have hstep:(σ (k'+1)).t.t.get x=(σ k').t.t.get x:=by
      rcases h with⟨_,h⟩ | ⟨_,v',h',_,h,_⟩ <;> (rw[h];exact Z2j _ _ _ _ _ hne)
     rw[hstep];exact ih (by omega) (by omega)
  rw[hnone k hik (ab _),hst,hx,Xzn]
 ·have hold:∀ j o',ops[j]? = some o'->o'.dst=some x->(Did listed j↔j < k):=by
   intro j o' hj hd;rw[<- hsep j o' hj hd,hdid];refine⟨.inr,fun h=>h.elim (fun e => ?_) id⟩;subst e;rw[ho]at hj;cases hj;exact absurd hd hx
  have:=I.tv x k hk hold;cases hdd:o.dst with
  | none=>exact this
  | some d =>
   simp only[Tm.put,Tr.get_put];rw[if_neg (fun e=>hx (by rw[hdd,e]))];exact this
end
def Tm.at? (t:Tm)(d:Option Tmp)(v:Value):Tm:=match d with | some d=>t.put d v | none=>t
def Tm.only(t:Tm):List Nat->Tr Value
 | [] => .leaf
 | x::l=>(Tm.only t l).put x (t.t.get x)
def eQ(t:Tm):∀ (l:List Nat) (x:Nat),(t.only l).get x=if x ∈ l then t.t.get x else none
 | [],x=>by simp[Tm.only]
 | y::l,x=>by
  simp only[Tm.only,Tr.get_put,eQ t l x,ap];by_cases e:y=x
  ·subst e;simp
  ·have : ¬ x=y:=fun h=>e h.symm;simp[e,this]
def TRel.congr{Z β:Ren}{t:Tm}{tmps:Array Value}(hd:∀ b,dom Z b->β b=Z b)(ht:TRel Z t tmps):TRel β t tmps :=
 ⟨ht.size,fun i v hv=>by
  have:=ht.vals i v hv;exact⟨okV_mono (fun b hb=>by simpa[dom,hd b hb]using hb) v this.1,by rw[this.2,ren_congr hd v this.1]⟩⟩
section
variable{P:Program}{E:Env2 P}{C:CallF}{ops:Array Oper}{B:List Nat}{σ:Nat->St}
variable{Z0 Z:Ren}{w0 w:World}{listed:Array Bool}{a:Act}{T:Tm}{p:Nat}
def Q0g{i:Nat}{o:Oper}(ho:ops[i]? = some o):i < ops.size:=by
 rcases aU i ops.size with h | h
 ·exact h
 ·rw[Array.getElem?_eq_none h]at ho;cases ho
def Zlv(c:Canon E C ops B σ)(I:Inv E ops B σ Z0 w0 listed Z a w T p){i:Nat}{o:Oper}(ho:ops[i]? = some o)(hni:¬ Did listed i)
  (hr:∀ e ∈ o.after.toList,Region.binds .any e=true->Did listed e.on) (hsz:listed.size=ops.size)
  {v:Value} {h1:Heap} (hst:σ (i+1)=(σ i).put o.dst v h1) (hdst:Qoy (σ i) o.dst=true)
  {Z':Ren} {w':World} {p':Nat} (hZ:∀ b,dom Z b->Z' b=Z b) (hv:okV (dom Z') v) (H:HRel E.G Z' (σ p').h w') (hp':p'<=ops.size) (hpp:p<=p')
  (hnf:¬ Zmo E ops σ i->i < p') (hlast:p'=p∨(¬ Zmo E ops σ i/\p'=i+1))
  (hdom:∀ b,dom Z' b->dom Z b∨((σ i).h.next<=b/\b < (σ (i+1)).h.next)) (hext:Ext (σ 0).h.next Z Z') (hturn:Turn Z0 (σ 0).h w0 Z' (σ p').h w') :
  Inv E ops B σ Z0 w0 (listed.setIfInBounds i true) Z' (a.put o.dst (ren Z' v)) w' (T.at? o.dst v) p':=by
 have hi:=Q0g ho;have hdid:∀ j,Did (listed.setIfInBounds i true) j↔j=i∨Did listed j:=fun j=>Z4b (by rw[hsz];exact hi);have htm:=I.tmps c ho hni hsz hst;have hds:(a.put o.dst (ren Z' v)).defers=a.defers:=by cases o.dst <;> rfl
 refine⟨?_,?_,?_,?_,?_,?_,?_,hp',H,?_,?_,?_,?_,hturn⟩
 ·intro j o' ho' hj e he hb;rw[hdid]at hj ⊢;rcases hj with rfl | hj
  ·rw[ho]at ho';cases ho';exact .inr (hr e he hb)
  ·exact .inr (I.down j o' ho' hj e he hb)
 ·intro j hj;rcases(hdid j).1 hj with rfl | h
  ·exact hi
  ·exact I.small j h
 ·have ht:=I.t.congr hZ;cases hd:o.dst with
  | none=>exact ht
  | some d =>
   rw[hd]at hdst;simp only[Qoy,cu]at hdst;exact ht.put (by rw[I.ts,<- c.size (eh hi)];exact hdst) hv
 ·cases hd:o.dst with
  | none=>exact I.ts
  | some d=>exact I.ts
 ·intro x k hk h;have:=htm x k hk h;cases hd:o.dst with
  | none=>simpa only[hd,Tm.at?]using this
  | some d=>simpa only[hd,Tm.at?]using this
 ·rw[hds,I.ds];apply bA;intro d hd;exact(Q23 hZ (I.okd d hd)).symm
 ·exact fun d hd=>Xct (fun b hb=>by simpa[dom,hZ b hb]using hb) (I.okd d hd)
 ·intro j hj hnfj;rcases(hdid j).1 hj with rfl | h
  ·exact hnf hnfj
  ·exact au (I.top j h hnfj) hpp
 ·rcases hlast with rfl | ⟨h1,h2⟩
  ·rcases I.last with h | ⟨j,h1,h2,h3⟩
   ·exact .inl h
   ·exact .inr ⟨j,(hdid j).2 (.inr h1),h2,h3⟩
  ·exact .inr ⟨i,(hdid i).2 (.inl rfl),h1,h2⟩
 ·intro b hb;rcases hdom b hb with h | h
  ·rcases I.dom b h with h | ⟨j,h1,h2⟩
   ·exact .inl h
   ·exact .inr ⟨j,(hdid j).2 (.inr h1),h2⟩
  ·exact .inr ⟨i,(hdid i).2 (.inl rfl),h⟩
 ·intro b hb;rw[hext b hb,I.ext b hb]
def Z5w(c:Canon E C ops B σ)(I:Inv E ops B σ Z0 w0 listed Z a w T p){i:Nat}{o:Oper}(ho:ops[i]? = some o)(hni:¬ Did listed i)
  (hr:∀ e ∈ o.after.toList,Region.binds .any e=true->Did listed e.on) (hsz:listed.size=ops.size)
  {v:Value} {h1:Heap} (hst:σ (i+1)=(σ i).put o.dst v h1) (hdst:Qoy (σ i) o.dst=true) (hf:Zmo E ops σ i) (hv:okV (dom Z) v)
  {w':World} (hw:HRel E.G Z (σ p).h w') (ht:Turn Z (σ p).h w Z (σ p).h w') :
  Inv E ops B σ Z0 w0 (listed.setIfInBounds i true) Z (a.put o.dst (ren Z v)) w' (T.at? o.dst v) p :=
 Zlv c I ho hni hr hsz hst hdst (fun _ _=>rfl) hv hw I.ple (ab _) (fun h=>absurd hf h) (.inl rfl) (fun b hb => .inl hb) (Ext.refl _ _) (I.turn.trans ht)
end
section
variable{P:Program}{E:Env2 P}{C:CallF}{ops:Array Oper}{B:List Nat}{σ:Nat->St}
variable{Z0 Z:Ren}{w0 w:World}{listed:Array Bool}{a:Act}{T:Tm}{p:Nat}
def mix(Z1 Z:Ren)(n:Nat):Ren:=fun b=>if b < n then Z1 b else Z b
def Jej{Z1 Z:Ren}{n m:Nat}(hnm:n<=m)(h1:∀ b,b < n->Z1 b=Z b)(h2:∀ b,n<=b->b < m->Z b=none):∀ b,dom Z b->mix Z1 Z m b=Z b:=by
 intro b hb;unfold mix;split
 ·rename_i hlt;rcases aU b n with h | h
  ·exact h1 b h
  ·rw[dom,h2 b h hlt]at hb;simp at hb
 ·rfl
def Jnx{G:Bs}{Z Z1:Ren}{h h0 h1:Heap}{w w':World}(H:HRel G Z h w)(H1:HRel G Z1 h1 w')(he:Ext h0.next (Ren.below Z h0.next) Z1)(ht:Turn (Ren.below Z h0.next) h0 w Z1 h1 w')
  (hn:h1.next<=h.next) (hgap:∀ b,h0.next<=b->b < h1.next->Z b=none) (hg0:∀ b,b < h0.next->h.get b=h0.get b) (hg1:∀ b,b < h1.next->h.get b=h1.get b) :
  HRel G (mix Z1 Z h1.next) h w'/\Turn Z h w (mix Z1 Z h1.next) h w':=by
 have hb0:∀ b p,Ren.below Z h0.next b=some p->b < h0.next/\Z b=some p:=by
  intro b p hp;unfold Ren.below at hp;split at hp
  ·exact⟨by assumption,hp⟩
  ·cases hp
 have h01:∀ b,b < h0.next->Z1 b=Z b:=by
  intro b hb;rw[he b hb];unfold Ren.below;rw[if_pos hb]
 have hold:∀ b,dom Z b->mix Z1 Z h1.next b=Z b:=Jej ht.next h01 hgap;have hnew:∀ b,dom Z1 b->mix Z1 Z h1.next b=Z1 b:=by
  intro b hb;unfold mix;rw[if_pos (Qkr H1 hb)]
 have hcase:∀ b q,mix Z1 Z h1.next b=some q->(b < h1.next/\Z1 b=some q)∨(h1.next<=b/\Z b=some q):=by
  intro b q hq;unfold mix at hq;split at hq
  ·exact .inl ⟨by assumption,hq⟩
  ·exact .inr ⟨by omega,hq⟩
 have hownt:∀ b q,Z1 b=some q->h1.own b=true->w.heap.size<=q.blk ∨ ∃ c r,Z c=some r/\h.own c=true/\c < h0.next/\r.blk=q.blk:=by
  intro b q hq ho;rcases ht.owns b q hq ho with h2 | ⟨c,r,hc,hco,hcb⟩
  ·exact .inl h2
  ·obtain⟨h3,h4⟩:=hb0 c r hc;exact .inr ⟨c,r,h4,by rw[Qpw (hg0 c h3)];exact hco,h3,hcb⟩
 constructor
 ·refine⟨?_,?_,?_,?_,H.globs,H.wf,?_,H1.bsz⟩
  ·intro b q hq;rcases hcase b q hq with⟨h2,h3⟩ | ⟨h2,h3⟩
   ·exact⟨by omega,(H1.dom b q h3).2⟩
   ·exact⟨(H.dom b q h3).1,trivial⟩
  ·intro b q x hq hx;rcases hcase b q hq with⟨h2,h3⟩ | ⟨h2,h3⟩
   ·exact(H1.fits b q x h3 (by rw[<- hg1 b h2];exact hx)).keep hnew rfl
   ·have hf:=H.fits b q x h3 hx;by_cases hs:x.solid=true
    ·refine hf.keep hold (ht.same q.blk (H.blk_lt h3 hx hs) fun c r hc hco => ?_);obtain⟨h4,h5⟩:=hb0 c r hc;have : h0.next<=h1.next:=ht.next;exact H.apart c b r q h5 h3 (by omega) (by rw[Qpw (hg0 c h4)];exact hco) (by rw[Ypd hx];exact hs)
    ·cases x with
     | cells o z cs =>
      cases o with
      | true=>exact absurd (eJ rfl) hs
      | false =>
       cases cs with
       | nil=>exact⟨hf.1,.inl ⟨rfl,rfl⟩⟩
       | cons _ _=>exact absurd rfl hs
     | map _ _=>exact absurd rfl hs
     | obj _=>exact absurd rfl hs
  ·intro b c q r hq hr hne ho hl;rcases hcase b q hq with⟨h2,h3⟩ | ⟨h2,h3⟩ <;> rcases hcase c r hr with⟨h4,h5⟩ | ⟨h4,h5⟩
   ·exact H1.apart b c q r h3 h5 hne (by rw[<- Qpw (hg1 b h2)];exact ho) (by rw[<- Ypy (hg1 c h4)];exact hl)
   ·rcases hownt b q h3 (by rw[<- Qpw (hg1 b h2)];exact ho)with h6 | ⟨d,s,h6,h7,h8,h9⟩
    ·have:=H.blk_live h5 hl;omega
    ·rw[<- h9];have : h0.next<=h1.next:=ht.next;exact H.apart d c s r h6 h5 (by omega) h7 hl
   ·have hbs:=H.blk_own h3 ho;by_cases hco:h.own c=true
    ·rcases hownt c r h5 (by rw[<- Qpw (hg1 c h4)];exact hco)with h6 | ⟨d,s,h6,h7,h8,h9⟩
     ·omega
     ·rw[<- h9];have : h0.next<=h1.next:=ht.next;exact H.apart b d q s h3 h6 (by omega) ho (Yxu h7)
    ·obtain⟨x,hx,hxo⟩:=Q6c ho;have h6:=((H.base b q x h3 hx).1 hxo).1;cases hy:h.get c with
     | none=>simp[Heap.live,hy]at hl
     | some y =>
      have h7:y.own=false:=(by rw[Q05 hy]at hco;simpa using hco);have h8:y.solid=true:=(by rw[Ypd hy]at hl;exact hl);have:=(H1.base c r y h5 (by rw[<- hg1 c h4];exact hy)).2 h7 h8 |>.1;omega
   ·exact H.apart b c q r h3 h5 hne ho hl
  ·intro g hg;have hgl:=H.glob g hg;exact⟨by rw[hold g (Qw5 hgl.1)];exact hgl.1,hgl.2⟩
  ·intro b q x hq hx;rcases hcase b q hq with⟨h2,h3⟩ | ⟨h2,h3⟩
   ·exact H1.base b q x h3 (by rw[<- hg1 b h2];exact hx)
   ·exact H.base b q x h3 hx
 ·refine⟨ht.size,fun k hk hno => ?_,fun b q hq ho => ?_,ht.tape,ht.os,ht.output,ht.drawn,ab _⟩
  ·refine ht.same k hk fun c r hc hco => ?_;obtain⟨h4,h5⟩:=hb0 c r hc;exact hno c r h5 (by rw[Qpw (hg0 c h4)];exact hco)
  ·rcases hcase b q hq with⟨h2,h3⟩ | ⟨h2,h3⟩
   ·rcases hownt b q h3 (by rw[<- Qpw (hg1 b h2)];exact ho)with h6 | ⟨d,s,h6,h7,_,h9⟩
    ·exact .inl h6
    ·exact .inr ⟨d,s,h6,h7,h9⟩
   ·exact .inr ⟨b,q,h3,ho,rfl⟩
end
section
variable{P:Program}{E:Env2 P}{C:CallF}{ops:Array Oper}{B:List Nat}{σ:Nat->St}
variable{Z0 Z:Ren}{w0 w:World}{listed:Array Bool}{a:Act}{T:Tm}{p:Nat}
def Z57{rd:Option Nat}{β:Ren}(c:Canon E C ops B σ)(hC:CallsSound P E.G C)(hL:CallsLow C)(hwf:∀ i,i<=ops.size->∃ Z' w' tmps',HRel E.G Z' (σ i).h w'/\TRel Z' (σ i).t tmps')
  (I:Inv E ops B σ Z0 w0 listed Z a w T p) {i:Nat} {o:Oper} (ho:ops[i]? = some o) (hni:¬ Did listed i)
  (hr:∀ e ∈ o.after.toList,Region.binds .any e=true->Did listed e.on) (hsz:listed.size=ops.size) {Q:Exit->Act->World->Prop} {K:Act->World->Prop}
  (hK:∀ Z' a' w' T' p',Inv E ops B σ Z0 w0 (listed.setIfInBounds i true) Z' a' w' T' p'->K a' w'):wpOpIn (Qvk rd β) 0 P ops Q i K a w:=by
 have hi:=Q0g ho;have hlook:=I.looks c ho hni hr;obtain⟨hl1,hl2⟩:=Zqk (ops:=ops.toList) (o:=o) (G:=E.G) hlook;obtain⟨hdst,hdef,hs⟩:=c.step i o ho;unfold wpOpIn;rw[ho];simp only;rcases hs with⟨hw,hst⟩ | ⟨hw,v,h1,hv,hst,_⟩
 ·rw[if_neg (by rw[Q3h (G:=E.G) I.t (hl2.trans hw)];simp)];refine⟨fun f _=>Q0u rd β f,?_⟩;have:=Z5w c I ho hni hr hsz hst hdst ⟨o,ho,.inr (.inl hw)⟩ (by simp[Qt,okV,okA,okL]) I.h (Turn.refl _ _ _);have e:ren Z Qt=undef:=by simp[Qt,undef]
  rw[e]at this;exact hK _ _ _ _ _ this
 ·rw[if_pos (Q3h (G:=E.G) I.t (hl2.trans hw))];show o.wpIn (Qvk rd β) 0 P a w K Q;have asFree:Zmo E ops σ i->Qx4 E C o T (σ p).h=some (v,(σ p).h)->o.wpIn (Qvk rd β) 0 P a w K Q:=by
   intro hfree hv';refine Zn1 E hC hdef hv' I.h I.t fun Z' w' e1 e2 e3 e4 => ?_;have hZ:Z'=Z:=by
    funext b;rcases aU b (σ p).h.next with h | h
    ·exact e1 b h
    ·have h2:Z b=none:=by
      cases hb:Z b with
      | none=>rfl
      | some q=>have:=(I.h.dom b q hb).1;omega
     rw[h2];cases hb:Z' b with
     | none=>rfl
     | some q=>have:=(e3.dom b q hb).1;omega
   subst hZ;exact hK _ _ _ _ _ (Z5w c I ho hni hr hsz hst hdst hfree e4 e3 e2)
  by_cases hf:Yq E o=true
  ·obtain⟨he,hv'⟩:=Y7b E C hf hv (σ p).h;rw[<- Xpt E C o hl1]at hv';exact asFree ⟨o,ho,.inl hf⟩ hv'
  by_cases hld:(loadAt E (σ i).t o).isSome=true
  ·obtain⟨cc,hcc⟩:=az.1 hld;have hcT:loadAt E T o=some cc:=by rw[Zvn hl1];exact hcc
   have hdc:dom Z cc:=Zhg rfl I.h I.t hcT;obtain⟨Zi,wi,ti,Hi,Ti⟩:=hwf i (by omega);have hci:cc < (σ i).h.next:=Qkr Hi (Zhg rfl Hi Ti hcc);have hcp:cc < (σ p).h.next:=Qkr I.h hdc;have hsame:ldv E (σ i).t o (σ p).h=ldv E (σ i).t o (σ i).h:=by
    rcases aU i p with hip | hip
    ·obtain⟨j,hj,hnj,hpj⟩:∃ j,Did listed j/\¬ Zmo E ops σ j/\p=j+1:=by
      rcases I.last with h | h
      ·omega
      ·exact h
     have hjs:=I.small j hj;refine c.still2 (f:=fun h=>ldv E (σ i).t o h) (eh hip) fun k hk1 hk2 => ?_;have hks:k < ops.size:=(by omega);have hck:cc < (σ k).h.next:=au hci (c.next_mono hL hk1 (by omega));rcases c.kinds hL hks with h | h | ⟨h,hx⟩
     ·exact Yp4 hcc ((c.free h).2 cc)
     ·exact Yp4 hcc (h cc hck)
     ·rcases hx i o cc ho hw hcc hck with h1 | ⟨h1,b,hb,hbt⟩ | ⟨h1,_⟩
      ·exact h1
      ·exfalso;by_cases hdk:Did listed k
       ·exact hni (Q7q c I.down k b i hdk hb hbt)
       ·have hjk:j≠k:=fun e=>hdk (e ▸ hj);rcases h j hjs hnj hjk with⟨h2,_⟩ | ⟨_,b,hb,hbt⟩
        ·omega
        ·exact hdk (Q7q c I.down j b k hj hb hbt)
      ·omega
    ·refine(c.still2 (f:=fun h=>ldv E (σ i).t o h) hip fun k hk1 hk2 => ?_).symm;have hks:k < ops.size:=(by omega);have hck:cc < (σ k).h.next:=au hcp (c.next_mono hL hk1 (by omega));rcases c.kinds hL hks with h | h | ⟨h,hx⟩
     ·exact Yp4 hcc ((c.free h).2 cc)
     ·exact Yp4 hcc (h cc hck)
     ·rcases hx i o cc ho hw hcc hck with h1 | ⟨h1,_⟩ | ⟨h1,b,hb,hbt⟩
      ·exact h1
      ·omega
      ·have hdk:=X2i c I.down ho hr hb hbt;apply bT;intro _;have hnk:Zmo E ops σ k:=by
        apply bT;intro hnk;have:=I.top k hdk hnk;omega
       obtain⟨_,h9⟩:=c.free hnk;exact absurd (Yp4 hcc (h9 cc)) (by assumption)
   have hlo:Yl o=true:=Yjb hcc;rw[Zhi hlo]at hv;rw[ak]at hv;obtain⟨v0,hv0,hv1⟩:=hv;cases hv1;have hreset:ldv E (σ i).t o (Qdh (σ i).h)=ldv E (σ i).t o (σ i).h:=Yp4 hcc rfl;have hv':Qx4 E C o (σ i).t (σ p).h=some (v,(σ p).h):=by
    rw[Zhi hlo,hsame,<- hreset,hv0];rfl
   rw[<- Xpt E C o hl1]at hv';exact asFree ⟨o,ho,.inr (.inr hld)⟩ hv'
  ·have hnf:¬ Zmo E ops σ i:=by
    rintro⟨o',ho',h⟩;rw[ho]at ho';cases ho';rcases h with h | h | h
    ·exact hf h
    ·rw[hw]at h;cases h
    ·exact hld h
   have Ja6:=X16 hL hv;have hh1:(σ (i+1)).h=X78 (σ i).h h1:=by rw[hst,Qyz]
   have hn1:(σ (i+1)).h.next=h1.next:=by rw[hh1];rfl
   have hg1:∀ b,(σ (i+1)).h.get b=h1.get b:=by intro b;rw[hh1];rfl
   have hnn:(σ i).h.next<=h1.next:=Ja6.next;obtain⟨bi,hbi⟩:=Zi8 c hi;obtain⟨Zi,wi,ti,Hi,Ti⟩:=hwf i (by omega);rcases aU i p with hip | hip
   ·
    obtain⟨j,hj,hnj,hpj⟩:∃ j,Did listed j/\¬ Zmo E ops σ j/\p=j+1:=by
     rcases I.last with h | h
     ·omega
     ·exact h
    have hji:j≠i:=fun e=>hni (e ▸ hj);have hjs:=I.small j hj;obtain⟨bj,hbj⟩:=Zi8 c hjs;have hquiet:∀ k,i<=k->k < p->Zmo E ops σ k∨Jh1 σ k:=by
     intro k hk1 hk2;have hks:k < ops.size:=(by omega);rcases c.kinds hL hks with h | h | ⟨h,_⟩
     ·exact .inl h
     ·exact .inr h
     ·exfalso;by_cases hki:k=i
      ·subst hki;rcases h j hjs hnj hji with⟨h2,_⟩ | ⟨_,b,hb,hbt⟩
       ·omega
       ·exact hni (Q7q c I.down j b k hj hb hbt)
      ·by_cases hdk:Did listed k
       ·rcases h i hi hnf (fun e=>hki e.symm)with⟨_,b,hb,hbt⟩ | ⟨h2,_⟩
        ·exact hni (Q7q c I.down k b i hdk hb hbt)
        ·omega
       ·have hjk:j≠k:=fun e=>hdk (e ▸ hj);rcases h j hjs hnj hjk with⟨h2,_⟩ | ⟨_,b,hb,hbt⟩
        ·omega
        ·exact hdk (Q7q c I.down j b k hj hb hbt)
    have hst0:=c.still hL (eh hip) I.ple hquiet;have hst1:=c.still hL (i:=i+1) hip I.ple fun k h2 h3=>hquiet k (by omega) h3;have hnp:(σ (i+1)).h.next<=(σ p).h.next:=c.next_mono hL hip I.ple;have hgap:∀ b,(σ i).h.next<=b->b < h1.next->Z b=none:=by
     intro b h2 h3;cases hb:Z b with
     | none=>rfl
     | some q =>
      exfalso;rcases I.dom b (Qw5 hb)with h4 | ⟨k,hk,h4,h5⟩
      ·have:=c.next_mono hL (bn i) (by omega);omega
      ·have hks:=I.small k hk;rcases dH k i with h6 | h6 | h6
       ·have:=c.next_mono hL (i:=k+1) (j:=i) h6 (by omega);omega
       ·exact hni (h6 ▸ hk)
       ·have:=c.next_mono hL (i:=i+1) (j:=k) h6 (by omega);omega
    have Hr:HRel E.G (Ren.below Z (σ i).h.next) (Qdh (σ i).h) w :=
     I.h.restrict (h':=Qdh (σ i).h) Hi.globs (fun b _ hb=>(hst0 b hb).symm) Hi.wf
    have ht':TRel (Ren.below Z (σ i).h.next) ⟨T.size,T.only (looks ops.toList o)⟩ a.tmps:=by
     refine⟨I.t.size,fun x u hu => ?_⟩;have hu':(if x ∈ looks ops.toList o then T.t.get x else none)=some u:=by rw[<- eQ];exact hu
     split at hu'
     ·rename_i hx;have h2:=I.t.vals x u hu';have h3:=(Ti.vals x u (by rw[<- hlook x hx];exact hu')).1;have h4:=okV_and u h2.1 (okV_mono (fun b hb=>Qkr Hi hb) u h3);have h5:∀ b,dom Z b/\b < (σ i).h.next->Ren.below Z (σ i).h.next b=Z b:=by
       intro b hb;unfold Ren.below;rw[if_pos hb.2]
      refine⟨okV_mono (fun b hb => ?_) u h4,by rw[h2.2,ren_congr h5 u h4]⟩;have:=hb.1;simpa[dom,h5 b hb]using this
     ·cases hu'
    have hev:Qx4 E C o ⟨T.size,T.only (looks ops.toList o)⟩ (Qdh (σ i).h)=some (v,h1):=by
     rw[<- hv];refine Xpt E C o (fun x hx => ?_) _;rw[<- hl1 x hx];cases x with
     | tmp t =>
      simp only[aev];rw[eQ,if_pos];simp only[looks,al,List.mem_filterMap];exact .inl ⟨.tmp t,by simpa using hx,rfl⟩
     | _=>rfl
    refine Zn1 E hC hdef hev Hr ht' fun Z1 w' e1 e2 e3 e4 => ?_;obtain⟨H2,T2⟩:=Jnx (h0:=Qdh (σ i).h) I.h e3 e1 e2 (by rw[<- hn1];exact hnp) hgap (fun b hb=>hst0 b hb) (fun b hb=>by rw[hst1 b (by rw[hn1];exact hb),hg1]);have hnew:∀ b,dom Z1 b->mix Z1 Z h1.next b=Z1 b:=by
     intro b hb;unfold mix;rw[if_pos (Qkr e3 hb)]
    have h01:∀ b,b < (σ i).h.next->Z1 b=Z b:=by
     intro b hb;rw[e1 b hb];unfold Ren.below;rw[if_pos (by exact hb)]
    have hv2:okV (dom (mix Z1 Z h1.next)) v:=okV_mono (fun b hb=>by have:=hnew b hb;simpa[dom,this]using hb) v e4;have he:ren Z1 v=ren (mix Z1 Z h1.next) v:=(ren_congr hnew v e4).symm;rw[he];refine hK _ _ _ _ _ (Zlv c I ho hni hr hsz hst hdst (p':=p) (Jej hnn h01 hgap) hv2 H2 I.ple (ab _) (fun _=>hip) (.inl rfl) (fun b hb => ?_) (fun b hb => ?_) (I.turn.trans T2))
    ·rw[hn1];by_cases hlt:b < h1.next
     ·rcases aU b (σ i).h.next with h2 | h2
      ·refine .inl ?_;simp only[dom,mix,if_pos hlt,h01 b h2]at hb;exact hb
      ·exact .inr ⟨h2,hlt⟩
     ·refine .inl ?_;simp only[dom,mix,if_neg hlt]at hb;exact hb
    ·have h2:=c.next_mono hL (bn i) (by omega);unfold mix;rw[if_pos (by omega),h01 b (by omega)]
   ·
    have hquiet:∀ k,p<=k->k < i->Zmo E ops σ k∨Jh1 σ k:=by
     intro k hk1 hk2;have hks:k < ops.size:=(by omega);rcases c.kinds hL hks with h | h | ⟨h,_⟩
     ·exact .inl h
     ·exact .inr h
     ·by_cases hdk:Did listed k
      ·left;apply bT;intro hnk;have:=I.top k hdk hnk;omega
      ·exfalso;rcases h i hi hnf (by omega)with⟨h2,_⟩ | ⟨_,b,hb,hbt⟩
       ·omega
       ·exact hdk (X2i c I.down ho hr hb hbt)
    have hst0:=c.still hL hip (by omega) hquiet;have hnp:(σ p).h.next<=(σ i).h.next:=c.next_mono hL hip (by omega);have hlt:∀ b,dom Z b->b < (σ p).h.next:=fun b hb=>Qkr I.h hb;have Hr:HRel E.G Z (Qdh (σ i).h) w :=
     I.h.congr (h':=Qdh (σ i).h) Hi.globs (fun b hb=>au (hlt b hb) hnp) (fun b hb=>hst0 b (hlt b hb)) Hi.wf
    have hev:Qx4 E C o T (Qdh (σ i).h)=some (v,h1):=by
     rw[<- hv];exact Xpt E C o hl1 _
    refine Zn1 E hC hdef hev Hr I.t fun Z' w' e1 e2 e3 e4 => ?_;have H2:HRel E.G Z' (σ (i+1)).h w':=e3.congr (h':=(σ (i+1)).h) (by rw[hn1];exact e3.globs) (fun b hb=>by rw[hn1];exact Qkr e3 hb) (fun b _=>hg1 b) (by
     intro b x hx;rw[hn1];exact e3.wf b x (by rw[<- hg1];exact hx))
    have T1:Turn Z0 (σ 0).h w0 Z (Qdh (σ i).h) w:=I.turn.heap (fun b hb=>hst0 b (hlt b hb)) hnp;have T2:Turn Z0 (σ 0).h w0 Z' (σ (i+1)).h w':=(T1.trans e2).heap (fun b _=>hg1 b) (by rw[hn1];exact ab _);have hi0:∀ b,b < (σ i).h.next->Z' b=Z b:=e1;refine hK _ _ _ _ _ (Zlv c I ho hni hr hsz hst hdst (p':=i+1) (fun b hb=>hi0 b (au (hlt b hb) hnp)) e4 H2 hi (by omega) (fun _=>bD _) (.inr ⟨hnf,rfl⟩) (fun b hb => ?_) (fun b hb => ?_) T2)
    ·rcases aU b (σ i).h.next with h2 | h2
     ·refine .inl ?_;rw[dom,hi0 b h2]at hb;exact hb
     ·refine .inr ⟨h2,?_⟩;rw[hn1];exact Qkr e3 hb
    ·have:=c.next_mono hL (bn i) (by omega);exact hi0 b (by omega)
def Jc6(c:Canon E C ops B σ)(hwf:∀ i,i<=ops.size->∃ Z' w' tmps',HRel E.G Z' (σ i).h w'/\TRel Z' (σ i).t tmps')
  (I:Inv E ops B σ Z0 w0 listed Z a w T p) (hall:∀ j,j < ops.size->Did listed j) :
  SRel E.G Z (σ ops.size) a w/\Ext (σ 0).h.next Z0 Z/\Turn Z0 (σ 0).h w0 Z (σ ops.size).h w:=by
 have hfree:∀ k,p<=k->k < ops.size->Zmo E ops σ k:=by
  intro k hk1 hk2;apply bT;intro hnk;have:=I.top k (hall k hk2) hnk;omega
 have hsame:∀ j,p<=j->j<=ops.size->(σ j).h.next=(σ p).h.next/\∀ b,(σ j).h.get b=(σ p).h.get b:=by
  intro j hj;induction hj with
  | refl=>exact fun _=>⟨rfl,fun _=>rfl⟩
  | step h ih =>
   rename_i j;intro hjs;obtain⟨h1,h2⟩:=ih (by omega);obtain⟨h3,h4⟩:=c.free (hfree j h (by omega));exact⟨h3.trans h1,fun b=>(h4 b).trans (h2 b)⟩
 obtain⟨hn,hg⟩:=hsame ops.size I.ple (ab _);obtain⟨Zi,wi,ti,Hi,Ti⟩:=hwf ops.size (ab _);have H:HRel E.G Z (σ ops.size).h w:=I.h.congr Hi.globs (fun b hb=>by rw[hn];exact Qkr I.h hb) (fun b _=>hg b) Hi.wf;refine⟨⟨H,⟨?_,fun x v hx => ?_⟩,?_,?_⟩,I.ext,I.turn.heap (fun b _=>hg b) (by rw[hn];exact ab _)⟩
 ·rw[I.t.size,I.ts,c.size (ab _)]
 ·refine I.t.vals x v ?_;rw[I.tv x ops.size (ab _) fun j o' hj _=>⟨fun _=>Q0g hj,fun h=>hall j h⟩];exact hx
 ·rw[c.dss (ab _)];exact I.ds
 ·rw[c.dss (ab _)];exact I.okd
def Y00(c:Canon E C ops B σ)(hsz:listed.size=ops.size)(h:Region.ready .any ops listed=[]):∀ j,j < ops.size->Did listed j:=by
 intro j;induction j using Nat.strongRecOn with
 | _ j ih =>
  intro hj;apply bT;intro hd;have ho:ops[j]? = some ops[j]:=by simp[hj]
  have hm:j ∈ Region.ready .any ops listed:=by
   unfold Region.ready;rw[bW];refine⟨by simpa using hj,?_⟩;have h1:listed.getD j true=false:=by
    simp only[Did,Array.getD_eq_getD_getElem?]at hd ⊢;have hjl:j < listed.size:=(by omega);rw[Array.getElem?_eq_getElem hjl]at hd ⊢;simpa using hd
   rw[h1,ho];simp only[ax,dL,cJ,cT,Array.all_eq_true'];intro e he;have he':e ∈ (ops[j]).after.toList:=by simpa using he
   cases hb:Region.binds .any e with
   | false=>rfl
   | true =>
    have h2:=c.bef.on j _ (by simp[hj]) e he' hb;have:=ih e.on h2 (by omega);simpa[Did]using this
  rw[h]at hm;simp at hm
def Y44{i:Nat}(hsz:listed.size=ops.size)(h:i ∈ Region.ready .any ops listed):∃ o,ops[i]? = some o/\¬ Did listed i/\∀ e ∈ o.after.toList,Region.binds .any e=true->Did listed e.on:=by
 unfold Region.ready at h;rw[bW]at h;obtain⟨h1,h2⟩:=h;have hi:i < ops.size:=by simpa using h1
 have ho:ops[i]? = some ops[i]:=by simp[hi]
 rw[ho]at h2;simp only[ax,dL,ao,bS,Array.all_eq_true']at h2;refine⟨_,ho,?_,fun e he hb => ?_⟩
 ·have h3:=h2.1;simp only[Did,Array.getD_eq_getD_getElem?]at h3 ⊢;have hjl:i < listed.size:=by omega
  rw[Array.getElem?_eq_getElem hjl]at h3 ⊢;simp only[dL]at h3 ⊢;rw[h3];simp
 ·have:=h2.2 e (by simpa using he);rw[hb]at this;simpa[Did]using this
def Jml{rd:Option Nat}{β:Ren}(c:Canon E C ops B σ)(hC:CallsSound P E.G C)(hL:CallsLow C)(hwf:∀ i,i<=ops.size->∃ Z' w' tmps',HRel E.G Z' (σ i).h w'/\TRel Z' (σ i).t tmps'){Q:Exit->Act->World->Prop}
  (hQ:∀ Z a w,SRel E.G Z (σ ops.size) a w->Ext (σ 0).h.next Z0 Z->Turn Z0 (σ 0).h w0 Z (σ ops.size).h w->Q .normal a w) :
  ∀ (fuel:Nat) (listed:Array Bool) (Z:Ren) (a:Act) (w:World) (T:Tm) (p:Nat),listed.size=ops.size->listed.toList.count false<=fuel->Inv E ops B σ Z0 w0 listed Z a w T p->wpAnyIn (Qvk rd β) 0 P .any ops Q fuel listed a w:=by
 intro fuel;induction fuel with
 | zero =>
  intro listed Z a w T p hsz hc I;have hnil:Region.ready .any ops listed=[]:=by
   cases hr:Region.ready .any ops listed with
   | nil=>rfl
   | cons i l =>
    obtain⟨o,ho,hni,_⟩:=Y44 hsz (by rw[hr];exact bo);exfalso;have hi:=Q0g ho;have hil:i < listed.toList.length:=(by simpa[hsz]using hi);have hz:listed.toList.count false=0:=(by omega);rw[List.count_eq_zero]at hz;refine hz ?_;have : listed.toList[i]=false:=by
     simp only[Did,Array.getD_eq_getD_getElem?]at hni;rw[Array.getElem?_eq_getElem (by omega)]at hni;simpa using hni
    rw[<- this];exact cP hil
  obtain⟨h1,h2,h3⟩:=Jc6 c hwf I (Y00 c hsz hnil);exact⟨hnil,hQ _ _ _ h1 h2 h3⟩
 | succ fuel ih =>
  intro listed Z a w T p hsz hc I;refine⟨fun hnil => ?_,fun i hi => ?_⟩
  ·obtain⟨h1,h2,h3⟩:=Jc6 c hwf I (Y00 c hsz hnil);exact hQ _ _ _ h1 h2 h3
  ·obtain⟨o,ho,hni,hr⟩:=Y44 hsz hi;refine Z57 c hC hL hwf I ho hni hr hsz fun Z' a' w' T' p' I'=>ih _ Z' a' w' T' p' (by simpa using hsz) ?_ I';have hil:i < listed.toList.length:=by have:=Q0g ho;simpa[hsz]using this
   have : listed.toList[i]=false:=by
    simp only[Did,Array.getD_eq_getD_getElem?]at hni;rw[Array.getElem?_eq_getElem (by simpa using hil)]at hni;simpa using hni
   rw[Array.toList_setIfInBounds,List.count_set hil,this];have hpos:0 < listed.toList.count false:=by
    rw[List.count_pos_iff,<- this];exact cP hil
   rw[if_pos (by rfl),if_neg (by decide)];omega
def Ztt(c:Canon E C ops B σ){s:St}(h0:σ 0=s)(S:SRel E.G Z s a w):Inv E ops B σ Z w (Array.replicate ops.size false) Z a w s.t 0:=by
 have hno:∀ j,¬ Did (Array.replicate ops.size false) j:=by
  intro j hj;simp only[Did,Array.getD_eq_getD_getElem?,Array.getElem?_replicate]at hj;split at hj <;> simp at hj
 subst h0;refine⟨fun j o _ h=>absurd h (hno j),fun j h=>absurd h (hno j),S.t,rfl,fun x i => ?_,S.ds,S.okd,bn _,S.h,fun j h=>absurd h (hno j),.inl rfl,fun b hb => .inl (Qkr S.h hb),Ext.refl _ _,Turn.refl _ _ _⟩;induction i with
 | zero=>exact fun _ _=>rfl
 | succ i ih =>
  intro hi hs;have hi':i < ops.size:=hi;have ho:ops[i]? = some ops[i]:=by simp[hi']
  have hx:(ops[i]).dst≠some x:=fun e=>hno i ((hs i _ ho e).2 (bD _));rw[ih (by omega) (fun j o hj hd=>⟨fun h=>absurd h (hno j),fun h=>absurd ((hs j o hj hd).2 (by omega)) (hno j)⟩)];obtain⟨_,_,h⟩:=c.step i _ ho;rcases h with⟨_,h⟩ | ⟨_,v',h',_,h,_⟩ <;> (rw[h];exact(Z2j _ _ _ _ _ hx).symm)
def Z3k{s s1:St}(h:Ybv E C ops.toList s=some s1):∃ B σ,Canon E C ops B σ/\σ 0=s/\σ ops.size=s1:=by
 unfold Ybv at h;split at h
 ·rename_i B hB;split at h
  ·rename_i hp;split at h
   ·rename_i s2 R hR;split at h
    ·rename_i hx;cases h;obtain⟨σ,e1,e2,e3,e4⟩:=Yck _ _ _ _ _ hR;have hbef:BefOk ops.toList B:=by
      have:=Yzr ops.toList [] [] B hB ⟨rfl,fun j o h=>by simp at h,fun j o b h=>by simp at h⟩;simpa using this
     refine⟨B,σ,⟨hbef,fun j i oj oi b hj hi hb hij => ?_,fun i o ho => ?_,R,hx,fun k o ho => ?_⟩,e1,by simpa using e2⟩
     ·have:=Xxn hp j oj b (by simpa using hj) hb i oi (by simpa using hij) (by simpa using hi);exact this
     ·have:=e3 i o (by simpa using ho);simpa using this
     ·have:=e4 k o (by simpa using ho);simpa using this
    ·cases h
   ·cases h
  ·cases h
 ·cases h
def X83(E:Env2 P){rd:Option Nat}{C:CallF}(hC:CallsSound P E.G C)(hL:CallsLow C)(hm:P.follows .mixedOrders=true){id:Nat}{Q:Exit->St->Prop}{s s1:St}(h:Ybv E C ops.toList s=some s1)(hQ:Q .normal s1) :
  CW P E.G rd s.h.next (.region id ops true) s Q:=by
 intro Z a w S _;obtain⟨B,σ,c,h0,h1⟩:=Z3k h;refine wpIn_region_any hm ?_;have H':HRel E.G Z s.h {w with drawn:=w.drawn+1}:=S.h.same rfl;have S':SRel E.G Z s a {w with drawn:=w.drawn+1}:=⟨H',S.t,S.ds,S.okd⟩;subst h0;refine Jml c hC hL (c.wf hC H' S.t) (fun Z' a' w' S1 e1 t1 => ?_) _ _ _ _ _ _ _ (by simp) ?_ (Ztt c rfl S')
 ·rw[h1]at S1 t1;exact⟨Z',.normal,s1,hQ,rfl,trivial,e1,(Turn.drew _ _ _ (bH _)).trans t1,S1⟩
 ·simp
end
end Go.Ab
