import Derived.Test.YtijagoebdgohnaaGreatDoorAbB
import Derived.RangeFuncRecord
set_option linter.all false
noncomputable section
namespace Go.Ab
structure Env2 (P:Program) extends Env P where
 fn:Tr Func
 fnok:∀ f F,fn.get f=some F->P.funcs[f]? = some F/\(F.name == "runtime.NumGoroutine")=false/\F.body.isSome=true
 ex:Tr ExtK
 exok:∀ f x,ex.get f=some x->∃ F,P.funcs[f]? = some F/\Z4b F=some x
inductive Res where
 | val (v:Value) (h:Heap)
 | skip (h:Heap)
 | enter (f:FuncId) (args:List Value) (h:Heap)
 | round (l:Nat) (args:List Value) (h:Heap)
 | defer (d:Deferred) (h:Heap)
 | panic (v:Value) (h:Heap)
def evs(G:Bs)(t:Tm):List Operand->Option (List Value)
 | []=>some []
 | x::l=>match aev G t x,evs G t l with
  | some v,some vs=>some (v::vs)
  | _,_=>none
def Qf(G:Bs)(t:Tm):List (Nat × Operand)->Option (List (Nat × Value))
 | []=>some []
 | (i,x)::l=>match aev G t x,Qf G t l with
  | some v,some vs=>some ((i,v)::vs)
  | _,_=>none
def evO(G:Bs)(t:Tm):Option Operand->Option (Option Value)
 | none=>some none
 | some x=>(aev G t x).map some
def gv(r:Option (Value × Heap)):Option Res:=match r with | some (v,h)=>some (.val v h) | none=>none
def g0(h:Heap)(r:Option Value):Option Res:=match r with | some v=>some (.val v h) | none=>none
def gs(r:Option Heap):Option Res:=match r with | some h=>some (.skip h) | none=>none
def Qg(f:Value)(args:List Value):Option (FuncId × List Value) :=
 match f with
 | .func (.func f) first captured=>some (f,first.toList++args++captured.toList)
 | _=>none
def Ydg:Tm->List Tmp->List Value->Tm
 | t,p::ps,v::vs=>Ydg (t.put p v) ps vs
 | t,_,_=>t
def Zug(n:Nat):List Tmp->List Value->Bool
 | [],[]=>true
 | p::ps,_::vs=>Nat.blt p n && Zug n ps vs
 | _,_=>false
def Yda(f:Value)(args:List Value)(h:Heap):Option Res :=
 match f with
 | .func (.yield l) ⟨[]⟩ _=>match h.get l with
  | some (.obj (.loop _ _ t ps _ _ _))=>if Zug t.size ps.toList args then some (.round l args h)else none
  | _=>none
 | _=>none
def Q5{P:Program}(E:Env2 P)(b:Builtin)(ts:List TypeId)(args:List Value)(h:Heap):Option Res :=
 match b,ts,args with
 | .len,[t],[x]=>g0 h (Qne E.toEnv t x h)
 | .cap,[t],[x]=>g0 h (Jhl E.toEnv t x)
 | .append,[t,tx],[s,x]=>gv (Qem E.toEnv t tx s x h)
 | .copy,[t,_],[d,s]=>gv (Ya5 E.toEnv t d s h)
 | .max,_,l=>g0 h (Zf4 true l)
 | .min,_,l=>g0 h (Zf4 false l)
 | .panic,_,[.iface t v]=>some (.panic (.iface t v) h)
 | .delete,t::_,[m,k]=>gv (Xs7 E.toEnv t m k h)
 | .clear,t::_,[x]=>gv (Zhp E.toEnv t x h)
 | _,_,_=>none
def aop{P:Program}(E:Env2 P)(t:Tm)(h:Heap)(o:Oper):Option Res :=
 match o.op with
 | .move x | .assign x=>g0 h (aev E.G t x)
 | .pick c a b=>match aev E.G t c with
  | some (.bool true)=>g0 h (aev E.G t a)
  | some (.bool false)=>g0 h (aev E.G t b)
  | _=>none
 | .alloc e=>gv (Qbd E.toEnv e h)
 | .box _ x=>match aev E.G t x with
  | some v=>gv (Zqi v h)
  | none=>none
 | .build ty ps=>match Qf E.G t ps.toList with
  | some l=>g0 h (Qm8 E.toEnv ty l)
  | none=>none
 | .buildSlice ty n ps=>match Qf E.G t ps.toList with
  | some l=>gv (Vj E.toEnv ty n l h)
  | none=>none
 | .load ty a=>match aev E.G t a with
  | some x=>g0 h (Qk3 E.toEnv ty x h)
  | none=>none
 | .store ty a v=>match aev E.G t a,aev E.G t v with
  | some x,some y=>gs (Qbx E.toEnv ty x y h)
  | _,_=>none
 | .nilCheck x=>match aev E.G t x with
  | some v=>g0 h (Xz3 v)
  | none=>none
 | .binOp op ty x y _=>match aev E.G t x,aev E.G t y with
  | some a,some b=>g0 h (Yj E.toEnv op ty (Q6 x || Q6 y) a b)
  | _,_=>none
 | .unOp op _ x=>match aev E.G t x with
  | some v=>g0 h (aUn op v)
  | none=>none
 | .convert src dst x=>match aev E.G t x with
  | some v=>match Qw4 E.toEnv src dst with
   | true=>g0 h (Q1g E.toEnv src dst v)
   | false=>gv (Xis E.toEnv src dst v h)
  | none=>none
 | .sliceToArrayPointer ty x=>match aev E.G t x with
  | some v=>g0 h (Yid E.toEnv ty v)
  | none=>none
 | .makeInterface ty x=>match aev E.G t x with
  | some v=>g0 h (Q8q E.toEnv ty v)
  | none=>none
 | .makeFunc fn a b=>match evs E.G t a.toList,evs E.G t b.toList with
  | some x,some y=>g0 h (X8i fn x y)
  | _,_=>none
 | .makeSlice ty n c=>match aev E.G t n,aev E.G t c with
  | some x,some y=>gv (Qwm E.toEnv ty x y h)
  | _,_=>none
 | .slice ty x lo hi mx=>match aev E.G t x,evO E.G t lo,evO E.G t hi,evO E.G t mx with
  | some v,some a,some b,some c=>gv (Qhk E.toEnv ty v a b c h)
  | _,_,_,_=>none
 | .fieldAddr ty x f=>match aev E.G t x with
  | some v=>g0 h (Vp E.toEnv ty v f)
  | none=>none
 | .field ty x f=>match aev E.G t x with
  | some v=>g0 h (Zvu E.toEnv ty v f)
  | none=>none
 | .indexAddr ty x i=>match aev E.G t x,aev E.G t i with
  | some a,some b=>g0 h (Jx E.toEnv ty a b)
  | _,_=>none
 | .index ty x i=>match aev E.G t x,aev E.G t i with
  | some a,some b=>g0 h (Zpj E.toEnv ty a b)
  | _,_=>none
 | .typeAssert x _ ty ok=>match aev E.G t x with
  | some v=>g0 h (Xpe E.toEnv v ty ok)
  | none=>none
 | .extract x i=>match aev E.G t x with
  | some v=>g0 h (Q7 v i)
  | none=>none
 | .panic x=>match aev E.G t x with
  | some (.iface u v)=>some (.panic (.iface u v) h)
  | _=>none
 | .makeMap ty r=>match evO E.G t r with
  | some hv=>gv (Q4s E.toEnv ty hv h)
  | none=>none
 | .lookup ty x k ok=>match aev E.G t x,aev E.G t k with
  | some a,some b=>g0 h (Qoh E.toEnv ty a b ok h)
  | _,_=>none
 | .mapUpdate ty m k x=>match aev E.G t m,aev E.G t k,aev E.G t x with
  | some a,some b,some c=>gs (Qgl E.toEnv ty a b c h)
  | _,_,_=>none
 | .insert ty m k x=>match aev E.G t m,aev E.G t k,aev E.G t x with
  | some a,some b,some c=>gs (Qgl E.toEnv ty a b c h)
  | _,_,_=>none
 | .mapEntry ty m k=>match aev E.G t m,aev E.G t k with
  | some a,some b=>gv (Xj7 E.toEnv ty a b h)
  | _,_=>none
 | .entryStore _ m st x=>match aev E.G t m,aev E.G t st,aev E.G t x with
  | some a,some b,some c=>gs (Q47 a b c h)
  | _,_,_=>none
 | .range ty x=>match aev E.G t x with
  | some v=>gv (Ykq E.toEnv ty v h)
  | none=>none
 | .next x s=>match aev E.G t x with
  | some v=>gv (Zxh v s h)
  | none=>none
 | .entry x=>match aev E.G t x with
  | some v=>g0 h (Y8z v h)
  | none=>none
 | .call c=>match evs E.G t c.args.toList with
  | none=>none
  | some args=>match c.callee with
   | .builtin b=>Q5 E b c.argTypes.toList args h
   | .value f=>match aev E.G t f with
    | some fv=>match Qg fv args with
     | some (f,l)=>match E.fn.get f with
      | some _=>some (.enter f l h)
      | none=>match E.ex.get f with
       | some x=>gv (Yl9 x l h)
       | none=>none
     | none=>Yda fv args h
    | none=>none
   | .invoke _ _=>none
 | _=>none
def Jhq(P:Program)(G:Bs)(Y:Ren)(h:Heap)(w:World)(s:Sem Next):Res->Prop
 | .val v h' => ∃ Y' w',s.run P w=.ok (.value (ren Y' v)) w'/\okV (dom Y') v/\Ext h.next Y Y'/\HRel G Y' h' w'/\Turn Y h w Y' h' w'
 | .skip h' => ∃ w',s.run P w=.ok .skip w'/\HRel G Y h' w'/\Turn Y h w Y h' w'
 | .enter f args h'=>h'=h/\s.run P w=.ok (.enter f (args.map (ren Y)).toArray) w/\∀ v ∈ args,okV (dom Y) v
 | .round l args h'=>h'=h/\dom Y l/\(∀ v ∈ args,okV (dom Y) v)/\∃ st pend t ps as bd d,h.get l=some (.obj (.loop st pend t ps as bd d))/\∃ fn tmps,TRel Y (Ydg t ps.toList args) tmps/\s.run P w=.ok (.round (Uo Y l) fn tmps as bd) w
 | .defer d h'=>h'=h/\s.run P w=.ok (.defer (Qvs Y d)) w/\Yc9 (dom Y) d
 | .panic v h'=>h'=h/\s.run P w=.halt (.panic (ren Y v)) w/\okV (dom Y) v
section
variable{P:Program}{Y:Ren}{h:Heap}{w:World}
def Zi2{G:Bs}(H:HRel G Y h w){t:Tm}{a:Act}(ht:TRel Y t a.tmps):∀ {l:List Operand} {vs:List Value},evs G t l=some vs->l.map a.eval=vs.map (ren Y)/\∀ v ∈ vs,okV (dom Y) v
 | [],vs,hv=>by simp[evs]at hv;subst hv;simp
 | x::l,vs,hv=>by
  simp only[evs]at hv;split at hv
  ·rename_i v r h1 h2;cases hv;have a1:=Xmb H ht h1;have a2:=Zi2 H ht h2;exact⟨by simp[a1.2,a2.1],by simpa using⟨a1.1,a2.2⟩⟩
  ·cases hv
def Ykn{G:Bs}(H:HRel G Y h w){t:Tm}{a:Act}(ht:TRel Y t a.tmps):∀ {l:List (Nat × Operand)} {vs:List (Nat × Value)},Qf G t l=some vs ->
  l.map (fun p=>(p.1,a.eval p.2))=vs.map (fun p=>(p.1,ren Y p.2))/\∀ p ∈ vs,okV (dom Y) p.2
 | [],vs,hv=>by simp[Qf]at hv;subst hv;simp
 | (i,x)::l,vs,hv=>by
  simp only[Qf]at hv;split at hv
  ·rename_i v r h1 h2;cases hv;have a1:=Xmb H ht h1;have a2:=Ykn H ht h2;refine⟨by simp[a1.2,a2.1],fun p hp => ?_⟩;rcases ax.1 hp with rfl | hp
   ·exact a1.1
   ·exact a2.2 p hp
  ·cases hv
def Zuw{G:Bs}(H:HRel G Y h w){t:Tm}{a:Act}(ht:TRel Y t a.tmps){x:Option Operand}{v:Option Value}(hv:evO G t x=some v):x.map a.eval=v.map (ren Y):=by
 cases x with
 | none=>simp[evO]at hv;subst hv;rfl
 | some x =>
  simp only[evO,am]at hv;obtain⟨u,hu,rfl⟩:=hv;simp[(Xmb H ht hu).2]
def Qc4{G:Bs}{s:Sem Value}{v:Value}{h':Heap}(hg:Gives P G Y h w s v h'):Jhq P G Y h w (do pure (.value (<- s))) (.val v h'):=by
 obtain⟨Y',w',r1,r2⟩:=hg;exact⟨Y',w',by simp[r1],r2⟩
def Xkt{G:Bs}(H:HRel G Y h w){s:Sem Next}{v:Value}(hv:okV (dom Y) v)(hr:s.run P w=.ok (.value (ren Y v)) w):Jhq P G Y h w s (.val v h) :=
 ⟨Y,w,hr,hv,Ext.refl _ _,H,Turn.refl _ _ _⟩
def Qr1{r:Option (Value × Heap)}{x:Res}(h:gv r=some x):∃ v h',r=some (v,h')/\x=.val v h':=by
 unfold gv at h;split at h
 ·cases h;exact⟨_,_,rfl,rfl⟩
 ·cases h
def Qdd{h:Heap}{r:Option Value}{x:Res}(hx:g0 h r=some x):∃ v,r=some v/\x=.val v h:=by
 unfold g0 at hx;split at hx
 ·cases hx;exact⟨_,rfl,rfl⟩
 ·cases hx
def Ya8{r:Option Heap}{x:Res}(h:gs r=some x):∃ h',r=some h'/\x=.skip h':=by
 unfold gs at h;split at h
 ·cases h;exact⟨_,rfl,rfl⟩
 ·cases h
end
section
variable{P:Program}{Y:Ren}{h:Heap}{w:World}
def Xg0(t:TypeId)(v:Value)(w:World):(Instr.panic (.iface t v)).run P w=.halt (.panic (.iface t v)) w:=rfl
def Zr0(E:Env2 P)(H:HRel E.G Y h w){b:Builtin}{ts:Array TypeId}{ty:TypeId}{cs:Array Bool}{args:List Value}{r:Res}(ha:∀ v ∈ args,okV (dom Y) v)
  (hr:Q5 E b ts.toList args h=some r):Jhq P E.G Y h w (builtin b ts ty cs (args.map (ren Y)).toArray) r:=by
 unfold Q5 at hr;split at hr
 ·rename_i t x hts;obtain⟨v,hv,rfl⟩:=Qdd hr;have e1:ts = #[t]:=by apply bU;simpa using hts
  subst e1;exact Qc4 (Jbl E.toEnv H (ha x (by simp)) hv)
 ·rename_i t x hts;obtain⟨v,hv,rfl⟩:=Qdd hr;have e1:ts = #[t]:=by apply bU;simpa using hts
  subst e1;exact Qc4 (Jci E.toEnv H hv)
 ·rename_i t tx s x hts;obtain⟨v,h',hv,rfl⟩:=Qr1 hr;have e1:ts = #[t,tx]:=by apply bU;simpa using hts
  subst e1;exact Qc4 (Zy3 E.toEnv H (ha s (by simp)) (ha x (by simp)) hv)
 ·rename_i t tx d s hts;obtain⟨v,h',hv,rfl⟩:=Qr1 hr;have e1:ts = #[t,tx]:=by apply bU;simpa using hts
  subst e1;exact Qc4 (Z6g E.toEnv H (ha d (by simp)) (ha s (by simp)) hv)
 ·obtain⟨v,hv,rfl⟩:=Qdd hr;exact Qc4 (Y99 (mx:=true) H ts ty hv)
 ·obtain⟨v,hv,rfl⟩:=Qdd hr;exact Qc4 (Y99 (mx:=false) H ts ty hv)
 ·rename_i t v;cases hr;exact⟨rfl,by simp[builtin,Xg0,Result.andThen],ha _ (by simp)⟩
 ·rename_i t tl m k hts;obtain⟨v,h',hv,rfl⟩:=Qr1 hr;have e1:ts=(t::tl).toArray:=by apply bU;simpa using hts
  subst e1;exact Qc4 (Zz6 E.toEnv H (ha m (by simp)) hv)
 ·rename_i t tl x hts;obtain⟨v,h',hv,rfl⟩:=Qr1 hr;have e1:ts=(t::tl).toArray:=by apply bU;simpa using hts
  subst e1;exact Qc4 (Z4f E.toEnv H (ha x (by simp)) hv)
 ·cases hr
def Zvl:∀ {ps:List Tmp} {t:Tm} {vs:List Value} {tmps:Array Value},TRel Y t tmps->Zug t.size ps vs=true->(∀ v ∈ vs,okV (dom Y) v) ->
  TRel Y (Ydg t ps vs) ((ps.zip (vs.map (ren Y))).foldl (fun tmps x=>tmps.setIfInBounds x.1 x.2) tmps)
 | [],t,[],tmps,h,_,_=>by simpa[Ydg]using h
 | p::ps,t,v::vs,tmps,h,hp,hv=>by
  simp only[Zug,aq,dL]at hp;simp only[Ydg,aR,List.zip_cons_cons,List.foldl_cons];exact Zvl (h.put hp.1 (hv v (by simp))) (by simpa[Tm.put]using hp.2) (fun x hx=>hv x (by simp[hx]))
 | [],t,_::_,_,_,hp,_=>by simp[Zug]at hp
 | _::_,t,[],_,_,hp,_=>by simp[Zug]at hp
def Yt9{n:Nat}:∀ {ps:List Tmp} {vs:List Value},Zug n ps vs=true->vs.length=ps.length
 | [],[],_=>rfl
 | p::ps,v::vs,h=>by
  simp only[Zug,aq]at h;simp[Yt9 h.2]
 | [],_::_,h=>by simp[Zug]at h
 | _::_,[],h=>by simp[Zug]at h
def Z2f{G:Bs}(H:HRel G Y h w){f:Value}{args:List Value}{r:Res}(hf:okV (dom Y) f)(ha:∀ v ∈ args,okV (dom Y) v)(hc:Yda f args h=some r) :
  ∃ l captured,ren Y f=.func (.yield (Uo Y l)) #[] captured/\r=.round l args h/\dom Y l/\∃ st pend t ps as bd d,h.get l=some (.obj (.loop st pend t ps as bd d))/\∃ fn tmps,TRel Y (Ydg t ps.toList args) tmps /\
   (Instr.yield (Uo Y l) (args.map (ren Y)).toArray).run P w=.ok (.round (Uo Y l) fn tmps as bd) w:=by
 unfold Yda at hc;split at hc
 ·rename_i l captured;split at hc
  ·rename_i st pend t ps as bd d hg;split at hc
   ·rename_i hps;cases hc;simp only[okV]at hf;obtain⟨p,hp⟩:=aN.1 hf.1;obtain⟨f0,o,f1,hd,fn,tmps,rfl,ht⟩:=H.fits l p _ hp hg;have hl:Uo Y l=p.blk:=(by simp[Uo,hp]);refine⟨l,captured.map (ren Y),by simp[ren,Yg8,Qsk],rfl,hf.1,st,pend,t,ps,as,bd,d,hg,fn,_,Zvl ht hps ha,?_⟩;rw[hl,run_yield f1 (by simp[Yt9 hps])];simp only[Result.ok.injEq,and_true];congr 1;rw[<- Array.foldl_toList];simp
   ·cases hc
  ·cases hc
 ·cases hc
def Y9t{f:Value}{args:List Value}{fid:FuncId}{l:List Value}(hf:okV (dom Y) f)(ha:∀ v ∈ args,okV (dom Y) v)(hc:Qg f args=some (fid,l)) :
  (∀ v ∈ l,okV (dom Y) v)/\∃ first captured:Array Value,ren Y f=.func (.func fid) first captured/\(l.map (ren Y)).toArray=first++(args.map (ren Y)).toArray++captured:=by
 unfold Qg at hc;split at hc
 ·rename_i fi first captured
  cases hc;simp only[okV,Q6u]at hf;refine⟨fun v hv => ?_,first.map (ren Y),captured.map (ren Y),by simp[ren,Yg8,Qsk],by simp⟩;simp only[ac,dF]at hv;rcases hv with(hv | hv) | hv
  ·exact hf.1 v hv
  ·exact ha v hv
  ·exact hf.2 v hv
 ·cases hc
def Qxy(E:Env2 P)(H:HRel E.G Y h w){t:Tm}{a:Act}(ht:TRel Y t a.tmps){o:Oper}{r:Res}(hr:aop E t h o=some r):Jhq P E.G Y h w (execOp a.eval o) r:=by
 unfold aop at hr;have ev:∀ {x:Operand} {v:Value},aev E.G t x=some v->okV (dom Y) v/\a.eval x=ren Y v:=fun hx=>Xmb H ht hx;split at hr
 ·rename_i x hop;obtain⟨v,hv,rfl⟩:=Qdd hr;exact Xkt H (ev hv).1 (by simp only[execOp,hop,(ev hv).2];rfl)
 ·rename_i x hop;obtain⟨v,hv,rfl⟩:=Qdd hr;exact Xkt H (ev hv).1 (by simp only[execOp,hop,(ev hv).2];rfl)
 ·rename_i c x y hop;split at hr
  ·rename_i hc;obtain⟨v,hv,rfl⟩:=Qdd hr;exact Xkt H (ev hv).1 (by simp[execOp,hop,(ev hv).2,(ev hc).2,asBool])
  ·rename_i hc;obtain⟨v,hv,rfl⟩:=Qdd hr;exact Xkt H (ev hv).1 (by simp[execOp,hop,(ev hv).2,(ev hc).2,asBool])
  ·cases hr
 ·rename_i e hop;obtain⟨v,h',hv,rfl⟩:=Qr1 hr;simp only[execOp,hop];exact Qc4 (Z2g E.toEnv H hv)
 ·rename_i e x hop;split at hr
  ·rename_i v0 h0;obtain⟨v,h',hv,rfl⟩:=Qr1 hr;simp only[execOp,hop,(ev h0).2];exact Qc4 (Jcm H (ev h0).1 hv)
  ·cases hr
 ·rename_i ty ps hop;split at hr
  ·rename_i l hl;obtain⟨v,hv,rfl⟩:=Qdd hr;obtain⟨e1,e2⟩:=Ykn H ht hl;have e3:(ps.map fun x=>(x.1,a.eval x.2))=(l.map fun p=>(p.1,ren Y p.2)).toArray:=by apply bU;rw[bI,e1]
   simp only[execOp,hop];rw[e3];exact Qc4 (Z0a E.toEnv H e2 hv)
  ·cases hr
 ·rename_i ty n ps hop;split at hr
  ·rename_i l hl;obtain⟨v,h',hv,rfl⟩:=Qr1 hr;obtain⟨e1,e2⟩:=Ykn H ht hl;have e3:(ps.map fun x=>(x.1,a.eval x.2))=(l.map fun p=>(p.1,ren Y p.2)).toArray:=by apply bU;rw[bI,e1]
   simp only[execOp,hop];rw[e3];exact Qc4 (Y6z E.toEnv H e2 hv)
  ·cases hr
 ·rename_i ty x hop;split at hr
  ·rename_i v0 h0;obtain⟨v,hv,rfl⟩:=Qdd hr;simp only[execOp,hop,(ev h0).2];exact Qc4 (Z8x E.toEnv H (ev h0).1 hv)
  ·cases hr
 ·rename_i ty x y hop;split at hr
  ·rename_i v0 v1 h0 h1;obtain⟨h',hv,rfl⟩:=Ya8 hr;obtain⟨w',r1,r2⟩:=Z0l E.toEnv H (ev h0).1 (ev h1).1 hv;exact⟨w',by simp[execOp,hop,(ev h0).2,(ev h1).2,r1],r2⟩
  ·cases hr
 ·rename_i x hop;split at hr
  ·rename_i v0 h0;obtain⟨v,hv,rfl⟩:=Qdd hr;obtain⟨n,op,ty,p,af,g⟩:=o;simp only at hop;subst hop;obtain⟨rfl,h2⟩:=Zjq (P:=P) hv w n x ty p af g a.eval (ev h0).2;exact Xkt H (ev h0).1 h2
  ·cases hr
 ·rename_i op ty x y yt hop;split at hr
  ·rename_i v0 v1 h0 h1;obtain⟨v,hv,rfl⟩:=Qdd hr;simp only[execOp,hop,(ev h0).2,(ev h1).2];exact Qc4 (Jan E.toEnv H hv)
  ·cases hr
 ·rename_i op ty x hop;split at hr
  ·rename_i v0 h0;obtain⟨v,hv,rfl⟩:=Qdd hr;simp only[execOp,hop,(ev h0).2];exact Qc4 (Jgq H hv)
  ·cases hr
 ·rename_i s d x hop;split at hr
  ·rename_i v0 h0;simp only[execOp,hop,(ev h0).2];split at hr
   ·obtain⟨v,hv,rfl⟩:=Qdd hr;exact Qc4 (Zrl E.toEnv H hv)
   ·obtain⟨v,h',hv,rfl⟩:=Qr1 hr;exact Qc4 (Z37 E.toEnv H (ev h0).1 hv)
  ·cases hr
 ·rename_i ty x hop;split at hr
  ·rename_i v0 h0;obtain⟨v,hv,rfl⟩:=Qdd hr;simp only[execOp,hop,(ev h0).2];exact Qc4 (Zxj E.toEnv H (ev h0).1 hv)
  ·cases hr
 ·rename_i ty x hop;split at hr
  ·rename_i v0 h0;obtain⟨v,hv,rfl⟩:=Qdd hr;simp only[execOp,hop,(ev h0).2];exact Qc4 (Zss E.toEnv H (ev h0).1 hv)
  ·cases hr
 ·rename_i fn x y hop;split at hr
  ·rename_i l1 l2 h1 h2;obtain⟨v,hv,rfl⟩:=Qdd hr;obtain⟨a1,a2⟩:=Zi2 H ht h1;obtain⟨b1,b2⟩:=Zi2 H ht h2;have e1:x.map a.eval=(l1.map (ren Y)).toArray:=by apply bU;rw[bI,a1]
   have e2:y.map a.eval=(l2.map (ren Y)).toArray:=by apply bU;rw[bI,b1]
   simp only[execOp,hop];rw[e1,e2];exact Qc4 (Zyu H a2 b2 hv)
  ·cases hr
 ·rename_i ty x y hop;split at hr
  ·rename_i v0 v1 h0 h1;obtain⟨v,h',hv,rfl⟩:=Qr1 hr;simp only[execOp,hop,(ev h0).2,(ev h1).2];exact Qc4 (Za2 E.toEnv H hv)
  ·cases hr
 ·rename_i ty x lo hi mx hop;split at hr
  ·rename_i v0 l0 l1 l2 h0 e0 e1 e2;obtain⟨v,h',hv,rfl⟩:=Qr1 hr;simp only[execOp,hop,(ev h0).2,Zuw H ht e0,Zuw H ht e1,Zuw H ht e2];exact Qc4 (Z3a E.toEnv H (ev h0).1 hv)
  ·cases hr
 ·rename_i ty x f hop;split at hr
  ·rename_i v0 h0;obtain⟨v,hv,rfl⟩:=Qdd hr;simp only[execOp,hop,(ev h0).2];exact Qc4 (Zc5 E.toEnv H (ev h0).1 hv)
  ·cases hr
 ·rename_i ty x f hop;split at hr
  ·rename_i v0 h0;obtain⟨v,hv,rfl⟩:=Qdd hr;simp only[execOp,hop,(ev h0).2];exact Qc4 (Z48 E.toEnv H (ev h0).1 hv)
  ·cases hr
 ·rename_i ty x y hop;split at hr
  ·rename_i v0 v1 h0 h1;obtain⟨v,hv,rfl⟩:=Qdd hr;simp only[execOp,hop,(ev h0).2,(ev h1).2];exact Qc4 (Zg6 E.toEnv H (ev h0).1 hv)
  ·cases hr
 ·rename_i ty x y hop;split at hr
  ·rename_i v0 v1 h0 h1;obtain⟨v,hv,rfl⟩:=Qdd hr;simp only[execOp,hop,(ev h0).2,(ev h1).2];exact Qc4 (Z0w E.toEnv H (ev h0).1 hv)
  ·cases hr
 ·rename_i x xt ty ok hop;split at hr
  ·rename_i v0 h0;obtain⟨v,hv,rfl⟩:=Qdd hr;simp only[execOp,hop,(ev h0).2];exact Qc4 (Zz7 E.toEnv H (ev h0).1 hv)
  ·cases hr
 ·rename_i x i hop;split at hr
  ·rename_i v0 h0;obtain⟨v,hv,rfl⟩:=Qdd hr;simp only[execOp,hop,(ev h0).2];exact Qc4 (Zt3 H (ev h0).1 hv)
  ·cases hr
 ·rename_i x hop;split at hr
  ·rename_i u v h0;cases hr;refine⟨rfl,?_,(ev h0).1⟩;simp[execOp,hop,(ev h0).2,ren_iface,Xg0,Result.andThen]
  ·cases hr
 ·rename_i ty r hop;split at hr
  ·rename_i hv e0;obtain⟨v,h',hv,rfl⟩:=Qr1 hr;simp only[execOp,hop,Zuw H ht e0];exact Qc4 (Zr5 E.toEnv H hv)
  ·cases hr
 ·rename_i ty x k ok hop;split at hr
  ·rename_i v0 v1 h0 h1;obtain⟨v,hv,rfl⟩:=Qdd hr;simp only[execOp,hop,(ev h0).2,(ev h1).2];exact Qc4 (Zyr E.toEnv H (ev h0).1 hv)
  ·cases hr
 ·rename_i ty m k x hop;split at hr
  ·rename_i v0 v1 v2 h0 h1 h2;obtain⟨h',hv,rfl⟩:=Ya8 hr;obtain⟨w',r1,r2,r3⟩:=Ygt E.toEnv H (k:=v1) (ev h0).1 (ev h2).1 hv;exact⟨w',by simp[execOp,hop,(ev h0).2,(ev h1).2,(ev h2).2,r1],r2,r3⟩
  ·cases hr
 ·rename_i ty m k x hop;split at hr
  ·rename_i v0 v1 v2 h0 h1 h2;obtain⟨h',hv,rfl⟩:=Ya8 hr;obtain⟨w',r1,r2,r3⟩:=Ygt E.toEnv H (k:=v1) (ev h0).1 (ev h2).1 hv;exact⟨w',by simp[execOp,hop,(ev h0).2,(ev h1).2,(ev h2).2,r1],r2,r3⟩
  ·cases hr
 ·rename_i ty m k hop;split at hr
  ·rename_i v0 v1 h0 h1;obtain⟨v,h',hv,rfl⟩:=Qr1 hr;simp only[execOp,hop,(ev h0).2,(ev h1).2];exact Qc4 (Znc E.toEnv H (ev h0).1 hv)
  ·cases hr
 ·rename_i ty m st x hop;split at hr
  ·rename_i v0 v1 v2 h0 h1 h2;obtain⟨h',hv,rfl⟩:=Ya8 hr;obtain⟨w',r1,r2,r3⟩:=Y1p (P:=P) (t:=ty) H (st:=v1) (ev h0).1 (ev h2).1 hv;exact⟨w',by simp[execOp,hop,(ev h0).2,(ev h1).2,(ev h2).2,r1],r2,r3⟩
  ·cases hr
 ·rename_i ty x hop;split at hr
  ·rename_i v0 h0;obtain⟨v,h',hv,rfl⟩:=Qr1 hr;simp only[execOp,hop,(ev h0).2];exact Qc4 (Z0f E.toEnv H (ev h0).1 hv)
  ·cases hr
 ·rename_i x s hop;split at hr
  ·rename_i v0 h0;obtain⟨v,h',hv,rfl⟩:=Qr1 hr;simp only[execOp,hop,(ev h0).2];exact Qc4 (Z62 H (ev h0).1 hv)
  ·cases hr
 ·rename_i x hop;split at hr
  ·rename_i v0 h0;obtain⟨v,hv,rfl⟩:=Qdd hr;simp only[execOp,hop,(ev h0).2];exact Qc4 (Z4x H (ev h0).1 hv)
  ·cases hr
 ·rename_i c hop;split at hr
  ·cases hr
  ·rename_i args hargs;obtain⟨e1,e2⟩:=Zi2 H ht hargs;have e3:c.args.map a.eval=(args.map (ren Y)).toArray:=by apply bU;rw[bI,e1]
   split at hr
   ·rename_i b hb;have:=Zr0 (ty:=o.type) (cs:=c.args.map fun | .const _=>true | _=>false) (ts:=c.argTypes) E H e2 hr;have he:(execOp a.eval o)=builtin b c.argTypes o.type (c.args.map fun | .const _=>true | _=>false) (args.map (ren Y)).toArray:=by
     simp only[execOp,hop,resolve,hb,e3];rfl
    rw[he];exact this
   ·rename_i f hf;split at hr
    ·rename_i fv hfv;split at hr
     ·rename_i fid l hc;split at hr
      ·rename_i F hF;cases hr;obtain⟨o1,first,captured,o2,o3⟩:=Y9t (ev hfv).1 e2 hc;obtain⟨g1,g2,g3⟩:=E.fnok _ _ hF;refine⟨rfl,?_,o1⟩;have hbody:F.body.isNone=false:=by cases hb:F.body <;> simp[hb]at g3 ⊢
       simp only[execOp,hop,resolve,hf,e3,(ev hfv).2,o2,Deferred.ofValue,ar,aQ,ai,invoke,callFunc,run_program,g1,g2,aL,if_false,hbody,o3]
      ·split at hr
       ·rename_i x hex;obtain⟨v,h',hv,rfl⟩:=Qr1 hr;obtain⟨o1,first,captured,o2,o3⟩:=Y9t (ev hfv).1 e2 hc;obtain⟨F,g1,gx⟩:=E.exok _ _ hex;obtain⟨g2,g3,g4,g5⟩:=Z8k gx;obtain⟨Y',w',r1,r2⟩:=Z2z (P:=P) H o1 hv;rw[o3]at r1;have hmark:∀ m,(mark m).run P w=.ok () w:=fun _=>rfl;refine⟨Y',w',?_,r2⟩;simp only[execOp,hop,resolve,hf,e3,(ev hfv).2,o2,Deferred.ofValue,ar,aQ,ai,invoke,callFunc,run_program,g1,g2,aL,if_false,g3,if_true,hmark,g4,g5,r1]
       ·cases hr
     ·obtain⟨l,captured,q1,rfl,q2,st,pend,t',ps,as,bd,d,q3,fn,tmps,q4,q5⟩:=Z2f (P:=P) H (ev hfv).1 e2 hr;refine⟨rfl,q2,e2,st,pend,t',ps,as,bd,d,q3,fn,tmps,q4,?_⟩;simp only[execOp,hop,resolve,hf,e3,(ev hfv).2,q1,Deferred.ofValue,ar,aQ,ai,invoke,Array.empty_append,q5]
    ·cases hr
   ·cases hr
 ·cases hr
end
structure St where
 t:Tm
 ds:List Deferred
 h:Heap
def Ycj(Y:Ren)(p:PanicEntry):PanicEntry:={v:=ren Y p.v,recovered:=p.recovered,goexit:=p.goexit}
def Qp4(Y:Ren):Exit->Exit
 | .panic ch => .panic (ch.map (Ycj Y))
 | e=>e
def Q04(D:Nat->Prop):Exit->Prop
 | .panic ch => ∀ p ∈ ch,okV D p.v
 | .outgrown=>False
 | _=>True
inductive AEnd where
 | ret (v:Value)
 | panic (ch:List PanicEntry)
def Qww(Y:Ren):AEnd->Ending
 | .ret v => .returned (ren Y v)
 | .panic ch => .panicked (ch.map (Ycj Y))
def Xx6(D:Nat->Prop):AEnd->Prop
 | .ret v=>okV D v
 | .panic ch => ∀ p ∈ ch,okV D p.v
structure SRel (G:Bs) (Y:Ren) (s:St) (a:Act) (w:World):Prop where
 h:HRel G Y s.h w
 t:TRel Y s.t a.tmps
 ds:a.defers=s.ds.map (Qvs Y)
 okd:∀ d ∈ s.ds,Yc9 (dom Y) d
def Qt4(rd:Option Nat)(Y:Ren):Fence:=match rd with
 | none=>Fence.wide
 | some l=>Fence.wide.inRound (Uo Y l)
def CW(P:Program)(G:Bs)(rd:Option Nat)(n:Nat)(c:Code)(s:St)(Q:Exit->St->Prop):Prop :=
 ∀ Y a w,SRel G Y s a w->(∀ l,rd=some l->dom Y l)->c.wpIn (Qt4 rd Y) 0 P (fun e' a' w' => ∃ Y' e s',Q e s'/\e'=Qp4 Y' e/\Q04 (dom Y') e/\Ext n Y Y'/\Turn Y s.h w Y' s'.h w'/\SRel G Y' s' a' w') a w
def CallOK(P:Program)(G:Bs)(f:FuncId)(args:List Value)(h:Heap)(R:AEnd->Heap->Prop):Prop :=
 ∀ Y w,HRel G Y h w->(∀ v ∈ args,okV (dom Y) v)->CallsIn Fence.wide 0 P f (args.map (ren Y)).toArray w
  (fun e w' => ∃ Y' r h',R r h'/\e=Qww Y' r/\Xx6 (dom Y') r/\Ext h.next Y Y'/\Turn Y h w Y' h' w'/\HRel G Y' h' w')
def Xrb(P:Program)(G:Bs)(l:Nat)(args:List Value)(h:Heap)(R:AEnd->Heap->Prop):Prop :=
 ∀ (Y:Ren) (w:World) (β:Ren) (rd:Option Nat) st pend t ps as bd d fn tmps,HRel G Y h w->dom Y l->(∀ v ∈ args,okV (dom Y) v)->h.get l=some (.obj (.loop st pend t ps as bd d))->TRel Y (Ydg t ps.toList args) tmps ->
  RoundIn (Qt4 rd β) 0 P (Uo Y l) fn tmps as bd w
   (fun e w' => ∃ Y' r h',R r h'/\e=Qww Y' r/\Xx6 (dom Y') r/\Ext h.next Y Y'/\Turn Y h w Y' h' w'/\HRel G Y' h' w')
def CallOK.mono{P:Program}{G:Bs}{f:FuncId}{args:List Value}{h:Heap}{R R':AEnd->Heap->Prop}(hc:CallOK P G f args h R)(hr:∀ r h',R r h'->R' r h'):CallOK P G f args h R' :=
 fun Y w H ha=>(hc Y w H ha).mono fun _ _ ⟨Y',r,h',h1,h2⟩=>⟨Y',r,h',hr _ _ h1,h2⟩
def CW.mono{P:Program}{G:Bs}{rd:Option Nat}{n m:Nat}{c:Code}{s:St}{Q Q':Exit->St->Prop}(hc:CW P G rd n c s Q)(hmn:m<=n)(hq:∀ e s',Q e s'->Q' e s'):CW P G rd m c s Q' :=
 fun Y a w H hl=>wpIn_mono (hc Y a w H hl) fun _ _ _ ⟨Y',e,s',h1,h2,h3,h4,h5⟩=>⟨Y',e,s',hq _ _ h1,h2,h3,h4.mono hmn,h5⟩
def St.put(s:St)(d:Option Tmp)(v:Value)(h:Heap):St:=match d with
 | none=>{s with h:=h}
 | some i=>{t:=s.t.put i v,ds:=s.ds,h:=h}
def Qm7(s:St)(d:Option Tmp):Bool:=match d with
 | none=>true
 | some i=>Nat.blt i s.t.size
section
variable{P:Program}{G:Bs}{Y:Ren}{s:St}{a:Act}{w:World}
def Q03{Y β:Ren}{D:Nat->Prop}(h:∀ b,D b->β b=Y b){d:Deferred}(hd:Yc9 D d):Qvs β d=Qvs Y d:=by
 obtain⟨t,args⟩:=d;cases t <;> simp only[Yc9,Qvs]at hd ⊢
 ·rename_i f c;have h1:ren β (.func f #[] c)=ren Y (.func f #[] c):=ren_congr h _ hd.1;simp only[ren,Value.func.injEq]at h1;rw[h1.1,h1.2.2,renA_congr h _ hd.2]
 ·rw[renA_congr h _ hd]
 ·rw[renA_congr h _ hd]
 ·rw[Qbr (h _ hd.1),renA_congr h _ hd.2]
def Xae{D E:Nat->Prop}(h:∀ b,D b->E b){d:Deferred}(hd:Yc9 D d):Yc9 E d:=by
 obtain⟨t,args⟩:=d;cases t <;> simp only[Yc9]at hd ⊢
 ·exact⟨okV_mono h _ hd.1,okA_mono h _ hd.2⟩
 ·exact okA_mono h _ hd
 ·exact okA_mono h _ hd
 ·exact⟨h _ hd.1,okA_mono h _ hd.2⟩
def SRel.step(S:SRel G Y s a w){Y':Ren}{h':Heap}{w':World}(he:Ext s.h.next Y Y')(H':HRel G Y' h' w'):SRel G Y' {s with h:=h' } a w':=by
 have hd:∀ b,dom Y b->Y' b=Y b:=fun b hb=>he b (Ql2 S.h hb);refine⟨H',S.t.ext S.h he,?_,fun d hd'=>Xae (fun b hb=>by simpa[dom,hd b hb]using hb) (S.okd d hd')⟩;rw[S.ds];apply bM;intro d hd';exact(Q03 hd (S.okd d hd')).symm
def SRel.put(S:SRel G Y s a w){d:Option Tmp}{v:Value}(hd:Qm7 s d=true)(hv:okV (dom Y) v):SRel G Y (s.put d v s.h) (a.put d (ren Y v)) w:=by
 cases d with
 | none=>exact⟨S.h,S.t,S.ds,S.okd⟩
 | some i =>
  simp only[Qm7,dL]at hd;exact⟨S.h,S.t.put hd hv,S.ds,S.okd⟩
def Z19{rd:Option Nat}{Q:Exit->St->Prop}(hq:Q .normal s):CW P G rd s.h.next .skip s Q :=
 fun Y _ _ S _=>wpIn_skip ⟨Y,.normal,s,hq,rfl,trivial,Ext.refl _ _,Turn.refl _ _ _,S⟩
def Zwt{rd:Option Nat}{l:Nat}{Q:Exit->St->Prop}(hq:Q .normal s):CW P G rd s.h.next (.label l) s Q :=
 fun Y _ _ S _=>wpIn_label ⟨Y,.normal,s,hq,rfl,trivial,Ext.refl _ _,Turn.refl _ _ _,S⟩
def Z5d{rd:Option Nat}{id:Nat}{Q:Exit->St->Prop}(hq:Q (.exit id) s):CW P G rd s.h.next (.exit id) s Q :=
 fun Y _ _ S _=>wpIn_exit ⟨Y,.exit id,s,hq,rfl,trivial,Ext.refl _ _,Turn.refl _ _ _,S⟩
def Z9x{rd:Option Nat}{Q:Exit->St->Prop}(hq:Q .ret s):CW P G rd s.h.next .ret s Q :=
 fun Y _ _ S _=>wpIn_ret ⟨Y,.ret,s,hq,rfl,trivial,Ext.refl _ _,Turn.refl _ _ _,S⟩
def X0y{rd:Option Nat}{n:Nat}{Y β:Ren}{G:Bs}{s:St}{w:World}{a:Act}(S:SRel G Y s a w)(he:Ext s.h.next Y β)(hl:∀ l,rd=some l->dom Y l):Qt4 rd β=Qt4 rd Y/\(∀ l,rd=some l->dom β l)/\n=n:=by
 refine⟨?_,fun l h => ?_,rfl⟩
 ·cases rd with
  | none=>rfl
  | some l=>simp only[Qt4,Qbr (he l (Ql2 S.h (hl l rfl)))]
 ·have:=he l (Ql2 S.h (hl l h));simpa[dom,this]using hl l h
def Ja5{rd:Option Nat}{x y:Code}{Q:Exit->St->Prop}(h:CW P G rd s.h.next x s (fun e s'=>s.h.next<=s'.h.next/\(e=.normal->CW P G rd s'.h.next y s' Q)/\(e ≠ .normal->Q e s'))) :
  CW P G rd s.h.next (.seq x y) s Q:=by
 intro Y a w S hl;refine wpIn_seq (wpIn_mono (h Y a w S hl) ?_);rintro e' a' w' ⟨Y',e,s',⟨hn,hq1,hq2⟩,rfl,hoe,hext,hturn,S'⟩;by_cases hne:e=.normal
 ·subst hne;obtain⟨f1,f2,_⟩:=X0y (rd:=rd) (n:=0) S hext hl;have:=hq1 rfl Y' a' w' S' f2;rw[f1]at this;show y.wpIn _ _ _ _ _ _;refine wpIn_mono this ?_;rintro e'' a'' w'' ⟨Y'',e2,s'',g1,g2,g3,g4,g5,g6⟩;exact⟨Y'',e2,s'',g1,g2,g3,hext.trans g4 hn,hturn.trans g5,g6⟩
 ·have : ∃ Y'_1 e_1 s'_1,Q e_1 s'_1/\Qp4 Y' e=Qp4 Y'_1 e_1/\Q04 (dom Y'_1) e_1/\Ext s.h.next Y Y'_1/\Turn Y s.h w Y'_1 s'_1.h w'/\SRel G Y'_1 s'_1 a' w':=⟨Y',e,s',hq2 hne,rfl,hoe,hext,hturn,S'⟩;cases e <;> first
   | exact absurd rfl hne
   | exact this
def Zua{rd:Option Nat}{c:Operand}{x y:Code}{Q:Exit->St->Prop}{b:Bool}(hc:aev G s.t c=some (.bool b))(h:CW P G rd s.h.next (if b then x else y) s Q):CW P G rd s.h.next (.cond c x y) s Q:=by
 intro Y a w S hl;exact wpIn_cond (by rw[(Xmb S.h S.t hc).2,ren_bool]) (h Y a w S hl)
def Zwg{rd:Option Nat}{id n:Nat}{c:Code}{Q:Exit->St->Prop}(h:CW P G rd n c s (fun e s'=>match e with
  | .exit id'=>if id'=id then Q .normal s' else Q (.exit id') s'
  | e=>Q e s')):CW P G rd n (.block id c) s Q:=by
 intro Y a w S hl;refine wpIn_block (wpIn_mono (h Y a w S hl) ?_);rintro e' a' w' ⟨Y',e,s',hq,rfl,hoe,hext,hturn,S'⟩;cases e with
 | exit id' =>
  simp only[Qp4,Exit.inBlock];simp only at hq;split
  ·rename_i hid;rw[if_pos hid]at hq;exact⟨Y',.normal,s',hq,rfl,trivial,hext,hturn,S'⟩
  ·rename_i hid;rw[if_neg hid]at hq;exact⟨Y',.exit id',s',hq,rfl,trivial,hext,hturn,S'⟩
 | outgrown=>exact hoe.elim
 | normal=>exact⟨Y',_,s',hq,rfl,hoe,hext,hturn,S'⟩
 | goto l=>exact⟨Y',_,s',hq,rfl,hoe,hext,hturn,S'⟩
 | ret=>exact⟨Y',_,s',hq,rfl,hoe,hext,hturn,S'⟩
 | panic ch=>exact⟨Y',_,s',hq,rfl,hoe,hext,hturn,S'⟩
def Zmq{p:Nat->Prop}:∀ k,p k->∃ j,p j/\∀ i,p i->j<=i:=by
 intro k;induction k using Nat.strongRecOn with
 | _ k ih =>
  intro hk;by_cases hj:∃ j,j < k/\p j
  ·obtain⟨j,h1,h2⟩:=hj;exact ih j h1 h2
  ·exact⟨k,hk,fun i hi=>Nat.le_of_not_lt fun hlt=>hj ⟨i,hlt,hi⟩⟩
def Z2r{rd:Option Nat}{n:Nat}{c:Code}{Q:Exit->St->Prop}(I:Nat->St->Prop){k:Nat}(h0:I k s)(hrd:∀ l,rd=some l->l < n)(hn:n<=s.h.next)
  (round:∀ k s,I k s->n<=s.h.next->CW P G rd n c s (fun e s'=>n<=s'.h.next/\(e=.normal->∃ k',k' < k/\I k' s')/\(e ≠ .normal->Q e s'))):CW P G rd n (.loop c) s Q:=by
 intro Y a w S hl
 let J:Nat->Act->World->Prop:=fun k a' w' => ∃ Y' s',I k s'/\n<=s'.h.next/\Ext n Y Y'/\Turn Y s.h w Y' s'.h w'/\SRel G Y' s' a' w'
 have hμ:∃ μ:Act->World->Nat,∀ a w,(∃ k,J k a w)->J (μ a w) a w/\∀ j,J j a w->μ a w<=j:=by
  have : ∀ x:Act × World,∃ m:Nat,(∃ k,J k x.1 x.2)->J m x.1 x.2/\∀ j,J j x.1 x.2->m<=j:=fun x=>by
   by_cases hx:∃ k,J k x.1 x.2
   ·obtain⟨k,hk⟩:=hx;obtain⟨m,h1,h2⟩:=Zmq (p:=fun k=>J k x.1 x.2) k hk;exact⟨m,fun _=>⟨h1,h2⟩⟩
   ·exact⟨0,fun h=>absurd h hx⟩
  exact⟨fun a w=>(this (a,w)).choose,fun a w h=>(this (a,w)).choose_spec h⟩
 obtain⟨μ,hμ⟩:=hμ;refine wpIn_loop (fun a w => ∃ k,J k a w) μ ⟨k,Y,s,h0,hn,Ext.refl _ _,Turn.refl _ _ _,S⟩ fun a1 w1 hJ => ?_;obtain⟨⟨Y1,s1,hI,hn1,hext1,hturn1,S1⟩,hleast⟩:=hμ a1 w1 hJ;have hf:Qt4 rd Y1=Qt4 rd Y:=by
  cases rd with
  | none=>rfl
  | some l=>simp only[Qt4,Qbr (hext1 l (hrd l rfl))]
 have hl1:∀ l,rd=some l->dom Y1 l:=fun l hl'=>by
  have:=hext1 l (hrd l hl');simpa[dom,this]using hl l hl'
 have hr:=round _ s1 hI hn1 Y1 a1 w1 S1 hl1;rw[hf]at hr;refine wpIn_mono hr ?_;rintro e' a' w' ⟨Y',e,s',⟨hn',hq1,hq2⟩,rfl,hoe,hext,hturn,S'⟩;by_cases hne:e=.normal
 ·subst hne;obtain⟨k',hk',hI'⟩:=hq1 rfl;have hJ':J k' a' w':=⟨Y',s',hI',hn',hext1.trans hext (ae _),hturn1.trans hturn,S'⟩;exact⟨⟨k',hJ'⟩,dK ((hμ a' w' ⟨k',hJ'⟩).2 k' hJ') hk'⟩
 ·have : ∃ Y'_1 e_1 s'_1,Q e_1 s'_1/\Qp4 Y' e=Qp4 Y'_1 e_1/\Q04 (dom Y'_1) e_1/\Ext n Y Y'_1/\Turn Y s.h w Y'_1 s'_1.h w'/\SRel G Y'_1 s'_1 a' w' :=
   ⟨Y',e,s',hq2 hne,rfl,hoe,hext1.trans hext (ae _),hturn1.trans hturn,S'⟩
  cases e <;> first
   | exact absurd rfl hne
   | exact this
end
structure CallF where
 fn:FuncId->List Value->Heap->Option (AEnd × Heap)
 rnd:Nat->List Value->Heap->Option (AEnd × Heap)
structure CallsSound (P:Program) (G:Bs) (C:CallF):Prop where
 fn:∀ f args h r h',C.fn f args h=some (r,h')->CallOK P G f args h (fun r1 h1=>r1=r/\h1=h')
 rnd:∀ l args h r h',C.rnd l args h=some (r,h')->Xrb P G l args h (fun r1 h1=>r1=r/\h1=h')
def Qe(ops:List Oper)(t:Tm)(o:Oper):Option Bool :=
 match o.guard with
 | none=>some true
 | some (j,want)=>match nth ops j with
  | none=>some false
  | some oj=>match oj.dst with
   | none=>some false
   | some d=>match t.t.get d with
    | some (.bool b)=>some (b == want)
    | some _=>some false
    | none=>none
def Qr:Value:=.tuple #[]
def Yx8{P:Program}(E:Env2 P)(t:Tm)(c:Call):Option Deferred :=
 match c.callee with
 | .value f=>match aev E.G t f,evs E.G t c.args.toList with
  | some (.func (.func fn) first captured),some args=>some {target:=.fn (.func fn) captured,args:=first++args.toArray}
  | _,_=>none
 | _=>none
def X0c{P:Program}(E:Env2 P)(C:CallF)(rd:Option Nat)(o:Oper)(s:St):Option (Exit × St) :=
 if !Qm7 s o.dst then none else
 match o.op with
 | .defer c=>match rd with
  | none=>match Yx8 E s.t c with
   | some d=>some (.normal,({s with ds:=d::s.ds}:St).put o.dst Qr s.h)
   | none=>none
  | some _=>none
 | _=>match aop E s.t s.h o with
  | some (.val v h)=>some (.normal,s.put o.dst v h)
  | some (.skip h)=>some (.normal,s.put o.dst Qr h)
  | some (.panic v h)=>some (.panic [{v,recovered:=false}],{s with h:=h})
  | some (.enter f args h)=>match C.fn f args h with
   | some (.ret v,h')=>some (.normal,s.put o.dst v h')
   | some (.panic ch,h')=>some (.panic ch,{s with h:=h' })
   | none=>none
  | some (.round l args h)=>match C.rnd l args h with
   | some (.ret v,h')=>some (.normal,s.put o.dst v h')
   | some (.panic ch,h')=>some (.panic ch,{s with h:=h' })
   | none=>none
  | _=>none
def X1u{P:Program}(E:Env2 P)(C:CallF)(rd:Option Nat)(ops:List Oper):List Oper->St->Option (Exit × St)
 | [],s=>some (.normal,s)
 | o::r,s =>
  match Qe ops s.t o with
  | some true=>match X0c E C rd o s with
   | some (.normal,s')=>X1u E C rd ops r s'
   | some (.panic ch,s')=>some (.panic ch,s')
   | _=>none
  | some false=>if Qm7 s o.dst then X1u E C rd ops r (s.put o.dst Qr s.h)else none
  | none=>none
section
variable{P:Program}{Y:Ren}{s:St}{a:Act}{w:World}
def Qw5(rd:Option Nat)(Y:Ren)(f:FuncId):(Qt4 rd Y).fn f:=by cases rd <;> exact trivial
def Qqf(rd:Option Nat)(Y:Ren):(Qt4 rd Y).depth=none:=by cases rd <;> rfl
def Q49(rd:Option Nat)(Y:Ren):(Qt4 rd Y).round=rd.map (Uo Y):=by cases rd <;> rfl
def Xdh{rd:Option Nat}{Y:Ren}{n:Nat}{f:FuncId}{args:Array Value}{w:World}{R:Ending->World->Prop}(h:CallsIn Fence.wide n P f args w R):CallsIn (Qt4 rd Y) n P f args w R:=by
 cases rd with
 | none=>exact h
 | some l=>exact h
def Qt3{G:Bs}{t:Tm}{tmps:Array Value}(ht:TRel Y t tmps){ops:Array Oper}{o:Oper}{b:Bool}(h:Qe ops.toList t o=some b):Region.wanted o (yielded ops tmps)=b:=by
 have _:=G;unfold Qe at h;unfold Region.wanted;split at h
 ·rename_i hg;rw[hg];cases h;rfl
 ·rename_i j want hg;rw[hg];simp only;rw[Xg5,Array.getElem?_toList]at h;unfold yielded;split at h
  ·rename_i hj;cases h;simp[hj]
  ·rename_i oj hj;split at h
   ·rename_i hd;cases h;simp[hj,hd]
   ·rename_i d hd;split at h
    ·rename_i q hq;cases h;have:=(ht.vals d _ hq).2;simp[hj,hd,this]
    ·rename_i v hq hne;cases h;have:=(ht.vals d _ hne).2;simp only[hj,hd,Option.bind_some,this];cases v <;> simp[ren];rename_i b;exact absurd rfl (hq b)
    ·cases h
def Zo4(E:Env2 P)(S:SRel E.G Y s a w){c:Call}{d:Deferred}(hd:Yx8 E s.t c=some d)(ty:TypeId):Yc9 (dom Y) d/\(resolve a.eval c ty).run P w=.ok (Qvs Y d) w:=by
 unfold Yx8 at hd;split at hd
 ·rename_i f hf;split at hd
  ·rename_i fn first captured args h1 h2
   cases hd;obtain⟨e1,e2⟩:=Xmb S.h S.t h1;obtain⟨e3,e4⟩:=Zi2 S.h S.t h2;have e5:c.args.map a.eval=(args.map (ren Y)).toArray:=by apply bU;rw[bI,e3]
   simp only[okV,Q6u]at e1;refine⟨?_,?_⟩
   ·simp only[Yc9,okV,Q6u];refine⟨⟨by simp,e1.2⟩,fun v hv => ?_⟩;rcases Array.mem_append.1 hv with hv | hv
    ·exact e1.1 v hv
    ·exact e4 v (by simpa using hv)
   ·simp only[resolve,hf,e5,e2,ren,Yg8,Deferred.ofValue,aQ,Qvs,Qsk,Array.map_append,List.map_toArray]
  ·cases hd
 ·cases hd
def SRel.putU{G:Bs}(S:SRel G Y s a w){d:Option Tmp}(hd:Qm7 s d=true):SRel G Y (s.put d Qr s.h) (a.put d undef) w:=by
 have:=S.put (v:=Qr) hd (by simp[Qr,okV,okA,okL]);simpa[Qr,undef,ren,renA,renL]using this
def dW(s:St)(d:Option Tmp)(v:Value)(h:Heap):s.put d v h=({s with h:=h}:St).put d v h:=by cases d <;> rfl
def Zv5(E:Env2 P){C:CallF}(hC:CallsSound P E.G C){rd:Option Nat}{o:Oper}{e:Exit}{s1:St}(hs:X0c E C rd o s=some (e,s1))(S:SRel E.G Y s a w)
  {next:Act->World->Prop} {Q:Exit->Act->World->Prop}
  (hn:∀ Y' a' w',Ext s.h.next Y Y'->Turn Y s.h w Y' s1.h w'->SRel E.G Y' s1 a' w'->e=.normal->next a' w')
  (hp:∀ Y' a' w',Ext s.h.next Y Y'->Turn Y s.h w Y' s1.h w'->SRel E.G Y' s1 a' w'->∀ ch,e=.panic ch->Q04 (dom Y') e->Q (Qp4 Y' e) a' w') :
  o.wpIn (Qt4 rd Y) 0 P a w next Q:=by
 refine⟨fun f _=>Qw5 rd Y f,?_⟩;unfold X0c at hs;split at hs
 ·cases hs
 ·rename_i hdst;have hdst':Qm7 s o.dst=true:=by simpa using hdst
  split at hs
  ·rename_i c hop;split at hs
   ·split at hs
    ·rename_i d hd;cases hs;obtain⟨d1,d2⟩:=Zo4 E S hd o.type;have : (o.semAt (Qt4 none Y).round a.eval).run P w=.ok (.defer (Qvs Y d)) w:=by
      rw[Q49];simp[Oper.semAt,execOp,hop,d2]
     rw[this];refine hn Y _ w (Ext.refl _ _) ?_ ?_ rfl
     ·cases o.dst <;> exact Turn.refl _ _ _
     ·have S1:SRel E.G Y {s with ds:=d::s.ds} {a with defers:=Qvs Y d::a.defers} w :=
       ⟨S.h,S.t,by simp[S.ds],fun x hx=>by rcases ax.1 hx with rfl | hx;exact d1;exact S.okd x hx⟩
      exact S1.putU hdst'
    ·cases hs
   ·cases hs
  ·rename_i hop;have hsem:o.semAt (Qt4 rd Y).round a.eval=execOp a.eval o:=Oper.semAt_eq _ _ _ hop;rw[hsem];split at hs
   ·rename_i v h hr;cases hs;obtain⟨Y',w',r1,r2,r3,r4,r5⟩:=Qxy E S.h S.t hr;rw[r1];have S1:=S.step r3 r4;refine hn Y' _ w' r3 ?_ ?_ rfl
    ·cases o.dst <;> exact r5
    ·have:=S1.put (d:=o.dst) (v:=v) (by cases hd:o.dst <;> simp only[hd,Qm7]at hdst' ⊢;exact hdst') r2;rw[dW];exact this
   ·rename_i h hr;cases hs;obtain⟨w',r1,r2,r3⟩:=Qxy E S.h S.t hr;rw[r1];have S1:=S.step (Ext.refl _ _) r2;refine hn Y _ w' (Ext.refl _ _) ?_ ?_ rfl
    ·cases o.dst <;> exact r3
    ·have:=S1.putU (d:=o.dst) (by cases hd:o.dst <;> simp only[hd,Qm7]at hdst' ⊢;exact hdst');rw[dW];exact this
   ·rename_i v h hr;cases hs;obtain⟨rfl,r1,r2⟩:=Qxy E S.h S.t hr;rw[r1];exact hp Y a w (Ext.refl _ _) (Turn.refl _ _ _) S _ rfl (by simpa[Q04]using r2)
   ·rename_i f args h hr;obtain⟨rfl,r1,r2⟩:=Qxy E S.h S.t hr;rw[r1,Oper.uponIn_enter];refine⟨by rw[Qqf];simp,Xdh ?_⟩;split at hs
    ·rename_i v h' hc;cases hs;refine(hC.fn _ _ _ _ _ hc Y w S.h r2).mono ?_;rintro e' w' ⟨Y',r,h1,⟨rfl,rfl⟩,rfl,q1,q2,q3,q4⟩;have S1:=S.step q2 q4;refine hn Y' _ w' q2 ?_ ?_ rfl
     ·cases o.dst <;> exact q3
     ·have:=S1.put (d:=o.dst) (v:=v) (by cases hd:o.dst <;> simp only[hd,Qm7]at hdst' ⊢;exact hdst') q1;rw[dW];exact this
    ·rename_i ch h' hc;cases hs;refine(hC.fn _ _ _ _ _ hc Y w S.h r2).mono ?_;rintro e' w' ⟨Y',r,h1,⟨rfl,rfl⟩,rfl,q1,q2,q3,q4⟩;exact hp Y' a w' q2 q3 (S.step q2 q4) _ rfl q1
    ·cases hs
   ·rename_i l args h hr;obtain⟨rfl,k1,r2,st,pend,t',ps,as,bd,d,k2,fn,tmps,k3,r1⟩:=Qxy E S.h S.t hr;rw[r1,Oper.uponIn_round];refine⟨by rw[Qqf];simp,?_⟩;split at hs
    ·rename_i v h' hc;cases hs;refine(hC.rnd _ _ _ _ _ hc Y w Y rd _ _ _ _ _ _ _ _ _ S.h k1 r2 k2 k3).mono ?_;rintro e' w' ⟨Y',r,h1,⟨rfl,rfl⟩,rfl,q1,q2,q3,q4⟩;have S1:=S.step q2 q4;refine hn Y' _ w' q2 ?_ ?_ rfl
     ·cases o.dst <;> exact q3
     ·have:=S1.put (d:=o.dst) (v:=v) (by cases hd:o.dst <;> simp only[hd,Qm7]at hdst' ⊢;exact hdst') q1;rw[dW];exact this
    ·rename_i ch h' hc;cases hs;refine(hC.rnd _ _ _ _ _ hc Y w Y rd _ _ _ _ _ _ _ _ _ S.h k1 r2 k2 k3).mono ?_;rintro e' w' ⟨Y',r,h1,⟨rfl,rfl⟩,rfl,q1,q2,q3,q4⟩;exact hp Y' a w' q2 q3 (S.step q2 q4) _ rfl q1
    ·cases hs
   ·cases hs
def Jkh(G:Bs)(n:Nat)(Y:Ren)(h:Heap)(w:World)(Q:Exit->St->Prop):Exit->Act->World->Prop :=
 fun e' a' w' => ∃ Y' e s',Q e s'/\e'=Qp4 Y' e/\Q04 (dom Y') e/\Ext n Y Y'/\Turn Y h w Y' s'.h w'/\SRel G Y' s' a' w'
def Zqm(E:Env2 P){C:CallF}(hC:CallsSound P E.G C){rd:Option Nat}{ops:Array Oper}{Q:Exit->Act->World->Prop}:∀ (l:List Oper) (i:Nat) (s:St) (Y:Ren) (a:Act) (w:World) (e:Exit) (s1:St),
  ops.toList.drop i=l->X1u E C rd ops.toList l s=some (e,s1)->SRel E.G Y s a w->(∀ l,rd=some l->dom Y l) ->
  (∀ Y' a' w',Ext s.h.next Y Y'->Turn Y s.h w Y' s1.h w'->SRel E.G Y' s1 a' w'->Q04 (dom Y') e->Q (Qp4 Y' e) a' w') ->
  wpOpsIn (Qt4 rd Y) 0 P ops Q (List.range' i l.length) a w
 | [],i,s,Y,a,w,e,s1,_,h,S,_,hQ=>by
  simp only[X1u,av,bN]at h;obtain⟨rfl,rfl⟩:=h;exact hQ Y a w (Ext.refl _ _) (Turn.refl _ _ _) S trivial
 | o::r,i,s,Y,a,w,e,s1,hdrop,h,S,hl,hQ=>by
  have ho:ops[i]? = some o:=by
   have:=congrArg (fun l=>l[0]?) hdrop;simpa[cN]using this
  have hdrop':ops.toList.drop (i+1)=r:=by
   have:=congrArg List.tail hdrop;simpa[List.tail_drop]using this
  simp only[bH,List.range'_succ,wpOpsIn,ho];simp only[X1u]at h;split at h
  ·rename_i hw;rw[if_pos (Qt3 (G:=E.G) S.t hw)];split at h
   ·rename_i s' hst;refine Zv5 E hC hst S (fun Y' a' w' h1 h2 h3 _ => ?_) (fun Y' a' w' _ _ _ ch hch _=>by cases hch);obtain⟨f1,f2,_⟩:=X0y (rd:=rd) (n:=0) S h1 hl;have:=Zqm E hC (Q:=Q) r (i+1) s' Y' a' w' e s1 hdrop' h h3 f2 (fun Y'' a'' w'' g1 g2 g3 g4=>hQ Y'' a'' w'' (h1.trans g1 h2.next) (h2.trans g2) g3 g4);rwa [f1]at this
   ·rename_i ch s' hst;cases h;refine Zv5 E hC hst S (fun Y' a' w' _ _ _ hne=>by cases hne) (fun Y' a' w' h1 h2 h3 ch' hch hok => ?_);exact hQ Y' a' w' h1 h2 h3 hok
   ·cases h
  ·rename_i hw;rw[if_neg (by rw[Qt3 (G:=E.G) S.t hw];simp)];refine⟨fun f _=>Qw5 rd Y f,?_⟩;split at h
   ·rename_i hd;have hh:(s.put o.dst Qr s.h).h=s.h:=by cases o.dst <;> rfl
    have:=Zqm E hC (Q:=Q) r (i+1) _ Y _ w e s1 hdrop' h (S.putU hd) hl (by rw[hh];exact hQ);exact this
   ·cases h
  ·cases h
def Z5m(E:Env2 P){C:CallF}(hC:CallsSound P E.G C){rd:Option Nat}{id:Nat}{ops:Array Oper}{Q:Exit->St->Prop}{e:Exit}{s1:St}(h:X1u E C rd ops.toList ops.toList s=some (e,s1))(hQ:Q e s1) :
  CW P E.G rd s.h.next (.region id ops false) s Q:=by
 intro Y a w S hl;have:=Zqm E hC (ops:=ops) ops.toList 0 s Y a w e s1 rfl h S hl (Q:=Jkh E.G s.h.next Y s.h w Q) (fun Y' a' w' h1 h2 h3 h4=>⟨Y',e,s1,hQ,rfl,h4,h1,h2,h3⟩);rw[Array.length_toList,<- dE]at this;exact wpIn_region this
end
structure LowOK (h h':Heap):Prop where
 next:h.next<=h'.next
 low:h'.low<=h.low
 same:∀ b,b < h.next->b < h'.low->h'.get b=h.get b
def LowOK.refl(h:Heap):LowOK h h:=⟨ae _,ae _,fun _ _ _=>rfl⟩
def LowOK.trans{a b c:Heap}(x:LowOK a b)(y:LowOK b c):LowOK a c :=
 ⟨al x.next y.next,al y.low x.low,fun k h1 h2=>(y.same k (az h1 x.next) h2).trans (x.same k h1 (az h2 y.low))⟩
def LowOK.set(h:Heap)(b:Nat)(x:Option Blk)(hb:b < h.next):LowOK h (h.set b x) :=
 ⟨ae _,Nat.min_le_left _ _,fun k _ h2=>by
  rw[gY hb];have : k < b:=az h2 (Nat.min_le_right _ _);rw[if_neg (by omega)]⟩
def LowOK.push(h:Heap)(x:Blk):LowOK h (h.push x) :=
 ⟨bL _,ae _,fun k h1 _=>by rw[Heap.get_push,if_neg (by omega)]⟩
def Xq8{h h':Heap}{a:Addr}{l:List Value}(hh:storeAt h a l=some h'):LowOK h h':=by
 unfold storeAt at hh;split at hh
 ·rename_i sz c hg;rw[am]at hh;obtain⟨c',_,rfl⟩:=hh;exact LowOK.set _ _ _ (Heap.get_lt hg)
 ·cases hh
def Res.heap:Res->Heap
 | .val _ h | .skip h | .enter _ _ h | .round _ _ h | .defer _ h | .panic _ h=>h
section
variable{P:Program}
def Y8i{E:Env P}{t:TypeId}{x:Value}{lo hi mx:Option Value}{h h':Heap}{v:Value}(hv:Qhk E t x lo hi mx h=some (v,h')):LowOK h h':=by
 have hcut:∀ {ad:Addr} {sz used l n:Nat} {h h':Heap} {v:Value},Qhk.aCut ad sz used l n h=some (v,h')->LowOK h h':=by
  intro ad sz used l n h h' v hc;unfold Qhk.aCut at hc;split at hc
  ·cases hc;exact LowOK.refl _
  ·split at hc
   ·cases hc;exact LowOK.refl _
   ·split at hc
    ·cases hc;exact LowOK.push _ _
    ·cases hc
 have hmap:∀ {o:Option Value} {h h':Heap} {v:Value},o.map (fun v=>(v,h))=some (v,h')->LowOK h h':=by
  intro o h h' v ho;rw[am]at ho;obtain⟨_,_,hq⟩:=ho;cases hq;exact LowOK.refl _
 unfold Qhk at hv
 repeat' (first | (cases hv;done) | (exact hmap hv) | (exact hcut hv) | (cases hv;exact LowOK.refl _) | split at hv | simp only at hv)
def Zu9{E:Env P}{t tx:TypeId}{s x:Value}{h h':Heap}{v:Value}(hv:Qem E t tx s x h=some (v,h')):LowOK h h':=by
 have hst:∀ {a:Addr} {l:List Value} {u:Value} {h h':Heap} {v:Value},(storeAt h a l).map (fun h'=>(u,h'))=some (v,h')->LowOK h h':=by
  intro a l u h h' v ho;rw[am]at ho;obtain⟨_,h1,hq⟩:=ho;cases hq;exact Xq8 h1
 unfold Qem at hv;simp only at hv
 repeat' (first | (cases hv;done) | (exact hst hv) | (cases hv;exact LowOK.push _ _) | (cases hv;exact LowOK.refl _) |
  (cases hv;exact(LowOK.set _ _ _ (Heap.get_lt (by assumption))).trans (LowOK.push _ _)) | split at hv)
def Zxq{E:Env P}{t:TypeId}{x v:Value}{h h':Heap}(hv:Zhp E t x h=some (v,h')):LowOK h h':=by
 unfold Zhp at hv
 repeat' (first | (cases hv;done) | (cases hv;exact LowOK.refl _) | (cases hv;exact LowOK.set _ _ _ (Heap.get_lt (by assumption))) | (rw[am]at hv;obtain⟨_,h1,hq⟩:=hv;cases hq;exact Xq8 h1) | split at hv)
def Zm0{E:Env2 P}{b:Builtin}{ts:List TypeId}{args:List Value}{h:Heap}{r:Res}(hr:Q5 E b ts args h=some r):LowOK h r.heap:=by
 unfold Q5 at hr;split at hr
 ·obtain⟨v,_,rfl⟩:=Qdd hr;exact LowOK.refl _
 ·obtain⟨v,_,rfl⟩:=Qdd hr;exact LowOK.refl _
 ·obtain⟨v,h',hv,rfl⟩:=Qr1 hr;exact Zu9 hv
 ·obtain⟨v,h',hv,rfl⟩:=Qr1 hr;unfold Ya5 at hv
  repeat' (first | (cases hv;done) | (cases hv;exact LowOK.refl _) | (rw[am]at hv;obtain⟨_,h1,hq⟩:=hv;cases hq;exact Xq8 h1) | split at hv)
 ·obtain⟨v,_,rfl⟩:=Qdd hr;exact LowOK.refl _
 ·obtain⟨v,_,rfl⟩:=Qdd hr;exact LowOK.refl _
 ·cases hr;exact LowOK.refl _
 ·obtain⟨v,h',hv,rfl⟩:=Qr1 hr;unfold Xs7 at hv
  repeat' (first | (cases hv;done) | (cases hv;exact LowOK.set _ _ _ (Heap.get_lt (by assumption))) | split at hv)
 ·obtain⟨v,h',hv,rfl⟩:=Qr1 hr;exact Zxq hv
 ·cases hr
def Zyg{f:Value}{args:List Value}{h:Heap}{r:Res}(hr:Yda f args h=some r):LowOK h r.heap:=by
 unfold Yda at hr
 repeat' (first | (cases hr;done) | (cases hr;exact LowOK.refl _) | split at hr)
def Y61{E:Env P}{t:TypeId}{m k x:Value}{h h':Heap}(hv:Qgl E t m k x h=some h'):LowOK h h':=by
 unfold Qgl at hv
 repeat' (first | (cases hv;done) | (cases hv;exact LowOK.set _ _ _ (Heap.get_lt (by assumption))) | split at hv)
def Zlq{E:Env P}{t:TypeId}{hint:Option Value}{h h':Heap}{v:Value}(hv:Q4s E t hint h=some (v,h')):LowOK h h':=by
 unfold Q4s at hv
 repeat' (first | (cases hv;done) | (cases hv;exact LowOK.push _ _) | split at hv)
def Zym{E:Env P}{t:TypeId}{x v:Value}{h h':Heap}(hv:Ykq E t x h=some (v,h')):LowOK h h':=by
 unfold Ykq at hv
 repeat' (first | (cases hv;done) | (cases hv;exact LowOK.push _ _) | split at hv)
def Ysi{it:Value}{isS:Bool}{h:Heap}{x:Value × Heap}(hx:x ∈ Qvk it isS h):LowOK h x.2:=by
 unfold Qvk at hx;split at hx
 ·rename_i r;split at hx
  ·rename_i hg;split at hx
   ·split at hx
    ·rw[aw]at hx;subst hx;exact LowOK.set _ _ _ (Heap.get_lt hg)
    ·rw[aw]at hx;subst hx;exact LowOK.refl _
   ·cases hx
  ·split at hx
   ·cases hx
   ·rw[aw]at hx;subst hx;exact LowOK.refl _
  ·rename_i hg;split at hx
   ·split at hx
    ·cases hx
    ·obtain⟨c,_,rfl⟩:=ao.1 hx;cases c with
     | none=>exact LowOK.refl _
     | some e=>exact LowOK.set _ _ _ (Heap.get_lt hg)
   ·cases hx
  ·cases hx
 ·cases hx
def Z24{it:Value}{isS:Bool}{v:Value}{h h':Heap}(hv:Zxh it isS h=some (v,h')):LowOK h h':=by
 unfold Zxh at hv;split at hv
 ·rename_i x hx;cases hv;exact Ysi (x:=(v,h')) (it:=it) (isS:=isS) (by rw[hx];simp)
 ·cases hv
def Zxs{x:ExtK}{l:List Value}{v:Value}{h h':Heap}(hv:Yl9 x l h=some (v,h')):LowOK h h':=by
 unfold Yl9 at hv
 repeat' (first | (cases hv;done) | (cases hv;exact LowOK.refl _) | (cases hv;exact LowOK.push _ _) | split at hv)
def Zfw{E:Env P}{t:TypeId}{m k v:Value}{h h':Heap}(hv:Xj7 E t m k h=some (v,h')):LowOK h h':=by
 unfold Xj7 at hv
 repeat' (first | (cases hv;done) | (cases hv;exact LowOK.set _ _ _ (Heap.get_lt (by assumption))) | split at hv)
def Yuc{m st x:Value}{h h':Heap}(hv:Q47 m st x h=some h'):LowOK h h':=by
 unfold Q47 at hv
 repeat' (first | (cases hv;done) | (cases hv;exact LowOK.set _ _ _ (Heap.get_lt (by assumption))) | split at hv)
def Qvw {E : Env2 P} {t : Tm} {h : Heap} {o : Oper} {r : Res} (hr : aop E t h o = some r) : LowOK h r.heap := by
  unfold aop at hr;have k0 : ∀ {x : Option Value}, g0 h x = some r -> LowOK h r.heap := fun hx => by obtain ⟨v, _, rfl⟩ := Qdd hx; exact LowOK.refl _
  repeat' (first | (cases hr; done) | (exact k0 hr) | (exact Zm0 hr) | (exact Zyg hr) | (cases hr; exact LowOK.refl _) |
    (obtain ⟨v, h', hv, rfl⟩ := Qr1 hr
     first
      | exact Y8i hv
      | exact Zlq hv
      | exact Zym hv
      | exact Z24 hv
      | exact Zfw hv
      | exact Zxs hv
      | (rcases Zyb hv with rfl | ⟨_, rfl⟩
         · exact LowOK.refl _
         · exact LowOK.push _ _)
      | (unfold Qbd at hv; split at hv <;> cases hv; exact LowOK.push _ _)
      | (unfold Zqi at hv; split at hv <;> cases hv; exact LowOK.push _ _)
      | (unfold Vj at hv; repeat' (first | (cases hv; done) | (rw [am] at hv; obtain ⟨_, h1, hq⟩ := hv; cases hq; exact LowOK.push _ _) | split at hv))
      | (unfold Qwm at hv; repeat' (first | (cases hv; done) | (cases hv; exact LowOK.push _ _) | split at hv))) |
    (obtain ⟨h', hv, rfl⟩ := Ya8 hr
     exact Y61 hv) |
    (obtain ⟨h', hv, rfl⟩ := Ya8 hr
     exact Yuc hv) |
    (obtain ⟨h', hv, rfl⟩ := Ya8 hr
     unfold Qbx at hv
     repeat' (first | (cases hv; done) | (unfold Ytg at hv; split at hv <;> first | exact Xq8 hv | cases hv) | split at hv)) |
    split at hr)
structure CallsLow (C:CallF):Prop where
 fn:∀ f args h r h',C.fn f args h=some (r,h')->LowOK h h'
 rnd:∀ f args h r h',C.rnd f args h=some (r,h')->LowOK h h'
def Znk{E:Env2 P}{C:CallF}(hC:CallsLow C){rd:Option Nat}{o:Oper}{s s1:St}{e:Exit}(hs:X0c E C rd o s=some (e,s1)):LowOK s.h s1.h:=by
 have hput:∀ (s:St) d v h,(s.put d v h).h=h:=fun s d v h=>by cases d <;> rfl
 unfold X0c at hs;split at hs
 ·cases hs
 ·split at hs
  ·split at hs
   ·split at hs
    ·cases hs;rw[hput];exact LowOK.refl _
    ·cases hs
   ·cases hs
  ·split at hs
   ·rename_i v h hr;cases hs;rw[hput];exact Qvw hr
   ·rename_i h hr;cases hs;rw[hput];exact Qvw hr
   ·rename_i v h hr;cases hs;exact Qvw hr
   ·rename_i f args h hr;have h1:=Qvw hr;split at hs
    ·rename_i hc;cases hs;rw[hput];exact h1.trans (hC.fn _ _ _ _ _ hc)
    ·rename_i hc;cases hs;exact h1.trans (hC.fn _ _ _ _ _ hc)
    ·cases hs
   ·rename_i f args h hr;have h1:=Qvw hr;split at hs
    ·rename_i hc;cases hs;rw[hput];exact h1.trans (hC.rnd _ _ _ _ _ hc)
    ·rename_i hc;cases hs;exact h1.trans (hC.rnd _ _ _ _ _ hc)
    ·cases hs
   ·cases hs
end
def Qt1{P:Program}(E:Env2 P)(C:CallF)(o:Oper)(t:Tm)(h:Heap):Option (Value × Heap) :=
 match aop E t h o with
 | some (.val v h)=>some (v,h)
 | some (.skip h)=>some (Qr,h)
 | some (.enter f args h)=>match C.fn f args h with
  | some (.ret v,h')=>some (v,h')
  | _=>none
 | some (.round l args h)=>match C.rnd l args h with
  | some (.ret v,h')=>some (v,h')
  | _=>none
 | _=>none
def X13{G:Bs}{t t':Tm}:∀ {l:List Operand},(∀ x ∈ l,aev G t x=aev G t' x)->evs G t l=evs G t' l
 | [],_=>rfl
 | x::l,h=>by simp only[evs,h x (by simp),X13 (l:=l) fun y hy=>h y (by simp[hy])]
def Ye1{G:Bs}{t t':Tm}:∀ {l:List (Nat × Operand)},(∀ x ∈ l.map (·.2),aev G t x=aev G t' x)->Qf G t l=Qf G t' l
 | [],_=>rfl
 | (i,x)::l,h=>by simp only[Qf,h x (by simp),Ye1 (l:=l) fun y hy=>h y (by simp only[aR,ax];exact .inr hy)]
def Ydn{G:Bs}{t t':Tm}{x:Option Operand}(h:∀ y,x=some y->aev G t y=aev G t' y):evO G t x=evO G t' x:=by
 cases x with
 | none=>rfl
 | some y=>simp only[evO,h y rfl]
section
variable{P:Program}{Y:Ren}{h:Heap}{w:World}{a:Act}
def Z0r (E : Env2 P) {t t' : Tm} (o : Oper) (hx : ∀ x ∈ o.op.operands, aev E.G t x = aev E.G t' x) (h : Heap) : aop E t h o = aop E t' h o := by
  unfold aop;split <;> first
    | rfl
    | (rename_i hop; rw [hop] at hx; simp only [Op.operands] at hx
       first
        | (rw [hx _ (by simp)]; done)
        | (rename_i a b; rw [hx a (by simp), hx b (by simp)]; done)
        | (rename_i a b _; rw [hx a (by simp), hx b (by simp)]; done)
        | (rename_i c a b; rw [hx c (by simp), hx a (by simp), hx b (by simp)]; done)
        | (rw [Ye1 fun x hm => hx x (by simpa using hm)]; done)
        | (rw [X13 fun x hm => hx x (by simp at hm ⊢; exact .inl hm), X13 fun x hm => hx x (by simp at hm ⊢; exact .inr hm)]; done)
        | (rename_i r; rw [Ydn fun y hy => hx y (by subst hy; simp)]; done)
        | (rename_i m k v; rw [hx m (by simp), hx k (by simp), hx v (by simp)]; done)
        | (rename_i x lo hi mx
           rw [hx x (by simp), Ydn fun y hy => hx y (by subst hy; simp), Ydn fun y hy => hx y (by subst hy; simp), Ydn fun y hy => hx y (by subst hy; simp)]; done)
        | (rename_i c
           rw [X13 fun x hm => hx x (by simp only [Call.operands]; simp at hm ⊢; exact .inr hm)];split
           · rfl
           · split
             · rfl
             · rename_i f hf
               rw [hx f (by simp only [Call.operands,hf]; simp)]
             · rfl))
def Xnl(E:Env2 P)(C:CallF){t t':Tm}(o:Oper)(hx:∀ x ∈ o.op.operands,aev E.G t x=aev E.G t' x)(h:Heap):Qt1 E C o t h=Qt1 E C o t' h:=by
 unfold Qt1;rw[Z0r E o hx h]
def X0h{E:Env2 P}{C:CallF}(hC:CallsLow C){o:Oper}{t:Tm}{h h1:Heap}{v:Value}(hs:Qt1 E C o t h=some (v,h1)):LowOK h h1:=by
 unfold Qt1 at hs;split at hs
 ·rename_i hr;cases hs;exact Qvw hr
 ·rename_i hr;cases hs;exact Qvw hr
 ·rename_i hr;have h1:=Qvw hr;split at hs
  ·rename_i hc;cases hs;exact h1.trans (hC.fn _ _ _ _ _ hc)
  ·cases hs
 ·rename_i hr;have h1:=Qvw hr;split at hs
  ·rename_i hc;cases hs;exact h1.trans (hC.rnd _ _ _ _ _ hc)
  ·cases hs
 ·cases hs
def Zc(o:Oper):Bool:=match o.op with
 | .defer _=>false
 | _=>true
def Zea(E:Env2 P){C:CallF}(hC:CallsSound P E.G C){rd:Option Nat}{β:Ren}{o:Oper}{t:Tm}{v:Value}{h1:Heap}(hd:Zc o=true)(hs:Qt1 E C o t h=some (v,h1))(H:HRel E.G Y h w)(ht:TRel Y t a.tmps)
  {next:Act->World->Prop} {Q:Exit->Act->World->Prop}
  (hn:∀ Y' w',Ext h.next Y Y'->Turn Y h w Y' h1 w'->HRel E.G Y' h1 w'->okV (dom Y') v->next (a.put o.dst (ren Y' v)) w') :
  o.wpIn (Qt4 rd β) 0 P a w next Q:=by
 refine⟨fun f _=>Qw5 rd β f,?_⟩;have hsem:o.semAt (Qt4 rd β).round a.eval=execOp a.eval o:=Oper.semAt_eq _ _ _ (fun c hc=>by simp[Zc,hc]at hd);rw[hsem];unfold Qt1 at hs;split at hs
 ·rename_i hr;cases hs;obtain⟨Y',w',r1,r2,r3,r4,r5⟩:=Qxy E H ht hr;rw[r1];exact hn Y' w' r3 r5 r4 r2
 ·rename_i hr;cases hs;obtain⟨w',r1,r2,r3⟩:=Qxy E H ht hr;rw[r1];have:=hn Y w' (Ext.refl _ _) r3 r2 (by simp[Qr,okV,okA,okL]);have e:ren Y Qr=undef:=by simp[Qr,undef]
  rw[e]at this;exact this
 ·rename_i f args h0 hr;obtain⟨rfl,r1,r2⟩:=Qxy E H ht hr;split at hs
  ·rename_i v' h' hc;cases hs;rw[r1,Oper.uponIn_enter];refine⟨by rw[Qqf];simp,Xdh ?_⟩;refine(hC.fn _ _ _ _ _ hc Y w H r2).mono ?_;rintro e' w' ⟨Y',r,h2,⟨rfl,rfl⟩,rfl,q1,q2,q3,q4⟩;exact hn Y' w' q2 q3 q4 q1
  ·cases hs
 ·rename_i l args h0 hr;obtain⟨rfl,k1,r2,st,pend,t',ps,as,bd,d,k2,fn,tmps,k3,r1⟩:=Qxy E H ht hr;split at hs
  ·rename_i v' h' hc;cases hs;rw[r1,Oper.uponIn_round];refine⟨by rw[Qqf];simp,?_⟩;refine(hC.rnd _ _ _ _ _ hc Y w β rd _ _ _ _ _ _ _ _ _ H k1 r2 k2 k3).mono ?_;rintro e' w' ⟨Y',r,h2,⟨rfl,rfl⟩,rfl,q1,q2,q3,q4⟩;exact hn Y' w' q2 q3 q4 q1
  ·cases hs
 ·cases hs
def Z7{P:Program}(E:Env2 P)(o:Oper):Bool:=match o.op with
 | .move _ | .assign _ | .pick .. | .build .. | .nilCheck _ | .binOp .. | .unOp .. | .sliceToArrayPointer .. | .makeInterface .. | .makeFunc .. | .fieldAddr .. | .field .. | .indexAddr .. | .index .. | .typeAssert .. | .extract .. => true
 | .convert src dst _=>Qw4 E.toEnv src dst
 | _=>false
def Y0h(E:Env2 P)(C:CallF){o:Oper}(hf:Z7 E o=true){t:Tm}{h h1:Heap}{v:Value}(hs:Qt1 E C o t h=some (v,h1))(h':Heap):h1=h/\Qt1 E C o t h'=some (v,h'):=by
 have key:∀ r,aop E t h o=some r->∃ v,r=.val v h/\aop E t h' o=some (.val v h'):=by
  intro r hr;unfold Z7 at hf;unfold aop at hr ⊢;split at hf <;> first
   | (cases hf;done)
   | skip
  all_goals
   rename_i hop;simp only[hop]at hr ⊢
   try simp only[hf]at hr ⊢
   first
   | (obtain⟨u,hu,rfl⟩:=Qdd hr;exact⟨u,rfl,by simp only[g0,hu]⟩)
   | (split at hr <;> first
     | (cases hr;done)
     | (obtain⟨u,hu,rfl⟩:=Qdd hr;refine⟨u,rfl,?_⟩;simp only[g0, *];done))
 unfold Qt1 at hs ⊢;cases hr:aop E t h o with
 | none=>simp[hr]at hs
 | some r =>
  obtain⟨u,rfl,hu⟩:=key r hr;rw[hr]at hs;simp only at hs;cases hs;exact⟨rfl,by rw[hu]⟩
def loadAt{P:Program}(E:Env2 P)(t:Tm)(o:Oper):Option Nat:=match o.op with
 | .load _ a=>match aev E.G t a with
  | some (.pointer (some a))=>some a.block
  | _=>none
 | .lookup _ x _ _=>match aev E.G t x with
  | some (.map (some b))=>some b
  | _=>none
 | _=>none
def Yr(o:Oper):Bool:=match o.op with
 | .load _ _=>true
 | .lookup .. => true
 | _=>false
def ldv{P:Program}(E:Env2 P)(t:Tm)(o:Oper)(h:Heap):Option Value:=match o.op with
 | .load ty a=>match aev E.G t a with
  | some x=>Qk3 E.toEnv ty x h
  | none=>none
 | .lookup ty x k ok=>match aev E.G t x,aev E.G t k with
  | some a,some b=>Qoh E.toEnv ty a b ok h
  | _,_=>none
 | _=>none
def Zej{h h':Heap}{a:Addr}(hg:h'.get a.block=h.get a.block)(n:Nat):cellsAt h' a n=cellsAt h a n:=by
 unfold cellsAt;rw[hg]
def Xbc{h h':Heap}{a:Addr}(hg:h'.get a.block=h.get a.block)(r:TyRec):Zcs r h' a=Zcs r h a:=by
 unfold Zcs;simp only[Zej hg]
def Yga{E:Env2 P}{o:Oper}{t:Tm}(hl:Yr o=true)(hs:(!Yr o || (loadAt E t o).isSome)=true):(loadAt E t o).isSome=true:=by
 simpa[hl]using hs
def Yen(E:Env P){ty:TypeId}{k:Value}{ok:Bool}{b:Nat}{h h':Heap}(hg:h'.get b=h.get b):Qoh E ty (.map (some b)) k ok h'=Qoh E ty (.map (some b)) k ok h:=by
 have he:Q2z (.map (some b)) h'=Q2z (.map (some b)) h:=by simp only[Q2z,hg]
 simp only[Qoh,he]
def Jdt{E:Env2 P}{C:CallF}{o:Oper}{t:Tm}{v:Value}{h1:Heap}{b:Nat}(hl:loadAt E t o=some b)(hs:Qt1 E C o t h=some (v,h1)) :
  h1=h/\∀ h':Heap,h'.get b=h.get b->Qt1 E C o t h'=some (v,h'):=by
 unfold loadAt at hl;split at hl
 ·rename_i ty a hop;split at hl
  ·rename_i p ha;cases hl;simp only[Qt1,aop,hop,ha]at hs ⊢;cases hv:Qk3 E.toEnv ty (.pointer (some p)) h with
   | none=>simp[hv,g0]at hs
   | some u =>
    simp only[hv,g0]at hs;cases hs;refine⟨rfl,fun h' hg => ?_⟩;have : Qk3 E.toEnv ty (.pointer (some p)) h'=some v:=by
     rw[<- hv];unfold Qk3;split
     ·rename_i a r e1 e2;cases e1;exact Xbc hg _
     ·rfl
    simp only[this,g0]
  ·cases hl
 ·rename_i ty x k ok hop;split at hl
  ·rename_i m hx;cases hl;simp only[Qt1,aop,hop,hx]at hs ⊢;cases hk:aev E.G t k with
   | none=>simp[hk]at hs
   | some kv =>
    simp only[hk]at hs ⊢;cases hv:Qoh E.toEnv ty (.map (some b)) kv ok h with
    | none=>simp[hv,g0]at hs
    | some u =>
     simp only[hv,g0]at hs;cases hs;refine⟨rfl,fun h' hg => ?_⟩;rw[Yen E.toEnv hg,hv];rfl
  ·cases hl
 ·cases hl
def Y91{G:Bs}{Y:Ren}{E:Env2 P}(hG:E.G=G)(H:HRel G Y h w){t:Tm}{tmps:Array Value}(ht:TRel Y t tmps){o:Oper}{b:Nat}(hl:loadAt E t o=some b):dom Y b:=by
 subst hG;unfold loadAt at hl;split at hl
 ·split at hl
  ·rename_i p ha;cases hl;have:=(Xmb (a:=⟨tmps,[]⟩) H ht ha).1;simp only[okV]at this;exact this.1
  ·cases hl
 ·split at hl
  ·rename_i m ha;cases hl;have:=(Xmb (a:=⟨tmps,[]⟩) H ht ha).1;simpa only[okV]using this
  ·cases hl
 ·cases hl
def Y93{E:Env2 P}{C:CallF}{o:Oper}{t:Tm}(hl:Yr o=true)(h:Heap):Qt1 E C o t h=(ldv E t o h).map (fun v=>(v,h)):=by
 unfold Yr at hl;split at hl
 ·rename_i ty a hop;simp only[Qt1,aop,hop,ldv];cases aev E.G t a with
  | none=>rfl
  | some x =>
   simp only[g0];cases Qk3 E.toEnv ty x h <;> rfl
 ·rename_i ty x k ok hop;simp only[Qt1,aop,hop,ldv];cases aev E.G t x with
  | none=>rfl
  | some a =>
   cases aev E.G t k with
   | none=>rfl
   | some b =>
    simp only[g0];cases Qoh E.toEnv ty a b ok h <;> rfl
 ·cases hl
def Yjp{E:Env2 P}{o:Oper}{t:Tm}{b:Nat}(hl:loadAt E t o=some b){h h':Heap}(hg:h'.get b=h.get b):ldv E t o h'=ldv E t o h:=by
 unfold loadAt at hl;split at hl
 ·rename_i ty a hop;split at hl
  ·rename_i ad hx;cases hl;simp only[ldv,hop,hx,Qk3];cases E.ty.get ty with
   | none=>rfl
   | some r=>exact Xbc hg r
  ·cases hl
 ·rename_i ty x k ok hop;split at hl
  ·rename_i m hx;cases hl;simp only[ldv,hop,hx];cases aev E.G t k with
   | none=>rfl
   | some kv=>exact Yen E.toEnv hg
  ·cases hl
 ·cases hl
def Z6q{E:Env2 P}{o:Oper}{t:Tm}{h h':Heap}(hg:∀ b,h'.get b=h.get b):ldv E t o h'=ldv E t o h:=by
 unfold ldv;split
 ·split
  ·simp only[Qk3];split
   ·exact Xbc (hg _) _
   ·rfl
  ·rfl
 ·split
  ·rename_i a b e1 e2;have he:Q2z a h'=Q2z a h:=by
    unfold Q2z;split
    ·rfl
    ·rw[hg]
    ·rfl
   simp only[Qoh,he]
  ·rfl
 ·rfl
def Zmh{E:Env2 P}{t t':Tm}{o:Oper}(hx:∀ x ∈ o.op.operands,aev E.G t x=aev E.G t' x):loadAt E t o=loadAt E t' o:=by
 unfold loadAt;split
 ·rename_i ty a hop;rw[hop]at hx;simp only[Op.operands]at hx;rw[hx a (by simp)]
 ·rename_i ty x k ok hop;rw[hop]at hx;simp only[Op.operands]at hx;rw[hx x (by simp)]
 ·rfl
end
def Zrx(B:List Nat):List Edge->Option Nat
 | []=>some 0
 | e::r=>match Zrx B r with
  | none=>none
  | some s=>if Region.binds .any e then(match nth B e.on with
   | some b=>some (s ||| 2 ^ e.on ||| b)
   | none=>none)else some s
def Qxm:List Oper->List Nat->Option (List Nat)
 | [],B=>some B
 | o::r,B=>match Zrx B o.after.toList with
  | some b=>Qxm r (B ++ [b])
  | none=>none
def Je4(x:Nat):List Nat->Bool
 | []=>false
 | y::l=>x == y || Je4 x l
def looks (ops : List Oper) (o : Oper) : List Tmp :=
  (o.op.operands.toList.filterMap fun | .tmp t => some t | _ => none) ++
  (match o.guard with
   | some (g, _) => match nth ops g with
     | some og => og.dst.toList
     | none => []
   | none => [])
def Ykx (ops : List Oper) (x y : Oper) : Bool :=
  (match x.dst with
   | some d => !Je4 d (looks ops y) && !(match y.dst with | some c => d == c | none => false)
   | none => true) &&
  (match y.dst with
   | some d => !Je4 d (looks ops x)
   | none => true)
def Z6x(ops:List Oper)(b:Nat)(oj:Oper):List Oper->Nat->Bool
 | [],_=>true
 | oi::r,i=>(b.testBit i || Ykx ops oi oj) && Z6x ops b oj r (i+1)
def W2(ops:List Oper):List Oper->List Nat->List Oper->Bool
 | o::r,b::B,past=>Z6x ops b o past 0 && W2 ops r B (past ++ [o])
 | [],[],_=>true
 | _,_,_=>false
def Uc{P:Program}(E:Env2 P)(j bj:Nat):List Oper->List Nat->Nat->Bool
 | o::r,b::B,i=>(Z7 E o || Yr o || (if i < j then bj.testBit i else if i == j then true else b.testBit j)) && Uc E j bj r B (i+1)
 | _,_,_=>true
def Qa1(h:Heap):Heap:={h with low:=h.next}
def Xxo(h h1:Heap):Heap:={h1 with low:=min h.low h1.low}
inductive LRec where
 | ld (t:Tm) (o:Oper)
 | wr (h0 h1:Heap)
def Ybm{P:Program}(E:Env2 P)(s:St)(o:Oper)(h1:Heap):Option LRec :=
 if Yr o then some (.ld s.t o)else if Z7 E o then none else if Nat.ble s.h.next h1.low then none else some (.wr s.h h1)
def X6o:Option Addr->Option Addr->Bool
 | none,none=>true
 | some a,some b=>Nat.beq a.block b.block && Nat.beq a.off b.off && (match a.spot,b.spot with | none,none=>true | _,_=>false)
 | _,_=>false
def Z2y:Int->Int->Bool
 | .ofNat a,.ofNat b=>Nat.beq a b
 | .negSucc a,.negSucc b=>Nat.beq a b
 | _,_=>false
def Yh2:List UInt8->List UInt8->Bool
 | [],[]=>true
 | a::l,b::r=>Nat.beq a.toNat b.toNat && Yh2 l r
 | _,_=>false
def Xcu:Value->Value->Bool
 | .bool a,.bool b=>a == b
 | .int k a,.int j b=>decide (k=j) && Z2y a b
 | .string a,.string b=>Yh2 a.data.toList b.data.toList
 | .pointer a,.pointer b=>X6o a b
 | .slice a n c,.slice b m d=>X6o a b && Nat.beq n m && Nat.beq c d
 | .map none,.map none=>true
 | .map (some a),.map (some b)=>Nat.beq a b
 | .nilFunc,.nilFunc=>true
 | .nilIface,.nilIface=>true
 | _,_=>false
def Y2r:List Value->List Value->Bool
 | [],[]=>true
 | a::l,b::r=>Xcu a b && Y2r l r
 | _,_=>false
def Y7a:Value->Value->Bool
 | .agg a,.agg b=>Y2r a.toList b.toList
 | a,b=>Xcu a b
def Y8p:List Value->List Value->Bool
 | [],[]=>true
 | a::l,b::r=>Y7a a b && Y8p l r
 | _,_=>false
def Xz5:Option Value->Option Value->Bool
 | none,none=>true
 | some (.tuple a),some (.tuple b)=>Y8p a.toList b.toList
 | some a,some b=>Y7a a b
 | _,_=>false
def Ya{P:Program}(E:Env2 P)(i bi:Nat)(h0 h1:Heap):List (Option LRec)->List Nat->Nat->Bool
 | some (.ld t o)::R,bk::Bs,k=>((if k < i then bi.testBit k else bk.testBit i) || Xz5 (ldv E t o h1) (ldv E t o h0)) && Ya E i bi h0 h1 R Bs (k+1)
 | _::R,_::Bs,k=>Ya E i bi h0 h1 R Bs (k+1)
 | _,_,_=>true
def Yx{P:Program}(E:Env2 P)(R0:List (Option LRec))(B0:List Nat):List (Option LRec)->List Nat->Nat->Bool
 | some (.wr h0 h1)::R,bi::Bs,i=>Ya E i bi h0 h1 R0 B0 0 && Yx E R0 B0 R Bs (i+1)
 | _::R,_::Bs,i=>Yx E R0 B0 R Bs (i+1)
 | _,_,_=>true
def Xas{P:Program}(E:Env2 P)(ops:List Oper)(B:List Nat)(i:Nat)(o:Oper)(s:St)(h1:Heap):Bool :=
 (Z7 E o || Nat.ble s.h.next h1.low || Yr o || Uc E i ((nth B i).getD 0) ops B 0) && (!Yr o || (loadAt E s.t o).isSome)
def Wl(x:Option LRec):Option (St × List (Option LRec))->Option (St × List (Option LRec))
 | some (s,R)=>some (s,x::R)
 | none=>none
def Y8o{P:Program}(E:Env2 P)(C:CallF)(ops:List Oper)(B:List Nat):List Oper->Nat->St->Option (St × List (Option LRec))
 | [],_,s=>some (s,[])
 | o::r,i,s =>
  if !(Qm7 s o.dst && Zc o)then none else
  match Qe ops s.t o with
  | some false=>Wl none (Y8o E C ops B r (i+1) (s.put o.dst Qr s.h))
  | some true=>match Qt1 E C o s.t (Qa1 s.h)with
   | some (v,h1) =>
    if Xas E ops B i o s h1 then Wl (Ybm E s o h1) (Y8o E C ops B r (i+1) (s.put o.dst v (Xxo s.h h1)))
    else none
   | none=>none
  | none=>none
def Xkx{P:Program}(E:Env2 P)(C:CallF)(ops:List Oper)(s:St):Option St :=
 match Qxm ops []with
 | some B=>if W2 ops ops B []then(match Y8o E C ops B ops 0 s with
  | some (s1,R)=>if Yx E R B R B 0 then some s1 else none
  | none=>none)else none
 | none=>none
def Zii{a b:Option Addr}(h:X6o a b=true):a=b:=by
 unfold X6o at h;split at h
 ·rfl
 ·rename_i a b;obtain⟨b1,o1,s1⟩:=a;obtain⟨b2,o2,s2⟩:=b;simp only[aq]at h;obtain⟨⟨h1,h2⟩,h3⟩:=h;have e1:=aY h1;have e2:=aY h2;subst e1;subst e2;cases s1 <;> cases s2 <;> first | rfl | simp at h3
 ·cases h
def Z8e{a b:Int}(h:Z2y a b=true):a=b:=by
 unfold Z2y at h;split at h
 ·rw[aY h]
 ·rw[aY h]
 ·cases h
def Y95:∀ {a b:List UInt8},Yh2 a b=true->a=b
 | [],[],_=>rfl
 | a::l,b::r,h=>by
  simp only[Yh2,aq]at h;rw[UInt8.toNat_inj.1 (aY h.1),Y95 h.2]
 | [],_::_,h=>by simp[Yh2]at h
 | _::_,[],h=>by simp[Yh2]at h
def Zo9{a b:Value}(h:Xcu a b=true):a=b:=by
 unfold Xcu at h;split at h
 ·rw[eq_of_beq h]
 ·simp only[aq,decide_eq_true_eq]at h;rw[h.1,Z8e h.2]
 ·rename_i a b;have:=Y95 h;cases a;cases b;congr 2;exact bU this
 ·rw[Zii h]
 ·simp only[aq]at h;rw[Zii h.1.1,aY h.1.2,aY h.2]
 ·rfl
 ·rw[aY h]
 ·rfl
 ·rfl
 ·cases h
def Zwo:∀ {a b:List Value},Y2r a b=true->a=b
 | [],[],_=>rfl
 | a::l,b::r,h=>by
  simp only[Y2r,aq]at h;rw[Zo9 h.1,Zwo h.2]
 | [],_::_,h=>by simp[Y2r]at h
 | _::_,[],h=>by simp[Y2r]at h
def Zx4{a b:Value}(h:Y7a a b=true):a=b:=by
 unfold Y7a at h;split at h
 ·rw[bU (Zwo h)]
 ·exact Zo9 h
def Zld:∀ {a b:List Value},Y8p a b=true->a=b
 | [],[],_=>rfl
 | a::l,b::r,h=>by
  simp only[Y8p,aq]at h;rw[Zx4 h.1,Zld h.2]
 | [],_::_,h=>by simp[Y8p]at h
 | _::_,[],h=>by simp[Y8p]at h
def Z6s{a b:Option Value}(h:Xz5 a b=true):a=b:=by
 unfold Xz5 at h;split at h
 ·rfl
 ·rw[bU (Zld h)]
 ·rw[Zx4 h]
 ·cases h
def Zdu{x:Nat}:∀ {l:List Nat},Je4 x l=true↔x ∈ l
 | []=>by simp[Je4]
 | y::l=>by simp[Je4,Zdu (l:=l)]
def Y8r{B:List Nat}:∀ {es:List Edge} {s:Nat},Zrx B es=some s->∀ e ∈ es,Region.binds .any e=true->∃ b,B[e.on]? = some b
 | [],_,_,e,he,_=>by simp at he
 | e0::r,s,h,e,he,hb=>by
  simp only[Zrx]at h;split at h
  ·cases h
  ·rename_i s0 hs0;rcases ax.1 he with rfl | he
   ·rw[if_pos hb]at h;rw[Xg5]at h;split at h
    ·rename_i b hb';exact⟨b,hb'⟩
    ·cases h
   ·exact Y8r hs0 e he hb
def Y8k{B:List Nat}:∀ {es:List Edge} {s:Nat},Zrx B es=some s->∀ i,s.testBit i=true->∃ e ∈ es,Region.binds .any e=true/\(i=e.on ∨ ∃ b,B[e.on]? = some b/\b.testBit i=true)
 | [],s,h,i,hi=>by simp[Zrx]at h;subst h;simp at hi
 | e0::r,s,h,i,hi=>by
  simp only[Zrx]at h;split at h
  ·cases h
  ·rename_i s0 hs0;have ih:=Y8k hs0 i;split at h
   ·rename_i hb;rw[Xg5]at h;split at h
    ·rename_i b hb';cases h;simp only[Nat.testBit_or,cd,Nat.testBit_two_pow]at hi;rcases hi with(hi | hi) | hi
     ·obtain⟨e,h1,h2⟩:=ih hi;exact⟨e,bb _ h1,h2⟩
     ·simp only[decide_eq_true_eq]at hi;exact⟨e0,bR,hb,.inl hi.symm⟩
     ·exact⟨e0,bR,hb,.inr ⟨b,hb',hi⟩⟩
    ·cases h
   ·cases h;obtain⟨e,h1,h2⟩:=ih hi;exact⟨e,bb _ h1,h2⟩
structure BefOk (ops:List Oper) (B:List Nat):Prop where
 len:B.length=ops.length
 on:∀ (j:Nat) (o:Oper),ops[j]? = some o->∀ e ∈ o.after.toList,Region.binds .any e=true->e.on < j
 bits:∀ (j:Nat) (o:Oper) (b:Nat),ops[j]? = some o->B[j]? = some b->∀ i,b.testBit i=true->∃ e ∈ o.after.toList,Region.binds .any e=true/\(i=e.on ∨ ∃ b',B[e.on]? = some b'/\b'.testBit i=true)
def Ytc:∀ (r past:List Oper) (B0 B:List Nat),Qxm r B0=some B->BefOk past B0->BefOk (past++r) B
 | [],past,B0,B,h,hp=>by simp only[Qxm,av]at h;subst h;simpa using hp
 | o::r,past,B0,B,h,hp=>by
  simp only[Qxm]at h;split at h
  ·rename_i b hb;have:=Ytc r (past ++ [o]) (B0 ++ [b]) B h ⟨by simp[hp.len],?_,?_⟩
   ·simpa using this
   ·intro j oj hj e he hbd;by_cases hlt:j < past.length
    ·rw[aM hlt]at hj;exact hp.on j oj hj e he hbd
    ·have hj':j=past.length:=by
      have : j < (past ++ [o]).length:=by
       rcases bg j (past ++ [o]).length with h | h
       ·exact h
       ·rw[bm h]at hj;cases hj
      simp at this;omega
     subst hj';simp at hj;subst hj;obtain⟨b',hb'⟩:=Y8r hb e he hbd;have : e.on < B0.length:=by
      rcases bg e.on B0.length with h | h
      ·exact h
      ·rw[bm h]at hb';cases hb'
     rw[hp.len]at this;exact this
   ·intro j oj bj hj hbj i hi;by_cases hlt:j < past.length
    ·rw[aM hlt]at hj;rw[aM (by rw[hp.len];exact hlt)]at hbj;obtain⟨e,h1,h2,h3⟩:=hp.bits j oj bj hj hbj i hi;refine⟨e,h1,h2,h3.imp id ?_⟩;rintro⟨b',h4,h5⟩;have : e.on < B0.length:=by
      rcases bg e.on B0.length with h | h
      ·exact h
      ·rw[bm h]at h4;cases h4
     exact⟨b',by rw[aM this];exact h4,h5⟩
    ·have hj':j=past.length:=by
      have : j < (past ++ [o]).length:=by
       rcases bg j (past ++ [o]).length with h | h
       ·exact h
       ·rw[bm h]at hj;cases hj
      simp at this;omega
     subst hj';simp at hj;subst hj;have hbj':bj=b:=by
      rw[<- hp.len]at hbj;simpa using hbj.symm
     subst hbj';obtain⟨e,h1,h2,h3⟩:=Y8k hb i hi;refine⟨e,h1,h2,h3.imp id ?_⟩;rintro⟨b',h4,h5⟩;have : e.on < B0.length:=by
      rcases bg e.on B0.length with h | h
      ·exact h
      ·rw[bm h]at h4;cases h4
     exact⟨b',by rw[aM this];exact h4,h5⟩
  ·cases h
def Y9g{ops:List Oper}{b:Nat}{oj:Oper}:∀ {l:List Oper} {i:Nat},Z6x ops b oj l i=true->∀ (k:Nat) (o:Oper),l[k]? = some o->b.testBit (i+k)=true∨Ykx ops o oj=true
 | [],_,_,k,o,ho=>by simp at ho
 | o0::r,i,h,k,o,ho=>by
  simp only[Z6x,aq,cd]at h;cases k with
  | zero=>simp at ho;subst ho;exact h.1
  | succ k =>
   simp at ho;have:=Y9g h.2 k o ho;rwa [show i+1+k=i+(k+1) by omega]at this
def Xwk{ops:List Oper}:∀ {r:List Oper} {B:List Nat} {past:List Oper},W2 ops r B past=true ->
  ∀ (k:Nat) (o:Oper) (b:Nat),r[k]? = some o->B[k]? = some b->∀ (i:Nat) (oi:Oper),i < past.length+k->(past++r)[i]? = some oi->b.testBit i=true∨Ykx ops oi o=true
 | [],B,past,_,k,o,b,ho,_,_,_,_,_=>by simp at ho
 | o0::r,[],past,h,_,_,_,_,_,_,_,_,_=>by simp[W2]at h
 | o0::r,b0::B,past,h,k,o,b,ho,hb,i,oi,hi,hoi=>by
  simp only[W2,aq]at h;cases k with
  | zero =>
   simp at ho hb;subst ho;subst hb;simp only[cg]at hi;rw[aM hi]at hoi;have:=Y9g h.1 i oi hoi;rwa [bO]at this
  | succ k =>
   simp at ho hb;refine Xwk h.2 k o b ho hb i oi (by simp;omega) ?_;rw[ba];exact hoi
def Ylf{P:Program}{E:Env2 P}{j bj:Nat}:∀ {l:List Oper} {B:List Nat} {i:Nat},Uc E j bj l B i=true->∀ (k:Nat) (o:Oper) (b:Nat),l[k]? = some o->B[k]? = some b ->
  Z7 E o=true∨Yr o=true∨i+k=j∨(i+k < j/\bj.testBit (i+k)=true)∨(j < i+k/\b.testBit j=true)
 | [],_,_,_,k,o,_,ho,_=>by simp at ho
 | _::_,[],_,_,k,_,_,_,hb=>by simp at hb
 | o0::r,b0::B,i,h,k,o,b,ho,hb=>by
  simp only[Uc,aq,cd]at h;cases k with
  | zero =>
   simp at ho hb;subst ho;subst hb;rcases h.1 with(h1 | h1) | h1
   ·exact .inl h1
   ·exact .inr (.inl h1)
   ·split at h1
    ·rename_i hlt;exact .inr (.inr (.inr (.inl ⟨by simpa using hlt,by simpa using h1⟩)))
    ·rename_i hge;split at h1
     ·rename_i heq;exact .inr (.inr (.inl (by simpa using heq)))
     ·rename_i hne;have : i≠j:=(by simpa using hne);exact .inr (.inr (.inr (.inr ⟨by omega,by simpa using h1⟩)))
  | succ k =>
   simp at ho hb;have:=Ylf h.2 k o b ho hb;rwa [show i+1+k=i+(k+1) by omega]at this
def Yg2{P:Program}{E:Env2 P}{i bi:Nat}{h0 h1:Heap}:∀ {R:List (Option LRec)} {Bs:List Nat} {k0:Nat},Ya E i bi h0 h1 R Bs k0=true->∀ (k:Nat) (t:Tm) (o:Oper) (bk:Nat),R[k]? = some (some (.ld t o))->Bs[k]? = some bk ->
  ldv E t o h1=ldv E t o h0∨(k0+k < i/\bi.testBit (k0+k)=true)∨(i<=k0+k/\bk.testBit i=true)
 | [],_,_,_,k,t,o,bk,hr,_=>by simp at hr
 | r::R,[],_,_,k,t,o,bk,_,hb=>by simp at hb
 | r::R,b::Bs,k0,h,k,t,o,bk,hr,hb=>by
  cases k with
  | zero =>
   simp only[d6,av]at hr hb;subst hr;subst hb;simp only[Ya,aq,cd]at h;rcases h.1 with h2 | h2
   ·split at h2
    ·exact .inr (.inl ⟨by simpa,by simpa using h2⟩)
    ·exact .inr (.inr ⟨by simp;omega,h2⟩)
   ·exact .inl (Z6s h2)
  | succ k =>
   have hrec:Ya E i bi h0 h1 R Bs (k0+1)=true:=by
    unfold Ya at h;split at h
    ·rename_i e1 e2;cases e1;cases e2;simp only[aq]at h;exact h.2
    ·rename_i e1 e2;cases e1;cases e2;exact h
    ·rename_i hne;first | exact(hne _ _ _ _ rfl rfl).elim | rfl
   have:=Yg2 hrec k t o bk (by simpa using hr) (by simpa using hb);rw[show k0+1+k=k0+(k+1)from by omega]at this;exact this
def Ykw{P:Program}{E:Env2 P}{R0:List (Option LRec)}{B0:List Nat}:∀ {R:List (Option LRec)} {Bs:List Nat} {i0:Nat},Yx E R0 B0 R Bs i0=true->∀ (i:Nat) (h0 h1:Heap) (bi:Nat),R[i]? = some (some (.wr h0 h1))->Bs[i]? = some bi->Ya E (i0+i) bi h0 h1 R0 B0 0=true
 | [],_,_,_,i,h0,h1,bi,hr,_=>by simp at hr
 | r::R,[],_,_,i,h0,h1,bi,_,hb=>by simp at hb
 | r::R,b::Bs,i0,h,i,h0,h1,bi,hr,hb=>by
  cases i with
  | zero =>
   simp only[d6,av]at hr hb;subst hr;subst hb;simp only[Yx,aq]at h;exact h.1
  | succ i =>
   have hrec:Yx E R0 B0 R Bs (i0+1)=true:=by
    unfold Yx at h;split at h
    ·rename_i e1 e2;cases e1;cases e2;simp only[aq]at h;exact h.2
    ·rename_i e1 e2;cases e1;cases e2;exact h
    ·rename_i hne;first | exact(hne _ _ _ _ rfl rfl).elim | rfl
   have:=Ykw hrec i h0 h1 bi (by simpa using hr) (by simpa using hb);rwa [show i0+1+i=i0+(i+1)from by omega]at this
mutual
def okV_and{D E:Nat->Prop}:(v:Value)->okV D v->okV E v->okV (fun b=>D b/\E b) v
 | .pointer (some a),h,k=>by simp only[okV]at h k ⊢;exact⟨⟨h.1,k.1⟩,h.2⟩
 | .pointer none,_,_=>by simp[okV]
 | .slice (some a) _ _,h,k=>by simp only[okV]at h k ⊢;exact⟨⟨h.1,k.1⟩,h.2⟩
 | .slice none _ _,h,_=>by simpa only[okV]using h
 | .map (some r),h,k=>by simp only[okV]at h k ⊢;exact⟨h,k⟩
 | .map none,_,_=>by simp[okV]
 | .chan (some _),h,_=>by simp[okV]at h
 | .chan none,_,_=>by simp[okV]
 | .func fn f c,h,k=>by
  cases fn <;> simp only[okV]at h k ⊢ <;>
   first
    | exact⟨okA_and f h.1 k.1,okA_and c h.2 k.2⟩
    | exact⟨⟨h.1,k.1⟩,okA_and f h.2.1 k.2.1,okA_and c h.2.2 k.2.2⟩
 | .iface _ v,h,k=>by simp only[okV]at h k ⊢;exact okV_and v h k
 | .agg cs,h,k=>by simp only[okV]at h k ⊢;exact⟨okA_and cs h.1 k.1,h.2⟩
 | .tuple cs,h,k=>by simp only[okV]at h k ⊢;exact okA_and cs h k
 | .bool _,_,_=>by simp[okV]
 | .int _ _,_,_=>by simp[okV]
 | .float _ _,_,_=>by simp[okV]
 | .complex _ _ _,_,_=>by simp[okV]
 | .string _,_,_=>by simp[okV]
 | .nilFunc,_,_=>by simp[okV]
 | .nilIface,_,_=>by simp[okV]
def okA_and{D E:Nat->Prop}:(v:Array Value)->okA D v->okA E v->okA (fun b=>D b/\E b) v
 | ⟨l⟩,h,k=>by simp only[okA]at h k ⊢;exact okL_and l h k
def okL_and{D E:Nat->Prop}:(v:List Value)->okL D v->okL E v->okL (fun b=>D b/\E b) v
 | [],_,_=>by simp[okL]
 | v::l,h,k=>by simp only[okL]at h k ⊢;exact⟨okV_and v h.1 k.1,okL_and l h.2 k.2⟩
end
def Jd5{D E:Nat->Prop}{x:Blk}(h:okB D x)(k:okB E x):okB (fun b=>D b/\E b) x:=by
 cases x with
 | cells o z c=>exact fun v hv=>⟨okV_and v (h v hv).1 (k v hv).1,(h v hv).2⟩
 | map es c=>exact fun e he=>⟨(h e he).1,okV_and _ (h e he).2 (k e he).2⟩
 | obj o =>
  cases o with
  | loop st pend t ps as bd d=>exact⟨fun i v hv=>okV_and v (h.1 i v hv) (k.1 i v hv),h.2,k.2⟩
  | defs=>trivial
  | strIter b n=>trivial
  | mapIter m since seen last=>exact fun b hb=>⟨h b hb,k b hb⟩
  | any=>trivial
def Fits.keepD{Y β:Ren}{p:Place}{w w':World}{x:Blk}{D:Nat->Prop}(hf:Fits Y p w x)(hx:Go.Ab.okB D x)(h:∀ b,D b->β b=Y b)(hD:∀ b,D b->dom Y b)(hw:w'.heap[p.blk]? = w.heap[p.blk]?):Fits β p w' x:=by
 have hd:∀ b,D b->dom β b:=fun b hb=>by have:=hD b hb;simpa[dom,h b hb]using this
 cases x with
 | cells own sz c =>
  obtain⟨hsz,hf⟩:=hf;rcases hf with hf | ⟨C,e,lo,hi,h1,h2,h3⟩
  ·exact⟨hsz,.inl hf⟩
  refine⟨hsz,.inr ⟨C,e,lo,hi,by rw[hw,h1],fun i v hv => ?_,h3⟩⟩;have hv':=(hx v (ak hv)).1;obtain⟨a1,_,a3⟩:=h2 i v hv;exact⟨by rw[a1,ren_congr h v hv'],okV_mono hd v hv',a3⟩
 | map es clk =>
  obtain⟨h0,h1,h2⟩:=hf;refine⟨h0,?_,fun e he=>⟨(h2 e he).1,okV_mono hd _ (hx e he).2⟩⟩;rw[hw,h1];congr 2;apply dG;intro e he;exact(Yk3 h (h2 e he).1 (hx e he).2).symm
 | obj o =>
  obtain⟨h0,o',h1,h2⟩:=hf;refine⟨h0,o',by rw[hw,h1],?_⟩;cases o with
  | loop st pend t ps as bd d =>
   obtain⟨h3,fn,tmps,h4,h5⟩:=h2;exact⟨hd d hx.2,fn,tmps,by rw[h4,Qbr (h d hx.2)],h5.size,fun i v hv=>⟨okV_mono hd v (hx.1 i v hv),by rw[(h5.vals i v hv).2,ren_congr h v (hx.1 i v hv)]⟩⟩
  | defs=>exact h2
  | strIter b n=>exact h2
  | mapIter m since seen last =>
   obtain⟨h3,h4⟩:=h2;refine⟨fun b hb=>hd b (hx b hb),?_⟩;rw[h4];cases m with
   | none=>rfl
   | some b=>simp only[aK,Qbr (h b (hx b rfl))]
  | any=>trivial
def Ren.below(Y:Ren)(n:Nat):Ren:=fun b=>if b < n then Y b else none
section
variable{P:Program}{G:Bs}{Y:Ren}{h:Heap}{w:World}
def HRel.restrict(H:HRel G Y h w){h':Heap}(hn:G.n<=h'.next)(hg:∀ b,Go.Ab.dom Y b->b < h'.next->h'.get b=h.get b)(hwf:∀ b x,h'.get b=some x->okB (fun c=>c < h'.next) x):HRel G (Ren.below Y h'.next) h' w:=by
 have hb:∀ b p,Ren.below Y h'.next b=some p->b < h'.next/\Y b=some p:=by
  intro b p hp;unfold Ren.below at hp;split at hp
  ·exact⟨by assumption,hp⟩
  ·cases hp
 refine⟨fun b p hp=>⟨(hb b p hp).1,(H.dom b p (hb b p hp).2).2⟩,fun b p x hp hx => ?_,fun b c p q hp hq hne ho hl => ?_,fun g hg' => ?_,hn,hwf,fun b p x hp hx => ?_,H.bsz⟩
 ·obtain⟨h1,h2⟩:=hb b p hp;have hx':h.get b=some x:=by rw[<- hg b (Quc h2) h1];exact hx
  have hf:=H.fits b p x h2 hx';refine hf.keepD (Jd5 hf.okB (hwf b x hx)) (fun c hc => ?_) (fun c hc=>hc.1) rfl;unfold Ren.below;rw[if_pos hc.2]
 ·obtain⟨h1,h2⟩:=hb b p hp;obtain⟨h3,h4⟩:=hb c q hq;exact H.apart b c p q h2 h4 hne (by rw[<- Qmw (hg b (Quc h2) h1)];exact ho) (by rw[<- Yk8 (hg c (Quc h4) h3)];exact hl)
 ·have hlt:g < h'.next:=by omega
  refine⟨by unfold Ren.below;rw[if_pos hlt];exact(H.glob g hg').1,?_⟩;rw[Qmw (hg g (Quc (H.glob g hg').1) hlt)];exact(H.glob g hg').2
 ·obtain⟨h1,h2⟩:=hb b p hp;exact H.base b p x h2 (by rw[<- hg b (Quc h2) h1];exact hx)
def Zl4(E:Env2 P){C:CallF}(hC:CallsSound P E.G C){o:Oper}{t:Tm}{a:Act}{v:Value}{h1:Heap}(hs:Qt1 E C o t h=some (v,h1))(H:HRel E.G Y h w)(ht:TRel Y t a.tmps) :
  ∃ Y' w',Ext h.next Y Y'/\HRel E.G Y' h1 w'/\okV (dom Y') v:=by
 unfold Qt1 at hs;split at hs
 ·rename_i hr;cases hs;obtain⟨Y',w',r1,r2,r3,r4,r5⟩:=Qxy E H ht hr;exact⟨Y',w',r3,r4,r2⟩
 ·rename_i hr;cases hs;obtain⟨w',r1,r2,r3⟩:=Qxy E H ht hr;exact⟨Y,w',Ext.refl _ _,r2,by simp[Qr,okV,okA,okL]⟩
 ·rename_i f args h0 hr;obtain⟨rfl,r1,r2⟩:=Qxy E H ht hr;split at hs
  ·rename_i v' h' hc;cases hs;obtain⟨e,w',fr,⟨Y',r,h2,⟨rfl,rfl⟩,_,q1,q2,q3,q4⟩,_⟩:=(hC.fn _ _ _ _ _ hc Y w H r2).2 [] (room_wide _);exact⟨Y',w',q2,q4,q1⟩
  ·cases hs
 ·rename_i l args h0 hr;obtain⟨rfl,k1,r2,st,pend,t',ps,as,bd,d,k2,fn,tmps,k3,r1⟩:=Qxy E H ht hr;split at hs
  ·rename_i v' h' hc;cases hs;obtain⟨_,hround⟩:=hC.rnd _ _ _ _ _ hc Y w Y none st pend t' ps as bd d fn tmps H k1 r2 k2 k3;obtain⟨e,w',⟨Y',r,h2,⟨rfl,rfl⟩,_,q1,q2,q3,q4⟩,_⟩:=hround default [] (room_wide _);exact⟨Y',w',q2,q4,q1⟩
  ·cases hs
 ·cases hs
end
def Z0z{P:Program}(E:Env2 P)(C:CallF)(ops:List Oper)(B:List Nat)(i:Nat)(o:Oper)(s s':St):Prop :=
 Qm7 s o.dst=true/\Zc o=true/\((Qe ops s.t o=some false/\s'=s.put o.dst Qr s.h) ∨
  (Qe ops s.t o=some true/\∃ v h1,Qt1 E C o s.t (Qa1 s.h)=some (v,h1)/\s'=s.put o.dst v (Xxo s.h h1)/\Xas E ops B i o s h1=true))
def Yji{x:Option LRec}{r:Option (St × List (Option LRec))}{s:St}{R:List (Option LRec)}(h:Wl x r=some (s,R)):∃ R',r=some (s,R')/\R=x::R':=by
 unfold Wl at h;split at h
 ·cases h;exact⟨_,rfl,rfl⟩
 ·cases h
def Jew{P:Program}(E:Env2 P)(C:CallF)(ops:List Oper)(o:Oper)(s s':St)(x:Option LRec):Prop :=
 (Qe ops s.t o=some false/\x=none)∨(Qe ops s.t o=some true/\∃ v h1,Qt1 E C o s.t (Qa1 s.h)=some (v,h1)/\s'=s.put o.dst v (Xxo s.h h1)/\x=Ybm E s o h1)
def Yao{P:Program}{E:Env2 P}{C:CallF}{ops:List Oper}{B:List Nat}:∀ (r:List Oper) (i:Nat) (s s1:St) (R:List (Option LRec)),Y8o E C ops B r i s=some (s1,R) ->
  ∃ σ:Nat->St,σ i=s/\σ (i+r.length)=s1/\(∀ k o,r[k]? = some o->Z0z E C ops B (i+k) o (σ (i+k)) (σ (i+k+1)))/\∀ k o,r[k]? = some o->∃ x,R[k]? = some x/\Jew E C ops o (σ (i+k)) (σ (i+k+1)) x
 | [],i,s,s1,R,h=>by
  simp only[Y8o,av,bN]at h;exact⟨fun _=>s,rfl,h.1,fun k o ho=>by simp at ho,fun k o ho=>by simp at ho⟩
 | o0::r,i,s,s1,R,h=>by
  have key:∀ s' x,Z0z E C ops B i o0 s s'->Jew E C ops o0 s s' x->Wl x (Y8o E C ops B r (i+1) s')=some (s1,R) ->
    ∃ σ:Nat->St,σ i=s/\σ (i+(o0::r).length)=s1/\(∀ k o,(o0::r)[k]? = some o->Z0z E C ops B (i+k) o (σ (i+k)) (σ (i+k+1)))/\∀ k o,(o0::r)[k]? = some o->∃ x,R[k]? = some x/\Jew E C ops o (σ (i+k)) (σ (i+k+1)) x:=by
   intro s' x hst hx hrun;obtain⟨R',hrun',rfl⟩:=Yji hrun;obtain⟨σ,e1,e2,e3,e4⟩:=Yao r (i+1) s' s1 R' hrun';refine⟨fun j=>if j=i then s else σ j,by simp,?_,?_,?_⟩
   ·simp only[bH];rw[if_neg (by omega),show i+(r.length+1)=i+1+r.length by omega];exact e2
   ·intro k o ho;cases k with
    | zero =>
     simp at ho;subst ho;simp only[cg,if_true];rw[if_neg (by omega),e1];exact hst
    | succ k =>
     simp at ho;show Z0z E C ops B (i+(k+1)) o (if i+(k+1)=i then s else σ (i+(k+1))) (if i+(k+1)+1=i then s else σ (i+(k+1)+1));rw[if_neg (by omega),if_neg (by omega)];have:=e3 k o ho;rwa [show i+1+k=i+(k+1) by omega]at this
   ·intro k o ho;cases k with
    | zero =>
     simp at ho;subst ho;refine⟨x,rfl,?_⟩;simp only[cg,if_true];rw[if_neg (by omega),e1];exact hx
    | succ k =>
     simp at ho;obtain⟨y,h1,h2⟩:=e4 k o ho;refine⟨y,h1,?_⟩;show Jew E C ops o (if i+(k+1)=i then s else σ (i+(k+1))) (if i+(k+1)+1=i then s else σ (i+(k+1)+1)) y;rw[if_neg (by omega),if_neg (by omega)];rwa [show i+1+k=i+(k+1) by omega]at h2
  simp only[Y8o]at h;split at h
  ·cases h
  ·rename_i hc;simp only[cD,dO,aq]at hc;split at h
   ·rename_i hw;exact key _ _ ⟨hc.1,hc.2,.inl ⟨hw,rfl⟩⟩ (.inl ⟨hw,rfl⟩) h
   ·rename_i hw;split at h
    ·rename_i v h1 hv;split at h
     ·rename_i hq;exact key _ _ ⟨hc.1,hc.2,.inr ⟨hw,v,h1,hv,rfl,hq⟩⟩ (.inr ⟨hw,v,h1,hv,rfl,rfl⟩) h
     ·cases h
    ·cases h
   ·cases h
structure Canon {P:Program} (E:Env2 P) (C:CallF) (ops:Array Oper) (B:List Nat) (σ:Nat->St):Prop where
 bef:BefOk ops.toList B
 pairs:∀ (j i:Nat) (oj oi:Oper) (b:Nat),ops[j]? = some oj->ops[i]? = some oi->B[j]? = some b->i < j->b.testBit i=true∨Ykx ops.toList oi oj=true
 step:∀ (i:Nat) (o:Oper),ops[i]? = some o->Z0z E C ops.toList B i o (σ i) (σ (i+1))
 cross:∃ R:List (Option LRec),Yx E R B R B 0=true/\∀ (k:Nat) (o:Oper),ops[k]? = some o->∃ x,R[k]? = some x/\Jew E C ops.toList o (σ k) (σ (k+1)) x
section
variable{P:Program}{E:Env2 P}{C:CallF}{ops:Array Oper}{B:List Nat}{σ:Nat->St}
def Zdx(E:Env2 P)(ops:Array Oper)(σ:Nat->St)(i:Nat):Prop:=∃ o,ops[i]? = some o/\(Z7 E o=true∨Qe ops.toList (σ i).t o=some false∨(loadAt E (σ i).t o).isSome=true)
def Qwu(s:St)(d:Option Tmp)(v:Value)(h:Heap):(s.put d v h).h=h:=by cases d <;> rfl
def Jac(s:St)(d:Option Tmp)(v:Value)(h:Heap):(s.put d v h).ds=s.ds:=by cases d <;> rfl
def Zw7(s:St)(d:Option Tmp)(v:Value)(h:Heap):(s.put d v h).t.size=s.t.size:=by cases d <;> rfl
def Zt4(s:St)(d:Option Tmp)(v:Value)(h:Heap)(x:Nat)(hx:d≠some x):(s.put d v h).t.t.get x=s.t.t.get x:=by
 cases d with
 | none=>rfl
 | some i =>
  simp only[St.put,Tm.put,Tr.get_put];rw[if_neg (fun e=>hx (by rw[e]))]
def Xyw(s:St)(i:Nat)(v:Value)(h:Heap):(s.put (some i) v h).t.t.get i=some v:=by
 simp[St.put,Tm.put,Tr.get_put]
def Zl1(h:Heap)(b:Nat):(Qa1 h).get b=h.get b:=rfl
def Yie(h h1:Heap)(b:Nat):(Xxo h h1).get b=h1.get b:=rfl
def Canon.next_le(c:Canon E C ops B σ)(hL:CallsLow C){i:Nat}(hi:i < ops.size):(σ i).h.next<=(σ (i+1)).h.next:=by
 have ho:ops[i]? = some ops[i]:=by simp[hi]
 obtain⟨_,_,h⟩:=c.step i _ ho;rcases h with⟨_,h⟩ | ⟨_,v,h1,hv,h,_⟩
 ·rw[h,Qwu];exact ae _
 ·rw[h,Qwu];exact(X0h hL hv).next
def Canon.next_mono(c:Canon E C ops B σ)(hL:CallsLow C):∀ {i j:Nat},i<=j->j<=ops.size->(σ i).h.next<=(σ j).h.next:=by
 intro i j hij;induction hij with
 | refl=>exact fun _=>ae _
 | step h ih=>exact fun hj=>al (ih (by omega)) (c.next_le hL (by omega))
def Canon.size(c:Canon E C ops B σ):∀ {i:Nat},i<=ops.size->(σ i).t.size=(σ 0).t.size:=by
 intro i;induction i with
 | zero=>exact fun _=>rfl
 | succ i ih =>
  intro hi;have ho:ops[i]? = some ops[i]:=by simp[show i < ops.size by omega]
  obtain⟨_,_,h⟩:=c.step i _ ho;rcases h with⟨_,h⟩ | ⟨_,v,h1,hv,h,_⟩
  ·rw[h,Zw7];exact ih (by omega)
  ·rw[h,Zw7];exact ih (by omega)
def Canon.dss(c:Canon E C ops B σ):∀ {i:Nat},i<=ops.size->(σ i).ds=(σ 0).ds:=by
 intro i;induction i with
 | zero=>exact fun _=>rfl
 | succ i ih =>
  intro hi;have ho:ops[i]? = some ops[i]:=by simp[show i < ops.size by omega]
  obtain⟨_,_,h⟩:=c.step i _ ho;rcases h with⟨_,h⟩ | ⟨_,v,h1,hv,h,_⟩
  ·rw[h,Jac];exact ih (by omega)
  ·rw[h,Jac];exact ih (by omega)
def Canon.free(c:Canon E C ops B σ){i:Nat}(hf:Zdx E ops σ i):(σ (i+1)).h.next=(σ i).h.next/\∀ b,(σ (i+1)).h.get b=(σ i).h.get b:=by
 obtain⟨o,ho,hf⟩:=hf;obtain⟨_,_,h⟩:=c.step i _ ho;rcases h with⟨_,h⟩ | ⟨hw,v,h1,hv,h,_⟩
 ·rw[h,Qwu];exact⟨rfl,fun _=>rfl⟩
 ·rcases hf with hf | hf
  ·obtain⟨rfl,_⟩:=Y0h E C hf hv (σ i).h;rw[h,Qwu];exact⟨rfl,fun _=>rfl⟩
  ·rcases hf with hf | hf
   ·rw[hw]at hf;cases hf
   ·obtain⟨b,hb⟩:=aN.1 hf;obtain⟨rfl,_⟩:=Jdt hb hv;rw[h,Qwu];exact⟨rfl,fun _=>rfl⟩
def Z6o(σ:Nat->St)(i:Nat):Prop:=∀ b,b < (σ i).h.next->(σ (i+1)).h.get b=(σ i).h.get b
def Jl0(E:Env2 P)(ops:Array Oper)(B:List Nat)(σ:Nat->St)(i:Nat):Prop:=∀ k,k < ops.size->¬ Zdx E ops σ k->k≠i->(k < i/\∃ b,B[i]? = some b/\b.testBit k=true)∨(i < k/\∃ b,B[k]? = some b/\b.testBit i=true)
def Jjq(E:Env2 P)(ops:Array Oper)(B:List Nat)(σ:Nat->St)(i:Nat):Prop:=∀ k ok c,ops[k]? = some ok->Qe ops.toList (σ k).t ok=some true->loadAt E (σ k).t ok=some c->c < (σ i).h.next ->
 ldv E (σ k).t ok (σ (i+1)).h=ldv E (σ k).t ok (σ i).h∨(k < i/\∃ b,B[i]? = some b/\b.testBit k=true)∨(i < k/\∃ b,B[k]? = some b/\b.testBit i=true)
def Yf9{E:Env2 P}{t:Tm}{o:Oper}{b:Nat}(h:loadAt E t o=some b):Yr o=true:=by
 unfold loadAt at h;unfold Yr;split at h
 ·rename_i hop;simp[hop]
 ·rename_i hop;simp[hop]
 ·cases h
def Canon.kinds(c:Canon E C ops B σ)(hL:CallsLow C){i:Nat}(hi:i < ops.size):Zdx E ops σ i∨Z6o σ i∨(Jl0 E ops B σ i/\Jjq E ops B σ i):=by
 have ho:ops[i]? = some ops[i]:=by simp[hi]
 have hib:i < B.length:=by rw[c.bef.len];simpa using hi
 obtain⟨_,_,h⟩:=c.step i _ ho;rcases h with⟨hw,h⟩ | ⟨hw,v,h1,hv,h,hq⟩
 ·exact .inl ⟨_,ho,.inr (.inl hw)⟩
 ·unfold Xas at hq;rw[aq]at hq;obtain⟨hq,hkl⟩:=hq;simp only[cd,cH]at hq;rcases hq with((hq | hq) | hq) | hq
  ·exact .inl ⟨_,ho,.inl hq⟩
  ·refine .inr (.inl fun b hb => ?_);rw[h,Qwu,Yie];have:=(X0h hL hv).same b hb (az hb hq);rw[this,Zl1]
  ·exact .inl ⟨_,ho,.inr (.inr (Yga hq hkl))⟩
  ·by_cases hld:(loadAt E (σ i).t ops[i]).isSome=true
   ·exact .inl ⟨_,ho,.inr (.inr hld)⟩
   by_cases hfr:Z7 E ops[i]=true
   ·exact .inl ⟨_,ho,.inl hfr⟩
   by_cases hqu:(σ i).h.next<=h1.low
   ·refine .inr (.inl fun b hb => ?_);rw[h,Qwu,Yie];have:=(X0h hL hv).same b hb (az hb hqu);rw[this,Zl1]
   refine .inr (.inr ⟨fun k hk hnf hne => ?_,fun k ok cc hko hwk hl hcc => ?_⟩)
   ·have hko:ops.toList[k]? = some ops[k]:=(by simp[hk]);have hkb:k < B.length:=(by rw[c.bef.len];simpa using hk);have:=Ylf hq k ops[k] B[k] hko (ab hkb);simp only[bO]at this;rcases this with h0 | h0 | h0 | ⟨h0,h2⟩ | ⟨h0,h2⟩
    ·exact absurd ⟨_,by simp[hk],.inl h0⟩ hnf
    ·exfalso;have hko':ops[k]? = some ops[k]:=(by simp[hk]);obtain⟨_,_,hs⟩:=c.step k _ hko';rcases hs with⟨hw',_⟩ | ⟨_,v',h1',hv',_,hsk⟩
     ·exact hnf ⟨_,hko',.inr (.inl hw')⟩
     ·unfold Xas at hsk;rw[aq]at hsk;exact hnf ⟨_,hko',.inr (.inr (Yga h0 hsk.2))⟩
    ·exact absurd h0 hne
    ·refine .inl ⟨h0,B[i],ab hib,?_⟩;simpa[ab hib,Xg5]using h2
    ·exact .inr ⟨h0,B[k],ab hkb,h2⟩
   ·obtain⟨R,hR,hrec⟩:=c.cross;have hks:k < ops.size:=by
     rcases bg k ops.size with h | h
     ·exact h
     ·rw[bZ h]at hko;cases hko
    have hkb:k < B.length:=(by rw[c.bef.len];simpa using hks);obtain⟨xi,hxi,hri⟩:=hrec i _ ho;have hnl:Yr ops[i]=false:=by
     cases hh:Yr ops[i]with
     | false=>rfl
     | true=>exact absurd (Yga hh hkl) hld
    have hwr:xi=some (.wr (σ i).h h1):=by
     rcases hri with⟨hw',_⟩ | ⟨_,v',h1',hv',_,rfl⟩
     ·rw[hw]at hw';cases hw'
     ·rw[hv]at hv';cases hv';unfold Ybm;rw[if_neg (by simp[hnl]),if_neg hfr,if_neg (fun h=>hqu (d8 h))]
    obtain⟨xk,hxk,hrk⟩:=hrec k _ hko;have hlk:Yr ok=true:=Yf9 hl;have hldk:xk=some (.ld (σ k).t ok):=by
     rcases hrk with⟨hw',_⟩ | ⟨_,v',h1',hv',_,rfl⟩
     ·rw[hwk]at hw';cases hw'
     ·unfold Ybm;rw[if_pos hlk]
    subst hldk;subst hwr;have h3:=Ykw hR i (σ i).h h1 B[i] hxi (ab hib);rw[bO]at h3;have h4:=Yg2 h3 k (σ k).t ok B[k] hxk (ab hkb);rw[bO]at h4;rcases h4 with h4 | ⟨h4,h5⟩ | ⟨h4,h5⟩
    ·left;rw[<- h4];exact Z6q (fun b=>by rw[h,Qwu,Yie])
    ·exact .inr (.inl ⟨h4,B[i],ab hib,h5⟩)
    ·rcases bg i k with h6 | h6
     ·exact .inr (.inr ⟨h6,B[k],ab hkb,h5⟩)
     ·have : k=i:=(by omega);subst this;rw[ho]at hko;cases hko;rw[hl]at hld;simp at hld
def Canon.still2(_:Canon E C ops B σ){f:Heap->Option Value}:∀ {i j:Nat},i<=j->(∀ k,i<=k->k < j->f (σ (k+1)).h=f (σ k).h)->f (σ j).h=f (σ i).h:=by
 intro i j hij;induction hij with
 | refl=>exact fun _=>rfl
 | step h ih =>
  rename_i j;intro hk;rw[hk j h (bV _)];exact ih fun k h1 h2=>hk k h1 (by omega)
def Canon.still(c:Canon E C ops B σ)(hL:CallsLow C):∀ {i j:Nat},i<=j->j<=ops.size->(∀ k,i<=k->k < j->Zdx E ops σ k∨Z6o σ k)->∀ b,b < (σ i).h.next->(σ j).h.get b=(σ i).h.get b:=by
 intro i j hij;induction hij with
 | refl=>exact fun _ _ _ _=>rfl
 | step h ih =>
  rename_i j;intro hj hk b hb;have hij:i<=j:=h;rw[<- ih (by omega) (fun k h1 h2=>hk k h1 (by omega)) b hb];rcases hk j hij (bV _)with h1 | h1
  ·exact(c.free h1).2 b
  ·exact h1 b (az hb (c.next_mono hL hij (by omega)))
def Canon.wf(c:Canon E C ops B σ)(hC:CallsSound P E.G C){Y:Ren}{tmps:Array Value}{w:World}(H:HRel E.G Y (σ 0).h w)(ht:TRel Y (σ 0).t tmps) :
  ∀ i,i<=ops.size->∃ Y' w' tmps',HRel E.G Y' (σ i).h w'/\TRel Y' (σ i).t tmps':=by
 intro i;induction i with
 | zero=>exact fun _=>⟨Y,w,tmps,H,ht⟩
 | succ i ih =>
  intro hi;obtain⟨Y1,w1,t1,H1,T1⟩:=ih (by omega);have ho:ops[i]? = some ops[i]:=by simp[show i < ops.size by omega]
  obtain⟨hd,_,h⟩:=c.step i _ ho;have hput:∀ (Y2:Ren) (v:Value) (h2:Heap),TRel Y2 (σ i).t t1->okV (dom Y2) v->∃ t2,TRel Y2 ((σ i).put (ops[i]).dst v h2).t t2:=by
   intro Y2 v h2 hT hv;cases hdd:(ops[i]).dst with
   | none=>exact⟨t1,hT⟩
   | some d =>
    rw[hdd]at hd;simp only[Qm7,dL]at hd;exact⟨_,hT.put hd hv⟩
  rcases h with⟨_,h⟩ | ⟨_,v,h1,hv,h,_⟩
  ·obtain⟨t2,T2⟩:=hput Y1 Qr (σ i).h T1 (by simp[Qr,okV,okA,okL]);exact⟨Y1,w1,t2,by rw[h,Qwu];exact H1,by rw[h];exact T2⟩
  ·have H1':HRel E.G Y1 (Qa1 (σ i).h) w1:=H1.congr (h':=Qa1 (σ i).h) H1.globs (fun b hb=>Ql2 H1 hb) (fun _ _=>rfl) H1.wf;obtain⟨Y2,w2,e2,H2,v2⟩:=Zl4 E hC (a:=⟨t1,[]⟩) hv H1' T1;obtain⟨t2,T2⟩:=hput Y2 v (Xxo (σ i).h h1) (T1.ext H1 e2) v2;refine⟨Y2,w2,t2,?_,by rw[h];exact T2⟩;rw[h,Qwu];exact H2.congr (h':=Xxo (σ i).h h1) H2.globs (fun b hb=>Ql2 H2 hb) (fun _ _=>rfl) H2.wf
end
section
variable{P:Program}{E:Env2 P}{C:CallF}{ops:Array Oper}{B:List Nat}{σ:Nat->St}
abbrev Did(listed:Array Bool)(j:Nat):Prop:=listed.getD j false=true
structure Inv (E:Env2 P) (ops:Array Oper) (B:List Nat) (σ:Nat->St) (Y0:Ren) (w0:World) (listed:Array Bool) (Y:Ren) (a:Act) (w:World) (T:Tm) (p:Nat):Prop where
 down:∀ j o,ops[j]? = some o->Did listed j->∀ e ∈ o.after.toList,Region.binds .any e=true->Did listed e.on
 small:∀ j,Did listed j->j < ops.size
 t:TRel Y T a.tmps
 ts:T.size=(σ 0).t.size
 tv:∀ x i,i<=ops.size->(∀ j o,ops[j]? = some o->o.dst=some x->(Did listed j↔j < i))->T.t.get x=(σ i).t.t.get x
 ds:a.defers=(σ 0).ds.map (Qvs Y)
 okd:∀ d ∈ (σ 0).ds,Yc9 (dom Y) d
 ple:p<=ops.size
 h:HRel E.G Y (σ p).h w
 top:∀ j,Did listed j->¬ Zdx E ops σ j->j < p
 last:p=0 ∨ ∃ j,Did listed j/\¬ Zdx E ops σ j/\p=j+1
 dom:∀ b,dom Y b->b < (σ 0).h.next ∨ ∃ j,Did listed j/\(σ j).h.next<=b/\b < (σ (j+1)).h.next
 ext:Ext (σ 0).h.next Y0 Y
 turn:Turn Y0 (σ 0).h w0 Y (σ p).h w
def Zuo{listed:Array Bool}{i j:Nat}(hi:i < listed.size):Did (listed.setIfInBounds i true) j↔j=i∨Did listed j:=by
 simp only[Did,bB,bS];by_cases h:i=j
 ·subst h;simp[hi]
 ·rw[if_neg h];exact⟨.inr,fun h'=>h'.elim (fun e=>absurd e.symm h) id⟩
def Q5q(c:Canon E C ops B σ){D:Nat->Prop}(hd:∀ j o,ops[j]? = some o->D j->∀ e ∈ o.after.toList,Region.binds .any e=true->D e.on) :
  ∀ j b i,D j->B[j]? = some b->b.testBit i=true->D i:=by
 intro j;induction j using Nat.strongRecOn with
 | _ j ih =>
  intro b i hj hb hi;have hlt:j < ops.size:=by
   rcases bg j B.length with h | h
   ·rw[c.bef.len]at h;simpa using h
   ·rw[bm h]at hb;cases hb
  have ho:ops[j]? = some ops[j]:=by simp[hlt]
  have ho':ops.toList[j]? = some ops[j]:=by simp[hlt]
  obtain⟨e,he,hbd,h⟩:=c.bef.bits j _ b ho' hb i hi;have h1:=hd j _ ho hj e he hbd;rcases h with rfl | ⟨b',hb',hi'⟩
  ·exact h1
  ·exact ih e.on (c.bef.on j _ ho' e he hbd) b' i h1 hb' hi'
def X1q(c:Canon E C ops B σ){D:Nat->Prop}(hd:∀ j o,ops[j]? = some o->D j->∀ e ∈ o.after.toList,Region.binds .any e=true->D e.on){i:Nat}{o:Oper}(ho:ops[i]? = some o)
  (hr:∀ e ∈ o.after.toList,Region.binds .any e=true->D e.on) {b:Nat} (hb:B[i]? = some b) {k:Nat} (hk:b.testBit k=true):D k:=by
 obtain⟨e,he,hbd,h⟩:=c.bef.bits i _ b (by simpa using ho) hb k hk;rcases h with rfl | ⟨b',hb',hi'⟩
 ·exact hr e he hbd
 ·exact Q5q c hd e.on b' k (hr e he hbd) hb' hi'
def Y9w(c:Canon E C ops B σ){i:Nat}(hi:i < ops.size):∃ b,B[i]? = some b:=by
 have : i < B.length:=by rw[c.bef.len];simpa using hi
 exact⟨_,ab this⟩
def Zpt{ops:List Oper}{x y:Oper}(h:Ykx ops x y=true){d:Nat}(hx:x.dst=some d):d ∉ looks ops y/\y.dst≠some d:=by
 simp only[Ykx,hx,aq,cD]at h;refine⟨fun hm=>by rw[Zdu.2 hm]at h;simp at h,fun hy => ?_⟩;rw[hy]at h;simp at h
def apart_dst' {ops:List Oper}{x y:Oper}(h:Ykx ops x y=true){d:Nat}(hy:y.dst=some d):d ∉ looks ops x:=by
 simp only[Ykx,aq,hy,cD]at h;intro hm;have:=h.2;rw[Zdu.2 hm]at this;simp at this
def Inv.looks(c:Canon E C ops B σ){Y0 Y:Ren}{w0 w:World}{listed:Array Bool}{a:Act}{T:Tm}{p:Nat}(I:Inv E ops B σ Y0 w0 listed Y a w T p){i:Nat}{o:Oper}(ho:ops[i]? = some o)(hni:¬ Did listed i)
  (hr:∀ e ∈ o.after.toList,Region.binds .any e=true->Did listed e.on) (x:Nat) (hx:x ∈ Go.Ab.looks ops.toList o):T.t.get x=(σ i).t.t.get x:=by
 have hi:i < ops.size:=by
  rcases bg i ops.size with h | h
  ·exact h
  ·rw[bZ h]at ho;cases ho
 obtain⟨bi,hbi⟩:=Y9w c hi;refine I.tv x i (by omega) fun j oj hoj hdj=>⟨fun hj => ?_,fun hj => ?_⟩
 ·rcases Nat.lt_trichotomy j i with h | h | h
  ·exact h
  ·subst h;exact absurd hj hni
  ·have hjs:j < ops.size:=I.small j hj;obtain⟨bj,hbj⟩:=Y9w c hjs;rcases c.pairs j i oj o bj hoj ho hbj h with h1 | h1
   ·exact absurd (Q5q c I.down j bj i hj hbj h1) hni
   ·exact absurd hx (apart_dst' h1 hdj)
 ·rcases c.pairs i j o oj bi ho hoj hbi hj with h1 | h1
  ·exact X1q c I.down ho hr hbi h1
  ·exact absurd hx (Zpt h1 hdj).1
def Zho{ops:List Oper}{o:Oper}{G:Bs}{t t':Tm}(h:∀ x ∈ looks ops o,t.t.get x=t'.t.get x):(∀ x ∈ o.op.operands,aev G t x=aev G t' x)/\Qe ops t o=Qe ops t' o:=by
 constructor
 ·intro x hx;cases x with
  | tmp i =>
   simp only[aev];refine h i ?_;simp only[looks,ac,cr];exact .inl ⟨.tmp i,by simpa using hx,rfl⟩
  | _=>rfl
 ·unfold Qe;split
  ·rfl
  ·rename_i j want hg;split
   ·rfl
   ·rename_i oj hoj;split
    ·rfl
    ·rename_i d hd;rw[h d];simp only[looks,hg,hoj,hd,ac];exact .inr (by simp)
def Inv.tmps(c:Canon E C ops B σ){Y0 Y:Ren}{w0 w:World}{listed:Array Bool}{a:Act}{T:Tm}{p:Nat}(I:Inv E ops B σ Y0 w0 listed Y a w T p){i:Nat}{o:Oper}(ho:ops[i]? = some o)(hni:¬ Did listed i)(hsz:listed.size=ops.size)
  {v:Value} {h1:Heap} (hst:σ (i+1)=(σ i).put o.dst v h1) :
  ∀ x k,k<=ops.size->(∀ j o',ops[j]? = some o'->o'.dst=some x->(Did (listed.setIfInBounds i true) j↔j < k))->(match o.dst with | some d=>(T.put d v).t | none=>T.t).get x=(σ k).t.t.get x:=by
 intro x k hk hsep;have hi:i < ops.size:=by
  rcases bg i ops.size with h | h
  ·exact h
  ·rw[bZ h]at ho;cases ho
 have hdid:∀ j,Did (listed.setIfInBounds i true) j↔j=i∨Did listed j:=fun j=>Zuo (by rw[hsz];exact hi);by_cases hx:o.dst=some x
 ·have hik:i < k:=(hsep i o ho hx).1 ((hdid i).2 (.inl rfl));rw[hx];simp only[Tm.put,Tr.get_put,if_true];have hnone:∀ k',i < k'->k'<=k->(σ k').t.t.get x=(σ (i+1)).t.t.get x:=by
   intro k' h1 h2;induction k' with
   | zero=>omega
   | succ k' ih =>
    by_cases he:k'=i
    ·subst he;rfl
    ·have hk':k' < ops.size:=(by omega);have ho':ops[k']? = some ops[k']:=(by simp[hk']);have hne:(ops[k']).dst≠some x:=by
      intro hd;have hdd:=(hsep k' _ ho' hd).2 (by omega);rcases(hdid k').1 hdd with h | h
      ·exact he h
      ·obtain⟨b,hb⟩:=Y9w c hk';rcases c.pairs k' i _ o b ho' ho hb (by omega)with h3 | h3
       ·exact hni (Q5q c I.down k' b i h hb h3)
       ·exact(Zpt h3 hx).2 hd
     obtain⟨_,_,h⟩:=c.step k' _ ho';have hstep:(σ (k'+1)).t.t.get x=(σ k').t.t.get x:=by
      rcases h with⟨_,h⟩ | ⟨_,v',h',_,h,_⟩ <;> (rw[h];exact Zt4 _ _ _ _ _ hne)
     rw[hstep];exact ih (by omega) (by omega)
  rw[hnone k hik (ae _),hst,hx,Xyw]
 ·have hold:∀ j o',ops[j]? = some o'->o'.dst=some x->(Did listed j↔j < k):=by
   intro j o' hj hd;rw[<- hsep j o' hj hd,hdid];refine⟨.inr,fun h=>h.elim (fun e => ?_) id⟩;subst e;rw[ho]at hj;cases hj;exact absurd hd hx
  have:=I.tv x k hk hold;cases hdd:o.dst with
  | none=>exact this
  | some d =>
   simp only[Tm.put,Tr.get_put];rw[if_neg (fun e=>hx (by rw[hdd,e]))];exact this
end
def Tm.at? (t:Tm)(d:Option Tmp)(v:Value):Tm:=match d with | some d=>t.put d v | none=>t
def Tm.only(t:Tm):List Nat->Tr Value
 | [] => .leaf
 | x::l=>(Tm.only t l).put x (t.t.get x)
def dY(t:Tm):∀ (l:List Nat) (x:Nat),(t.only l).get x=if x ∈ l then t.t.get x else none
 | [],x=>by simp[Tm.only]
 | y::l,x=>by
  simp only[Tm.only,Tr.get_put,dY t l x,ax];by_cases e:y=x
  ·subst e;simp
  ·have : ¬ x=y:=fun h=>e h.symm;simp[e,this]
def TRel.congr{Y β:Ren}{t:Tm}{tmps:Array Value}(hd:∀ b,dom Y b->β b=Y b)(ht:TRel Y t tmps):TRel β t tmps :=
 ⟨ht.size,fun i v hv=>by
  have:=ht.vals i v hv;exact⟨okV_mono (fun b hb=>by simpa[dom,hd b hb]using hb) v this.1,by rw[this.2,ren_congr hd v this.1]⟩⟩
section
variable{P:Program}{E:Env2 P}{C:CallF}{ops:Array Oper}{B:List Nat}{σ:Nat->St}
variable{Y0 Y:Ren}{w0 w:World}{listed:Array Bool}{a:Act}{T:Tm}{p:Nat}
def Qye{i:Nat}{o:Oper}(ho:ops[i]? = some o):i < ops.size:=by
 rcases bg i ops.size with h | h
 ·exact h
 ·rw[bZ h]at ho;cases ho
def Zd7(c:Canon E C ops B σ)(I:Inv E ops B σ Y0 w0 listed Y a w T p){i:Nat}{o:Oper}(ho:ops[i]? = some o)(hni:¬ Did listed i)
  (hr:∀ e ∈ o.after.toList,Region.binds .any e=true->Did listed e.on) (hsz:listed.size=ops.size)
  {v:Value} {h1:Heap} (hst:σ (i+1)=(σ i).put o.dst v h1) (hdst:Qm7 (σ i) o.dst=true)
  {Y':Ren} {w':World} {p':Nat} (hY:∀ b,dom Y b->Y' b=Y b) (hv:okV (dom Y') v) (H:HRel E.G Y' (σ p').h w') (hp':p'<=ops.size) (hpp:p<=p')
  (hnf:¬ Zdx E ops σ i->i < p') (hlast:p'=p∨(¬ Zdx E ops σ i/\p'=i+1))
  (hdom:∀ b,dom Y' b->dom Y b∨((σ i).h.next<=b/\b < (σ (i+1)).h.next)) (hext:Ext (σ 0).h.next Y Y') (hturn:Turn Y0 (σ 0).h w0 Y' (σ p').h w') :
  Inv E ops B σ Y0 w0 (listed.setIfInBounds i true) Y' (a.put o.dst (ren Y' v)) w' (T.at? o.dst v) p':=by
 have hi:=Qye ho;have hdid:∀ j,Did (listed.setIfInBounds i true) j↔j=i∨Did listed j:=fun j=>Zuo (by rw[hsz];exact hi);have htm:=I.tmps c ho hni hsz hst;have hds:(a.put o.dst (ren Y' v)).defers=a.defers:=by cases o.dst <;> rfl
 refine⟨?_,?_,?_,?_,?_,?_,?_,hp',H,?_,?_,?_,?_,hturn⟩
 ·intro j o' ho' hj e he hb;rw[hdid]at hj ⊢;rcases hj with rfl | hj
  ·rw[ho]at ho';cases ho';exact .inr (hr e he hb)
  ·exact .inr (I.down j o' ho' hj e he hb)
 ·intro j hj;rcases(hdid j).1 hj with rfl | h
  ·exact hi
  ·exact I.small j h
 ·have ht:=I.t.congr hY;cases hd:o.dst with
  | none=>exact ht
  | some d =>
   rw[hd]at hdst;simp only[Qm7,dL]at hdst;exact ht.put (by rw[I.ts,<- c.size (Nat.le_of_lt hi)];exact hdst) hv
 ·cases hd:o.dst with
  | none=>exact I.ts
  | some d=>exact I.ts
 ·intro x k hk h;have:=htm x k hk h;cases hd:o.dst with
  | none=>simpa only[hd,Tm.at?]using this
  | some d=>simpa only[hd,Tm.at?]using this
 ·rw[hds,I.ds];apply bM;intro d hd;exact(Q03 hY (I.okd d hd)).symm
 ·exact fun d hd=>Xae (fun b hb=>by simpa[dom,hY b hb]using hb) (I.okd d hd)
 ·intro j hj hnfj;rcases(hdid j).1 hj with rfl | h
  ·exact hnf hnfj
  ·exact az (I.top j h hnfj) hpp
 ·rcases hlast with rfl | ⟨h1,h2⟩
  ·rcases I.last with h | ⟨j,h1,h2,h3⟩
   ·exact .inl h
   ·exact .inr ⟨j,(hdid j).2 (.inr h1),h2,h3⟩
  ·exact .inr ⟨i,(hdid i).2 (.inl rfl),h1,h2⟩
 ·intro b hb;rcases hdom b hb with h | h
  ·rcases I.dom b h with h | ⟨j,h1,h2⟩
   ·exact .inl h
   ·exact .inr ⟨j,(hdid j).2 (.inr h1),h2⟩
  ·exact .inr ⟨i,(hdid i).2 (.inl rfl),h⟩
 ·intro b hb;rw[hext b hb,I.ext b hb]
def Zw2(c:Canon E C ops B σ)(I:Inv E ops B σ Y0 w0 listed Y a w T p){i:Nat}{o:Oper}(ho:ops[i]? = some o)(hni:¬ Did listed i)
  (hr:∀ e ∈ o.after.toList,Region.binds .any e=true->Did listed e.on) (hsz:listed.size=ops.size)
  {v:Value} {h1:Heap} (hst:σ (i+1)=(σ i).put o.dst v h1) (hdst:Qm7 (σ i) o.dst=true) (hf:Zdx E ops σ i) (hv:okV (dom Y) v)
  {w':World} (hw:HRel E.G Y (σ p).h w') (ht:Turn Y (σ p).h w Y (σ p).h w') :
  Inv E ops B σ Y0 w0 (listed.setIfInBounds i true) Y (a.put o.dst (ren Y v)) w' (T.at? o.dst v) p :=
 Zd7 c I ho hni hr hsz hst hdst (fun _ _=>rfl) hv hw I.ple (ae _) (fun h=>absurd hf h) (.inl rfl) (fun b hb => .inl hb) (Ext.refl _ _) (I.turn.trans ht)
end
section
variable{P:Program}{E:Env2 P}{C:CallF}{ops:Array Oper}{B:List Nat}{σ:Nat->St}
variable{Y0 Y:Ren}{w0 w:World}{listed:Array Bool}{a:Act}{T:Tm}{p:Nat}
def mix(Y1 Y:Ren)(n:Nat):Ren:=fun b=>if b < n then Y1 b else Y b
def Z41{Y1 Y:Ren}{n m:Nat}(hnm:n<=m)(h1:∀ b,b < n->Y1 b=Y b)(h2:∀ b,n<=b->b < m->Y b=none):∀ b,dom Y b->mix Y1 Y m b=Y b:=by
 intro b hb;unfold mix;split
 ·rename_i hlt;rcases bg b n with h | h
  ·exact h1 b h
  ·rw[dom,h2 b h hlt]at hb;simp at hb
 ·rfl
def Jdd{G:Bs}{Y Y1:Ren}{h h0 h1:Heap}{w w':World}(H:HRel G Y h w)(H1:HRel G Y1 h1 w')(he:Ext h0.next (Ren.below Y h0.next) Y1)(ht:Turn (Ren.below Y h0.next) h0 w Y1 h1 w')
  (hn:h1.next<=h.next) (hgap:∀ b,h0.next<=b->b < h1.next->Y b=none) (hg0:∀ b,b < h0.next->h.get b=h0.get b) (hg1:∀ b,b < h1.next->h.get b=h1.get b) :
  HRel G (mix Y1 Y h1.next) h w'/\Turn Y h w (mix Y1 Y h1.next) h w':=by
 have hb0:∀ b p,Ren.below Y h0.next b=some p->b < h0.next/\Y b=some p:=by
  intro b p hp;unfold Ren.below at hp;split at hp
  ·exact⟨by assumption,hp⟩
  ·cases hp
 have h01:∀ b,b < h0.next->Y1 b=Y b:=by
  intro b hb;rw[he b hb];unfold Ren.below;rw[if_pos hb]
 have hold:∀ b,dom Y b->mix Y1 Y h1.next b=Y b:=Z41 ht.next h01 hgap;have hnew:∀ b,dom Y1 b->mix Y1 Y h1.next b=Y1 b:=by
  intro b hb;unfold mix;rw[if_pos (Ql2 H1 hb)]
 have hcase:∀ b q,mix Y1 Y h1.next b=some q->(b < h1.next/\Y1 b=some q)∨(h1.next<=b/\Y b=some q):=by
  intro b q hq;unfold mix at hq;split at hq
  ·exact .inl ⟨by assumption,hq⟩
  ·exact .inr ⟨by omega,hq⟩
 have hownt:∀ b q,Y1 b=some q->h1.own b=true->w.heap.size<=q.blk ∨ ∃ c r,Y c=some r/\h.own c=true/\c < h0.next/\r.blk=q.blk:=by
  intro b q hq ho;rcases ht.owns b q hq ho with h2 | ⟨c,r,hc,hco,hcb⟩
  ·exact .inl h2
  ·obtain⟨h3,h4⟩:=hb0 c r hc;exact .inr ⟨c,r,h4,by rw[Qmw (hg0 c h3)];exact hco,h3,hcb⟩
 constructor
 ·refine⟨?_,?_,?_,?_,H.globs,H.wf,?_,H1.bsz⟩
  ·intro b q hq;rcases hcase b q hq with⟨h2,h3⟩ | ⟨h2,h3⟩
   ·exact⟨by omega,(H1.dom b q h3).2⟩
   ·exact⟨(H.dom b q h3).1,trivial⟩
  ·intro b q x hq hx;rcases hcase b q hq with⟨h2,h3⟩ | ⟨h2,h3⟩
   ·exact(H1.fits b q x h3 (by rw[<- hg1 b h2];exact hx)).keep hnew rfl
   ·have hf:=H.fits b q x h3 hx;by_cases hs:x.solid=true
    ·refine hf.keep hold (ht.same q.blk (H.blk_lt h3 hx hs) fun c r hc hco => ?_);obtain⟨h4,h5⟩:=hb0 c r hc;have : h0.next<=h1.next:=ht.next;exact H.apart c b r q h5 h3 (by omega) (by rw[Qmw (hg0 c h4)];exact hco) (by rw[Yjx hx];exact hs)
    ·cases x with
     | cells o z cs =>
      cases o with
      | true=>exact absurd (dT rfl) hs
      | false =>
       cases cs with
       | nil=>exact⟨hf.1,.inl ⟨rfl,rfl⟩⟩
       | cons _ _=>exact absurd rfl hs
     | map _ _=>exact absurd rfl hs
     | obj _=>exact absurd rfl hs
  ·intro b c q r hq hr hne ho hl;rcases hcase b q hq with⟨h2,h3⟩ | ⟨h2,h3⟩ <;> rcases hcase c r hr with⟨h4,h5⟩ | ⟨h4,h5⟩
   ·exact H1.apart b c q r h3 h5 hne (by rw[<- Qmw (hg1 b h2)];exact ho) (by rw[<- Yk8 (hg1 c h4)];exact hl)
   ·rcases hownt b q h3 (by rw[<- Qmw (hg1 b h2)];exact ho)with h6 | ⟨d,s,h6,h7,h8,h9⟩
    ·have:=H.blk_live h5 hl;omega
    ·rw[<- h9];have : h0.next<=h1.next:=ht.next;exact H.apart d c s r h6 h5 (by omega) h7 hl
   ·have hbs:=H.blk_own h3 ho;by_cases hco:h.own c=true
    ·rcases hownt c r h5 (by rw[<- Qmw (hg1 c h4)];exact hco)with h6 | ⟨d,s,h6,h7,h8,h9⟩
     ·omega
     ·rw[<- h9];have : h0.next<=h1.next:=ht.next;exact H.apart b d q s h3 h6 (by omega) ho (Yrj h7)
    ·obtain⟨x,hx,hxo⟩:=Q4b ho;have h6:=((H.base b q x h3 hx).1 hxo).1;cases hy:h.get c with
     | none=>simp[Heap.live,hy]at hl
     | some y =>
      have h7:y.own=false:=(by rw[Qy3 hy]at hco;simpa using hco);have h8:y.solid=true:=(by rw[Yjx hy]at hl;exact hl);have:=(H1.base c r y h5 (by rw[<- hg1 c h4];exact hy)).2 h7 h8 |>.1;omega
   ·exact H.apart b c q r h3 h5 hne ho hl
  ·intro g hg;have hgl:=H.glob g hg;exact⟨by rw[hold g (Quc hgl.1)];exact hgl.1,hgl.2⟩
  ·intro b q x hq hx;rcases hcase b q hq with⟨h2,h3⟩ | ⟨h2,h3⟩
   ·exact H1.base b q x h3 (by rw[<- hg1 b h2];exact hx)
   ·exact H.base b q x h3 hx
 ·refine⟨ht.size,fun k hk hno => ?_,fun b q hq ho => ?_,ht.tape,ht.os,ht.output,ht.drawn,ae _⟩
  ·refine ht.same k hk fun c r hc hco => ?_;obtain⟨h4,h5⟩:=hb0 c r hc;exact hno c r h5 (by rw[Qmw (hg0 c h4)];exact hco)
  ·rcases hcase b q hq with⟨h2,h3⟩ | ⟨h2,h3⟩
   ·rcases hownt b q h3 (by rw[<- Qmw (hg1 b h2)];exact ho)with h6 | ⟨d,s,h6,h7,_,h9⟩
    ·exact .inl h6
    ·exact .inr ⟨d,s,h6,h7,h9⟩
   ·exact .inr ⟨b,q,h3,ho,rfl⟩
end
section
variable{P:Program}{E:Env2 P}{C:CallF}{ops:Array Oper}{B:List Nat}{σ:Nat->St}
variable{Y0 Y:Ren}{w0 w:World}{listed:Array Bool}{a:Act}{T:Tm}{p:Nat}
def Zvd{rd:Option Nat}{β:Ren}(c:Canon E C ops B σ)(hC:CallsSound P E.G C)(hL:CallsLow C)(hwf:∀ i,i<=ops.size->∃ Y' w' tmps',HRel E.G Y' (σ i).h w'/\TRel Y' (σ i).t tmps')
  (I:Inv E ops B σ Y0 w0 listed Y a w T p) {i:Nat} {o:Oper} (ho:ops[i]? = some o) (hni:¬ Did listed i)
  (hr:∀ e ∈ o.after.toList,Region.binds .any e=true->Did listed e.on) (hsz:listed.size=ops.size) {Q:Exit->Act->World->Prop} {K:Act->World->Prop}
  (hK:∀ Y' a' w' T' p',Inv E ops B σ Y0 w0 (listed.setIfInBounds i true) Y' a' w' T' p'->K a' w'):wpOpIn (Qt4 rd β) 0 P ops Q i K a w:=by
 have hi:=Qye ho;have hlook:=I.looks c ho hni hr;obtain⟨hl1,hl2⟩:=Zho (ops:=ops.toList) (o:=o) (G:=E.G) hlook;obtain⟨hdst,hdef,hs⟩:=c.step i o ho;unfold wpOpIn;rw[ho];simp only;rcases hs with⟨hw,hst⟩ | ⟨hw,v,h1,hv,hst,_⟩
 ·rw[if_neg (by rw[Qt3 (G:=E.G) I.t (hl2.trans hw)];simp)];refine⟨fun f _=>Qw5 rd β f,?_⟩;have:=Zw2 c I ho hni hr hsz hst hdst ⟨o,ho,.inr (.inl hw)⟩ (by simp[Qr,okV,okA,okL]) I.h (Turn.refl _ _ _);have e:ren Y Qr=undef:=by simp[Qr,undef]
  rw[e]at this;exact hK _ _ _ _ _ this
 ·rw[if_pos (Qt3 (G:=E.G) I.t (hl2.trans hw))];show o.wpIn (Qt4 rd β) 0 P a w K Q;have asFree:Zdx E ops σ i->Qt1 E C o T (σ p).h=some (v,(σ p).h)->o.wpIn (Qt4 rd β) 0 P a w K Q:=by
   intro hfree hv';refine Zea E hC hdef hv' I.h I.t fun Y' w' e1 e2 e3 e4 => ?_;have hY:Y'=Y:=by
    funext b;rcases bg b (σ p).h.next with h | h
    ·exact e1 b h
    ·have h2:Y b=none:=by
      cases hb:Y b with
      | none=>rfl
      | some q=>have:=(I.h.dom b q hb).1;omega
     rw[h2];cases hb:Y' b with
     | none=>rfl
     | some q=>have:=(e3.dom b q hb).1;omega
   subst hY;exact hK _ _ _ _ _ (Zw2 c I ho hni hr hsz hst hdst hfree e4 e3 e2)
  by_cases hf:Z7 E o=true
  ·obtain⟨he,hv'⟩:=Y0h E C hf hv (σ p).h;rw[<- Xnl E C o hl1]at hv';exact asFree ⟨o,ho,.inl hf⟩ hv'
  by_cases hld:(loadAt E (σ i).t o).isSome=true
  ·obtain⟨cc,hcc⟩:=aN.1 hld;have hcT:loadAt E T o=some cc:=by rw[Zmh hl1];exact hcc
   have hdc:dom Y cc:=Y91 rfl I.h I.t hcT;obtain⟨Yi,wi,ti,Hi,Ti⟩:=hwf i (by omega);have hci:cc < (σ i).h.next:=Ql2 Hi (Y91 rfl Hi Ti hcc);have hcp:cc < (σ p).h.next:=Ql2 I.h hdc;have hsame:ldv E (σ i).t o (σ p).h=ldv E (σ i).t o (σ i).h:=by
    rcases bg i p with hip | hip
    ·obtain⟨j,hj,hnj,hpj⟩:∃ j,Did listed j/\¬ Zdx E ops σ j/\p=j+1:=by
      rcases I.last with h | h
      ·omega
      ·exact h
     have hjs:=I.small j hj;refine c.still2 (f:=fun h=>ldv E (σ i).t o h) (Nat.le_of_lt hip) fun k hk1 hk2 => ?_;have hks:k < ops.size:=(by omega);have hck:cc < (σ k).h.next:=az hci (c.next_mono hL hk1 (by omega));rcases c.kinds hL hks with h | h | ⟨h,hx⟩
     ·exact Yjp hcc ((c.free h).2 cc)
     ·exact Yjp hcc (h cc hck)
     ·rcases hx i o cc ho hw hcc hck with h1 | ⟨h1,b,hb,hbt⟩ | ⟨h1,_⟩
      ·exact h1
      ·exfalso;by_cases hdk:Did listed k
       ·exact hni (Q5q c I.down k b i hdk hb hbt)
       ·have hjk:j≠k:=fun e=>hdk (e ▸ hj);rcases h j hjs hnj hjk with⟨h2,_⟩ | ⟨_,b,hb,hbt⟩
        ·omega
        ·exact hdk (Q5q c I.down j b k hj hb hbt)
      ·omega
    ·refine(c.still2 (f:=fun h=>ldv E (σ i).t o h) hip fun k hk1 hk2 => ?_).symm;have hks:k < ops.size:=(by omega);have hck:cc < (σ k).h.next:=az hcp (c.next_mono hL hk1 (by omega));rcases c.kinds hL hks with h | h | ⟨h,hx⟩
     ·exact Yjp hcc ((c.free h).2 cc)
     ·exact Yjp hcc (h cc hck)
     ·rcases hx i o cc ho hw hcc hck with h1 | ⟨h1,_⟩ | ⟨h1,b,hb,hbt⟩
      ·exact h1
      ·omega
      ·have hdk:=X1q c I.down ho hr hb hbt;apply cF;intro _;have hnk:Zdx E ops σ k:=by
        apply cF;intro hnk;have:=I.top k hdk hnk;omega
       obtain⟨_,h9⟩:=c.free hnk;exact absurd (Yjp hcc (h9 cc)) (by assumption)
   have hlo:Yr o=true:=Yf9 hcc;rw[Y93 hlo]at hv;rw[am]at hv;obtain⟨v0,hv0,hv1⟩:=hv;cases hv1;have hreset:ldv E (σ i).t o (Qa1 (σ i).h)=ldv E (σ i).t o (σ i).h:=Yjp hcc rfl;have hv':Qt1 E C o (σ i).t (σ p).h=some (v,(σ p).h):=by
    rw[Y93 hlo,hsame,<- hreset,hv0];rfl
   rw[<- Xnl E C o hl1]at hv';exact asFree ⟨o,ho,.inr (.inr hld)⟩ hv'
  ·have hnf:¬ Zdx E ops σ i:=by
    rintro⟨o',ho',h⟩;rw[ho]at ho';cases ho';rcases h with h | h | h
    ·exact hf h
    ·rw[hw]at h;cases h
    ·exact hld h
   have Zzv:=X0h hL hv;have hh1:(σ (i+1)).h=Xxo (σ i).h h1:=by rw[hst,Qwu]
   have hn1:(σ (i+1)).h.next=h1.next:=by rw[hh1];rfl
   have hg1:∀ b,(σ (i+1)).h.get b=h1.get b:=by intro b;rw[hh1];rfl
   have hnn:(σ i).h.next<=h1.next:=Zzv.next;obtain⟨bi,hbi⟩:=Y9w c hi;obtain⟨Yi,wi,ti,Hi,Ti⟩:=hwf i (by omega);rcases bg i p with hip | hip
   ·
    obtain⟨j,hj,hnj,hpj⟩:∃ j,Did listed j/\¬ Zdx E ops σ j/\p=j+1:=by
     rcases I.last with h | h
     ·omega
     ·exact h
    have hji:j≠i:=fun e=>hni (e ▸ hj);have hjs:=I.small j hj;obtain⟨bj,hbj⟩:=Y9w c hjs;have hquiet:∀ k,i<=k->k < p->Zdx E ops σ k∨Z6o σ k:=by
     intro k hk1 hk2;have hks:k < ops.size:=(by omega);rcases c.kinds hL hks with h | h | ⟨h,_⟩
     ·exact .inl h
     ·exact .inr h
     ·exfalso;by_cases hki:k=i
      ·subst hki;rcases h j hjs hnj hji with⟨h2,_⟩ | ⟨_,b,hb,hbt⟩
       ·omega
       ·exact hni (Q5q c I.down j b k hj hb hbt)
      ·by_cases hdk:Did listed k
       ·rcases h i hi hnf (fun e=>hki e.symm)with⟨_,b,hb,hbt⟩ | ⟨h2,_⟩
        ·exact hni (Q5q c I.down k b i hdk hb hbt)
        ·omega
       ·have hjk:j≠k:=fun e=>hdk (e ▸ hj);rcases h j hjs hnj hjk with⟨h2,_⟩ | ⟨_,b,hb,hbt⟩
        ·omega
        ·exact hdk (Q5q c I.down j b k hj hb hbt)
    have hst0:=c.still hL (Nat.le_of_lt hip) I.ple hquiet;have hst1:=c.still hL (i:=i+1) hip I.ple fun k h2 h3=>hquiet k (by omega) h3;have hnp:(σ (i+1)).h.next<=(σ p).h.next:=c.next_mono hL hip I.ple;have hgap:∀ b,(σ i).h.next<=b->b < h1.next->Y b=none:=by
     intro b h2 h3;cases hb:Y b with
     | none=>rfl
     | some q =>
      exfalso;rcases I.dom b (Quc hb)with h4 | ⟨k,hk,h4,h5⟩
      ·have:=c.next_mono hL (bz i) (by omega);omega
      ·have hks:=I.small k hk;rcases Nat.lt_trichotomy k i with h6 | h6 | h6
       ·have:=c.next_mono hL (i:=k+1) (j:=i) h6 (by omega);omega
       ·exact hni (h6 ▸ hk)
       ·have:=c.next_mono hL (i:=i+1) (j:=k) h6 (by omega);omega
    have Hr:HRel E.G (Ren.below Y (σ i).h.next) (Qa1 (σ i).h) w :=
     I.h.restrict (h':=Qa1 (σ i).h) Hi.globs (fun b _ hb=>(hst0 b hb).symm) Hi.wf
    have ht':TRel (Ren.below Y (σ i).h.next) ⟨T.size,T.only (looks ops.toList o)⟩ a.tmps:=by
     refine⟨I.t.size,fun x u hu => ?_⟩;have hu':(if x ∈ looks ops.toList o then T.t.get x else none)=some u:=by rw[<- dY];exact hu
     split at hu'
     ·rename_i hx;have h2:=I.t.vals x u hu';have h3:=(Ti.vals x u (by rw[<- hlook x hx];exact hu')).1;have h4:=okV_and u h2.1 (okV_mono (fun b hb=>Ql2 Hi hb) u h3);have h5:∀ b,dom Y b/\b < (σ i).h.next->Ren.below Y (σ i).h.next b=Y b:=by
       intro b hb;unfold Ren.below;rw[if_pos hb.2]
      refine⟨okV_mono (fun b hb => ?_) u h4,by rw[h2.2,ren_congr h5 u h4]⟩;have:=hb.1;simpa[dom,h5 b hb]using this
     ·cases hu'
    have hev:Qt1 E C o ⟨T.size,T.only (looks ops.toList o)⟩ (Qa1 (σ i).h)=some (v,h1):=by
     rw[<- hv];refine Xnl E C o (fun x hx => ?_) _;rw[<- hl1 x hx];cases x with
     | tmp t =>
      simp only[aev];rw[dY,if_pos];simp only[looks,ac,cr];exact .inl ⟨.tmp t,by simpa using hx,rfl⟩
     | _=>rfl
    refine Zea E hC hdef hev Hr ht' fun Y1 w' e1 e2 e3 e4 => ?_;obtain⟨H2,T2⟩:=Jdd (h0:=Qa1 (σ i).h) I.h e3 e1 e2 (by rw[<- hn1];exact hnp) hgap (fun b hb=>hst0 b hb) (fun b hb=>by rw[hst1 b (by rw[hn1];exact hb),hg1]);have hnew:∀ b,dom Y1 b->mix Y1 Y h1.next b=Y1 b:=by
     intro b hb;unfold mix;rw[if_pos (Ql2 e3 hb)]
    have h01:∀ b,b < (σ i).h.next->Y1 b=Y b:=by
     intro b hb;rw[e1 b hb];unfold Ren.below;rw[if_pos (by exact hb)]
    have hv2:okV (dom (mix Y1 Y h1.next)) v:=okV_mono (fun b hb=>by have:=hnew b hb;simpa[dom,this]using hb) v e4;have he:ren Y1 v=ren (mix Y1 Y h1.next) v:=(ren_congr hnew v e4).symm;rw[he];refine hK _ _ _ _ _ (Zd7 c I ho hni hr hsz hst hdst (p':=p) (Z41 hnn h01 hgap) hv2 H2 I.ple (ae _) (fun _=>hip) (.inl rfl) (fun b hb => ?_) (fun b hb => ?_) (I.turn.trans T2))
    ·rw[hn1];by_cases hlt:b < h1.next
     ·rcases bg b (σ i).h.next with h2 | h2
      ·refine .inl ?_;simp only[dom,mix,if_pos hlt,h01 b h2]at hb;exact hb
      ·exact .inr ⟨h2,hlt⟩
     ·refine .inl ?_;simp only[dom,mix,if_neg hlt]at hb;exact hb
    ·have h2:=c.next_mono hL (bz i) (by omega);unfold mix;rw[if_pos (by omega),h01 b (by omega)]
   ·
    have hquiet:∀ k,p<=k->k < i->Zdx E ops σ k∨Z6o σ k:=by
     intro k hk1 hk2;have hks:k < ops.size:=(by omega);rcases c.kinds hL hks with h | h | ⟨h,_⟩
     ·exact .inl h
     ·exact .inr h
     ·by_cases hdk:Did listed k
      ·left;apply cF;intro hnk;have:=I.top k hdk hnk;omega
      ·exfalso;rcases h i hi hnf (by omega)with⟨h2,_⟩ | ⟨_,b,hb,hbt⟩
       ·omega
       ·exact hdk (X1q c I.down ho hr hb hbt)
    have hst0:=c.still hL hip (by omega) hquiet;have hnp:(σ p).h.next<=(σ i).h.next:=c.next_mono hL hip (by omega);have hlt:∀ b,dom Y b->b < (σ p).h.next:=fun b hb=>Ql2 I.h hb;have Hr:HRel E.G Y (Qa1 (σ i).h) w :=
     I.h.congr (h':=Qa1 (σ i).h) Hi.globs (fun b hb=>az (hlt b hb) hnp) (fun b hb=>hst0 b (hlt b hb)) Hi.wf
    have hev:Qt1 E C o T (Qa1 (σ i).h)=some (v,h1):=by
     rw[<- hv];exact Xnl E C o hl1 _
    refine Zea E hC hdef hev Hr I.t fun Y' w' e1 e2 e3 e4 => ?_;have H2:HRel E.G Y' (σ (i+1)).h w':=e3.congr (h':=(σ (i+1)).h) (by rw[hn1];exact e3.globs) (fun b hb=>by rw[hn1];exact Ql2 e3 hb) (fun b _=>hg1 b) (by
     intro b x hx;rw[hn1];exact e3.wf b x (by rw[<- hg1];exact hx))
    have T1:Turn Y0 (σ 0).h w0 Y (Qa1 (σ i).h) w:=I.turn.heap (fun b hb=>hst0 b (hlt b hb)) hnp;have T2:Turn Y0 (σ 0).h w0 Y' (σ (i+1)).h w':=(T1.trans e2).heap (fun b _=>hg1 b) (by rw[hn1];exact ae _);have hi0:∀ b,b < (σ i).h.next->Y' b=Y b:=e1;refine hK _ _ _ _ _ (Zd7 c I ho hni hr hsz hst hdst (p':=i+1) (fun b hb=>hi0 b (az (hlt b hb) hnp)) e4 H2 hi (by omega) (fun _=>bV _) (.inr ⟨hnf,rfl⟩) (fun b hb => ?_) (fun b hb => ?_) T2)
    ·rcases bg b (σ i).h.next with h2 | h2
     ·refine .inl ?_;rw[dom,hi0 b h2]at hb;exact hb
     ·refine .inr ⟨h2,?_⟩;rw[hn1];exact Ql2 e3 hb
    ·have:=c.next_mono hL (bz i) (by omega);exact hi0 b (by omega)
def Z1r(c:Canon E C ops B σ)(hwf:∀ i,i<=ops.size->∃ Y' w' tmps',HRel E.G Y' (σ i).h w'/\TRel Y' (σ i).t tmps')
  (I:Inv E ops B σ Y0 w0 listed Y a w T p) (hall:∀ j,j < ops.size->Did listed j) :
  SRel E.G Y (σ ops.size) a w/\Ext (σ 0).h.next Y0 Y/\Turn Y0 (σ 0).h w0 Y (σ ops.size).h w:=by
 have hfree:∀ k,p<=k->k < ops.size->Zdx E ops σ k:=by
  intro k hk1 hk2;apply cF;intro hnk;have:=I.top k (hall k hk2) hnk;omega
 have hsame:∀ j,p<=j->j<=ops.size->(σ j).h.next=(σ p).h.next/\∀ b,(σ j).h.get b=(σ p).h.get b:=by
  intro j hj;induction hj with
  | refl=>exact fun _=>⟨rfl,fun _=>rfl⟩
  | step h ih =>
   rename_i j;intro hjs;obtain⟨h1,h2⟩:=ih (by omega);obtain⟨h3,h4⟩:=c.free (hfree j h (by omega));exact⟨h3.trans h1,fun b=>(h4 b).trans (h2 b)⟩
 obtain⟨hn,hg⟩:=hsame ops.size I.ple (ae _);obtain⟨Yi,wi,ti,Hi,Ti⟩:=hwf ops.size (ae _);have H:HRel E.G Y (σ ops.size).h w:=I.h.congr Hi.globs (fun b hb=>by rw[hn];exact Ql2 I.h hb) (fun b _=>hg b) Hi.wf;refine⟨⟨H,⟨?_,fun x v hx => ?_⟩,?_,?_⟩,I.ext,I.turn.heap (fun b _=>hg b) (by rw[hn];exact ae _)⟩
 ·rw[I.t.size,I.ts,c.size (ae _)]
 ·refine I.t.vals x v ?_;rw[I.tv x ops.size (ae _) fun j o' hj _=>⟨fun _=>Qye hj,fun h=>hall j h⟩];exact hx
 ·rw[c.dss (ae _)];exact I.ds
 ·rw[c.dss (ae _)];exact I.okd
def Ytk(c:Canon E C ops B σ)(hsz:listed.size=ops.size)(h:Region.ready .any ops listed=[]):∀ j,j < ops.size->Did listed j:=by
 intro j;induction j using Nat.strongRecOn with
 | _ j ih =>
  intro hj;apply cF;intro hd;have ho:ops[j]? = some ops[j]:=by simp[hj]
  have hm:j ∈ Region.ready .any ops listed:=by
   unfold Region.ready;rw[dI];refine⟨by simpa using hj,?_⟩;have h1:listed.getD j true=false:=by
    simp only[Did,bB]at hd ⊢;have hjl:j < listed.size:=(by omega);rw[bu hjl]at hd ⊢;simpa using hd
   rw[h1,ho];simp only[aK,Option.getD_some,dw,dC,Array.all_eq_true'];intro e he;have he':e ∈ (ops[j]).after.toList:=by simpa using he
   cases hb:Region.binds .any e with
   | false=>rfl
   | true =>
    have h2:=c.bef.on j _ (by simp[hj]) e he' hb;have:=ih e.on h2 (by omega);simpa[Did]using this
  rw[h]at hm;simp at hm
def Yxc{i:Nat}(hsz:listed.size=ops.size)(h:i ∈ Region.ready .any ops listed):∃ o,ops[i]? = some o/\¬ Did listed i/\∀ e ∈ o.after.toList,Region.binds .any e=true->Did listed e.on:=by
 unfold Region.ready at h;rw[dI]at h;obtain⟨h1,h2⟩:=h;have hi:i < ops.size:=by simpa using h1
 have ho:ops[i]? = some ops[i]:=by simp[hi]
 rw[ho]at h2;simp only[aK,Option.getD_some,aq,cD,Array.all_eq_true']at h2;refine⟨_,ho,?_,fun e he hb => ?_⟩
 ·have h3:=h2.1;simp only[Did,bB]at h3 ⊢;have hjl:i < listed.size:=by omega
  rw[bu hjl]at h3 ⊢;simp only[Option.getD_some]at h3 ⊢;rw[h3];simp
 ·have:=h2.2 e (by simpa using he);rw[hb]at this;simpa[Did]using this
def Jc8{rd:Option Nat}{β:Ren}(c:Canon E C ops B σ)(hC:CallsSound P E.G C)(hL:CallsLow C)(hwf:∀ i,i<=ops.size->∃ Y' w' tmps',HRel E.G Y' (σ i).h w'/\TRel Y' (σ i).t tmps'){Q:Exit->Act->World->Prop}
  (hQ:∀ Y a w,SRel E.G Y (σ ops.size) a w->Ext (σ 0).h.next Y0 Y->Turn Y0 (σ 0).h w0 Y (σ ops.size).h w->Q .normal a w) :
  ∀ (fuel:Nat) (listed:Array Bool) (Y:Ren) (a:Act) (w:World) (T:Tm) (p:Nat),listed.size=ops.size->listed.toList.count false<=fuel->Inv E ops B σ Y0 w0 listed Y a w T p->wpAnyIn (Qt4 rd β) 0 P .any ops Q fuel listed a w:=by
 intro fuel;induction fuel with
 | zero =>
  intro listed Y a w T p hsz hc I;have hnil:Region.ready .any ops listed=[]:=by
   cases hr:Region.ready .any ops listed with
   | nil=>rfl
   | cons i l =>
    obtain⟨o,ho,hni,_⟩:=Yxc hsz (by rw[hr];exact bR);exfalso;have hi:=Qye ho;have hil:i < listed.toList.length:=(by simpa[hsz]using hi);have hz:listed.toList.count false=0:=(by omega);rw[List.count_eq_zero]at hz;refine hz ?_;have : listed.toList[i]=false:=by
     simp only[Did,bB]at hni;rw[bu (by omega)]at hni;simpa using hni
    rw[<- this];exact dy hil
  obtain⟨h1,h2,h3⟩:=Z1r c hwf I (Ytk c hsz hnil);exact⟨hnil,hQ _ _ _ h1 h2 h3⟩
 | succ fuel ih =>
  intro listed Y a w T p hsz hc I;refine⟨fun hnil => ?_,fun i hi => ?_⟩
  ·obtain⟨h1,h2,h3⟩:=Z1r c hwf I (Ytk c hsz hnil);exact hQ _ _ _ h1 h2 h3
  ·obtain⟨o,ho,hni,hr⟩:=Yxc hsz hi;refine Zvd c hC hL hwf I ho hni hr hsz fun Y' a' w' T' p' I'=>ih _ Y' a' w' T' p' (by simpa using hsz) ?_ I';have hil:i < listed.toList.length:=by have:=Qye ho;simpa[hsz]using this
   have : listed.toList[i]=false:=by
    simp only[Did,bB]at hni;rw[bu (by simpa using hil)]at hni;simpa using hni
   rw[Array.toList_setIfInBounds,List.count_set hil,this];have hpos:0 < listed.toList.count false:=by
    rw[List.count_pos_iff,<- this];exact dy hil
   rw[if_pos (by rfl),if_neg (by decide)];omega
def Zku(c:Canon E C ops B σ){s:St}(h0:σ 0=s)(S:SRel E.G Y s a w):Inv E ops B σ Y w (Array.replicate ops.size false) Y a w s.t 0:=by
 have hno:∀ j,¬ Did (Array.replicate ops.size false) j:=by
  intro j hj;simp only[Did,bB,Array.getElem?_replicate]at hj;split at hj <;> simp at hj
 subst h0;refine⟨fun j o _ h=>absurd h (hno j),fun j h=>absurd h (hno j),S.t,rfl,fun x i => ?_,S.ds,S.okd,bz _,S.h,fun j h=>absurd h (hno j),.inl rfl,fun b hb => .inl (Ql2 S.h hb),Ext.refl _ _,Turn.refl _ _ _⟩;induction i with
 | zero=>exact fun _ _=>rfl
 | succ i ih =>
  intro hi hs;have hi':i < ops.size:=hi;have ho:ops[i]? = some ops[i]:=by simp[hi']
  have hx:(ops[i]).dst≠some x:=fun e=>hno i ((hs i _ ho e).2 (bV _));rw[ih (by omega) (fun j o hj hd=>⟨fun h=>absurd h (hno j),fun h=>absurd ((hs j o hj hd).2 (by omega)) (hno j)⟩)];obtain⟨_,_,h⟩:=c.step i _ ho;rcases h with⟨_,h⟩ | ⟨_,v',h',_,h,_⟩ <;> (rw[h];exact(Zt4 _ _ _ _ _ hx).symm)
def Ztx{s s1:St}(h:Xkx E C ops.toList s=some s1):∃ B σ,Canon E C ops B σ/\σ 0=s/\σ ops.size=s1:=by
 unfold Xkx at h;split at h
 ·rename_i B hB;split at h
  ·rename_i hp;split at h
   ·rename_i s2 R hR;split at h
    ·rename_i hx;cases h;obtain⟨σ,e1,e2,e3,e4⟩:=Yao _ _ _ _ _ hR;have hbef:BefOk ops.toList B:=by
      have:=Ytc ops.toList [] [] B hB ⟨rfl,fun j o h=>by simp at h,fun j o b h=>by simp at h⟩;simpa using this
     refine⟨B,σ,⟨hbef,fun j i oj oi b hj hi hb hij => ?_,fun i o ho => ?_,R,hx,fun k o ho => ?_⟩,e1,by simpa using e2⟩
     ·have:=Xwk hp j oj b (by simpa using hj) hb i oi (by simpa using hij) (by simpa using hi);exact this
     ·have:=e3 i o (by simpa using ho);simpa using this
     ·have:=e4 k o (by simpa using ho);simpa using this
    ·cases h
   ·cases h
  ·cases h
 ·cases h
def Qy8(E:Env2 P){rd:Option Nat}{C:CallF}(hC:CallsSound P E.G C)(hL:CallsLow C)(hm:P.follows .mixedOrders=true){id:Nat}{Q:Exit->St->Prop}{s s1:St}(h:Xkx E C ops.toList s=some s1)(hQ:Q .normal s1) :
  CW P E.G rd s.h.next (.region id ops true) s Q:=by
 intro Y a w S _;obtain⟨B,σ,c,h0,h1⟩:=Ztx h;refine wpIn_region_any hm ?_;have H':HRel E.G Y s.h {w with drawn:=w.drawn+1}:=S.h.same rfl;have S':SRel E.G Y s a {w with drawn:=w.drawn+1}:=⟨H',S.t,S.ds,S.okd⟩;subst h0;refine Jc8 c hC hL (c.wf hC H' S.t) (fun Y' a' w' S1 e1 t1 => ?_) _ _ _ _ _ _ _ (by simp) ?_ (Zku c rfl S')
 ·rw[h1]at S1 t1;exact⟨Y',.normal,s1,hQ,rfl,trivial,e1,(Turn.drew _ _ _ (bL _)).trans t1,S1⟩
 ·simp
end
end Go.Ab
