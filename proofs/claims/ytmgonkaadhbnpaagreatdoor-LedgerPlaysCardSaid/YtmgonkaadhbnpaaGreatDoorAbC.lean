import Derived.Test.YtmgonkaadhbnpaaGreatDoorAbB
import Derived.RangeFuncRecord
set_option linter.all false
open List renaming length→L
open Option renaming some→U,none→O
open Bool renaming true→Y,false→J
open Go renaming Value→V
open Go.Value renaming int→I,slice→M
open Go.IntKind renaming i64→X
open Go.Ab.Blk renaming cells→S
noncomputable section
namespace Go.Ab
structure f_ (P:Program) extends jo P where
 fn:Tr Func
 fnok:∀ f F,fn.A f=U F->P.funcs[f]? = U F/\(F.name == "runtime.NumGoroutine")=J/\F.body.isSome=Y
 ex:Tr pS
 exok:∀ f x,ex.A f=U x->∃ F,P.funcs[f]? = U F/\ES F=U x
inductive pd where
 | val (v:V) (h:N)
 | skip (h:N)
 | enter (f:FuncId) (args:List V) (h:N)
 | round (l:Nat) (args:List V) (h:N)
 | defer (d:Deferred) (h:N)
 | panic (v:V) (h:N)
def kH(G:Bs)(t:Tm):List Operand->Option (List V)
 | []=>U []
 | x::l=>match iH G t x,kH G t l with
  | some v,U j=>U (v::j)
  | _,_=>O
def Qh(G:Bs)(t:Tm):List (Nat × Operand)->Option (List (Nat × V))
 | []=>U []
 | (i,x)::l=>match iH G t x,Qh G t l with
  | some v,U j=>U ((i,v)::j)
  | _,_=>O
def lr(G:Bs)(t:Tm):Option Operand->Option (Option V)
 | none=>U O
 | some x=>(iH G t x).map U
def gv(r:Option (V × N)):Option pd:=match r with | some (v,h)=>U (.val v h) | none=>O
def g0(h:N)(r:Option V):Option pd:=match r with | some v=>U (.val v h) | none=>O
def gs(r:Option N):Option pd:=match r with | some h=>U (.skip h) | none=>O
def Qi(f:V)(args:List V):Option (FuncId × List V) :=
 match f with
 | .func (.func f) first j=>U (f,first.toList++args++j.toList)
 | _=>O
def xz:Tm->List Tmp->List V->Tm
 | t,p::ps,v::j=>xz (t.put p v) ps j
 | t,_,_=>t
def u9(n:Nat):List Tmp->List V->Bool
 | [],[]=>Y
 | p::ps,_::j=>Nat.blt p n && u9 n ps j
 | _,_=>J
def AL(f:V)(args:List V)(h:N):Option pd :=
 match f with
 | .func (.yield l) ⟨[]⟩ _=>match h.A l with
  | some (.obj (.loop _ _ t ps _ _ _))=>if u9 t.size ps.toList args then U (.round l args h)else O
  | _=>O
 | _=>O
def Q7{P:Program}(E:f_ P)(b:Builtin)(ts:List TypeId)(args:List V)(h:N):Option pd :=
 match b,ts,args with
 | .len,[t],[x]=>g0 h (iC E.tojo t x h)
 | .cap,[t],[x]=>g0 h (Ic E.tojo t x)
 | .append,[t,j],[s,x]=>gv (kU E.tojo t j s x h)
 | .copy,[t,_],[d,s]=>gv (rV E.tojo t d s h)
 | .max,_,l=>g0 h (DH Y l)
 | .min,_,l=>g0 h (DH J l)
 | .panic,_,[.iface t v]=>U (.panic (.iface t v) h)
 | .delete,t::_,[m,k]=>gv (yJ E.tojo t m k h)
 | _,_,_=>O
def jm{P:Program}(E:f_ P)(t:Tm)(h:N)(o:Oper):Option pd :=
 match o.op with
 | .move x | .assign x=>g0 h (iH E.G t x)
 | .pick c a b=>match iH E.G t c with
  | some (.bool Y)=>g0 h (iH E.G t a)
  | some (.bool J)=>g0 h (iH E.G t b)
  | _=>O
 | .alloc e=>gv (jd E.tojo e h)
 | .box _ x=>match iH E.G t x with
  | some v=>gv (nP v h)
  | none=>O
 | .build ty ps=>match Qh E.G t ps.toList with
  | some l=>g0 h (jP E.tojo ty l)
  | none=>O
 | .buildSlice ty n ps=>match Qh E.G t ps.toList with
  | some l=>gv (V6 E.tojo ty n l h)
  | none=>O
 | .load ty a=>match iH E.G t a with
  | some x=>g0 h (jL E.tojo ty x h)
  | none=>O
 | .store ty a v=>match iH E.G t a,iH E.G t v with
  | some x,U y=>gs (j9 E.tojo ty x y h)
  | _,_=>O
 | .nilCheck x=>match iH E.G t x with
  | some v=>g0 h (GZ v)
  | none=>O
 | .binOp op ty x y _=>match iH E.G t x,iH E.G t y with
  | some a,U b=>g0 h (Y5 E.tojo op ty (Q9 x || Q9 y) a b)
  | _,_=>O
 | .unOp op _ x=>match iH E.G t x with
  | some v=>g0 h (B3 op v)
  | none=>O
 | .convert hc j x=>match iH E.G t x with
  | some v=>match uy E.tojo hc j with
   | true=>g0 h (uL E.tojo hc j v)
   | false=>gv (uV E.tojo hc j v h)
  | none=>O
 | .sliceToArrayPointer ty x=>match iH E.G t x with
  | some v=>g0 h (Gv E.tojo ty v)
  | none=>O
 | .makeInterface ty x=>match iH E.G t x with
  | some v=>g0 h (Bf E.tojo ty v)
  | none=>O
 | .makeFunc fn a b=>match kH E.G t a.toList,kH E.G t b.toList with
  | some x,U y=>g0 h (Cf fn x y)
  | _,_=>O
 | .makeSlice ty n c=>match iH E.G t n,iH E.G t c with
  | some x,U y=>gv (z8 E.tojo ty x y h)
  | _,_=>O
 | .slice ty x lo hi mx=>match iH E.G t x,lr E.G t lo,lr E.G t hi,lr E.G t mx with
  | some v,U a,U b,U c=>gv (j8 E.tojo ty v a b c h)
  | _,_,_,_=>O
 | .fieldAddr ty x f=>match iH E.G t x with
  | some v=>g0 h (kd E.tojo ty v f)
  | none=>O
 | .field ty x f=>match iH E.G t x with
  | some v=>g0 h (Ob E.tojo ty v f)
  | none=>O
 | .indexAddr ty x i=>match iH E.G t x,iH E.G t i with
  | some a,U b=>g0 h (J1 E.tojo ty a b)
  | _,_=>O
 | .index ty x i=>match iH E.G t x,iH E.G t i with
  | some a,U b=>g0 h (vH E.tojo ty a b)
  | _,_=>O
 | .typeAssert x _ ty ok=>match iH E.G t x with
  | some v=>g0 h (zN E.tojo v ty ok)
  | none=>O
 | .extract x i=>match iH E.G t x with
  | some v=>g0 h (Qa v i)
  | none=>O
 | .panic x=>match iH E.G t x with
  | some (.iface u v)=>U (.panic (.iface u v) h)
  | _=>O
 | .makeMap ty r=>match lr E.G t r with
  | some hv=>gv (yO E.tojo ty hv h)
  | none=>O
 | .lookup ty x k ok=>match iH E.G t x,iH E.G t k with
  | some a,U b=>g0 h (qN E.tojo ty a b ok h)
  | _,_=>O
 | .mapUpdate ty m k x=>match iH E.G t m,iH E.G t k,iH E.G t x with
  | some a,U b,U c=>gs (ta E.tojo ty a b c h)
  | _,_,_=>O
 | .range ty x=>match iH E.G t x with
  | some v=>gv (yI E.tojo ty v h)
  | none=>O
 | .next x s=>match iH E.G t x with
  | some v=>gv (E2 v s h)
  | none=>O
 | .entry x=>match iH E.G t x with
  | some v=>g0 h (CG v h)
  | none=>O
 | .call c=>match kH E.G t c.args.toList with
  | none=>O
  | some args=>match c.callee with
   | .builtin b=>Q7 E b c.argTypes.toList args h
   | .value f=>match iH E.G t f with
    | some fv=>match Qi fv args with
     | some (f,l)=>match E.fn.A f with
      | some _=>U (.enter f l h)
      | none=>match E.ex.A f with
       | some x=>gv (BU x l h)
       | none=>O
     | none=>AL fv args h
    | none=>O
   | .invoke _ _=>O
 | _=>O
def Ia(P:Program)(G:Bs)(M_:Ren)(h:N)(w:World)(s:Sem Next):pd->Prop
 | .val v j => ∃ M' w',s.run P w=.ok (.value (b_ M' v)) w'/\d_ (dom M') v/\iZ h.Q M_ M'/\c_ G M' j w'/\ig M_ h w M' j w'
 | .skip j => ∃ w',s.run P w=.ok .skip w'/\c_ G M_ j w'/\ig M_ h w M_ j w'
 | .enter f args j=>j=h/\s.run P w=.ok (.enter f (args.map (b_ M_)).toArray) w/\∀ v ∈ args,d_ (dom M_) v
 | .round l args j=>j=h/\dom M_ l/\(∀ v ∈ args,d_ (dom M_) v)/\∃ st hx t ps as bd d,h.A l=U (.obj (.loop st hx t ps as bd d))/\∃ fn hc,je M_ (xz t ps.toList args) hc/\s.run P w=.ok (.round (jD M_ l) fn hc as bd) w
 | .defer d j=>j=h/\s.run P w=.ok (.defer (rn M_ d)) w/\uR (dom M_) d
 | .panic v j=>j=h/\s.run P w=.halt (.panic (b_ M_ v)) w/\d_ (dom M_) v
section
variable{P:Program}{M_:Ren}{h:N}{w:World}
def EP{G:Bs}(H:c_ G M_ h w){t:Tm}{a:Act}(j:je M_ t a.tmps):∀ {l:List Operand} {vs:List V},kH G t l=U vs->l.map a.eval=vs.map (b_ M_)/\∀ v ∈ vs,d_ (dom M_) v
 | [],vs,hv=>by simp[kH]at hv;grind
 | x::l,vs,hv=>by
  simp only[kH]at hv;split at hv
  ·rename_i v r h1 h2;cases hv;have a1:=vG H j h1;have a2:=EP H j h2
   grind
  ·cases hv
def RT{G:Bs}(H:c_ G M_ h w){t:Tm}{a:Act}(j:je M_ t a.tmps):∀ {l:List (Nat × Operand)} {vs:List (Nat × V)},Qh G t l=U vs ->
  l.map (fun p=>(p.1,a.eval p.2))=vs.map (fun p=>(p.1,b_ M_ p.2))/\∀ p ∈ vs,d_ (dom M_) p.2
 | [],vs,hv=>by simp[Qh]at hv;grind
 | (i,x)::l,vs,hv=>by
  simp only[Qh]at hv;split at hv
  ·rename_i v r h1 h2;cases hv;have a1:=vG H j h1;have a2:=RT H j h2
   grind
  ·cases hv
def I4{G:Bs}(H:c_ G M_ h w){t:Tm}{a:Act}(j:je M_ t a.tmps){x:Option Operand}{v:Option V}(hv:lr G t x=U v):x.map a.eval=v.map (b_ M_):=by
 cases x with
 | none=>simp[lr]at hv;grind
 | some x =>
  simp only[lr,au]at hv;obtain⟨u,hu,rfl⟩:=hv;simp[(vG H j hu).2]
def mX{G:Bs}{s:Sem V}{v:V}{h':N}(hg:e_ P G M_ h w s v h'):Ia P G M_ h w (do pure (.value (<- s))) (.val v h'):=by
 obtain⟨j,w',r1,r2⟩:=hg;exact⟨j,w',by simp[r1],r2⟩
def Ep{G:Bs}(H:c_ G M_ h w){s:Sem Next}{v:V}(hv:d_ (dom M_) v)(j:s.run P w=.ok (.value (b_ M_ v)) w):Ia P G M_ h w s (.val v h) :=
 ⟨M_,w,j,hv,iZ.refl _ _,H,ig.refl _ _ _⟩
def r_{r:Option (V × N)}{x:pd}(h:gv r=U x):∃ v h',r=U (v,h')/\x=.val v h':=by
 unfold gv at h;grind
def l9{h:N}{r:Option V}{x:pd}(j:g0 h r=U x):∃ v,r=U v/\x=.val v h:=by
 unfold g0 at j;grind
def Ij{r:Option N}{x:pd}(h:gs r=U x):∃ h',r=U h'/\x=.skip h':=by
 unfold gs at h;grind
end
section
variable{P:Program}{M_:Ren}{h:N}{w:World}
def YJ(t:TypeId)(v:V)(w:World):(Instr.panic (.iface t v)).run P w=.halt (.panic (.iface t v)) w:=rfl
def Ugd(E:f_ P)(H:c_ E.G M_ h w){b:Builtin}{ts:Array TypeId}{ty:TypeId}{cs:Array Bool}{args:List V}{r:pd}(ha:∀ v ∈ args,d_ (dom M_) v)
  (j:Q7 E b ts.toList args h=U r):Ia P E.G M_ h w (builtin b ts ty cs (args.map (b_ M_)).toArray) r:=by
 unfold Q7 at j;split at j
 ·rename_i t x hc;obtain⟨v,hv,rfl⟩:=l9 j;have e1:ts = #[t]:=by grind
  subst e1;exact mX (U4o E.tojo H (ha x jA) hv)
 ·rename_i t x hc;obtain⟨v,hv,rfl⟩:=l9 j;have e1:ts = #[t]:=by grind
  subst e1;exact mX (U5n E.tojo H hv)
 ·rename_i t tx s x hc;obtain⟨v,h',hv,rfl⟩:=r_ j;have e1:ts = #[t,tx]:=by grind
  subst e1;exact mX (Up2 E.tojo H (ha s jA) (ha x jA) hv)
 ·rename_i t tx d s hc;obtain⟨v,h',hv,rfl⟩:=r_ j;have e1:ts = #[t,tx]:=by grind
  subst e1;exact mX (Uya E.tojo H (ha d jA) (ha s jA) hv)
 ·obtain⟨v,hv,rfl⟩:=l9 j;exact mX (Vqb (mx:=true) H ts ty hv)
 ·obtain⟨v,hv,rfl⟩:=l9 j;exact mX (Vqb (mx:=false) H ts ty hv)
 next t v=>cases j;exact⟨rfl,by simp[builtin,YJ,Result.andThen],ha _ jA⟩
 ·rename_i t tl m k hc;obtain⟨v,h',hv,rfl⟩:=r_ j;have e1:ts=(t::tl).toArray:=by grind
  subst e1;exact mX (Uqf E.tojo H (ha m jA) hv)
 ·cases j
def Um3:∀ {ps:List Tmp} {t:Tm} {vs:List V} {tmps:Array V},je M_ t tmps->u9 t.size ps vs=Y->(∀ v ∈ vs,d_ (dom M_) v) ->
  je M_ (xz t ps vs) ((ps.zip (vs.map (b_ M_))).foldl (fun tmps x=>tmps.setIfInBounds x.1 x.2) tmps)
 | [],t,[],tmps,h,_,_=>by simpa[xz]using h
 | p::ps,t,v::vs,tmps,h,j,hv=>by
  simp only[u9,ax,dU]at j;simp only[xz,aH,List.zip_cons_cons,dC];exact Um3 (h.put j.1 (hv v jA)) (by simpa[Tm.put]using j.2) (fun x hx=>hv x (by simp[hx]))
 | [],t,_::_,_,_,j,_=>by simp[u9]at j
 | _::_,t,[],_,_,j,_=>by simp[u9]at j
def Jul{n:Nat}:∀ {ps:List Tmp} {vs:List V},u9 n ps vs=Y->L vs=L ps
 | [],[],_=>rfl
 | p::ps,v::vs,h=>by
  simp only[u9,ax]at h;simp[Jul h.2]
 | [],_::_,h=>by simp[u9]at h
 | _::_,[],h=>by simp[u9]at h
def Utz{G:Bs}(H:c_ G M_ h w){f:V}{args:List V}{r:pd}(hf:d_ (dom M_) f)(ha:∀ v ∈ args,d_ (dom M_) v)(hc:AL f args h=U r) :
  ∃ l captured,b_ M_ f=.func (.yield (jD M_ l)) #[] captured/\r=.round l args h/\dom M_ l/\∃ st j t ps as bd d,h.A l=U (.obj (.loop st j t ps as bd d))/\∃ fn tmps,je M_ (xz t ps.toList args) tmps /\
   (Instr.yield (jD M_ l) (args.map (b_ M_)).toArray).run P w=.ok (.round (jD M_ l) fn tmps as bd) w:=by
 unfold AL at hc;split at hc
 ·rename_i l captured;split at hc
  ·rename_i st j t ps as bd d hg;split at hc
   next hx=>cases hc;simp only[d_]at hf;obtain⟨p,hp⟩:=bf.1 hf.1;obtain⟨f0,o,f1,hd,fn,tmps,rfl,ht⟩:=H.fits l p _ hp hg;have hl:jD M_ l=p.blk:=(by simp[jD,hp]);refine⟨l,captured.map (b_ M_),by simp[b_,vC,uo],rfl,hf.1,st,j,t,ps,as,bd,d,hg,fn,_,Um3 ht hx ha,?_⟩;rw[hl,run_yield f1 (by simp[Jul hx])];simp only[Result.ok.injEq,and_true];congr 1;rw[<- Array.foldl_toList];simp
   ·cases hc
  ·cases hc
 ·cases hc
def Vqw{f:V}{args:List V}{j:FuncId}{l:List V}(hf:d_ (dom M_) f)(ha:∀ v ∈ args,d_ (dom M_) v)(hc:Qi f args=U (j,l)) :
  (∀ v ∈ l,d_ (dom M_) v)/\∃ first captured:Array V,b_ M_ f=.func (.func j) first captured/\(l.map (b_ M_)).toArray=first++(args.map (b_ M_)).toArray++captured:=by
 unfold Qi at hc;split at hc
 ·rename_i fi first captured
  cases hc;simp only[d_,wQ]at hf;refine⟨fun v hv => ?_,first.map (b_ M_),captured.map (b_ M_),by simp[b_,vC,uo],jA⟩
  grind
 ·cases hc
def sR(E:f_ P)(H:c_ E.G M_ h w){t:Tm}{a:Act}(ht:je M_ t a.tmps){o:Oper}{r:pd}(hr:jm E t h o=U r):Ia P E.G M_ h w (execOp a.eval o) r:=by
 unfold jm at hr;have ev:∀ {x:Operand} {v:V},iH E.G t x=U v->d_ (dom M_) v/\a.eval x=b_ M_ v:=fun hx=>vG H ht hx;split at hr
 next x j=>obtain⟨v,hv,rfl⟩:=l9 hr;exact Ep H (ev hv).1 (by simp only[execOp,j,(ev hv).2];rfl)
 next x j=>obtain⟨v,hv,rfl⟩:=l9 hr;exact Ep H (ev hv).1 (by simp only[execOp,j,(ev hv).2];rfl)
 ·rename_i c x y j;split at hr
  next hc=>obtain⟨v,hv,rfl⟩:=l9 hr;exact Ep H (ev hv).1 (by simp[execOp,j,(ev hv).2,(ev hc).2,asBool])
  next hc=>obtain⟨v,hv,rfl⟩:=l9 hr;exact Ep H (ev hv).1 (by simp[execOp,j,(ev hv).2,(ev hc).2,asBool])
  ·cases hr
 next e j=>obtain⟨v,h',hv,rfl⟩:=r_ hr;simp only[execOp,j];exact mX (Uu0 E.tojo H hv)
 ·rename_i e x j;split at hr
  next v0 h0=>obtain⟨v,h',hv,rfl⟩:=r_ hr;simp only[execOp,j,(ev h0).2];exact mX (U5s H (ev h0).1 hv)
  ·cases hr
 ·rename_i ty ps j;split at hr
  ·rename_i l hl;obtain⟨v,hv,rfl⟩:=l9 hr;obtain⟨e1,e2⟩:=RT H ht hl;have e3:(ps.map fun x=>(x.1,a.eval x.2))=(l.map fun p=>(p.1,b_ M_ p.2)).toArray:=by apply dj;simp_all
   simp only[execOp,j];rw[e3];exact mX (Urt E.tojo H e2 hv)
  ·cases hr
 ·rename_i ty n ps j;split at hr
  ·rename_i l hl;obtain⟨v,h',hv,rfl⟩:=r_ hr;obtain⟨e1,e2⟩:=RT H ht hl;have e3:(ps.map fun x=>(x.1,a.eval x.2))=(l.map fun p=>(p.1,b_ M_ p.2)).toArray:=by apply dj;simp_all
   simp only[execOp,j];rw[e3];exact mX (Vnb E.tojo H e2 hv)
  ·cases hr
 ·rename_i ty x j;split at hr
  next v0 h0=>obtain⟨v,hv,rfl⟩:=l9 hr;simp only[execOp,j,(ev h0).2];exact mX (U1d E.tojo H (ev h0).1 hv)
  ·cases hr
 ·rename_i ty x y j;split at hr
  next v0 v1 h0 h1=>obtain⟨h',hv,rfl⟩:=Ij hr;obtain⟨w',r1,r2⟩:=Us9 E.tojo H (ev h0).1 (ev h1).1 hv;exact⟨w',by simp[execOp,j,(ev h0).2,(ev h1).2,r1],r2⟩
  ·cases hr
 ·rename_i x j;split at hr
  next v0 h0=>obtain⟨v,hv,rfl⟩:=l9 hr;obtain⟨n,op,ty,p,af,g⟩:=o;simp only at j;subst j;obtain⟨rfl,h2⟩:=V79 (P:=P) hv w n x ty p af g a.eval (ev h0).2;exact Ep H (ev h0).1 h2
  ·cases hr
 ·rename_i op ty x y yt j;split at hr
  next v0 v1 h0 h1=>obtain⟨v,hv,rfl⟩:=l9 hr;simp only[execOp,j,(ev h0).2,(ev h1).2];exact mX (U3l E.tojo H hv)
  ·cases hr
 ·rename_i op ty x j;split at hr
  next v0 h0=>obtain⟨v,hv,rfl⟩:=l9 hr;simp only[execOp,j,(ev h0).2];exact mX (Wag H hv)
  ·cases hr
 ·rename_i s d x j;split at hr
  ·rename_i v0 h0;simp only[execOp,j,(ev h0).2];split at hr
   ·obtain⟨v,hv,rfl⟩:=l9 hr;exact mX (Uh7 E.tojo H hv)
   ·obtain⟨v,h',hv,rfl⟩:=r_ hr;exact mX (Uun E.tojo H (ev h0).1 hv)
  ·cases hr
 ·rename_i ty x j;split at hr
  next v0 h0=>obtain⟨v,hv,rfl⟩:=l9 hr;simp only[execOp,j,(ev h0).2];exact mX (Uol E.tojo H (ev h0).1 hv)
  ·cases hr
 ·rename_i ty x j;split at hr
  next v0 h0=>obtain⟨v,hv,rfl⟩:=l9 hr;simp only[execOp,j,(ev h0).2];exact mX (Uio E.tojo H (ev h0).1 hv)
  ·cases hr
 ·rename_i fn x y j;split at hr
  ·rename_i l1 l2 h1 h2;obtain⟨v,hv,rfl⟩:=l9 hr;obtain⟨a1,a2⟩:=EP H ht h1;obtain⟨b1,b2⟩:=EP H ht h2;have e1:x.map a.eval=(l1.map (b_ M_)).toArray:=by apply dj;simp_all
   have e2:y.map a.eval=(l2.map (b_ M_)).toArray:=by apply dj;simp_all
   simp only[execOp,j];rw[e1,e2];exact mX (Upx H a2 b2 hv)
  ·cases hr
 ·rename_i ty x y j;split at hr
  next v0 v1 h0 h1=>obtain⟨v,h',hv,rfl⟩:=r_ hr;simp only[execOp,j,(ev h0).2,(ev h1).2];exact mX (Vrg E.tojo H hv)
  ·cases hr
 ·rename_i ty x lo hi mx j;split at hr
  next v0 l0 l1 l2 h0 e0 e1 e2=>obtain⟨v,h',hv,rfl⟩:=r_ hr;simp only[execOp,j,(ev h0).2,I4 H ht e0,I4 H ht e1,I4 H ht e2];exact mX (Uup E.tojo H (ev h0).1 hv)
  ·cases hr
 ·rename_i ty x f j;split at hr
  next v0 h0=>obtain⟨v,hv,rfl⟩:=l9 hr;simp only[execOp,j,(ev h0).2];exact mX (Vvj E.tojo H (ev h0).1 hv)
  ·cases hr
 ·rename_i ty x f j;split at hr
  next v0 h0=>obtain⟨v,hv,rfl⟩:=l9 hr;simp only[execOp,j,(ev h0).2];exact mX (Uvm E.tojo H (ev h0).1 hv)
  ·cases hr
 ·rename_i ty x y j;split at hr
  next v0 v1 h0 h1=>obtain⟨v,hv,rfl⟩:=l9 hr;simp only[execOp,j,(ev h0).2,(ev h1).2];exact mX (V2c E.tojo H (ev h0).1 hv)
  ·cases hr
 ·rename_i ty x y j;split at hr
  next v0 v1 h0 h1=>obtain⟨v,hv,rfl⟩:=l9 hr;simp only[execOp,j,(ev h0).2,(ev h1).2];exact mX (Usg E.tojo H (ev h0).1 hv)
  ·cases hr
 ·rename_i x xt ty ok j;split at hr
  next v0 h0=>obtain⟨v,hv,rfl⟩:=l9 hr;simp only[execOp,j,(ev h0).2];exact mX (Uqg E.tojo H (ev h0).1 hv)
  ·cases hr
 ·rename_i x i j;split at hr
  next v0 h0=>obtain⟨v,hv,rfl⟩:=l9 hr;simp only[execOp,j,(ev h0).2];exact mX (Uj3 H (ev h0).1 hv)
  ·cases hr
 ·rename_i x j;split at hr
  next u v h0=>cases hr;refine⟨rfl,?_,(ev h0).1⟩;simp[execOp,j,(ev h0).2,mD,YJ,Result.andThen]
  ·cases hr
 ·rename_i ty r j;split at hr
  next hv e0=>obtain⟨v,h',hv,rfl⟩:=r_ hr;simp only[execOp,j,I4 H ht e0];exact mX (Ugh E.tojo H hv)
  ·cases hr
 ·rename_i ty x k ok j;split at hr
  next v0 v1 h0 h1=>obtain⟨v,hv,rfl⟩:=l9 hr;simp only[execOp,j,(ev h0).2,(ev h1).2];exact mX (Upv E.tojo H (ev h0).1 hv)
  ·cases hr
 ·rename_i ty m k x j;split at hr
  next v0 v1 v2 h0 h1 h2=>obtain⟨h',hv,rfl⟩:=Ij hr;obtain⟨w',r1,r2,r3⟩:=V3p E.tojo H (k:=v1) (ev h0).1 (ev h2).1 hv;exact⟨w',by simp[execOp,j,(ev h0).2,(ev h1).2,(ev h2).2,r1],r2,r3⟩
  ·cases hr
 ·rename_i ty x j;split at hr
  next v0 h0=>obtain⟨v,h',hv,rfl⟩:=r_ hr;simp only[execOp,j,(ev h0).2];exact mX (Urz E.tojo H (ev h0).1 hv)
  ·cases hr
 ·rename_i x s j;split at hr
  next v0 h0=>obtain⟨v,h',hv,rfl⟩:=r_ hr;simp only[execOp,j,(ev h0).2];exact mX (Uxu H (ev h0).1 hv)
  ·cases hr
 ·rename_i x j;split at hr
  next v0 h0=>obtain⟨v,hv,rfl⟩:=l9 hr;simp only[execOp,j,(ev h0).2];exact mX (Uwe H (ev h0).1 hv)
  ·cases hr
 ·rename_i c j;split at hr
  ·cases hr
  ·rename_i args hp;obtain⟨e1,e2⟩:=EP H ht hp;have e3:c.args.map a.eval=(args.map (b_ M_)).toArray:=by apply dj;rw[cM,e1]
   split at hr
   ·rename_i b hb;have:=Ugd (ty:=o.type) (cs:=c.args.map fun | .const _=>Y | _=>J) (ts:=c.argTypes) E H e2 hr;have he:(execOp a.eval o)=builtin b c.argTypes o.type (c.args.map fun | .const _=>Y | _=>J) (args.map (b_ M_)).toArray:=by
     simp only[execOp,j,resolve,hb,e3];rfl
    rw[he];exact this
   ·rename_i f hf;split at hr
    ·rename_i fv h3;split at hr
     ·rename_i hn l hc;split at hr
      ·rename_i F hF;cases hr;obtain⟨o1,first,hk,o2,o3⟩:=Vqw (ev h3).1 e2 hc;obtain⟨g1,g2,g3⟩:=E.fnok _ _ hF;refine⟨rfl,?_,o1⟩;have hA:F.body.isNone=J:=by cases hb:F.body <;> simp[hb]at g3 ⊢
       simp only[execOp,j,resolve,hf,e3,(ev h3).2,o2,Deferred.ofValue,aw,bg,ak,invoke,callFunc,run_program,g1,g2,az,if_false,hA,o3]
      ·split at hr
       next x hB=>obtain⟨v,h',hv,rfl⟩:=r_ hr;obtain⟨o1,first,hk,o2,o3⟩:=Vqw (ev h3).1 e2 hc;obtain⟨F,g1,gx⟩:=E.exok _ _ hB;obtain⟨g2,g3,g4,g5⟩:=U0p gx;obtain⟨M',w',r1,r2⟩:=Uue (P:=P) H o1 hv;rw[o3]at r1;have hy:∀ m,(mark m).run P w=.ok () w:=fun _=>rfl;refine⟨M',w',?_,r2⟩;simp only[execOp,j,resolve,hf,e3,(ev h3).2,o2,Deferred.ofValue,aw,bg,ak,invoke,callFunc,run_program,g1,g2,az,if_false,g3,if_true,hy,g4,g5,r1]
       ·cases hr
     ·obtain⟨l,hk,q1,rfl,q2,st,ho,t',ps,as,bd,d,q3,fn,tmps,q4,q5⟩:=Utz (P:=P) H (ev h3).1 e2 hr;refine⟨rfl,q2,e2,st,ho,t',ps,as,bd,d,q3,fn,tmps,q4,?_⟩;simp only[execOp,j,resolve,hf,e3,(ev h3).2,q1,Deferred.ofValue,aw,bg,ak,invoke,Array.empty_append,q5]
    ·cases hr
   ·cases hr
 ·cases hr
end
structure St where
 t:Tm
 ds:List Deferred
 h:N
def uj(M_:Ren)(p:PanicEntry):PanicEntry:={v:=b_ M_ p.v,recovered:=p.recovered,goexit:=p.goexit}
def r9(M_:Ren):Exit->Exit
 | .panic j => .panic (j.map (uj M_))
 | e=>e
def uB(D:Nat->Prop):Exit->Prop
 | .panic j => ∀ p ∈ j,d_ D p.v
 | .outgrown=>False
 | _=>True
inductive jc where
 | ret (v:V)
 | panic (ch:List PanicEntry)
def vI(M_:Ren):jc->Ending
 | .ret v => .returned (b_ M_ v)
 | .panic j => .panicked (j.map (uj M_))
def za(D:Nat->Prop):jc->Prop
 | .ret v=>d_ D v
 | .panic j => ∀ p ∈ j,d_ D p.v
structure iU (G:Bs) (M_:Ren) (s:St) (a:Act) (w:World):Prop where
 h:c_ G M_ s.h w
 t:je M_ s.t a.tmps
 ds:a.defers=s.ds.map (rn M_)
 okd:∀ d ∈ s.ds,uR (dom M_) d
def mP(rd:Option Nat)(M_:Ren):Fence:=match rd with
 | none=>Fence.wide
 | some l=>Fence.wide.inRound (jD M_ l)
def CW(P:Program)(G:Bs)(rd:Option Nat)(n:Nat)(c:Code)(s:St)(Q:Exit->St->Prop):Prop :=
 ∀ M_ a w,iU G M_ s a w->(∀ l,rd=U l->dom M_ l)->c.wpIn (mP rd M_) 0 P (fun e' a' w' => ∃ j e s',Q e s'/\e'=r9 j e/\uB (dom j) e/\iZ n M_ j/\ig M_ s.h w j s'.h w'/\iU G j s' a' w') a w
def gr(P:Program)(G:Bs)(f:FuncId)(args:List V)(h:N)(R:jc->N->Prop):Prop :=
 ∀ M_ w,c_ G M_ h w->(∀ v ∈ args,d_ (dom M_) v)->CallsIn Fence.wide 0 P f (args.map (b_ M_)).toArray w
  (fun e w' => ∃ j r h',R r h'/\e=vI j r/\za (dom j) r/\iZ h.Q M_ j/\ig M_ h w j h' w'/\c_ G j h' w')
def AP(P:Program)(G:Bs)(l:Nat)(args:List V)(h:N)(R:jc->N->Prop):Prop :=
 ∀ (M_:Ren) (w:World) (β:Ren) (rd:Option Nat) st hc t ps as bd d fn j,c_ G M_ h w->dom M_ l->(∀ v ∈ args,d_ (dom M_) v)->h.A l=U (.obj (.loop st hc t ps as bd d))->je M_ (xz t ps.toList args) j ->
  RoundIn (mP rd β) 0 P (jD M_ l) fn j as bd w
   (fun e w' => ∃ M' r h',R r h'/\e=vI M' r/\za (dom M') r/\iZ h.Q M_ M'/\ig M_ h w M' h' w'/\c_ G M' h' w')
def gr.mono{P:Program}{G:Bs}{f:FuncId}{args:List V}{h:N}{R j:jc->N->Prop}(hc:gr P G f args h R)(hr:∀ r h',R r h'->j r h'):gr P G f args h j :=
 fun M_ w H ha=>(hc M_ w H ha).mono fun _ _ ⟨M',r,h',h1,h2⟩=>⟨M',r,h',hr _ _ h1,h2⟩
def CW.mono{P:Program}{G:Bs}{rd:Option Nat}{n m:Nat}{c:Code}{s:St}{Q Q':Exit->St->Prop}(hc:CW P G rd n c s Q)(hx:m<=n)(hq:∀ e j,Q e j->Q' e j):CW P G rd m c s Q' :=
 fun M_ a w H hl=>wpIn_mono (hc M_ a w H hl) fun _ _ _ ⟨M',e,j,h1,h2,h3,h4,h5⟩=>⟨M',e,j,hq _ _ h1,h2,h3,h4.mono hx,h5⟩
def St.put(s:St)(d:Option Tmp)(v:V)(h:N):St:=match d with
 | none=>{s with h:=h}
 | some i=>{t:=s.t.put i v,ds:=s.ds,h:=h}
def lg(s:St)(d:Option Tmp):Bool:=match d with
 | none=>Y
 | some i=>Nat.blt i s.t.size
section
variable{P:Program}{G:Bs}{M_:Ren}{s:St}{a:Act}{w:World}
def Ez{M_ β:Ren}{D:Nat->Prop}(h:∀ b,D b->β b=M_ b){d:Deferred}(hd:uR D d):rn β d=rn M_ d:=by
 obtain⟨t,args⟩:=d;cases t <;> simp only[uR,rn]at hd ⊢
 next f c=>have h1:b_ β (.func f #[] c)=b_ M_ (.func f #[] c):=iB h _ hd.1;simp only[b_,Value.func.injEq]at h1;rw[h1.1,h1.2.2,jl h _ hd.2]
 ·rw[jl h _ hd]
 ·rw[jl h _ hd]
 ·rw[tU (h _ hd.1),jl h _ hd.2]
def Ev{D E:Nat->Prop}(h:∀ b,D b->E b){d:Deferred}(hd:uR D d):uR E d:=by
 obtain⟨t,args⟩:=d;cases t <;> simp only[uR]at hd ⊢
 ·exact⟨iq h _ hd.1,jJ h _ hd.2⟩
 ·exact jJ h _ hd
 ·exact jJ h _ hd
 ·exact⟨h _ hd.1,jJ h _ hd.2⟩
def iU.step(S_:iU G M_ s a w){M':Ren}{h':N}{w':World}(he:iZ s.h.Q M_ M')(H':c_ G M' h' w'):iU G M' {s with h:=h' } a w':=by
 have hd:∀ b,dom M_ b->M' b=M_ b:=fun b hb=>he b (np S_.h hb);refine⟨H',S_.t.ext S_.h he,?_,fun d j=>Ev (fun b hb=>by grind) (S_.okd d j)⟩;rw[S_.ds];apply bK;intro d j;exact(Ez hd (S_.okd d j)).symm
def iU.put(j:iU G M_ s a w){d:Option Tmp}{v:V}(hd:lg s d=Y)(hv:d_ (dom M_) v):iU G M_ (s.put d v s.h) (a.put d (b_ M_ v)) w:=by
 cases d with
 | none=>exact⟨j.h,j.t,j.ds,j.okd⟩
 | some i =>
  simp only[lg,dU]at hd;exact⟨j.h,j.t.put hd hv,j.ds,j.okd⟩
def Uss{rd:Option Nat}{Q:Exit->St->Prop}(hq:Q .normal s):CW P G rd s.h.Q .skip s Q :=
 fun M_ _ _ j _=>wpIn_skip ⟨M_,.normal,s,hq,rfl,trivial,iZ.refl _ _,ig.refl _ _ _,j⟩
def U0v{rd:Option Nat}{l:Nat}{Q:Exit->St->Prop}(hq:Q .normal s):CW P G rd s.h.Q (.label l) s Q :=
 fun M_ _ _ j _=>wpIn_label ⟨M_,.normal,s,hq,rfl,trivial,iZ.refl _ _,ig.refl _ _ _,j⟩
def U75{rd:Option Nat}{id:Nat}{Q:Exit->St->Prop}(hq:Q (.exit id) s):CW P G rd s.h.Q (.exit id) s Q :=
 fun M_ _ _ j _=>wpIn_exit ⟨M_,.exit id,s,hq,rfl,trivial,iZ.refl _ _,ig.refl _ _ _,j⟩
def U9i{rd:Option Nat}{Q:Exit->St->Prop}(hq:Q .ret s):CW P G rd s.h.Q .ret s Q :=
 fun M_ _ _ j _=>wpIn_ret ⟨M_,.ret,s,hq,rfl,trivial,iZ.refl _ _,ig.refl _ _ _,j⟩
def GU{rd:Option Nat}{n:Nat}{M_ β:Ren}{G:Bs}{s:St}{w:World}{a:Act}(j:iU G M_ s a w)(he:iZ s.h.Q M_ β)(hl:∀ l,rd=U l->dom M_ l):mP rd β=mP rd M_/\(∀ l,rd=U l->dom β l)/\n=n:=by
 refine⟨?_,fun l h => ?_,rfl⟩
 ·cases rd with
  | none=>rfl
  | some l=>simp only[mP,tU (he l (np j.h (hl l rfl)))]
 ·have:=he l (np j.h (hl l h))
  grind
def Wa6{rd:Option Nat}{x y:Code}{Q:Exit->St->Prop}(h:CW P G rd s.h.Q x s (fun e s'=>s.h.Q<=s'.h.Q/\(e=.normal->CW P G rd s'.h.Q y s' Q)/\(e ≠ .normal->Q e s'))) :
  CW P G rd s.h.Q (.seq x y) s Q:=by
 intro M_ a w S_ hl;refine wpIn_seq (wpIn_mono (h M_ a w S_ hl) ?_);rintro e' a' w' ⟨M',e,s',⟨hn,hp,hA⟩,rfl,h3,hx,hc,S'⟩;by_cases hb:e=.normal
 ·subst hb;obtain⟨f1,f2,_⟩:=GU (rd:=rd) (n:=0) S_ hx hl;have:=hp rfl M' a' w' S' f2;rw[f1]at this;show y.wpIn _ _ _ _ _ _;refine wpIn_mono this ?_;rintro hB ho e1 ⟨hr,e2,hy,g1,g2,g3,g4,g5,g6⟩;exact⟨hr,e2,hy,g1,g2,g3,hx.trans g4 hn,hc.trans g5,g6⟩
 ·have : ∃ j hk h2,Q hk h2/\r9 M' e=r9 j hk/\uB (dom j) hk/\iZ s.h.Q M_ j/\ig M_ s.h w j h2.h w'/\iU G j h2 a' w':=⟨M',e,s',hA hb,rfl,h3,hx,hc,S'⟩;cases e <;> first
   | grind
   | exact this
def U6v{rd:Option Nat}{c:Operand}{x y:Code}{Q:Exit->St->Prop}{b:Bool}(hc:iH G s.t c=U (.bool b))(h:CW P G rd s.h.Q (if b then x else y) s Q):CW P G rd s.h.Q (.cond c x y) s Q:=by
 intro M_ a w j hl;exact wpIn_cond (by rw[(vG j.h j.t hc).2,nL]) (h M_ a w j hl)
def Uzz{rd:Option Nat}{id n:Nat}{c:Code}{Q:Exit->St->Prop}(h:CW P G rd n c s (fun e s'=>match e with
  | .exit h2=>if h2=id then Q .normal s' else Q (.exit h2) s'
  | e=>Q e s')):CW P G rd n (.block id c) s Q:=by
 intro M_ a w S_ hl;refine wpIn_block (wpIn_mono (h M_ a w S_ hl) ?_);rintro e' a' w' ⟨M',e,s',hq,rfl,hx,hc,j,S'⟩;cases e with
 | exit h2 =>
  simp only[r9,Exit.inBlock];simp only at hq;split
  next hk=>rw[if_pos hk]at hq;exact⟨M',.normal,s',hq,rfl,trivial,hc,j,S'⟩
  grind
 | outgrown=>exact hx.elim
 | normal=>exact⟨M',_,s',hq,rfl,hx,hc,j,S'⟩
 | goto l=>exact⟨M',_,s',hq,rfl,hx,hc,j,S'⟩
 | ret=>exact⟨M',_,s',hq,rfl,hx,hc,j,S'⟩
 | panic ch=>exact⟨M',_,s',hq,rfl,hx,hc,j,S'⟩
def Ub5{p:Nat->Prop}:∀ k,p k->∃ j,p j/\∀ i,p i->j<=i:=by
 intro k;induction k using Nat.strongRecOn with
 | _ k ih =>
  grind
def U55{rd:Option Nat}{n:Nat}{c:Code}{Q:Exit->St->Prop}(I_:Nat->St->Prop){k:Nat}(h0:I_ k s)(hu:∀ l,rd=U l->l < n)(hn:n<=s.h.Q)
  (round:∀ k s,I_ k s->n<=s.h.Q->CW P G rd n c s (fun e s'=>n<=s'.h.Q/\(e=.normal->∃ k',k' < k/\I_ k' s')/\(e ≠ .normal->Q e s'))):CW P G rd n (.loop c) s Q:=by
 intro M_ a w S_ hl
 let J_:Nat->Act->World->Prop:=fun k a' w' => ∃ M' s',I_ k s'/\n<=s'.h.Q/\iZ n M_ M'/\ig M_ s.h w M' s'.h w'/\iU G M' s' a' w'
 have ho:∃ μ:Act->World->Nat,∀ a w,(∃ k,J_ k a w)->J_ (μ a w) a w/\∀ j,J_ j a w->μ a w<=j:=by
  have : ∀ x:Act × World,∃ m:Nat,(∃ k,J_ k x.1 x.2)->J_ m x.1 x.2/\∀ j,J_ j x.1 x.2->m<=j:=fun x=>by
   by_cases hx:∃ k,J_ k x.1 x.2
   ·obtain⟨k,hk⟩:=hx;obtain⟨m,h1,h2⟩:=Ub5 (p:=fun k=>J_ k x.1 x.2) k hk;exact⟨m,fun _=>⟨h1,h2⟩⟩
   simp_all
  exact⟨fun a w=>(this (a,w)).choose,fun a w h=>(this (a,w)).choose_spec h⟩
 obtain⟨μ,ho⟩:=ho;refine wpIn_loop (fun a w => ∃ k,J_ k a w) μ ⟨k,M_,s,h0,hn,iZ.refl _ _,ig.refl _ _ _,S_⟩ fun a1 w1 hJ => ?_;obtain⟨⟨M1,s1,hI,hg,hc,h3,S1⟩,a2⟩:=ho a1 w1 hJ;have hf:mP rd M1=mP rd M_:=by
  cases rd with
  | none=>rfl
  | some l=>simp only[mP,tU (hc l (hu l rfl))]
 have q2:∀ l,rd=U l->dom M1 l:=fun l v'=>by
  have:=hc l (hu l v')
  grind
 have hr:=round _ s1 hI hg M1 a1 w1 S1 q2;rw[hf]at hr;refine wpIn_mono hr ?_;rintro e' a' w' ⟨M',e,s',⟨hz,g1,es⟩,rfl,q1,hy,hp,S'⟩;by_cases h4:e=.normal
 ·subst h4;obtain⟨k',hq,e2⟩:=g1 rfl;have e1:J_ k' a' w':=⟨M',s',e2,hz,hc.trans hy (ai _),h3.trans hp,S'⟩;exact⟨⟨k',e1⟩,cY ((ho a' w' ⟨k',e1⟩).2 k' e1) hq⟩
 ·have : ∃ hb hB hA,Q hB hA/\r9 M' e=r9 hb hB/\uB (dom hb) hB/\iZ n M_ hb/\ig M_ s.h w hb hA.h w'/\iU G hb hA a' w' :=
   ⟨M',e,s',es h4,rfl,q1,hc.trans hy (ai _),h3.trans hp,S'⟩
  cases e <;> first
   | grind
   | exact this
end
structure h_ where
 fn:FuncId->List V->N->Option (jc × N)
 rnd:Nat->List V->N->Option (jc × N)
structure iK (P:Program) (G:Bs) (C:h_):Prop where
 fn:∀ f args h r h',C.fn f args h=U (r,h')->gr P G f args h (fun r1 h1=>r1=r/\h1=h')
 rnd:∀ l args h r h',C.rnd l args h=U (r,h')->AP P G l args h (fun r1 h1=>r1=r/\h1=h')
def Qg(ops:List Oper)(t:Tm)(o:Oper):Option Bool :=
 match o.guard with
 | none=>U Y
 | some (j,hc)=>match iD ops j with
  | none=>U J
  | some oj=>match oj.dst with
   | none=>U J
   | some d=>match t.t.A d with
    | some (.bool b)=>U (b == hc)
    | some _=>U J
    | none=>O
def Qq:V:=.tuple #[]
def E9{P:Program}(E:f_ P)(t:Tm)(c:Call):Option Deferred :=
 match c.callee with
 | .value f=>match iH E.G t f,kH E.G t c.args.toList with
  | some (.func (.func fn) first j),U args=>U {target:=.fn (.func fn) j,args:=first++args.toArray}
  | _,_=>O
 | _=>O
def CR{P:Program}(E:f_ P)(C:h_)(rd:Option Nat)(o:Oper)(s:St):Option (Exit × St) :=
 if !lg s o.dst then O else
 match o.op with
 | .defer c=>match rd with
  | none=>match E9 E s.t c with
   | some d=>U (.normal,({s with ds:=d::s.ds}:St).put o.dst Qq s.h)
   | none=>O
  | some _=>O
 | _=>match jm E s.t s.h o with
  | some (.val v h)=>U (.normal,s.put o.dst v h)
  | some (.skip h)=>U (.normal,s.put o.dst Qq h)
  | some (.panic v h)=>U (.panic [{v,recovered:=false}],{s with h:=h})
  | some (.enter f args h)=>match C.fn f args h with
   | some (.ret v,j)=>U (.normal,s.put o.dst v j)
   | some (.panic ch,j)=>U (.panic ch,{s with h:=j })
   | none=>O
  | some (.round l args h)=>match C.rnd l args h with
   | some (.ret v,j)=>U (.normal,s.put o.dst v j)
   | some (.panic ch,j)=>U (.panic ch,{s with h:=j })
   | none=>O
  | _=>O
def vh{P:Program}(E:f_ P)(C:h_)(rd:Option Nat)(ops:List Oper):List Oper->St->Option (Exit × St)
 | [],s=>U (.normal,s)
 | o::r,s =>
  match Qg ops s.t o with
  | some Y=>match CR E C rd o s with
   | some (.normal,j)=>vh E C rd ops r j
   | some (.panic ch,j)=>U (.panic ch,j)
   | _=>O
  | some J=>if lg s o.dst then vh E C rd ops r (s.put o.dst Qq s.h)else O
  | none=>O
section
variable{P:Program}{M_:Ren}{s:St}{a:Act}{w:World}
def Ae(rd:Option Nat)(M_:Ren)(f:FuncId):(mP rd M_).fn f:=by cases rd <;> exact trivial
def Cr(rd:Option Nat)(M_:Ren):(mP rd M_).depth=O:=by cases rd <;> rfl
def Lw(rd:Option Nat)(M_:Ren):(mP rd M_).round=rd.map (jD M_):=by cases rd <;> rfl
def Lx{rd:Option Nat}{M_:Ren}{n:Nat}{f:FuncId}{args:Array V}{w:World}{R:Ending->World->Prop}(h:CallsIn Fence.wide n P f args w R):CallsIn (mP rd M_) n P f args w R:=by
 cases rd with
 | none=>exact h
 | some l=>exact h
def xO{G:Bs}{t:Tm}{tmps:Array V}(ht:je M_ t tmps){ops:Array Oper}{o:Oper}{b:Bool}(h:Qg ops.toList t o=U b):Region.wanted o (yielded ops tmps)=b:=by
 have _:=G;unfold Qg at h;unfold Region.wanted;split at h
 ·grind
 ·rename_i j hx hg;rw[hg];simp only;rw[sQ,gF]at h;unfold yielded;split at h
  ·grind
  ·rename_i oj hj;split at h
   ·grind
   ·rename_i d hd;split at h
    next q hq=>cases h;have:=(ht.vals d _ hq).2;simp_all
    ·rename_i v hq hc;cases h;have:=(ht.vals d _ hc).2;simp only[hj,hd,Option.bind_some,this];cases v <;> simp[b_]
     grind
    ·cases h
def Uvs(E:f_ P)(S_:iU E.G M_ s a w){c:Call}{d:Deferred}(hd:E9 E s.t c=U d)(ty:TypeId):uR (dom M_) d/\(resolve a.eval c ty).run P w=.ok (rn M_ d) w:=by
 unfold E9 at hd;split at hd
 ·rename_i f hf;split at hd
  ·rename_i fn first j args h1 h2
   cases hd;obtain⟨e1,e2⟩:=vG S_.h S_.t h1;obtain⟨e3,e4⟩:=EP S_.h S_.t h2;have e5:c.args.map a.eval=(args.map (b_ M_)).toArray:=by grind
   simp only[d_,wQ]at e1;refine⟨?_,?_⟩
   ·simp only[uR,d_,wQ]
    grind
   ·simp only[resolve,hf,e5,e2,b_,vC,Deferred.ofValue,bg,rn,uo,Array.map_append,List.map_toArray]
  ·cases hd
 ·cases hd
def iU.putU{G:Bs}(j:iU G M_ s a w){d:Option Tmp}(hd:lg s d=Y):iU G M_ (s.put d Qq s.h) (a.put d undef) w:=by
 have:=j.put (v:=Qq) hd (by simp[Qq,d_,mH,nr]);simpa[Qq,undef,b_,kn,mA]using this
def ie(s:St)(d:Option Tmp)(v:V)(h:N):s.put d v h=({s with h:=h}:St).put d v h:=by cases d <;> rfl
def Wer(G:Bs)(n:Nat)(M_:Ren)(h:N)(w:World)(Q:Exit->St->Prop):Exit->Act->World->Prop :=
 fun e' a' w' => ∃ j e s',Q e s'/\e'=r9 j e/\uB (dom j) e/\iZ n M_ j/\ig M_ h w j s'.h w'/\iU G j s' a' w'
end
structure fm (h h':N):Prop where
 Q:h.Q<=h'.Q
 low:h'.low<=h.low
 same:∀ b,b < h.Q->b < h'.low->h'.A b=h.A b
def fm.refl(h:N):fm h h:=⟨ai _,ai _,fun _ _ _=>rfl⟩
def fm.trans{a b c:N}(x:fm a b)(y:fm b c):fm a c :=
 ⟨ao x.Q y.Q,ao y.low x.low,fun k h1 j=>(y.same k (aq h1 x.Q) j).trans (x.same k h1 (aq j y.low))⟩
def fm.set(h:N)(b:Nat)(x:Option Blk)(hb:b < h.Q):fm h (h.set b x) :=
 ⟨ai _,Nat.min_le_left _ _,fun k _ j=>by
  rw[gY hb];have : k < b:=aq j (Nat.min_le_right _ _)
  grind⟩
def fm.push(h:N)(x:Blk):fm h (h.push x) :=
 ⟨bJ _,ai _,fun k h1 _=>by rw[N.F,if_neg iA]⟩
def Ll{h h':N}{a:Addr}{l:List V}(hh:storeAt h a l=U h'):fm h h':=by
 unfold storeAt at hh;split at hh
 next sz c j=>rw[au]at hh;obtain⟨c',_,rfl⟩:=hh;exact fm.set _ _ _ (N.D j)
 ·cases hh
def pd.heap:pd->N
 | .val _ h | .skip h | .enter _ _ h | .round _ _ h | .defer _ h | .panic _ h=>h
section
variable{P:Program}
def Vpl{E:jo P}{t:TypeId}{x:V}{lo hi mx:Option V}{h h':N}{v:V}(hv:j8 E t x lo hi mx h=U (v,h')):fm h h':=by
 have hx:∀ {ad:Addr} {sz used l n:Nat} {h h':N} {v:V},j8.aCut ad sz used l n h=U (v,h')->fm h h':=by
  intro ad sz used l n h h' v j;unfold j8.aCut at j;split at j
  ·cases j;exact fm.refl _
  ·split at j
   ·cases j;exact fm.refl _
   ·split at j
    ·cases j;exact fm.push _ _
    ·cases j
 have h2:∀ {o:Option V} {h h':N} {v:V},o.map (fun v=>(v,h))=U (v,h')->fm h h':=by
  intro o h h' v ho;rw[au]at ho;obtain⟨_,_,hq⟩:=ho;cases hq;exact fm.refl _
 unfold j8 at hv
 repeat' (first | grind | (exact h2 hv) | (exact hx hv) | (cases hv;exact fm.refl _) | split at hv | simp only at hv)
def Ukr{E:jo P}{t tx:TypeId}{s x:V}{h h':N}{v:V}(hv:kU E t tx s x h=U (v,h')):fm h h':=by
 have j:∀ {a:Addr} {l:List V} {u:V} {h h':N} {v:V},(storeAt h a l).map (fun h'=>(u,h'))=U (v,h')->fm h h':=by
  intro a l u h h' v ho;rw[au]at ho;obtain⟨_,h1,hq⟩:=ho;cases hq;exact Ll h1
 unfold kU at hv;simp only at hv
 repeat' (first | (cases hv;done) | (exact j hv) | (cases hv;exact fm.push _ _) | (cases hv;exact fm.refl _) |
  (cases hv;exact(fm.set _ _ _ (N.D (by assumption))).trans (fm.push _ _)) | split at hv)
def Ua8{E:f_ P}{b:Builtin}{ts:List TypeId}{args:List V}{h:N}{r:pd}(j:Q7 E b ts args h=U r):fm h r.heap:=by
 unfold Q7 at j;split at j
 ·obtain⟨v,_,rfl⟩:=l9 j;exact fm.refl _
 ·obtain⟨v,_,rfl⟩:=l9 j;exact fm.refl _
 ·obtain⟨v,h',hv,rfl⟩:=r_ j;exact Ukr hv
 ·obtain⟨v,h',hv,rfl⟩:=r_ j;unfold rV at hv
  repeat' (first | grind | (cases hv;exact fm.refl _) | (rw[au]at hv;obtain⟨_,h1,hq⟩:=hv;cases hq;exact Ll h1) | split at hv)
 ·obtain⟨v,_,rfl⟩:=l9 j;exact fm.refl _
 ·obtain⟨v,_,rfl⟩:=l9 j;exact fm.refl _
 ·cases j;exact fm.refl _
 ·obtain⟨v,h',hv,rfl⟩:=r_ j;unfold yJ at hv
  repeat' (first | grind | (cases hv;exact fm.set _ _ _ (N.D (by assumption))) | split at hv)
 ·cases j
def Upf{f:V}{args:List V}{h:N}{r:pd}(j:AL f args h=U r):fm h r.heap:=by
 unfold AL at j
 repeat' (first | grind | (cases j;exact fm.refl _) | split at j)
def Vlj{E:jo P}{t:TypeId}{m k x:V}{h h':N}(hv:ta E t m k x h=U h'):fm h h':=by
 unfold ta at hv
 repeat' (first | grind | (cases hv;exact fm.set _ _ _ (N.D (by assumption))) | split at hv)
def V9r{E:jo P}{t:TypeId}{hint:Option V}{h h':N}{v:V}(hv:yO E t hint h=U (v,h')):fm h h':=by
 unfold yO at hv
 repeat' (first | grind | (cases hv;exact fm.push _ _) | split at hv)
def Upl{E:jo P}{t:TypeId}{x v:V}{h h':N}(hv:yI E t x h=U (v,h')):fm h h':=by
 unfold yI at hv
 repeat' (first | grind | (cases hv;exact fm.push _ _) | split at hv)
def Jsx{it:V}{isS:Bool}{h:N}{x:V × N}(j:x ∈ r8 it isS h):fm h x.2:=by
 unfold r8 at j;split at j
 ·rename_i r;split at j
  ·rename_i hg;split at j
   ·split at j
    ·rw[bb]at j;subst j;exact fm.set _ _ _ (N.D hg)
    ·rw[bb]at j;subst j;exact fm.refl _
   ·cases j
  ·split at j
   ·cases j
   ·rw[bb]at j;subst j;exact fm.refl _
  ·rename_i hg;split at j
   ·split at j
    ·cases j
    ·obtain⟨c,_,rfl⟩:=am.1 j;cases c with
     | none=>exact fm.refl _
     | some e=>exact fm.set _ _ _ (N.D hg)
   ·cases j
  ·cases j
 ·cases j
def Uto{it:V}{isS:Bool}{v:V}{h h':N}(hv:E2 it isS h=U (v,h')):fm h h':=by
 unfold E2 at hv;split at hv
 next x j=>cases hv;exact Jsx (x:=(v,h')) (it:=it) (isS:=isS) (by grind)
 ·cases hv
def Uou{x:pS}{l:List V}{v:V}{h h':N}(hv:BU x l h=U (v,h')):fm h h':=by
 unfold BU at hv
 repeat' (first | grind | (cases hv;exact fm.refl _) | (cases hv;exact fm.push _ _) | split at hv)
def vO {E : f_ P} {t : Tm} {h : N} {o : Oper} {r : pd} (j : jm E t h o = U r) : fm h r.heap := by
  unfold jm at j;have k0 : ∀ {x : Option V}, g0 h x = U r -> fm h r.heap := fun hx => by obtain ⟨v, _, rfl⟩ := l9 hx; exact fm.refl _
  repeat' (first | (cases j; done) | (exact k0 j) | (exact Ua8 j) | (exact Upf j) | (cases j; exact fm.refl _) |
    (obtain ⟨v, h', hv, rfl⟩ := r_ j
     first
      | exact Vpl hv
      | exact V9r hv
      | exact Upl hv
      | exact Uto hv
      | exact Uou hv
      | (rcases Up7 hv with rfl | ⟨_, rfl⟩
         · exact fm.refl _
         · exact fm.push _ _)
      | (unfold jd at hv; split at hv <;> cases hv; exact fm.push _ _)
      | (unfold nP at hv; split at hv <;> cases hv; exact fm.push _ _)
      | (unfold V6 at hv; repeat' (first | (cases hv; done) | (rw [au] at hv; obtain ⟨_, h1, hq⟩ := hv; cases hq; exact fm.push _ _) | split at hv))
      | (unfold z8 at hv; repeat' (first | (cases hv; done) | (cases hv; exact fm.push _ _) | split at hv))) |
    (obtain ⟨h', hv, rfl⟩ := Ij j
     exact Vlj hv) |
    (obtain ⟨h', hv, rfl⟩ := Ij j
     unfold j9 at hv
     repeat' (first | (cases hv; done) | (unfold BP at hv; split at hv <;> first | exact Ll hv | cases hv) | split at hv)) |
    split at j)
structure iL (C:h_):Prop where
 fn:∀ f args h r h',C.fn f args h=U (r,h')->fm h h'
 rnd:∀ f args h r h',C.rnd f args h=U (r,h')->fm h h'
end
def mB{P:Program}(E:f_ P)(C:h_)(o:Oper)(t:Tm)(h:N):Option (V × N) :=
 match jm E t h o with
 | some (.val v h)=>U (v,h)
 | some (.skip h)=>U (Qq,h)
 | some (.enter f args h)=>match C.fn f args h with
  | some (.ret v,j)=>U (v,j)
  | _=>O
 | some (.round l args h)=>match C.rnd l args h with
  | some (.ret v,j)=>U (v,j)
  | _=>O
 | _=>O
def DZ{G:Bs}{t t':Tm}:∀ {l:List Operand},(∀ x ∈ l,iH G t x=iH G t' x)->kH G t l=kH G t' l
 | [],_=>rfl
 | x::l,h=>by simp only[kH,h x jA,DZ (l:=l) fun y j=>h y (by simp[j])]
def T6{G:Bs}{t t':Tm}:∀ {l:List (Nat × Operand)},(∀ x ∈ l.map (·.2),iH G t x=iH G t' x)->Qh G t l=Qh G t' l
 | [],_=>rfl
 | (i,x)::l,h=>by simp only[Qh,h x jA,T6 (l:=l) fun y j=>h y (by grind)]
def G4{G:Bs}{t t':Tm}{x:Option Operand}(h:∀ y,x=U y->iH G t y=iH G t' y):lr G t x=lr G t' x:=by
 cases x with
 | none=>rfl
 | some y=>simp only[lr,h y rfl]
section
variable{P:Program}{M_:Ren}{h:N}{w:World}{a:Act}
def Usc (E : f_ P) {t t' : Tm} (o : Oper) (j : ∀ x ∈ o.op.operands, iH E.G t x = iH E.G t' x) (h : N) : jm E t h o = jm E t' h o := by
  unfold jm;split <;> first
    | rfl
    | (rename_i hc; rw [hc] at j; simp only [Op.operands] at j
       first
        | (rw [j _ jA]; done)
        | (rename_i a b; rw [j a jA, j b jA]; done)
        | (rename_i a b _; rw [j a jA, j b jA]; done)
        | (rename_i c a b; rw [j c jA, j a jA, j b jA]; done)
        | (rw [T6 fun x hm => j x (by simpa using hm)]; done)
        | (rw [DZ fun x hm => j x (by simp at hm ⊢; exact .inl hm), DZ fun x hm => j x (by simp at hm ⊢; exact .inr hm)]; done)
        | (rename_i r; rw [G4 fun y hy => j y (by subst hy; simp)]; done)
        | (rename_i m k v; rw [j m jA, j k jA, j v jA]; done)
        | (rename_i x lo hi mx
           rw [j x jA, G4 fun y hy => j y (by subst hy; simp), G4 fun y hy => j y (by subst hy; simp), G4 fun y hy => j y (by subst hy; simp)]; done)
        | (rename_i c
           rw [DZ fun x hm => j x (by simp only [Call.operands]; simp at hm ⊢; exact .inr hm)];split
           · rfl
           · split
             · rfl
             · rename_i f hf
               rw [j f (by simp only [Call.operands,hf]; simp)]
             · rfl))
def He(E:f_ P)(C:h_){t t':Tm}(o:Oper)(j:∀ x ∈ o.op.operands,iH E.G t x=iH E.G t' x)(h:N):mB E C o t h=mB E C o t' h:=by
 unfold mB;rw[Usc E o j h]
def D_{E:f_ P}{C:h_}(hC:iL C){o:Oper}{t:Tm}{h h1:N}{v:V}(hs:mB E C o t h=U (v,h1)):fm h h1:=by
 unfold mB at hs;split at hs
 next j=>cases hs;exact vO j
 next j=>cases hs;exact vO j
 ·rename_i j;have h1:=vO j;split at hs
  next hc=>cases hs;exact h1.trans (hC.fn _ _ _ _ _ hc)
  ·cases hs
 ·rename_i j;have h1:=vO j;split at hs
  next hc=>cases hs;exact h1.trans (hC.rnd _ _ _ _ _ hc)
  ·cases hs
 ·cases hs
def Ym(o:Oper):Bool:=match o.op with
 | .defer _=>J
 | _=>Y
def Nj(E:f_ P){C:h_}(hC:iK P E.G C){rd:Option Nat}{β:Ren}{o:Oper}{t:Tm}{v:V}{h1:N}(hd:Ym o=Y)(hs:mB E C o t h=U (v,h1))(H:c_ E.G M_ h w)(ht:je M_ t a.tmps)
  {next:Act->World->Prop} {Q:Exit->Act->World->Prop}
  (hn:∀ j w',iZ h.Q M_ j->ig M_ h w j h1 w'->c_ E.G j h1 w'->d_ (dom j) v->next (a.put o.dst (b_ j v)) w') :
  o.wpIn (mP rd β) 0 P a w next Q:=by
 refine⟨fun f _=>Ae rd β f,?_⟩;have hx:o.semAt (mP rd β).round a.eval=execOp a.eval o:=fV _ _ _ (fun c hc=>by simp[Ym,hc]at hd);rw[hx];unfold mB at hs;split at hs
 next hr=>cases hs;obtain⟨j,w',r1,r2,r3,r4,r5⟩:=sR E H ht hr;rw[r1];exact hn j w' r3 r5 r4 r2
 ·rename_i hr;cases hs;obtain⟨w',r1,r2,r3⟩:=sR E H ht hr;rw[r1];have:=hn M_ w' (iZ.refl _ _) r3 r2 (by simp[Qq,d_,mH,nr]);have e:b_ M_ Qq=undef:=by simp[Qq,undef]
  rw[e]at this;exact this
 ·rename_i f args h0 hr;obtain⟨rfl,r1,r2⟩:=sR E H ht hr;split at hs
  next v' h' hc=>cases hs;rw[r1,Oper.uponIn_enter];refine⟨by rw[Cr];simp,Lx ?_⟩;refine(hC.fn _ _ _ _ _ hc M_ w H r2).mono ?_;rintro e' w' ⟨j,r,h2,⟨rfl,rfl⟩,rfl,q1,q2,q3,q4⟩;exact hn j w' q2 q3 q4 q1
  ·cases hs
 ·rename_i l args h0 hr;obtain⟨rfl,k1,r2,st,hk,t',ps,as,bd,d,k2,fn,tmps,k3,r1⟩:=sR E H ht hr;split at hs
  next v' h' hc=>cases hs;rw[r1,Oper.uponIn_round];refine⟨by rw[Cr];simp,?_⟩;refine(hC.rnd _ _ _ _ _ hc M_ w β rd _ _ _ _ _ _ _ _ _ H k1 r2 k2 k3).mono ?_;rintro e' w' ⟨j,r,h2,⟨rfl,rfl⟩,rfl,q1,q2,q3,q4⟩;exact hn j w' q2 q3 q4 q1
  ·cases hs
 ·cases hs
def Yk{P:Program}(E:f_ P)(o:Oper):Bool:=match o.op with
 | .move _ | .assign _ | .pick .. | .build .. | .nilCheck _ | .binOp .. | .unOp .. | .sliceToArrayPointer .. | .makeInterface .. | .makeFunc .. | .fieldAddr .. | .field .. | .indexAddr .. | .index .. | .typeAssert .. | .extract .. => Y
 | .convert hc j _=>uy E.tojo hc j
 | _=>J
def Va7(E:f_ P)(C:h_){o:Oper}(hf:Yk E o=Y){t:Tm}{h h1:N}{v:V}(hs:mB E C o t h=U (v,h1))(h':N):h1=h/\mB E C o t h'=U (v,h'):=by
 have key:∀ r,jm E t h o=U r->∃ v,r=.val v h/\jm E t h' o=U (.val v h'):=by
  intro r j;unfold Yk at hf;unfold jm at j ⊢;split at hf <;> first
   | (cases hf;done)
   | skip
  all_goals
   rename_i hc;simp only[hc]at j ⊢
   try simp only[hf]at j ⊢
   first
   | (obtain⟨u,hu,rfl⟩:=l9 j;exact⟨u,rfl,by simp only[g0,hu]⟩)
   | (split at j <;> first
     | (cases j;done)
     | (obtain⟨u,hu,rfl⟩:=l9 j;refine⟨u,rfl,?_⟩;simp only[g0, *];done))
 unfold mB at hs ⊢;cases j:jm E t h o with
 | none=>simp[j]at hs
 | some r =>
  obtain⟨u,rfl,hu⟩:=key r j;rw[j]at hs;simp only at hs;cases hs;exact⟨rfl,by rw[hu]⟩
def loadAt{P:Program}(E:f_ P)(t:Tm)(o:Oper):Option Nat:=match o.op with
 | .load _ a=>match iH E.G t a with
  | some (.pointer (U a))=>U a.block
  | _=>O
 | .lookup _ x _ _=>match iH E.G t x with
  | some (.map (U b))=>U b
  | _=>O
 | _=>O
def Yh(o:Oper):Bool:=match o.op with
 | .load _ _=>Y
 | .lookup .. => Y
 | _=>J
def ku{P:Program}(E:f_ P)(t:Tm)(o:Oper)(h:N):Option V:=match o.op with
 | .load ty a=>match iH E.G t a with
  | some x=>jL E.tojo ty x h
  | none=>O
 | .lookup ty x k ok=>match iH E.G t x,iH E.G t k with
  | some a,U b=>qN E.tojo ty a b ok h
  | _,_=>O
 | _=>O
def Vzn{h h':N}{a:Addr}(j:h'.A a.block=h.A a.block)(n:Nat):cellsAt h' a n=cellsAt h a n:=by
 unfold cellsAt;rw[j]
def EJ{h h':N}{a:Addr}(j:h'.A a.block=h.A a.block)(r:ir):Ai r h' a=Ai r h a:=by
 unfold Ai;simp only[Vzn j]
def Udt{E:f_ P}{o:Oper}{t:Tm}(j:Yh o=Y)(hs:(!Yh o || (loadAt E t o).isSome)=Y):(loadAt E t o).isSome=Y:=by
 grind
def TY(E:jo P){ty:TypeId}{k:V}{ok:Bool}{b:Nat}{h h':N}(hg:h'.A b=h.A b):qN E ty (.map (U b)) k ok h'=qN E ty (.map (U b)) k ok h:=by
 have j:rG (.map (U b)) h'=rG (.map (U b)) h:=by simp only[rG,hg]
 simp only[qN,j]
def U74{E:f_ P}{C:h_}{o:Oper}{t:Tm}{v:V}{h1:N}{b:Nat}(j:loadAt E t o=U b)(hs:mB E C o t h=U (v,h1)) :
  h1=h/\∀ h':N,h'.A b=h.A b->mB E C o t h'=U (v,h'):=by
 unfold loadAt at j;split at j
 ·rename_i ty a hc;split at j
  ·rename_i p ha;cases j;simp only[mB,jm,hc,ha]at hs ⊢;cases hv:jL E.tojo ty (.pointer (U p)) h with
   | none=>simp[hv,g0]at hs
   | some u =>
    simp only[hv,g0]at hs;cases hs;refine⟨rfl,fun h' hg => ?_⟩;have : jL E.tojo ty (.pointer (U p)) h'=U v:=by
     rw[<- hv];unfold jL;split
     next a r e1 e2=>cases e1;exact EJ hg _
     ·rfl
    simp only[this,g0]
  ·cases j
 ·rename_i ty x k ok hc;split at j
  ·rename_i m hx;cases j;simp only[mB,jm,hc,hx]at hs ⊢;cases hk:iH E.G t k with
   | none=>grind
   | some kv =>
    simp only[hk]at hs ⊢;cases hv:qN E.tojo ty (.map (U b)) kv ok h with
    | none=>simp[hv,g0]at hs
    | some u =>
     simp only[hv,g0]at hs;cases hs;refine⟨rfl,fun h' hg => ?_⟩;rw[TY E.tojo hg,hv];rfl
  ·cases j
 ·cases j
def Vq1{G:Bs}{M_:Ren}{E:f_ P}(hG:E.G=G)(H:c_ G M_ h w){t:Tm}{tmps:Array V}(ht:je M_ t tmps){o:Oper}{b:Nat}(j:loadAt E t o=U b):dom M_ b:=by
 subst hG;unfold loadAt at j;split at j
 ·split at j
  ·rename_i p ha;cases j;have:=(vG (a:=⟨tmps,[]⟩) H ht ha).1;simp only[d_]at this
   grind
  ·cases j
 ·split at j
  next m ha=>cases j;have:=(vG (a:=⟨tmps,[]⟩) H ht ha).1;simpa only[d_]using this
  ·cases j
 ·cases j
def Vq3{E:f_ P}{C:h_}{o:Oper}{t:Tm}(hl:Yh o=Y)(h:N):mB E C o t h=(ku E t o h).map (fun v=>(v,h)):=by
 unfold Yh at hl;split at hl
 ·rename_i ty a j;simp only[mB,jm,j,ku];cases iH E.G t a with
  | none=>rfl
  | some x =>
   simp only[g0]
   grind
 ·rename_i ty x k ok j;simp only[mB,jm,j,ku];cases iH E.G t x with
  | none=>rfl
  | some a =>
   cases iH E.G t k with
   | none=>rfl
   | some b =>
    simp only[g0]
    grind
 ·cases hl
def DG{E:f_ P}{o:Oper}{t:Tm}{b:Nat}(j:loadAt E t o=U b){h h':N}(hg:h'.A b=h.A b):ku E t o h'=ku E t o h:=by
 unfold loadAt at j;split at j
 ·rename_i ty a hc;split at j
  ·rename_i ad hx;cases j;simp only[ku,hc,hx,jL];cases E.ty.A ty with
   | none=>rfl
   | some r=>exact EJ hg r
  ·cases j
 ·rename_i ty x k ok hc;split at j
  ·rename_i m hx;cases j;simp only[ku,hc,hx];cases iH E.G t k with
   | none=>rfl
   | some kv=>exact TY E.tojo hg
  ·cases j
 ·cases j
def Uyh{E:f_ P}{o:Oper}{t:Tm}{h h':N}(hg:∀ b,h'.A b=h.A b):ku E t o h'=ku E t o h:=by
 unfold ku;split
 ·split
  ·simp only[jL];split
   ·exact EJ (hg _) _
   ·rfl
  ·rfl
 ·split
  ·rename_i a b e1 e2;have j:rG a h'=rG a h:=by
    unfold rG
    grind
   simp only[qN,j]
  ·rfl
 ·rfl
def Uas{E:f_ P}{t t':Tm}{o:Oper}(hx:∀ x ∈ o.op.operands,iH E.G t x=iH E.G t' x):loadAt E t o=loadAt E t' o:=by
 unfold loadAt;split
 ·rename_i ty a j;rw[j]at hx;simp only[Op.operands]at hx
  grind
 ·rename_i ty x k ok j;rw[j]at hx;simp only[Op.operands]at hx
  grind
 ·rfl
end
def Bn(B:List Nat):List Edge->Option Nat
 | []=>U 0
 | e::r=>match Bn B r with
  | none=>O
  | some s=>if Region.binds .any e then(match iD B e.on with
   | some b=>U (s ||| 2 ^ e.on ||| b)
   | none=>O)else U s
def pf:List Oper->List Nat->Option (List Nat)
 | [],B=>U B
 | o::r,B=>match Bn B o.after.toList with
  | some b=>pf r (B ++ [b])
  | none=>O
def CV(x:Nat):List Nat->Bool
 | []=>J
 | y::l=>x == y || CV x l
def looks (ops : List Oper) (o : Oper) : List Tmp :=
  (o.op.operands.toList.filterMap fun | .tmp t => U t | _ => O) ++
  (match o.guard with
   | some (g, _) => match iD ops g with
     | some j => j.dst.toList
     | none => []
   | none => [])
def AM (ops : List Oper) (x y : Oper) : Bool :=
  (match x.dst with
   | some d => !CV d (looks ops y) && !(match y.dst with | some c => d == c | none => J)
   | none => Y) &&
  (match y.dst with
   | some d => !CV d (looks ops x)
   | none => Y)
def IN(ops:List Oper)(b:Nat)(j:Oper):List Oper->Nat->Bool
 | [],_=>Y
 | oi::r,i=>(b.testBit i || AM ops oi j) && IN ops b j r (i+1)
def tZ(ops:List Oper):List Oper->List Nat->List Oper->Bool
 | o::r,b::B,past=>IN ops b o past 0 && tZ ops r B (past ++ [o])
 | [],[],_=>Y
 | _,_,_=>J
def Vm{P:Program}(E:f_ P)(j bj:Nat):List Oper->List Nat->Nat->Bool
 | o::r,b::B,i=>(Yk E o || Yh o || (if i < j then bj.testBit i else if i == j then Y else b.testBit j)) && Vm E j bj r B (i+1)
 | _,_,_=>Y
def mY(h:N):N:={h with low:=h.Q}
def xK(h h1:N):N:={h1 with low:=min h.low h1.low}
inductive i' where
 | ld (t:Tm) (o:Oper)
 | wr (h0 h1:N)
def vz{P:Program}(E:f_ P)(s:St)(o:Oper)(h1:N):Option i' :=
 if Yh o then U (.ld s.t o)else if Yk E o then O else if Nat.ble s.h.Q h1.low then O else U (.wr s.h h1)
def zL:Option Addr->Option Addr->Bool
 | none,O=>Y
 | some a,U b=>Nat.beq a.block b.block && Nat.beq a.off b.off && (match a.spot,b.spot with | none,O=>Y | _,_=>J)
 | _,_=>J
def EV:Int->Int->Bool
 | .ofNat a,.ofNat b=>Nat.beq a b
 | .negSucc a,.negSucc b=>Nat.beq a b
 | _,_=>J
def Ce:List UInt8->List UInt8->Bool
 | [],[]=>Y
 | a::l,b::r=>Nat.beq a.toNat b.toNat && Ce l r
 | _,_=>J
def xZ:V->V->Bool
 | .bool a,.bool b=>a == b
 | .int k a,.int j b=>decide (k=j) && EV a b
 | .string a,.string b=>Ce a.data.toList b.data.toList
 | .pointer a,.pointer b=>zL a b
 | .slice a n c,.slice b m d=>zL a b && Nat.beq n m && Nat.beq c d
 | .map O,.map O=>Y
 | .map (U a),.map (U b)=>Nat.beq a b
 | .nilFunc,.nilFunc=>Y
 | .nilIface,.nilIface=>Y
 | _,_=>J
def Ah:List V->List V->Bool
 | [],[]=>Y
 | a::l,b::r=>xZ a b && Ah l r
 | _,_=>J
def x5:V->V->Bool
 | .agg a,.agg b=>Ah a.toList b.toList
 | a,b=>xZ a b
def CH:List V->List V->Bool
 | [],[]=>Y
 | a::l,b::r=>x5 a b && CH l r
 | _,_=>J
def sP:Option V->Option V->Bool
 | none,O=>Y
 | some (.tuple a),U (.tuple b)=>CH a.toList b.toList
 | some a,U b=>x5 a b
 | _,_=>J
def Y0{P:Program}(E:f_ P)(i bi:Nat)(h0 h1:N):List (Option i')->List Nat->Nat->Bool
 | some (.ld t o)::R,j::Bs,k=>((if k < i then bi.testBit k else j.testBit i) || sP (ku E t o h1) (ku E t o h0)) && Y0 E i bi h0 h1 R Bs (k+1)
 | _::R,_::Bs,k=>Y0 E i bi h0 h1 R Bs (k+1)
 | _,_,_=>Y
def Yb{P:Program}(E:f_ P)(R0:List (Option i'))(B0:List Nat):List (Option i')->List Nat->Nat->Bool
 | some (.wr h0 h1)::R,j::Bs,i=>Y0 E i j h0 h1 R0 B0 0 && Yb E R0 B0 R Bs (i+1)
 | _::R,_::Bs,i=>Yb E R0 B0 R Bs (i+1)
 | _,_,_=>Y
def uT{P:Program}(E:f_ P)(ops:List Oper)(B:List Nat)(i:Nat)(o:Oper)(s:St)(h1:N):Bool :=
 (Yk E o || Nat.ble s.h.Q h1.low || Yh o || Vm E i ((iD B i).getD 0) ops B 0) && (!Yh o || (loadAt E s.t o).isSome)
def Wa(x:Option i'):Option (St × List (Option i'))->Option (St × List (Option i'))
 | some (s,R)=>U (s,x::R)
 | none=>O
def se{P:Program}(E:f_ P)(C:h_)(ops:List Oper)(B:List Nat):List Oper->Nat->St->Option (St × List (Option i'))
 | [],_,s=>U (s,[])
 | o::r,i,s =>
  if !(lg s o.dst && Ym o)then O else
  match Qg ops s.t o with
  | some J=>Wa O (se E C ops B r (i+1) (s.put o.dst Qq s.h))
  | some Y=>match mB E C o s.t (mY s.h)with
   | some (v,h1) =>
    if uT E ops B i o s h1 then Wa (vz E s o h1) (se E C ops B r (i+1) (s.put o.dst v (xK s.h h1)))
    else O
   | none=>O
  | none=>O
def xE{P:Program}(E:f_ P)(C:h_)(ops:List Oper)(s:St):Option St :=
 match pf ops []with
 | some B=>if tZ ops ops B []then(match se E C ops B ops 0 s with
  | some (j,R)=>if Yb E R B R B 0 then U j else O
  | none=>O)else O
 | none=>O
def V5s{a b:Option Addr}(h:zL a b=Y):a=b:=by
 unfold zL at h;split at h
 ·rfl
 ·rename_i a b;obtain⟨b1,o1,s1⟩:=a;obtain⟨b2,o2,s2⟩:=b;simp only[ax]at h;obtain⟨⟨h1,j⟩,h3⟩:=h;have e1:=cF h1;have e2:=cF j
  grind
 ·cases h
def U0e{a b:Int}(h:EV a b=Y):a=b:=by
 unfold EV at h;split at h
 ·simp_all
 ·simp_all
 ·cases h
def Vq5:∀ {a b:List UInt8},Ce a b=Y->a=b
 | [],[],_=>rfl
 | a::l,b::r,h=>by
  simp only[Ce,ax]at h;rw[UInt8.toNat_inj.1 (cF h.1),Vq5 h.2]
 | [],_::_,h=>by simp[Ce]at h
 | _::_,[],h=>by simp[Ce]at h
def Ucx{a b:V}(h:xZ a b=Y):a=b:=by
 unfold xZ at h;split at h
 ·grind
 ·simp only[ax,decide_eq_true_eq]at h;rw[h.1,U0e h.2]
 next a b=>have:=Vq5 h;cases a;simp_all
 ·rw[V5s h]
 ·simp only[ax]at h;rw[V5s h.1.1,cF h.1.2,cF h.2]
 ·rfl
 ·simp_all
 ·rfl
 ·rfl
 ·cases h
def Una:∀ {a b:List V},Ah a b=Y->a=b
 | [],[],_=>rfl
 | a::l,b::r,h=>by
  simp only[Ah,ax]at h;rw[Ucx h.1,Una h.2]
 | [],_::_,h=>by simp[Ah]at h
 | _::_,[],h=>by simp[Ah]at h
def Unu{a b:V}(h:x5 a b=Y):a=b:=by
 unfold x5 at h;split at h
 ·rw[dj (Una h)]
 ·exact Ucx h
def V9c:∀ {a b:List V},CH a b=Y->a=b
 | [],[],_=>rfl
 | a::l,b::r,h=>by
  simp only[CH,ax]at h;rw[Unu h.1,V9c h.2]
 | [],_::_,h=>by simp[CH]at h
 | _::_,[],h=>by simp[CH]at h
def Uyl{a b:Option V}(h:sP a b=Y):a=b:=by
 unfold sP at h;split at h
 ·rfl
 ·rw[dj (V9c h)]
 ·rw[Unu h]
 ·cases h
def Nn{x:Nat}:∀ {l:List Nat},CV x l=Y↔x ∈ l
 | []=>by simp[CV]
 | y::l=>by simp[CV,Nn (l:=l)]
def Vpu{B:List Nat}:∀ {es:List Edge} {s:Nat},Bn B es=U s->∀ e ∈ es,Region.binds .any e=Y->∃ b,B[e.on]? = U b
 | [],_,_,e,j,_=>by simp at j
 | e0::r,s,h,e,j,hb=>by
  simp only[Bn]at h;split at h
  ·cases h
  ·rename_i s0 hc;rcases ar.1 j with rfl | j
   ·rw[if_pos hb]at h;rw[sQ]at h
    grind
   ·exact Vpu hc e j hb
def Vpp{B:List Nat}:∀ {es:List Edge} {s:Nat},Bn B es=U s->∀ i,s.testBit i=Y->∃ e ∈ es,Region.binds .any e=Y/\(i=e.on ∨ ∃ b,B[e.on]? = U b/\b.testBit i=Y)
 | [],s,h,i,hi=>by simp[Bn]at h;grind
 | e0::r,s,h,i,hi=>by
  simp only[Bn]at h;split at h
  ·cases h
  ·rename_i s0 j;have ih:=Vpp j i;split at h
   ·rename_i hb;rw[sQ]at h
    grind
   grind
structure sH (ops:List Oper) (B:List Nat):Prop where
 len:L B=L ops
 on:∀ (j:Nat) (o:Oper),ops[j]? = U o->∀ e ∈ o.after.toList,Region.binds .any e=Y->e.on < j
 bits:∀ (j:Nat) (o:Oper) (b:Nat),ops[j]? = U o->B[j]? = U b->∀ i,b.testBit i=Y->∃ e ∈ o.after.toList,Region.binds .any e=Y/\(i=e.on ∨ ∃ b',B[e.on]? = U b'/\b'.testBit i=Y)
def RI:∀ (r past:List Oper) (B0 B:List Nat),pf r B0=U B->sH past B0->sH (past++r) B
 | [],past,B0,B,h,hp=>by simp only[pf,aU]at h;grind
 | o::r,past,B0,B,h,hp=>by
  simp only[pf]at h;split at h
  ·rename_i b hb;have:=RI r (past ++ [o]) (B0 ++ [b]) B h ⟨by simp[hp.len],?_,?_⟩
   ·grind
   ·intro j oj hj e he hr;by_cases hc:j < L past
    ·rw[aN hc]at hj;exact hp.on j oj hj e he hr
    ·have hl:j=L past:=by
      grind
     subst hl;simp at hj;subst hj;obtain⟨b',hA⟩:=Vpu hb e he hr;have : e.on < L B0:=by
      grind
     rw[hp.len]at this;exact this
   ·intro j oj bj hj hx i hi;by_cases hc:j < L past
    ·rw[aN hc]at hj;rw[aN (by rw[hp.len];exact hc)]at hx;obtain⟨e,h1,h2,h3⟩:=hp.bits j oj bj hj hx i hi
     grind
    ·have hl:j=L past:=by
      grind
     subst hl;simp at hj;subst hj;have hk:bj=b:=by
      rw[<- hp.len]at hx;grind
     subst hk;obtain⟨e,h1,h2,h3⟩:=Vpp hb i hi
     grind
  ·cases h
def Vqj{ops:List Oper}{b:Nat}{oj:Oper}:∀ {l:List Oper} {i:Nat},IN ops b oj l i=Y->∀ (k:Nat) (o:Oper),l[k]? = U o->b.testBit (i+k)=Y∨AM ops o oj=Y
 | [],_,_,k,o,j=>by simp at j
 | o0::r,i,h,k,o,j=>by
  simp only[IN,ax,cj]at h;cases k with
  | zero=>grind
  | succ k =>
   simp at j;have:=Vqj h.2 k o j
   grind
def LS{ops:List Oper}:∀ {r:List Oper} {B:List Nat} {past:List Oper},tZ ops r B past=Y ->
  ∀ (k:Nat) (o:Oper) (b:Nat),r[k]? = U o->B[k]? = U b->∀ (i:Nat) (oi:Oper),i < L past+k->(past++r)[i]? = U oi->b.testBit i=Y∨AM ops oi o=Y
 | [],B,past,_,k,o,b,j,_,_,_,_,_=>by simp at j
 | o0::r,[],past,h,_,_,_,_,_,_,_,_,_=>by grind
 | o0::r,b0::B,past,h,k,o,b,j,hb,i,oi,hi,hc=>by
  simp only[tZ,ax]at h;cases k with
  | zero =>
   simp at j hb;subst j;subst hb;simp only[bR]at hi;rw[aN hi]at hc;have:=Vqj h.1 i oi hc
   grind
  | succ k =>
   simp at j hb;refine LS h.2 k o b j hb i oi (by simp;omega) ?_
   grind
def Jgd{P:Program}{E:f_ P}{j bj:Nat}:∀ {l:List Oper} {B:List Nat} {i:Nat},Vm E j bj l B i=Y->∀ (k:Nat) (o:Oper) (b:Nat),l[k]? = U o->B[k]? = U b ->
  Yk E o=Y∨Yh o=Y∨i+k=j∨(i+k < j/\bj.testBit (i+k)=Y)∨(j < i+k/\b.testBit j=Y)
 | [],_,_,_,k,o,_,ho,_=>by simp at ho
 | _::_,[],_,_,k,_,_,_,hb=>by simp at hb
 | o0::r,b0::B,i,h,k,o,b,ho,hb=>by
  simp only[Vm,ax,cj]at h;cases k with
  | zero =>
   grind
  | succ k =>
   simp at ho hb;have:=Jgd h.2 k o b ho hb
   grind
def TS{P:Program}{E:f_ P}{i bi:Nat}{h0 h1:N}:∀ {R:List (Option i')} {Bs:List Nat} {j:Nat},Y0 E i bi h0 h1 R Bs j=Y->∀ (k:Nat) (t:Tm) (o:Oper) (bk:Nat),R[k]? = U (U (.ld t o))->Bs[k]? = U bk ->
  ku E t o h1=ku E t o h0∨(j+k < i/\bi.testBit (j+k)=Y)∨(i<=j+k/\bk.testBit i=Y)
 | [],_,_,_,k,t,o,bk,hr,_=>by simp at hr
 | r::R,[],_,_,k,t,o,bk,_,hb=>by simp at hb
 | r::R,b::Bs,j,h,k,t,o,bk,hr,hb=>by
  cases k with
  | zero =>
   simp only[gh,aU]at hr hb;subst hr;subst hb;simp only[Y0,ax,cj]at h;rcases h.1 with h2 | h2
   ·grind
   ·exact .inl (Uyl h2)
  | succ k =>
   have hc:Y0 E i bi h0 h1 R Bs (j+1)=Y:=by
    unfold Y0 at h
    grind
   have:=TS hc k t o bk (by grind) (by grind)
   grind
def Jf8{P:Program}{E:f_ P}{R0:List (Option i')}{B0:List Nat}:∀ {R:List (Option i')} {Bs:List Nat} {i0:Nat},Yb E R0 B0 R Bs i0=Y->∀ (i:Nat) (h0 h1:N) (bi:Nat),R[i]? = U (U (.wr h0 h1))->Bs[i]? = U bi->Y0 E (i0+i) bi h0 h1 R0 B0 0=Y
 | [],_,_,_,i,h0,h1,bi,hr,_=>by simp at hr
 | r::R,[],_,_,i,h0,h1,bi,_,hb=>by simp at hb
 | r::R,b::Bs,i0,h,i,h0,h1,bi,hr,hb=>by
  cases i with
  | zero =>
   simp only[gh,aU]at hr hb;subst hr;subst hb;simp only[Yb,ax]at h;exact h.1
  | succ i =>
   have j:Yb E R0 B0 R Bs (i0+1)=Y:=by
    unfold Yb at h
    grind
   have:=Jf8 j i h0 h1 bi (by grind) (by grind)
   grind
mutual
def mF{D E:Nat->Prop}:(v:V)->d_ D v->d_ E v->d_ (fun b=>D b/\E b) v
 | .pointer (U a),h,k=>by simp only[d_]at h k ⊢;grind
 | .pointer O,_,_=>by simp[d_]
 | M (U a) _ _,h,k=>by simp only[d_]at h k ⊢;grind
 | M O _ _,h,_=>by simpa only[d_]using h
 | .map (U r),h,k=>by simp only[d_]at h k ⊢;grind
 | .map O,_,_=>by simp[d_]
 | .chan (U _),h,_=>by simp[d_]at h
 | .chan O,_,_=>by simp[d_]
 | .func fn f c,h,k=>by
  cases fn <;> simp only[d_]at h k ⊢ <;>
   first
    | exact⟨mG f h.1 k.1,mG c h.2 k.2⟩
    | exact⟨⟨h.1,k.1⟩,mG f h.2.1 k.2.1,mG c h.2.2 k.2.2⟩
 | .iface _ v,h,k=>by simp only[d_]at h k ⊢;exact mF v h k
 | .agg cs,h,k=>by simp only[d_]at h k ⊢;exact⟨mG cs h.1 k.1,h.2⟩
 | .tuple cs,h,k=>by simp only[d_]at h k ⊢;exact mG cs h k
 | .bool _,_,_=>by simp[d_]
 | .int _ _,_,_=>by simp[d_]
 | .float _ _,_,_=>by simp[d_]
 | .complex _ _ _,_,_=>by simp[d_]
 | .string _,_,_=>by simp[d_]
 | .nilFunc,_,_=>by simp[d_]
 | .nilIface,_,_=>by simp[d_]
def mG{D E:Nat->Prop}:(v:Array V)->mH D v->mH E v->mH (fun b=>D b/\E b) v
 | ⟨l⟩,h,k=>by simp only[mH]at h k ⊢;exact ug l h k
def ug{D E:Nat->Prop}:(v:List V)->nr D v->nr E v->nr (fun b=>D b/\E b) v
 | [],_,_=>by simp[nr]
 | v::l,h,k=>by simp only[nr]at h k ⊢;exact⟨mF v h.1 k.1,ug l h.2 k.2⟩
end
def U6d{D E:Nat->Prop}{x:Blk}(h:okB D x)(k:okB E x):okB (fun b=>D b/\E b) x:=by
 cases x with
 | cells o z c=>exact fun v hv=>⟨mF v (h v hv).1 (k v hv).1,(h v hv).2⟩
 | map es c=>exact fun e j=>⟨(h e j).1,mF _ (h e j).2 (k e j).2⟩
 | obj o =>
  cases o with
  | loop st hx t ps as bd d=>exact⟨fun i v hv=>mF v (h.1 i v hv) (k.1 i v hv),h.2,k.2⟩
  | defs=>trivial
  | strIter b n=>trivial
  | mapIter m hc seen last=>exact fun b hb=>⟨h b hb,k b hb⟩
  | any=>trivial
def mC.keepD{M_ β:Ren}{p:Place}{w w':World}{x:Blk}{D:Nat->Prop}(hf:mC M_ p w x)(hx:Go.Ab.okB D x)(h:∀ b,D b->β b=M_ b)(hD:∀ b,D b->dom M_ b)(hw:w'.heap[p.blk]? = w.heap[p.blk]?):mC β p w' x:=by
 have hd:∀ b,D b->dom β b:=fun b hb=>by grind
 cases x with
 | cells own sz c =>
  obtain⟨hk,hf⟩:=hf;rcases hf with hf | ⟨C,e,lo,hi,h1,j,h3⟩
  ·exact⟨hk,.inl hf⟩
  refine⟨hk,.inr ⟨C,e,lo,hi,by rw[hw,h1],fun i v hv => ?_,h3⟩⟩;have hl:=(hx v (ae hv)).1;obtain⟨a1,_,a3⟩:=j i v hv;exact⟨by rw[a1,iB h v hl],iq hd v hl,a3⟩
 | map es clk =>
  obtain⟨h0,h1,j⟩:=hf;refine⟨h0,?_,fun e he=>⟨(j e he).1,iq hd _ (hx e he).2⟩⟩;rw[hw,h1];congr 2;apply dM;intro e he;exact(R_ h (j e he).1 (hx e he).2).symm
 | obj o =>
  obtain⟨h0,o',h1,j⟩:=hf;refine⟨h0,o',by rw[hw,h1],?_⟩;cases o with
  | loop st hp t ps as bd d =>
   obtain⟨h3,fn,hc,h4,h5⟩:=j;exact⟨hd d hx.2,fn,hc,by rw[h4,tU (h d hx.2)],h5.size,fun i v hv=>⟨iq hd v (hx.1 i v hv),by rw[(h5.vals i v hv).2,iB h v (hx.1 i v hv)]⟩⟩
  | defs=>exact j
  | strIter b n=>exact j
  | mapIter m hr seen last =>
   obtain⟨h3,h4⟩:=j;refine⟨fun b hb=>hd b (hx b hb),?_⟩;rw[h4];cases m with
   | none=>rfl
   | some b=>simp only[aQ,tU (h b (hx b rfl))]
  | any=>trivial
def Ren.below(M_:Ren)(n:Nat):Ren:=fun b=>if b < n then M_ b else O
section
variable{P:Program}{G:Bs}{M_:Ren}{h:N}{w:World}
def c_.restrict(H:c_ G M_ h w){h':N}(hn:G.n<=h'.Q)(hg:∀ b,Go.Ab.dom M_ b->b < h'.Q->h'.A b=h.A b)(hA:∀ b x,h'.A b=U x->okB (fun c=>c < h'.Q) x):c_ G (Ren.below M_ h'.Q) h' w:=by
 have hb:∀ b p,Ren.below M_ h'.Q b=U p->b < h'.Q/\M_ b=U p:=by
  intro b p j;unfold Ren.below at j
  grind
 refine⟨fun b p j=>⟨(hb b p j).1,(H.dom b p (hb b p j).2).2⟩,fun b p x j hx => ?_,fun b c p q j hq hy ho hl => ?_,fun g hk => ?_,hn,hA,fun b p x j hx => ?_,H.bsz⟩
 ·obtain⟨h1,h2⟩:=hb b p j;have hB:h.A b=U x:=by grind
  have hf:=H.fits b p x h2 hB;refine hf.keepD (U6d hf.okB (hA b x hx)) (fun c hc => ?_) (fun c hc=>hc.1) rfl;unfold Ren.below;grind
 ·obtain⟨h1,h2⟩:=hb b p j;obtain⟨h3,h4⟩:=hb c q hq;exact H.apart b c p q h2 h4 hy (by rw[<- uM (hg b (yL h2) h1)];exact ho) (by rw[<- RZ (hg c (yL h4) h3)];exact hl)
 ·have hr:g < h'.Q:=iA
  refine⟨by unfold Ren.below;rw[if_pos hr];exact(H.glob g hk).1,?_⟩;rw[uM (hg g (yL (H.glob g hk).1) hr)];exact(H.glob g hk).2
 ·obtain⟨h1,h2⟩:=hb b p j;exact H.base b p x h2 (by grind)
def V8y(E:f_ P){C:h_}(hC:iK P E.G C){o:Oper}{t:Tm}{a:Act}{v:V}{h1:N}(hs:mB E C o t h=U (v,h1))(H:c_ E.G M_ h w)(ht:je M_ t a.tmps) :
  ∃ M' w',iZ h.Q M_ M'/\c_ E.G M' h1 w'/\d_ (dom M') v:=by
 unfold mB at hs;split at hs
 ·rename_i hr;cases hs;obtain⟨M',w',r1,r2,r3,r4,r5⟩:=sR E H ht hr
  grind
 next hr=>cases hs;obtain⟨w',r1,r2,r3⟩:=sR E H ht hr;exact⟨M_,w',iZ.refl _ _,r2,by simp[Qq,d_,mH,nr]⟩
 ·rename_i f args h0 hr;obtain⟨rfl,r1,r2⟩:=sR E H ht hr;split at hs
  next v' h' hc=>cases hs;obtain⟨e,w',fr,⟨M',r,h2,⟨rfl,rfl⟩,_,q1,q2,q3,q4⟩,_⟩:=(hC.fn _ _ _ _ _ hc M_ w H r2).2 [] (room_wide _);exact⟨M',w',q2,q4,q1⟩
  ·cases hs
 ·rename_i l args h0 hr;obtain⟨rfl,k1,r2,st,hx,t',ps,as,bd,d,k2,fn,tmps,k3,r1⟩:=sR E H ht hr;split at hs
  next v' h' hc=>cases hs;obtain⟨_,j⟩:=hC.rnd _ _ _ _ _ hc M_ w M_ O st hx t' ps as bd d fn tmps H k1 r2 k2 k3;obtain⟨e,w',⟨M',r,h2,⟨rfl,rfl⟩,_,q1,q2,q3,q4⟩,_⟩:=j default [] (room_wide _);exact⟨M',w',q2,q4,q1⟩
  ·cases hs
 ·cases hs
end
def IM{P:Program}(E:f_ P)(C:h_)(ops:List Oper)(B:List Nat)(i:Nat)(o:Oper)(s j:St):Prop :=
 lg s o.dst=Y/\Ym o=Y/\((Qg ops s.t o=U J/\j=s.put o.dst Qq s.h) ∨
  (Qg ops s.t o=U Y/\∃ v h1,mB E C o s.t (mY s.h)=U (v,h1)/\j=s.put o.dst v (xK s.h h1)/\uT E ops B i o s h1=Y))
def Sg{x:Option i'}{r:Option (St × List (Option i'))}{s:St}{R:List (Option i')}(h:Wa x r=U (s,R)):∃ j,r=U (s,j)/\R=x::j:=by
 unfold Wa at h
 grind
def Ig{P:Program}(E:f_ P)(C:h_)(ops:List Oper)(o:Oper)(s j:St)(x:Option i'):Prop :=
 (Qg ops s.t o=U J/\x=O)∨(Qg ops s.t o=U Y/\∃ v h1,mB E C o s.t (mY s.h)=U (v,h1)/\j=s.put o.dst v (xK s.h h1)/\x=vz E s o h1)
def Lk{P:Program}{E:f_ P}{C:h_}{ops:List Oper}{B:List Nat}:∀ (r:List Oper) (i:Nat) (s s1:St) (R:List (Option i')),se E C ops B r i s=U (s1,R) ->
  ∃ σ:Nat->St,σ i=s/\σ (i+L r)=s1/\(∀ k o,r[k]? = U o->IM E C ops B (i+k) o (σ (i+k)) (σ (i+k+1)))/\∀ k o,r[k]? = U o->∃ x,R[k]? = U x/\Ig E C ops o (σ (i+k)) (σ (i+k+1)) x
 | [],i,s,s1,R,h=>by
  simp only[se,aU,cN]at h;exact⟨fun _=>s,rfl,h.1,fun k o ho=>by simp at ho,fun k o ho=>by simp at ho⟩
 | o0::r,i,s,s1,R,h=>by
  have key:∀ s' x,IM E C ops B i o0 s s'->Ig E C ops o0 s s' x->Wa x (se E C ops B r (i+1) s')=U (s1,R) ->
    ∃ σ:Nat->St,σ i=s/\σ (i+L (o0::r))=s1/\(∀ k o,(o0::r)[k]? = U o->IM E C ops B (i+k) o (σ (i+k)) (σ (i+k+1)))/\∀ k o,(o0::r)[k]? = U o->∃ x,R[k]? = U x/\Ig E C ops o (σ (i+k)) (σ (i+k+1)) x:=by
   intro s' x hl hx hk;obtain⟨R',h2,rfl⟩:=Sg hk;obtain⟨σ,e1,e2,e3,e4⟩:=Lk r (i+1) s' s1 R' h2;refine⟨fun j=>if j=i then s else σ j,jA,?_,?_,?_⟩
   ·grind
   ·grind
   grind
  simp only[se]at h;split at h
  ·cases h
  ·rename_i hc;simp only[cx,ee,ax]at hc;split at h
   next hw=>exact key _ _ ⟨hc.1,hc.2,.inl ⟨hw,rfl⟩⟩ (.inl ⟨hw,rfl⟩) h
   ·rename_i hw;split at h
    ·rename_i v h1 hv;split at h
     next hq=>exact key _ _ ⟨hc.1,hc.2,.inr ⟨hw,v,h1,hv,rfl,hq⟩⟩ (.inr ⟨hw,v,h1,hv,rfl,rfl⟩) h
     ·cases h
    ·cases h
   ·cases h
structure iW {P:Program} (E:f_ P) (C:h_) (ops:Array Oper) (B:List Nat) (σ:Nat->St):Prop where
 bef:sH ops.toList B
 pairs:∀ (j i:Nat) (oj oi:Oper) (b:Nat),ops[j]? = U oj->ops[i]? = U oi->B[j]? = U b->i < j->b.testBit i=Y∨AM ops.toList oi oj=Y
 step:∀ (i:Nat) (o:Oper),ops[i]? = U o->IM E C ops.toList B i o (σ i) (σ (i+1))
 cross:∃ R:List (Option i'),Yb E R B R B 0=Y/\∀ (k:Nat) (o:Oper),ops[k]? = U o->∃ x,R[k]? = U x/\Ig E C ops.toList o (σ k) (σ (k+1)) x
section
variable{P:Program}{E:f_ P}{C:h_}{ops:Array Oper}{B:List Nat}{σ:Nat->St}
def rp(E:f_ P)(ops:Array Oper)(σ:Nat->St)(i:Nat):Prop:=∃ o,ops[i]? = U o/\(Yk E o=Y∨Qg ops.toList (σ i).t o=U J∨(loadAt E (σ i).t o).isSome=Y)
def qD(s:St)(d:Option Tmp)(v:V)(h:N):(s.put d v h).h=h:=by cases d <;> rfl
def U37(s:St)(d:Option Tmp)(v:V)(h:N):(s.put d v h).ds=s.ds:=by cases d <;> rfl
def Ums(s:St)(d:Option Tmp)(v:V)(h:N):(s.put d v h).t.size=s.t.size:=by cases d <;> rfl
def OC(s:St)(d:Option Tmp)(v:V)(h:N)(x:Nat)(j:d≠U x):(s.put d v h).t.t.A x=s.t.t.A x:=by
 cases d with
 | none=>rfl
 | some i =>
  simp only[St.put,Tm.put,Tr.H]
  grind
def LP(s:St)(i:Nat)(v:V)(h:N):(s.put (U i) v h).t.t.A i=U v:=by
 simp[St.put,Tm.put,Tr.H]
def V8v(h:N)(b:Nat):(mY h).A b=h.A b:=rfl
def Sm(h h1:N)(b:Nat):(xK h h1).A b=h1.A b:=rfl
def iW.next_le(c:iW E C ops B σ)(j:iL C){i:Nat}(hi:i < ops.size):(σ i).h.Q<=(σ (i+1)).h.Q:=by
 have ho:ops[i]? = U ops[i]:=by simp[hi]
 obtain⟨_,_,h⟩:=c.step i _ ho;rcases h with⟨_,h⟩ | ⟨_,v,h1,hv,h,_⟩
 ·rw[h,qD];omega
 ·rw[h,qD];exact(D_ j hv).Q
def iW.next_mono(c:iW E C ops B σ)(hL:iL C):∀ {i j:Nat},i<=j->j<=ops.size->(σ i).h.Q<=(σ j).h.Q:=by
 intro i j hc;induction hc with
 | refl=>omega
 | step h ih=>exact fun hj=>ao (ih iA) (c.next_le hL iA)
def iW.size(c:iW E C ops B σ):∀ {i:Nat},i<=ops.size->(σ i).t.size=(σ 0).t.size:=by
 intro i;induction i with
 | zero=>omega
 | succ i ih =>
  intro hi;have j:ops[i]? = U ops[i]:=jA
  obtain⟨_,_,h⟩:=c.step i _ j;rcases h with⟨_,h⟩ | ⟨_,v,h1,hv,h,_⟩
  ·rw[h,Ums];omega
  ·rw[h,Ums];omega
def iW.dss(c:iW E C ops B σ):∀ {i:Nat},i<=ops.size->(σ i).ds=(σ 0).ds:=by
 intro i;induction i with
 | zero=>simp
 | succ i ih =>
  intro hi;have j:ops[i]? = U ops[i]:=jA
  obtain⟨_,_,h⟩:=c.step i _ j;rcases h with⟨_,h⟩ | ⟨_,v,h1,hv,h,_⟩
  ·rw[h,U37];grind
  ·rw[h,U37];grind
def iW.free(c:iW E C ops B σ){i:Nat}(j:rp E ops σ i):(σ (i+1)).h.Q=(σ i).h.Q/\∀ b,(σ (i+1)).h.A b=(σ i).h.A b:=by
 obtain⟨o,ho,j⟩:=j;obtain⟨_,_,h⟩:=c.step i _ ho;rcases h with⟨_,h⟩ | ⟨hw,v,h1,hv,h,_⟩
 ·rw[h,qD];simp
 ·rcases j with j | j
  ·obtain⟨rfl,_⟩:=Va7 E C j hv (σ i).h;rw[h,qD];exact⟨rfl,fun _=>rfl⟩
  ·rcases j with j | j
   ·grind
   ·obtain⟨b,hb⟩:=bf.1 j;obtain⟨rfl,_⟩:=U74 hb hv;rw[h,qD];exact⟨rfl,fun _=>rfl⟩
def IP(σ:Nat->St)(i:Nat):Prop:=∀ b,b < (σ i).h.Q->(σ (i+1)).h.A b=(σ i).h.A b
def Wep(E:f_ P)(ops:Array Oper)(B:List Nat)(σ:Nat->St)(i:Nat):Prop:=∀ k,k < ops.size->¬ rp E ops σ k->k≠i->(k < i/\∃ b,B[i]? = U b/\b.testBit k=Y)∨(i < k/\∃ b,B[k]? = U b/\b.testBit i=Y)
def Wcy(E:f_ P)(ops:Array Oper)(B:List Nat)(σ:Nat->St)(i:Nat):Prop:=∀ k ok c,ops[k]? = U ok->Qg ops.toList (σ k).t ok=U Y->loadAt E (σ k).t ok=U c->c < (σ i).h.Q ->
 ku E (σ k).t ok (σ (i+1)).h=ku E (σ k).t ok (σ i).h∨(k < i/\∃ b,B[i]? = U b/\b.testBit k=Y)∨(i < k/\∃ b,B[k]? = U b/\b.testBit i=Y)
def TX{E:f_ P}{t:Tm}{o:Oper}{b:Nat}(h:loadAt E t o=U b):Yh o=Y:=by
 unfold loadAt at h;unfold Yh
 grind
def iW.kinds(c:iW E C ops B σ)(hL:iL C){i:Nat}(hi:i < ops.size):rp E ops σ i∨IP σ i∨(Wep E ops B σ i/\Wcy E ops B σ i):=by
 have ho:ops[i]? = U ops[i]:=by simp[hi]
 have hp:i < L B:=by rw[c.bef.len];omega
 obtain⟨_,_,h⟩:=c.step i _ ho;rcases h with⟨hw,h⟩ | ⟨hw,v,h1,hv,h,j⟩
 ·exact .inl ⟨_,ho,.inr (.inl hw)⟩
 ·unfold uT at j;rw[ax]at j;obtain⟨j,M'⟩:=j;simp only[cj,cR]at j;rcases j with((j | j) | j) | j
  ·exact .inl ⟨_,ho,.inl j⟩
  ·refine .inr (.inl fun b hb => ?_);rw[h,qD,Sm];have:=(D_ hL hv).same b hb (aq hb j);rw[this,V8v]
  ·exact .inl ⟨_,ho,.inr (.inr (Udt j M'))⟩
  ·by_cases a1:(loadAt E (σ i).t ops[i]).isSome=Y
   ·exact .inl ⟨_,ho,.inr (.inr a1)⟩
   by_cases e2:Yk E ops[i]=Y
   ·exact .inl ⟨_,ho,.inl e2⟩
   by_cases q2:(σ i).h.Q<=h1.low
   ·refine .inr (.inl fun b hb => ?_);rw[h,qD,Sm];have:=(D_ hL hv).same b hb (aq hb q2);rw[this,V8v]
   refine .inr (.inr ⟨fun k hk e1 g2 => ?_,fun k ok cc hy hf hl s1 => ?_⟩)
   ·have hy:ops.toList[k]? = U ops[k]:=(by simp[hk]);have hA:k < L B:=(by rw[c.bef.len];omega);have:=Jgd j k ops[k] B[k] hy (ac hA);simp only[bW]at this;rcases this with h0 | h0 | h0 | ⟨h0,h2⟩ | ⟨h0,h2⟩
    ·exact absurd ⟨_,by simp[hk],.inl h0⟩ e1
    ·exfalso;have hc:ops[k]? = U ops[k]:=(by simp[hk]);obtain⟨_,_,hs⟩:=c.step k _ hc;rcases hs with⟨a2,_⟩ | ⟨_,v',hu,hr,_,hn⟩
     ·exact e1 ⟨_,hc,.inr (.inl a2)⟩
     ·unfold uT at hn;rw[ax]at hn;exact e1 ⟨_,hc,.inr (.inr (Udt h0 hn.2))⟩
    ·omega
    ·refine .inl ⟨h0,B[i],ac hp,?_⟩;simpa[ac hp,sQ]using h2
    grind
   ·obtain⟨R,hR,hx⟩:=c.cross;have hks:k < ops.size:=by
     grind
    have hA:k < L B:=(by rw[c.bef.len];omega);obtain⟨xi,g1,hz⟩:=hx i _ ho;have s':Yh ops[i]=J:=by
     grind
    have q1:xi=U (.wr (σ i).h h1):=by
     rcases hz with⟨a2,_⟩ | ⟨_,v',hu,hr,_,rfl⟩
     ·grind
     ·rw[hv]at hr;cases hr;unfold vz;simp_all
    obtain⟨xk,es,hg⟩:=hx k _ hy;have re:Yh ok=Y:=TX hl;have hB:xk=U (.ld (σ k).t ok):=by
     rcases hg with⟨a2,_⟩ | ⟨_,v',hu,hr,_,rfl⟩
     ·grind
     ·unfold vz;grind
    subst hB;subst q1;have h3:=Jf8 hR i (σ i).h h1 B[i] g1 (ac hp);rw[bW]at h3;have h4:=TS h3 k (σ k).t ok B[k] es (ac hA);rw[bW]at h4;rcases h4 with h4 | ⟨h4,h5⟩ | ⟨h4,h5⟩
    ·left;rw[<- h4];exact Uyh (fun b=>by rw[h,qD,Sm])
    ·grind
    grind
def iW.still2(_:iW E C ops B σ){f:N->Option V}:∀ {i j:Nat},i<=j->(∀ k,i<=k->k < j->f (σ (k+1)).h=f (σ k).h)->f (σ j).h=f (σ i).h:=by
 intro i j hc;induction hc with
 | refl=>simp
 | step h ih =>
  grind
def iW.still(c:iW E C ops B σ)(hL:iL C):∀ {i j:Nat},i<=j->j<=ops.size->(∀ k,i<=k->k < j->rp E ops σ k∨IP σ k)->∀ b,b < (σ i).h.Q->(σ j).h.A b=(σ i).h.A b:=by
 intro i j hc;induction hc with
 | refl=>simp
 | step h ih =>
  rename_i j;intro hj hk b hb;have hc:i<=j:=h;rw[<- ih iA (fun k h1 h2=>hk k h1 iA) b hb];rcases hk j hc (bY _)with h1 | h1
  ·exact(c.free h1).2 b
  ·exact h1 b (aq hb (c.next_mono hL hc iA))
def iW.wf(c:iW E C ops B σ)(hC:iK P E.G C){M_:Ren}{tmps:Array V}{w:World}(H:c_ E.G M_ (σ 0).h w)(ht:je M_ (σ 0).t tmps) :
  ∀ i,i<=ops.size->∃ M' w' hc,c_ E.G M' (σ i).h w'/\je M' (σ i).t hc:=by
 intro i;induction i with
 | zero=>grind
 | succ i ih =>
  intro hi;obtain⟨M1,w1,t1,H1,T1⟩:=ih iA;have ho:ops[i]? = U ops[i]:=jA
  obtain⟨hd,_,h⟩:=c.step i _ ho;have j:∀ (M2:Ren) (v:V) (h2:N),je M2 (σ i).t t1->d_ (dom M2) v->∃ t2,je M2 ((σ i).put (ops[i]).dst v h2).t t2:=by
   intro M2 v h2 hT hv;cases hk:(ops[i]).dst with
   | none=>exact⟨t1,hT⟩
   | some d =>
    rw[hk]at hd;simp only[lg,dU]at hd;exact⟨_,hT.put hd hv⟩
  rcases h with⟨_,h⟩ | ⟨_,v,h1,hv,h,_⟩
  ·obtain⟨t2,T2⟩:=j M1 Qq (σ i).h T1 (by simp[Qq,d_,mH,nr]);exact⟨M1,w1,t2,by rw[h,qD];exact H1,by grind⟩
  ·have hx:c_ E.G M1 (mY (σ i).h) w1:=H1.congr (h':=mY (σ i).h) H1.globs (fun b hb=>np H1 hb) (fun _ _=>rfl) H1.wf;obtain⟨M2,w2,e2,H2,v2⟩:=V8y E hC (a:=⟨t1,[]⟩) hv hx T1;obtain⟨t2,T2⟩:=j M2 v (xK (σ i).h h1) (T1.ext H1 e2) v2;refine⟨M2,w2,t2,?_,by grind⟩;rw[h,qD];exact H2.congr (h':=xK (σ i).h h1) H2.globs (fun b hb=>np H2 hb) (fun _ _=>rfl) H2.wf
end
section
variable{P:Program}{E:f_ P}{C:h_}{ops:Array Oper}{B:List Nat}{σ:Nat->St}
abbrev jN(listed:Array Bool)(j:Nat):Prop:=listed.getD j J=Y
structure Inv (E:f_ P) (ops:Array Oper) (B:List Nat) (σ:Nat->St) (M0:Ren) (w0:World) (listed:Array Bool) (M_:Ren) (a:Act) (w:World) (T:Tm) (p:Nat):Prop where
 down:∀ j o,ops[j]? = U o->jN listed j->∀ e ∈ o.after.toList,Region.binds .any e=Y->jN listed e.on
 small:∀ j,jN listed j->j < ops.size
 t:je M_ T a.tmps
 ts:T.size=(σ 0).t.size
 tv:∀ x i,i<=ops.size->(∀ j o,ops[j]? = U o->o.dst=U x->(jN listed j↔j < i))->T.t.A x=(σ i).t.t.A x
 ds:a.defers=(σ 0).ds.map (rn M_)
 okd:∀ d ∈ (σ 0).ds,uR (dom M_) d
 ple:p<=ops.size
 h:c_ E.G M_ (σ p).h w
 top:∀ j,jN listed j->¬ rp E ops σ j->j < p
 last:p=0 ∨ ∃ j,jN listed j/\¬ rp E ops σ j/\p=j+1
 dom:∀ b,dom M_ b->b < (σ 0).h.Q ∨ ∃ j,jN listed j/\(σ j).h.Q<=b/\b < (σ (j+1)).h.Q
 ext:iZ (σ 0).h.Q M0 M_
 turn:ig M0 (σ 0).h w0 M_ (σ p).h w
def Iv{listed:Array Bool}{i j:Nat}(hi:i < listed.size):jN (listed.setIfInBounds i Y) j↔j=i∨jN listed j:=by
 simp only[jN,cS,dO]
 grind
def zW(c:iW E C ops B σ){D:Nat->Prop}(hd:∀ j o,ops[j]? = U o->D j->∀ e ∈ o.after.toList,Region.binds .any e=Y->D e.on) :
  ∀ j b i,D j->B[j]? = U b->b.testBit i=Y->D i:=by
 intro j;induction j using Nat.strongRecOn with
 | _ j ih =>
  intro b i hj hb hi;have hx:j < ops.size:=by
   rcases cf j (L B) with h | h
   ·rw[c.bef.len]at h;omega
   grind
  have ho:ops[j]? = U ops[j]:=by simp[hx]
  have h2:ops.toList[j]? = U ops[j]:=by simp[hx]
  obtain⟨e,he,hc,h⟩:=c.bef.bits j _ b h2 hb i hi;have h1:=hd j _ ho hj e he hc;rcases h with rfl | ⟨b',hk,hl⟩
  ·exact h1
  ·exact ih e.on (c.bef.on j _ h2 e he hc) b' i h1 hk hl
def En(c:iW E C ops B σ){D:Nat->Prop}(hd:∀ j o,ops[j]? = U o->D j->∀ e ∈ o.after.toList,Region.binds .any e=Y->D e.on){i:Nat}{o:Oper}(ho:ops[i]? = U o)
  (hr:∀ e ∈ o.after.toList,Region.binds .any e=Y->D e.on) {b:Nat} (hb:B[i]? = U b) {k:Nat} (hk:b.testBit k=Y):D k:=by
 obtain⟨e,he,hx,h⟩:=c.bef.bits i _ b (by simpa using ho) hb k hk;rcases h with rfl | ⟨b',hc,h2⟩
 ·grind
 ·exact zW c hd e.on b' k (hr e he hx) hc h2
def Cz(c:iW E C ops B σ){i:Nat}(hi:i < ops.size):∃ b,B[i]? = U b:=by
 have : i < L B:=by rw[c.bef.len];omega
 simp_all
def Ues{ops:List Oper}{x y:Oper}(h:AM ops x y=Y){d:Nat}(hx:x.dst=U d):d ∉ looks ops y/\y.dst≠U d:=by
 simp only[AM,hx,ax,cx]at h;refine⟨fun j=>by rw[Nn.2 j]at h;simp at h,fun hy => ?_⟩
 grind
def tC {ops:List Oper}{x y:Oper}(h:AM ops x y=Y){d:Nat}(hy:y.dst=U d):d ∉ looks ops x:=by
 simp only[AM,ax,hy,cx]at h;intro j;have:=h.2;rw[Nn.2 j]at this;grind
def Inv.looks(c:iW E C ops B σ){M0 M_:Ren}{w0 w:World}{listed:Array Bool}{a:Act}{T:Tm}{p:Nat}(I_:Inv E ops B σ M0 w0 listed M_ a w T p){i:Nat}{o:Oper}(ho:ops[i]? = U o)(h3:¬ jN listed i)
  (hr:∀ e ∈ o.after.toList,Region.binds .any e=Y->jN listed e.on) (x:Nat) (hx:x ∈ Go.Ab.looks ops.toList o):T.t.A x=(σ i).t.t.A x:=by
 have hi:i < ops.size:=by
  grind
 obtain⟨bi,hc⟩:=Cz c hi;refine I_.tv x i iA fun j oj hl hk=>⟨fun hj => ?_,fun hj => ?_⟩
 ·rcases Nat.lt_trichotomy j i with h | h | h
  ·exact h
  ·grind
  ·have hb:j < ops.size:=I_.small j hj;obtain⟨bj,h2⟩:=Cz c hb;rcases c.pairs j i oj o bj hl ho h2 h with h1 | h1
   ·exact absurd (zW c I_.down j bj i hj h2 h1) h3
   ·exact absurd hx (tC h1 hk)
 ·rcases c.pairs i j o oj bi ho hl hc hj with h1 | h1
  ·exact En c I_.down ho hr hc h1
  ·exact absurd hx (Ues h1 hk).1
def V4p{ops:List Oper}{o:Oper}{G:Bs}{t t':Tm}(h:∀ x ∈ looks ops o,t.t.A x=t'.t.A x):(∀ x ∈ o.op.operands,iH G t x=iH G t' x)/\Qg ops t o=Qg ops t' o:=by
 constructor
 ·intro x hx;cases x with
  | tmp i =>
   simp only[iH];refine h i ?_;simp only[looks,ah,bO];exact .inl ⟨.tmp i,by grind,rfl⟩
  | _=>rfl
 ·unfold Qg;split
  ·rfl
  ·rename_i j h2 hg;split
   ·rfl
   ·rename_i oj hc;split
    ·rfl
    next d hd=>rw[h d];simp only[looks,hg,hc,hd,ah];simp
def Inv.tmps(c:iW E C ops B σ){M0 M_:Ren}{w0 w:World}{listed:Array Bool}{a:Act}{T:Tm}{p:Nat}(I_:Inv E ops B σ M0 w0 listed M_ a w T p){i:Nat}{o:Oper}(ho:ops[i]? = U o)(h4:¬ jN listed i)(e2:listed.size=ops.size)
  {v:V} {h1:N} (hu:σ (i+1)=(σ i).put o.dst v h1) :
  ∀ x k,k<=ops.size->(∀ j o',ops[j]? = U o'->o'.dst=U x->(jN (listed.setIfInBounds i Y) j↔j < k))->(match o.dst with | some d=>(T.put d v).t | none=>T.t).A x=(σ k).t.t.A x:=by
 intro x k hk hr;have hi:i < ops.size:=by
  grind
 have hc:∀ j,jN (listed.setIfInBounds i Y) j↔j=i∨jN listed j:=fun j=>Iv iA;by_cases hx:o.dst=U x
 ·have hn:i < k:=(hr i o ho hx).1 ((hc i).2 (.inl rfl));rw[hx];simp only[Tm.put,Tr.H,if_true];have hl:∀ k',i < k'->k'<=k->(σ k').t.t.A x=(σ (i+1)).t.t.A x:=by
   intro k' h1 h2;induction k' with
   | zero=>omega
   | succ k' ih =>
    by_cases he:k'=i
    ·grind
    ·have hB:k' < ops.size:=iA;have hp:ops[k']? = U ops[k']:=(by simp[hB]);have a2:(ops[k']).dst≠U x:=by
      intro hd;have hy:=(hr k' _ hp hd).2 iA;rcases(hc k').1 hy with h | h
      ·exact he h
      ·obtain⟨b,hb⟩:=Cz c hB;rcases c.pairs k' i _ o b hp ho hb iA with h3 | h3
       ·exact h4 (zW c I_.down k' b i h hb h3)
       ·exact(Ues h3 hx).2 hd
     obtain⟨_,_,h⟩:=c.step k' _ hp;have e1:(σ (k'+1)).t.t.A x=(σ k').t.t.A x:=by
      rcases h with⟨_,h⟩ | ⟨_,v',h',_,h,_⟩ <;> (rw[h];exact OC _ _ _ _ _ a2)
     grind
  rw[hl k hn (ai _),hu,hx,LP]
 ·have hA:∀ j o',ops[j]? = U o'->o'.dst=U x->(jN listed j↔j < k):=by
   grind
  have:=I_.tv x k hk hA;cases hy:o.dst with
  | none=>exact this
  | some d =>
   simp only[Tm.put,Tr.H]
   grind
end
def Tm.at? (t:Tm)(d:Option Tmp)(v:V):Tm:=match d with | some d=>t.put d v | none=>t
def Tm.only(t:Tm):List Nat->Tr V
 | [] => .leaf
 | x::l=>(Tm.only t l).put x (t.t.A x)
def i7(t:Tm):∀ (l:List Nat) (x:Nat),(t.only l).A x=if x ∈ l then t.t.A x else O
 | [],x=>by simp[Tm.only]
 | y::l,x=>by
  simp only[Tm.only,Tr.H,i7 t l x,ar]
  grind
def je.congr{M_ β:Ren}{t:Tm}{tmps:Array V}(hd:∀ b,dom M_ b->β b=M_ b)(j:je M_ t tmps):je β t tmps :=
 ⟨j.size,fun i v hv=>by
  have:=j.vals i v hv;exact⟨iq (fun b hb=>by grind) v this.1,by rw[this.2,iB hd v this.1]⟩⟩
section
variable{P:Program}{E:f_ P}{C:h_}{ops:Array Oper}{B:List Nat}{σ:Nat->St}
variable{M0 M_:Ren}{w0 w:World}{listed:Array Bool}{a:Act}{T:Tm}{p:Nat}
def zV{i:Nat}{o:Oper}(j:ops[i]? = U o):i < ops.size:=by
 grind
def Nt(c:iW E C ops B σ)(I_:Inv E ops B σ M0 w0 listed M_ a w T p){i:Nat}{o:Oper}(ho:ops[i]? = U o)(hn:¬ jN listed i)
  (hr:∀ e ∈ o.after.toList,Region.binds .any e=Y->jN listed e.on) (hq:listed.size=ops.size)
  {v:V} {h1:N} (e2:σ (i+1)=(σ i).put o.dst v h1) (hx:lg (σ i) o.dst=Y)
  {M':Ren} {w':World} {p':Nat} (hM:∀ b,dom M_ b->M' b=M_ b) (hv:d_ (dom M') v) (H:c_ E.G M' (σ p').h w') (h4:p'<=ops.size) (hu:p<=p')
  (a1:¬ rp E ops σ i->i < p') (hl:p'=p∨(¬ rp E ops σ i/\p'=i+1))
  (hA:∀ b,dom M' b->dom M_ b∨((σ i).h.Q<=b/\b < (σ (i+1)).h.Q)) (hy:iZ (σ 0).h.Q M_ M') (hp:ig M0 (σ 0).h w0 M' (σ p').h w') :
  Inv E ops B σ M0 w0 (listed.setIfInBounds i Y) M' (a.put o.dst (b_ M' v)) w' (T.at? o.dst v) p':=by
 have hi:=zV ho;have hc:∀ j,jN (listed.setIfInBounds i Y) j↔j=i∨jN listed j:=fun j=>Iv iA;have v':=I_.tmps c ho hn hq e2;have e1:(a.put o.dst (b_ M' v)).defers=a.defers:=by cases o.dst <;> rfl
 refine⟨?_,?_,?_,?_,?_,?_,?_,h4,H,?_,?_,?_,?_,hp⟩
 ·intro j o' a2 hj e he hb;rw[hc]at hj ⊢;rcases hj with rfl | hj
  ·grind
  ·exact .inr (I_.down j o' a2 hj e he hb)
 ·grind
 ·have ht:=I_.t.congr hM;cases hd:o.dst with
  | none=>exact ht
  | some d =>
   rw[hd]at hx;simp only[lg,dU]at hx;exact ht.put (by rw[I_.ts,<- c.size (gw hi)];exact hx) hv
 ·cases hd:o.dst with
  | none=>exact I_.ts
  | some d=>exact I_.ts
 ·intro x k hk h;have:=v' x k hk h;cases hd:o.dst with
  | none=>simpa only[hd,Tm.at?]using this
  | some d=>simpa only[hd,Tm.at?]using this
 ·rw[e1,I_.ds];apply bK;intro d hd;exact(Ez hM (I_.okd d hd)).symm
 ·exact fun d hd=>Ev (fun b hb=>by grind) (I_.okd d hd)
 ·intro j hj hB;rcases(hc j).1 hj with rfl | h
  ·grind
  ·exact aq (I_.top j h hB) hu
 ·rcases hl with rfl | ⟨h1,h2⟩
  ·rcases I_.last with h | ⟨j,h1,h2,h3⟩
   ·omega
   grind
  grind
 ·intro b hb;rcases hA b hb with h | h
  ·rcases I_.dom b h with h | ⟨j,h1,h2⟩
   ·exact .inl h
   ·exact .inr ⟨j,(hc j).2 (.inr h1),h2⟩
  ·exact .inr ⟨i,(hc i).2 (.inl rfl),h⟩
 ·intro b hb;rw[hy b hb,I_.ext b hb]
def Umk(c:iW E C ops B σ)(I_:Inv E ops B σ M0 w0 listed M_ a w T p){i:Nat}{o:Oper}(ho:ops[i]? = U o)(hc:¬ jN listed i)
  (hr:∀ e ∈ o.after.toList,Region.binds .any e=Y->jN listed e.on) (h2:listed.size=ops.size)
  {v:V} {h1:N} (hx:σ (i+1)=(σ i).put o.dst v h1) (j:lg (σ i) o.dst=Y) (hf:rp E ops σ i) (hv:d_ (dom M_) v)
  {w':World} (hw:c_ E.G M_ (σ p).h w') (ht:ig M_ (σ p).h w M_ (σ p).h w') :
  Inv E ops B σ M0 w0 (listed.setIfInBounds i Y) M_ (a.put o.dst (b_ M_ v)) w' (T.at? o.dst v) p :=
 Nt c I_ ho hc hr h2 hx j (fun _ _=>rfl) hv hw I_.ple (ai _) (fun h=>absurd hf h) (.inl rfl) (fun b hb => .inl hb) (iZ.refl _ _) (I_.turn.trans ht)
end
section
variable{P:Program}{E:f_ P}{C:h_}{ops:Array Oper}{B:List Nat}{σ:Nat->St}
variable{M0 M_:Ren}{w0 w:World}{listed:Array Bool}{a:Act}{T:Tm}{p:Nat}
def sJ(j M_:Ren)(n:Nat):Ren:=fun b=>if b < n then j b else M_ b
def Uve{j M_:Ren}{n m:Nat}(hc:n<=m)(h1:∀ b,b < n->j b=M_ b)(h2:∀ b,n<=b->b < m->M_ b=O):∀ b,dom M_ b->sJ j M_ m b=M_ b:=by
 intro b hb;unfold sJ
 grind
def U6l{G:Bs}{M_ M1:Ren}{h h0 h1:N}{w w':World}(H:c_ G M_ h w)(H1:c_ G M1 h1 w')(he:iZ h0.Q (Ren.below M_ h0.Q) M1)(ht:ig (Ren.below M_ h0.Q) h0 w M1 h1 w')
  (hn:h1.Q<=h.Q) (e2:∀ b,h0.Q<=b->b < h1.Q->M_ b=O) (hu:∀ b,b < h0.Q->h.A b=h0.A b) (e1:∀ b,b < h1.Q->h.A b=h1.A b) :
  c_ G (sJ M1 M_ h1.Q) h w'/\ig M_ h w (sJ M1 M_ h1.Q) h w':=by
 have a2:∀ b p,Ren.below M_ h0.Q b=U p->b < h0.Q/\M_ b=U p:=by
  intro b p hp;unfold Ren.below at hp
  grind
 have q2:∀ b,b < h0.Q->M1 b=M_ b:=by
  intro b hb;rw[he b hb];unfold Ren.below;grind
 have v':∀ b,dom M_ b->sJ M1 M_ h1.Q b=M_ b:=Uve ht.Q q2 e2;have M':∀ b,dom M1 b->sJ M1 M_ h1.Q b=M1 b:=by
  intro b hb;unfold sJ;rw[if_pos (np H1 hb)]
 have j:∀ b q,sJ M1 M_ h1.Q b=U q->(b < h1.Q/\M1 b=U q)∨(h1.Q<=b/\M_ b=U q):=by
  intro b q hq;unfold sJ at hq
  grind
 have hA:∀ b q,M1 b=U q->h1.own b=Y->w.heap.size<=q.blk ∨ ∃ c r,M_ c=U r/\h.own c=Y/\c < h0.Q/\r.blk=q.blk:=by
  intro b q hq ho;rcases ht.owns b q hq ho with h2 | ⟨c,r,hc,hB,hz⟩
  ·omega
  ·obtain⟨h3,h4⟩:=a2 c r hc;exact .inr ⟨c,r,h4,by rw[uM (hu c h3)];exact hB,h3,hz⟩
 constructor
 ·refine⟨?_,?_,?_,?_,H.globs,H.wf,?_,H1.bsz⟩
  ·intro b q hq;rcases j b q hq with⟨h2,h3⟩ | ⟨h2,h3⟩
   ·grind
   ·exact⟨(H.dom b q h3).1,trivial⟩
  ·intro b q x hq hx;rcases j b q hq with⟨h2,h3⟩ | ⟨h2,h3⟩
   ·exact(H1.fits b q x h3 (by grind)).keep M' rfl
   ·have hf:=H.fits b q x h3 hx;by_cases hs:x.solid=Y
    ·refine hf.keep v' (ht.same q.blk (H.blk_lt h3 hx hs) fun c r hc hB => ?_);obtain⟨h4,h5⟩:=a2 c r hc;have : h0.Q<=h1.Q:=ht.Q;exact H.apart c b r q h5 h3 iA (by rw[uM (hu c h4)];exact hB) (by rw[IC hx];exact hs)
    ·cases x with
     | cells o z cs =>
      cases o with
      | true=>exact absurd (i6 rfl) hs
      | false =>
       cases cs with
       | nil=>exact⟨hf.1,.inl ⟨rfl,rfl⟩⟩
       | cons _ _=>exact absurd rfl hs
     | map _ _=>exact absurd rfl hs
     | obj _=>exact absurd rfl hs
  ·intro b c q r hq hr a1 ho hl;rcases j b q hq with⟨h2,h3⟩ | ⟨h2,h3⟩ <;> rcases j c r hr with⟨h4,h5⟩ | ⟨h4,h5⟩
   ·exact H1.apart b c q r h3 h5 a1 (by rw[<- uM (e1 b h2)];exact ho) (by rw[<- RZ (e1 c h4)];exact hl)
   ·rcases hA b q h3 (by rw[<- uM (e1 b h2)];exact ho)with h6 | ⟨d,s,h6,h7,h8,h9⟩
    ·have:=H.blk_live h5 hl;omega
    ·rw[<- h9];have : h0.Q<=h1.Q:=ht.Q;exact H.apart d c s r h6 h5 iA h7 hl
   ·have es:=H.blk_own h3 ho;by_cases hB:h.own c=Y
    ·rcases hA c r h5 (by rw[<- uM (e1 c h4)];exact hB)with h6 | ⟨d,s,h6,h7,h8,h9⟩
     ·omega
     ·rw[<- h9];have : h0.Q<=h1.Q:=ht.Q;exact H.apart b d q s h3 h6 iA ho (NK h7)
    ·obtain⟨x,hx,g1⟩:=Iy ho;have h6:=((H.base b q x h3 hx).1 g1).1;cases hy:h.A c with
     | none=>simp[N.live,hy]at hl
     | some y =>
      have h7:y.own=J:=(by rw[wJ hy]at hB;grind);have h8:y.solid=Y:=(by rw[IC hy]at hl;exact hl);have:=(H1.base c r y h5 (by grind)).2 h7 h8 |>.1;omega
   ·exact H.apart b c q r h3 h5 a1 ho hl
  ·intro g hg;have s1:=H.glob g hg
   grind
  ·intro b q x hq hx;rcases j b q hq with⟨h2,h3⟩ | ⟨h2,h3⟩
   ·exact H1.base b q x h3 (by grind)
   ·exact H.base b q x h3 hx
 ·refine⟨ht.size,fun k hk q1 => ?_,fun b q hq ho => ?_,ht.tape,ht.os,ht.output,ht.drawn,ai _⟩
  ·refine ht.same k hk fun c r hc hB => ?_;obtain⟨h4,h5⟩:=a2 c r hc;exact q1 c r h5 (by rw[uM (hu c h4)];exact hB)
  ·rcases j b q hq with⟨h2,h3⟩ | ⟨h2,h3⟩
   ·rcases hA b q h3 (by rw[<- uM (e1 b h2)];exact ho)with h6 | ⟨d,s,h6,h7,_,h9⟩
    ·omega
    grind
   grind
end
section
variable{P:Program}{E:f_ P}{C:h_}{ops:Array Oper}{B:List Nat}{σ:Nat->St}
variable{M0 M_:Ren}{w0 w:World}{listed:Array Bool}{a:Act}{T:Tm}{p:Nat}
def Ulv{rd:Option Nat}{β:Ren}(c:iW E C ops B σ)(hC:iK P E.G C)(hL:iL C)(eB:∀ i,i<=ops.size->∃ M' w' t4,c_ E.G M' (σ i).h w'/\je M' (σ i).t t4)
  (I_:Inv E ops B σ M0 w0 listed M_ a w T p) {i:Nat} {o:Oper} (ho:ops[i]? = U o) (hq:¬ jN listed i)
  (hr:∀ e ∈ o.after.toList,Region.binds .any e=Y->jN listed e.on) (ht:listed.size=ops.size) {Q:Exit->Act->World->Prop} {K:Act->World->Prop}
  (hK:∀ M' a' w' T' p',Inv E ops B σ M0 w0 (listed.setIfInBounds i Y) M' a' w' T' p'->K a' w'):wpOpIn (mP rd β) 0 P ops Q i K a w:=by
 have hi:=zV ho;have v':=I_.looks c ho hq hr;obtain⟨a3,w1⟩:=V4p (ops:=ops.toList) (o:=o) (G:=E.G) v';obtain⟨a2,hz,hs⟩:=c.step i o ho;unfold wpOpIn;rw[ho];simp only;rcases hs with⟨hw,g1⟩ | ⟨hw,v,h1,hv,g1,_⟩
 ·rw[if_neg (by rw[xO (G:=E.G) I_.t (w1.trans hw)];simp)];refine⟨fun f _=>Ae rd β f,?_⟩;have:=Umk c I_ ho hq hr ht g1 a2 ⟨o,ho,.inr (.inl hw)⟩ (by simp[Qq,d_,mH,nr]) I_.h (ig.refl _ _ _);have e:b_ M_ Qq=undef:=by simp[Qq,undef]
  grind
 ·rw[if_pos (xO (G:=E.G) I_.t (w1.trans hw))];show o.wpIn (mP rd β) 0 P a w K Q;have hA:rp E ops σ i->mB E C o T (σ p).h=U (v,(σ p).h)->o.wpIn (mP rd β) 0 P a w K Q:=by
   intro s1 q1;refine Nj E hC hz q1 I_.h I_.t fun M' w' e1 e2 e3 e4 => ?_;have hM:M'=M_:=by
    funext b;rcases cf b (σ p).h.Q with h | h
    ·exact e1 b h
    ·have h2:M_ b=O:=by
      cases hb:M_ b with
      | none=>rfl
      | some q=>have:=(I_.h.dom b q hb).1;omega
     rw[h2];cases hb:M' b with
     | none=>rfl
     | some q=>have:=(e3.dom b q hb).1;omega
   subst hM;exact hK _ _ _ _ _ (Umk c I_ ho hq hr ht g1 a2 s1 e4 e3 e2)
  by_cases hf:Yk E o=Y
  ·obtain⟨he,q1⟩:=Va7 E C hf hv (σ p).h;rw[<- He E C o a3]at q1;exact hA ⟨o,ho,.inl hf⟩ q1
  by_cases r2:(loadAt E (σ i).t o).isSome=Y
  ·obtain⟨cc,hy⟩:=bf.1 r2;have c0:loadAt E T o=U cc:=by rw[Uas a3];exact hy
   have s2:dom M_ cc:=Vq1 rfl I_.h I_.t c0;obtain⟨Mi,wi,ti,Hi,Ti⟩:=eB i iA;have ha:cc < (σ i).h.Q:=np Hi (Vq1 rfl Hi Ti hy);have t9:cc < (σ p).h.Q:=np I_.h s2;have x1:ku E (σ i).t o (σ p).h=ku E (σ i).t o (σ i).h:=by
    rcases cf i p with hB | hB
    ·obtain⟨j,hj,eA,bx⟩:∃ j,jN listed j/\¬ rp E ops σ j/\p=j+1:=by
      rcases I_.last with h | h
      ·omega
      ·exact h
     have g2:=I_.small j hj;refine c.still2 (f:=fun h=>ku E (σ i).t o h) (gw hB) fun k s' q4 => ?_;have hks:k < ops.size:=iA;have es:cc < (σ k).h.Q:=aq ha (c.next_mono hL s' iA);rcases c.kinds hL hks with h | h | ⟨h,hx⟩
     ·exact DG hy ((c.free h).2 cc)
     ·exact DG hy (h cc es)
     ·rcases hx i o cc ho hw hy es with h1 | ⟨h1,b,hb,hl⟩ | ⟨h1,_⟩
      ·exact h1
      ·exfalso;by_cases hp:jN listed k
       ·exact hq (zW c I_.down k b i hp hb hl)
       ·have gA:j≠k:=fun e=>hp (e ▸ hj);rcases h j g2 eA gA with⟨h2,_⟩ | ⟨_,b,hb,hl⟩
        ·omega
        ·exact hp (zW c I_.down j b k hj hb hl)
      ·omega
    ·refine(c.still2 (f:=fun h=>ku E (σ i).t o h) hB fun k s' q4 => ?_).symm;have hks:k < ops.size:=iA;have es:cc < (σ k).h.Q:=aq t9 (c.next_mono hL s' iA);rcases c.kinds hL hks with h | h | ⟨h,hx⟩
     ·exact DG hy ((c.free h).2 cc)
     ·exact DG hy (h cc es)
     ·rcases hx i o cc ho hw hy es with h1 | ⟨h1,_⟩ | ⟨h1,b,hb,hl⟩
      ·exact h1
      ·omega
      ·have hp:=En c I_.down ho hr hb hl;apply cE;intro _;have q3:rp E ops σ k:=by
        apply cE;intro q3;have:=I_.top k hp q3;omega
       obtain⟨_,h9⟩:=c.free q3;exact absurd (DG hy (h9 cc)) (by assumption)
   have p2:Yh o=Y:=TX hy;rw[Vq3 p2]at hv;rw[au]at hv;obtain⟨v0,a4,hD⟩:=hv;cases hD;have hg:ku E (σ i).t o (mY (σ i).h)=ku E (σ i).t o (σ i).h:=DG hy rfl;have q1:mB E C o (σ i).t (σ p).h=U (v,(σ p).h):=by
    rw[Vq3 p2,x1,<- hg,a4];rfl
   rw[<- He E C o a3]at q1;exact hA ⟨o,ho,.inr (.inr r2)⟩ q1
  ·have aB:¬ rp E ops σ i:=by
    rintro⟨o',g',h⟩
    grind
   have An:=D_ hL hv;have c2:(σ (i+1)).h=xK (σ i).h h1:=by rw[g1,qD]
   have q2:(σ (i+1)).h.Q=h1.Q:=by rw[c2];rfl
   have g3:∀ b,(σ (i+1)).h.A b=h1.A b:=by intro b;rw[c2];rfl
   have m1:(σ i).h.Q<=h1.Q:=An.Q;obtain⟨bi,o1⟩:=Cz c hi;obtain⟨Mi,wi,ti,Hi,Ti⟩:=eB i iA;rcases cf i p with hB | hB
   ·
    obtain⟨j,hj,eA,bx⟩:∃ j,jN listed j/\¬ rp E ops σ j/\p=j+1:=by
     rcases I_.last with h | h
     ·omega
     ·exact h
    have a5:j≠i:=fun e=>hq (e ▸ hj);have g2:=I_.small j hj;obtain⟨bj,n2⟩:=Cz c g2;have hc:∀ k,i<=k->k < p->rp E ops σ k∨IP σ k:=by
     intro k s' q4;have hks:k < ops.size:=iA;rcases c.kinds hL hks with h | h | ⟨h,_⟩
     ·grind
     ·grind
     ·exfalso;by_cases e0:k=i
      ·subst e0;rcases h j g2 eA a5 with⟨h2,_⟩ | ⟨_,b,hb,hl⟩
       ·omega
       ·exact hq (zW c I_.down j b k hj hb hl)
      ·by_cases hp:jN listed k
       ·rcases h i hi aB (fun e=>e0 e.symm)with⟨_,b,hb,hl⟩ | ⟨h2,_⟩
        ·exact hq (zW c I_.down k b i hp hb hl)
        ·omega
       ·have gA:j≠k:=fun e=>hp (e ▸ hj);rcases h j g2 eA gA with⟨h2,_⟩ | ⟨_,b,hb,hl⟩
        ·omega
        ·exact hp (zW c I_.down j b k hj hb hl)
    have hn:=c.still hL (gw hB) I_.ple hc;have p1:=c.still hL (i:=i+1) hB I_.ple fun k h2 h3=>hc k iA h3;have hm:(σ (i+1)).h.Q<=(σ p).h.Q:=c.next_mono hL hB I_.ple;have re:∀ b,(σ i).h.Q<=b->b < h1.Q->M_ b=O:=by
     intro b h2 h3;cases hb:M_ b with
     | none=>rfl
     | some q =>
      exfalso;rcases I_.dom b (yL hb)with h4 | ⟨k,hk,h4,h5⟩
      ·have:=c.next_mono hL (bw i) iA;omega
      ·have hks:=I_.small k hk;rcases Nat.lt_trichotomy k i with h6 | h6 | h6
       ·have:=c.next_mono hL (i:=k+1) (j:=i) h6 iA;omega
       ·grind
       ·have:=c.next_mono hL (i:=i+1) (j:=k) h6 iA;omega
    have Hr:c_ E.G (Ren.below M_ (σ i).h.Q) (mY (σ i).h) w :=
     I_.h.restrict (h':=mY (σ i).h) Hi.globs (fun b _ hb=>(hn b hb).symm) Hi.wf
    have p3:je (Ren.below M_ (σ i).h.Q) ⟨T.size,T.only (looks ops.toList o)⟩ a.tmps:=by
     refine⟨I_.t.size,fun x u hu => ?_⟩;have x2:(if x ∈ looks ops.toList o then T.t.A x else O)=U u:=by rw[<- i7];exact hu
     split at x2
     ·rename_i hx;have h2:=I_.t.vals x u x2;have h3:=(Ti.vals x u (by rw[<- v' x hx];exact x2)).1;have h4:=mF u h2.1 (iq (fun b hb=>np Hi hb) u h3);have h5:∀ b,dom M_ b/\b < (σ i).h.Q->Ren.below M_ (σ i).h.Q b=M_ b:=by
       intro b hb;unfold Ren.below;rw[if_pos hb.2]
      refine⟨iq (fun b hb => ?_) u h4,by rw[h2.2,iB h5 u h4]⟩;have:=hb.1;simpa[dom,h5 b hb]using this
     ·cases x2
    have r1:mB E C o ⟨T.size,T.only (looks ops.toList o)⟩ (mY (σ i).h)=U (v,h1):=by
     rw[<- hv];refine He E C o (fun x hx => ?_) _;rw[<- a3 x hx];cases x with
     | tmp t =>
      simp only[iH];rw[i7,if_pos];simp only[looks,ah,bO];exact .inl ⟨.tmp t,by simpa using hx,rfl⟩
     | _=>rfl
    refine Nj E hC hz r1 Hr p3 fun M1 w' e1 e2 e3 e4 => ?_;obtain⟨H2,T2⟩:=U6l (h0:=mY (σ i).h) I_.h e3 e1 e2 (by rw[<- q2];exact hm) re (fun b hb=>hn b hb) (fun b hb=>by rw[p1 b (by rw[q2];exact hb),g3]);have c1:∀ b,dom M1 b->sJ M1 M_ h1.Q b=M1 b:=by
     intro b hb;unfold sJ;rw[if_pos (np e3 hb)]
    have aA:∀ b,b < (σ i).h.Q->M1 b=M_ b:=by
     intro b hb;rw[e1 b hb];unfold Ren.below;rw[if_pos (by exact hb)]
    have gB:d_ (dom (sJ M1 M_ h1.Q)) v:=iq (fun b hb=>by have:=c1 b hb;simpa[dom,this]using hb) v e4;have he:b_ M1 v=b_ (sJ M1 M_ h1.Q) v:=(iB c1 v e4).symm;rw[he];refine hK _ _ _ _ _ (Nt c I_ ho hq hr ht g1 a2 (p':=p) (Uve m1 aA re) gB H2 I_.ple (ai _) (fun _=>hB) (.inl rfl) (fun b hb => ?_) (fun b hb => ?_) (I_.turn.trans T2))
    ·rw[q2];by_cases a1:b < h1.Q
     ·rcases cf b (σ i).h.Q with h2 | h2
      ·refine .inl ?_;simp only[dom,sJ,if_pos a1,aA b h2]at hb;exact hb
      ·exact .inr ⟨h2,a1⟩
     ·refine .inl ?_;simp only[dom,sJ,if_neg a1]at hb;exact hb
    ·have h2:=c.next_mono hL (bw i) iA;unfold sJ;rw[if_pos iA,aA b iA]
   ·
    have hc:∀ k,p<=k->k < i->rp E ops σ k∨IP σ k:=by
     intro k s' q4;have hks:k < ops.size:=iA;rcases c.kinds hL hks with h | h | ⟨h,_⟩
     ·exact .inl h
     ·exact .inr h
     ·by_cases hp:jN listed k
      ·left;apply cE;intro q3;have:=I_.top k hp q3;omega
      ·exfalso;rcases h i hi aB iA with⟨h2,_⟩ | ⟨_,b,hb,hl⟩
       ·omega
       ·exact hp (En c I_.down ho hr hb hl)
    have hn:=c.still hL hB iA hc;have hm:(σ p).h.Q<=(σ i).h.Q:=c.next_mono hL hB iA;have a1:∀ b,dom M_ b->b < (σ p).h.Q:=fun b hb=>np I_.h hb;have Hr:c_ E.G M_ (mY (σ i).h) w :=
     I_.h.congr (h':=mY (σ i).h) Hi.globs (fun b hb=>aq (a1 b hb) hm) (fun b hb=>hn b (a1 b hb)) Hi.wf
    have r1:mB E C o T (mY (σ i).h)=U (v,h1):=by
     rw[<- hv];exact He E C o a3 _
    refine Nj E hC hz r1 Hr I_.t fun M' w' e1 e2 e3 e4 => ?_;have H2:c_ E.G M' (σ (i+1)).h w':=e3.congr (h':=(σ (i+1)).h) (by rw[q2];exact e3.globs) (fun b hb=>by rw[q2];exact np e3 hb) (fun b _=>g3 b) (by
     intro b x hx;rw[q2];exact e3.wf b x (by rw[<- g3];exact hx))
    have T1:ig M0 (σ 0).h w0 M_ (mY (σ i).h) w:=I_.turn.heap (fun b hb=>hn b (a1 b hb)) hm;have T2:ig M0 (σ 0).h w0 M' (σ (i+1)).h w':=(T1.trans e2).heap (fun b _=>g3 b) (by rw[q2];exact ai _);have dv:∀ b,b < (σ i).h.Q->M' b=M_ b:=e1;refine hK _ _ _ _ _ (Nt c I_ ho hq hr ht g1 a2 (p':=i+1) (fun b hb=>dv b (aq (a1 b hb) hm)) e4 H2 hi iA (fun _=>bY _) (.inr ⟨aB,rfl⟩) (fun b hb => ?_) (fun b hb => ?_) T2)
    ·rcases cf b (σ i).h.Q with h2 | h2
     ·refine .inl ?_;rw[dom,dv b h2]at hb;exact hb
     ·refine .inr ⟨h2,?_⟩;rw[q2];exact np e3 hb
    ·have:=c.next_mono hL (bw i) iA;exact dv b iA
def Ut8(c:iW E C ops B σ)(hy:∀ i,i<=ops.size->∃ M' w' hr,c_ E.G M' (σ i).h w'/\je M' (σ i).t hr)
  (I_:Inv E ops B σ M0 w0 listed M_ a w T p) (hc:∀ j,j < ops.size->jN listed j) :
  iU E.G M_ (σ ops.size) a w/\iZ (σ 0).h.Q M0 M_/\ig M0 (σ 0).h w0 M_ (σ ops.size).h w:=by
 have hk:∀ k,p<=k->k < ops.size->rp E ops σ k:=by
  intro k hB hp;apply cE;intro hA;have:=I_.top k (hc k hp) hA;omega
 have hl:∀ j,p<=j->j<=ops.size->(σ j).h.Q=(σ p).h.Q/\∀ b,(σ j).h.A b=(σ p).h.A b:=by
  intro j hj;induction hj with
  | refl=>simp
  | step h ih =>
   rename_i j;intro ho;obtain⟨h1,h2⟩:=ih iA;obtain⟨h3,h4⟩:=c.free (hk j h iA)
   grind
 obtain⟨hn,hg⟩:=hl ops.size I_.ple (ai _);obtain⟨Mi,wi,ti,Hi,Ti⟩:=hy ops.size (ai _);have H:c_ E.G M_ (σ ops.size).h w:=I_.h.congr Hi.globs (fun b hb=>by rw[hn];exact np I_.h hb) (fun b _=>hg b) Hi.wf;refine⟨⟨H,⟨?_,fun x v hx => ?_⟩,?_,?_⟩,I_.ext,I_.turn.heap (fun b _=>hg b) iA⟩
 ·rw[I_.t.size,I_.ts,c.size (ai _)]
 ·refine I_.t.vals x v ?_;rw[I_.tv x ops.size (ai _) fun j o' hj _=>⟨fun _=>zV hj,fun h=>hc j h⟩];exact hx
 ·rw[c.dss (ai _)];exact I_.ds
 ·rw[c.dss (ai _)];exact I_.okd
def RH(c:iW E C ops B σ)(hx:listed.size=ops.size)(h:Region.ready .any ops listed=[]):∀ j,j < ops.size->jN listed j:=by
 intro j;induction j using Nat.strongRecOn with
 | _ j ih =>
  intro hj;apply cE;intro hd;have ho:ops[j]? = U ops[j]:=by simp[hj]
  have hm:j ∈ Region.ready .any ops listed:=by
   unfold Region.ready;rw[dA];refine⟨by grind,?_⟩;have h1:listed.getD j Y=J:=by
    grind
   rw[h1,ho];simp only[aQ,Option.getD_some,dw,dK,Array.all_eq_true'];intro e he;have hc:e ∈ (ops[j]).after.toList:=by grind
   cases hb:Region.binds .any e with
   | false=>rfl
   | true =>
    have h2:=c.bef.on j _ (by simp[hj]) e hc hb
    grind
  grind
def GX{i:Nat}(hc:listed.size=ops.size)(h:i ∈ Region.ready .any ops listed):∃ o,ops[i]? = U o/\¬ jN listed i/\∀ e ∈ o.after.toList,Region.binds .any e=Y->jN listed e.on:=by
 unfold Region.ready at h;rw[dA]at h;obtain⟨h1,j⟩:=h;have hi:i < ops.size:=by grind
 have ho:ops[i]? = U ops[i]:=by simp[hi]
 rw[ho]at j;simp only[aQ,Option.getD_some,ax,cx,Array.all_eq_true']at j
 grind
def U59{rd:Option Nat}{β:Ren}(c:iW E C ops B σ)(hC:iK P E.G C)(hL:iL C)(hp:∀ i,i<=ops.size->∃ M' w' hl,c_ E.G M' (σ i).h w'/\je M' (σ i).t hl){Q:Exit->Act->World->Prop}
  (hQ:∀ M_ a w,iU E.G M_ (σ ops.size) a w->iZ (σ 0).h.Q M0 M_->ig M0 (σ 0).h w0 M_ (σ ops.size).h w->Q .normal a w) :
  ∀ (j:Nat) (listed:Array Bool) (M_:Ren) (a:Act) (w:World) (T:Tm) (p:Nat),listed.size=ops.size->listed.toList.count J<=j->Inv E ops B σ M0 w0 listed M_ a w T p->wpAnyIn (mP rd β) 0 P .any ops Q j listed a w:=by
 intro j;induction j with
 | zero =>
  intro listed M_ a w T p hk hc I_;have hx:Region.ready .any ops listed=[]:=by
   cases hr:Region.ready .any ops listed with
   | nil=>rfl
   | cons i l =>
    obtain⟨o,ho,hb,_⟩:=GX hk (by rw[hr];exact bQ);exfalso;have hi:=zV ho;have hA:i < L listed.toList:=(by grind);have hz:listed.toList.count J=0:=iA;rw[List.count_eq_zero]at hz;refine hz ?_;have : listed.toList[i]=J:=by
     simp_all
    grind
  obtain⟨h1,h2,h3⟩:=Ut8 c hp I_ (RH c hk hx);exact⟨hx,hQ _ _ _ h1 h2 h3⟩
 | succ j ih =>
  intro listed M_ a w T p hk hc I_;refine⟨fun hx => ?_,fun i hi => ?_⟩
  ·obtain⟨h1,h2,h3⟩:=Ut8 c hp I_ (RH c hk hx)
   grind
  ·obtain⟨o,ho,hb,hr⟩:=GX hk hi;refine Ulv c hC hL hp I_ ho hb hr hk fun M' a' w' T' p' I'=>ih _ M' a' w' T' p' (by grind) ?_ I';have hA:i < L listed.toList:=by grind
   have : listed.toList[i]=J:=by
    simp only[jN,cS]at hb
    grind
   grind
def V8k(c:iW E C ops B σ){s:St}(h0:σ 0=s)(S_:iU E.G M_ s a w):Inv E ops B σ M_ w (Array.replicate ops.size J) M_ a w s.t 0:=by
 have hc:∀ j,¬ jN (Array.replicate ops.size J) j:=by
  simp
 subst h0;refine⟨fun j o _ h=>absurd h (hc j),fun j h=>absurd h (hc j),S_.t,rfl,fun x i => ?_,S_.ds,S_.okd,bw _,S_.h,fun j h=>absurd h (hc j),.inl rfl,fun b hb => .inl (np S_.h hb),iZ.refl _ _,ig.refl _ _ _⟩;induction i with
 | zero=>simp
 | succ i ih =>
  intro hi hs;have h2:i < ops.size:=hi;have ho:ops[i]? = U ops[i]:=by simp[h2]
  have hx:(ops[i]).dst≠U x:=fun e=>hc i ((hs i _ ho e).2 (bY _));rw[ih iA (fun j o hj hd=>⟨fun h=>absurd h (hc j),fun h=>absurd ((hs j o hj hd).2 iA) (hc j)⟩)];obtain⟨_,_,h⟩:=c.step i _ ho;rcases h with⟨_,h⟩ | ⟨_,v',h',_,h,_⟩ <;> (rw[h];exact(OC _ _ _ _ _ hx).symm)
def Uka{s s1:St}(h:xE E C ops.toList s=U s1):∃ B σ,iW E C ops B σ/\σ 0=s/\σ ops.size=s1:=by
 unfold xE at h;split at h
 ·rename_i B hB;split at h
  ·rename_i hp;split at h
   ·rename_i s2 R hR;split at h
    ·rename_i hx;cases h;obtain⟨σ,e1,e2,e3,e4⟩:=Lk _ _ _ _ _ hR;have hc:sH ops.toList B:=by
      have:=RI ops.toList [] [] B hB ⟨rfl,fun j o h=>by simp at h,fun j o b h=>by simp at h⟩
      grind
     refine⟨B,σ,⟨hc,fun j i oj oi b hj hi hb h2 => ?_,fun i o ho => ?_,R,hx,fun k o ho => ?_⟩,e1,by grind⟩
     ·have:=LS hp j oj b (by grind) hb i oi iA (by grind);exact this
     ·grind
     simp_all
    ·cases h
   ·cases h
  ·cases h
 ·cases h
def Vk5(E:f_ P){rd:Option Nat}{C:h_}(hC:iK P E.G C)(hL:iL C)(hm:P.follows .mixedOrders=Y){id:Nat}{Q:Exit->St->Prop}{s s1:St}(h:xE E C ops.toList s=U s1)(hQ:Q .normal s1) :
  CW P E.G rd s.h.Q (.region id ops Y) s Q:=by
 intro M_ a w j _;obtain⟨B,σ,c,h0,h1⟩:=Uka h;refine wpIn_region_any hm ?_;have H':c_ E.G M_ s.h {w with drawn:=w.drawn+1}:=j.h.same rfl;have S':iU E.G M_ s a {w with drawn:=w.drawn+1}:=⟨H',j.t,j.ds,j.okd⟩;subst h0;refine U59 c hC hL (c.wf hC H' j.t) (fun M' a' w' S1 e1 t1 => ?_) _ _ _ _ _ _ _ jA ?_ (V8k c rfl S')
 ·rw[h1]at S1 t1;exact⟨M',.normal,s1,hQ,rfl,trivial,e1,(ig.drew _ _ _ (bJ _)).trans t1,S1⟩
 ·simp
end
end Go.Ab
