import Derived.Test.YtbhojjejgmfgmaaGreatDoorAbB
import Derived.RangeFuncRecord
set_option linter.all false
open List renaming length→L
open Option renaming some→U,none→O
open Bool renaming true→Y,false→J
open Go renaming Value→V
open Go.Value renaming int→I,slice→M
open Go.IntKind renaming i64→X
open Go.Ab.Blk renaming cells→S
noncomputable section
namespace Go.Ab
structure d_ (P:Program) extends iS P where
 fn:Tr Func
 fnok:∀ f F,fn.A f=U F->P.funcs[f]? = U F/\(F.name == "runtime.NumGoroutine")=J/\F.body.isSome=Y
 ex:Tr pR
 exok:∀ f x,ex.A f=U x->∃ F,P.funcs[f]? = U F/\KJ F=U x
inductive mL where
 | val (v:V) (h:N)
 | skip (h:N)
 | enter (f:FuncId) (args:List V) (h:N)
 | round (l:Nat) (args:List V) (h:N)
 | defer (d:Deferred) (h:N)
 | panic (v:V) (h:N)
def kH(G:Bs)(t:Tm):List Operand->Option (List V)
 | []=>U []
 | x::l=>match g_ G t x,kH G t l with
  | some v,U vs=>U (v::vs)
  | _,_=>O
def Qh(G:Bs)(t:Tm):List (Nat × Operand)->Option (List (Nat × V))
 | []=>U []
 | (i,x)::l=>match g_ G t x,Qh G t l with
  | some v,U vs=>U ((i,v)::vs)
  | _,_=>O
def kU(G:Bs)(t:Tm):Option Operand->Option (Option V)
 | none=>U O
 | some x=>(g_ G t x).map U
def gv(r:Option (V × N)):Option mL:=match r with | some (v,h)=>U (.val v h) | none=>O
def g0(h:N)(r:Option V):Option mL:=match r with | some v=>U (.val v h) | none=>O
def gs(r:Option N):Option mL:=match r with | some h=>U (.skip h) | none=>O
def Qi(f:V)(args:List V):Option (FuncId × List V) :=
 match f with
 | .func (.func f) first hx=>U (f,first.toList++args++hx.toList)
 | _=>O
def qz:Tm->List Tmp->List V->Tm
 | t,p::ps,v::vs=>qz (t.put p v) ps vs
 | t,_,_=>t
def qv(n:Nat):List Tmp->List V->Bool
 | [],[]=>Y
 | p::ps,_::vs=>Nat.blt p n && qv n ps vs
 | _,_=>J
def u6(f:V)(args:List V)(h:N):Option mL :=
 match f with
 | .func (.yield l) ⟨[]⟩ _=>match h.A l with
  | some (.obj (.loop _ _ t ps _ _ _))=>if qv t.size ps.toList args then U (.round l args h)else O
  | _=>O
 | _=>O
def Q9{P:Program}(E:d_ P)(b:Builtin)(ts:List TypeId)(args:List V)(h:N):Option mL :=
 match b,ts,args with
 | .len,[t],[x]=>g0 h (iP E.toiS t x h)
 | .cap,[t],[x]=>g0 h (MZ E.toiS t x)
 | .append,[t,tx],[s,x]=>gv (mR E.toiS t tx s x h)
 | .copy,[t,_],[d,s]=>gv (tj E.toiS t d s h)
 | .max,_,l=>g0 h (yn Y l)
 | .min,_,l=>g0 h (yn J l)
 | .panic,_,[.iface t v]=>U (.panic (.iface t v) h)
 | .delete,t::_,[m,k]=>gv (zg E.toiS t m k h)
 | .clear,t::_,[x]=>gv (KH E.toiS t x h)
 | _,_,_=>O
def iN{P:Program}(E:d_ P)(t:Tm)(h:N)(o:Oper):Option mL :=
 match o.op with
 | .move x | .assign x=>g0 h (g_ E.G t x)
 | .pick c a b=>match g_ E.G t c with
  | some (.bool Y)=>g0 h (g_ E.G t a)
  | some (.bool J)=>g0 h (g_ E.G t b)
  | _=>O
 | .alloc e=>gv (jh E.toiS e h)
 | .box _ x=>match g_ E.G t x with
  | some v=>gv (jP v h)
  | none=>O
 | .build ty ps=>match Qh E.G t ps.toList with
  | some l=>g0 h (lK E.toiS ty l)
  | none=>O
 | .buildSlice ty n ps=>match Qh E.G t ps.toList with
  | some l=>gv (Wc E.toiS ty n l h)
  | none=>O
 | .load ty a=>match g_ E.G t a with
  | some x=>g0 h (jy E.toiS ty x h)
  | none=>O
 | .store ty a v=>match g_ E.G t a,g_ E.G t v with
  | some x,U y=>gs (j0 E.toiS ty x y h)
  | _,_=>O
 | .nilCheck x=>match g_ E.G t x with
  | some v=>g0 h (Hw v)
  | none=>O
 | .binOp op ty x y _=>match g_ E.G t x,g_ E.G t y with
  | some a,U b=>g0 h (Xa E.toiS op ty (Q8 x || Q8 y) a b h)
  | _,_=>O
 | .unOp op _ x=>match g_ E.G t x with
  | some v=>g0 h (Hd op v)
  | none=>O
 | .convert hc hx x=>match g_ E.G t x with
  | some v=>match vT E.toiS hc hx with
   | true=>g0 h (wR E.toiS hc hx v)
   | false=>gv (wK E.toiS hc hx v h)
  | none=>O
 | .sliceToArrayPointer ty x=>match g_ E.G t x with
  | some v=>g0 h (DQ E.toiS ty v)
  | none=>O
 | .makeInterface ty x=>match g_ E.G t x with
  | some v=>g0 h (Ex E.toiS ty v)
  | none=>O
 | .makeFunc fn a b=>match kH E.G t a.toList,kH E.G t b.toList with
  | some x,U y=>g0 h (AT fn x y)
  | _,_=>O
 | .makeSlice ty n c=>match g_ E.G t n,g_ E.G t c with
  | some x,U y=>gv (Ah E.toiS ty x y h)
  | _,_=>O
 | .slice ty x lo hi mx=>match g_ E.G t x,kU E.G t lo,kU E.G t hi,kU E.G t mx with
  | some v,U a,U b,U c=>gv (ka E.toiS ty v a b c h)
  | _,_,_,_=>O
 | .fieldAddr ty x f=>match g_ E.G t x with
  | some v=>g0 h (Wx E.toiS ty v f)
  | none=>O
 | .field ty x f=>match g_ E.G t x with
  | some v=>g0 h (Of E.toiS ty v f)
  | none=>O
 | .indexAddr ty x i=>match g_ E.G t x,g_ E.G t i with
  | some a,U b=>g0 h (Ug E.toiS ty a b)
  | _,_=>O
 | .index ty x i=>match g_ E.G t x,g_ E.G t i with
  | some a,U b=>g0 h (Kw E.toiS ty a b)
  | _,_=>O
 | .typeAssert x _ ty ok=>match g_ E.G t x with
  | some v=>g0 h (DP E.toiS v ty ok)
  | none=>O
 | .extract x i=>match g_ E.G t x with
  | some v=>g0 h (Qa v i)
  | none=>O
 | .panic x=>match g_ E.G t x with
  | some (.iface u v)=>U (.panic (.iface u v) h)
  | _=>O
 | .makeMap ty r=>match kU E.G t r with
  | some hv=>gv (uC E.toiS ty hv h)
  | none=>O
 | .lookup ty x k ok=>match g_ E.G t x,g_ E.G t k with
  | some a,U b=>g0 h (mW E.toiS ty a b ok h)
  | _,_=>O
 | .mapUpdate ty m k x=>match g_ E.G t m,g_ E.G t k,g_ E.G t x with
  | some a,U b,U c=>gs (pY E.toiS ty a b c h)
  | _,_,_=>O
 | .insert ty m k x=>match g_ E.G t m,g_ E.G t k,g_ E.G t x with
  | some a,U b,U c=>gs (pY E.toiS ty a b c h)
  | _,_,_=>O
 | .mapEntry ty m k=>match g_ E.G t m,g_ E.G t k with
  | some a,U b=>gv (zv E.toiS ty a b h)
  | _,_=>O
 | .entryStore _ m st x=>match g_ E.G t m,g_ E.G t st,g_ E.G t x with
  | some a,U b,U c=>gs (Ak a b c h)
  | _,_,_=>O
 | .range ty x=>match g_ E.G t x with
  | some v=>gv (ym E.toiS ty v h)
  | none=>O
 | .next x s=>match g_ E.G t x with
  | some v=>gv (G7 v s h)
  | none=>O
 | .entry x=>match g_ E.G t x with
  | some v=>g0 h (BN v h)
  | none=>O
 | .call c=>match kH E.G t c.args.toList with
  | none=>O
  | some args=>match c.callee with
   | .builtin b=>Q9 E b c.argTypes.toList args h
   | .value f=>match g_ E.G t f with
    | some fv=>match Qi fv args with
     | some (f,l)=>match E.fn.A f with
      | some _=>U (.enter f l h)
      | none=>match E.ex.A f with
       | some x=>gv (AA x l h)
       | none=>O
     | none=>u6 fv args h
    | none=>O
   | .invoke _ _=>O
 | _=>O
def MT(P:Program)(G:Bs)(Z:Ren)(h:N)(w:World)(s:Sem Next):mL->Prop
 | .val v h' => ∃ Z' w',s.run P w=.ok (.value (ren Z' v)) w'/\c_ (dom Z') v/\iC h.Q Z Z'/\bN G Z' h' w'/\f_ Z h w Z' h' w'
 | .skip h' => ∃ w',s.run P w=.ok .skip w'/\bN G Z h' w'/\f_ Z h w Z h' w'
 | .enter f args h'=>h'=h/\s.run P w=.ok (.enter f (args.map (ren Z)).toArray) w/\∀ v ∈ args,c_ (dom Z) v
 | .round l args h'=>h'=h/\dom Z l/\(∀ v ∈ args,c_ (dom Z) v)/\∃ st hc t ps as bd d,h.A l=U (.obj (.loop st hc t ps as bd d))/\∃ fn hx,iW Z (qz t ps.toList args) hx/\s.run P w=.ok (.round (i4 Z l) fn hx as bd) w
 | .defer d h'=>h'=h/\s.run P w=.ok (.defer (pK Z d)) w/\uh (dom Z) d
 | .panic v h'=>h'=h/\s.run P w=.halt (.panic (ren Z v)) w/\c_ (dom Z) v
section
variable{P:Program}{Z:Ren}{h:N}{w:World}
def Ea{G:Bs}(H:bN G Z h w){t:Tm}{a:Act}(ht:iW Z t a.tmps):∀ {l:List Operand} {vs:List V},kH G t l=U vs->l.map a.eval=vs.map (ren Z)/\∀ v ∈ vs,c_ (dom Z) v
 | [],vs,hv=>by simp[kH]at hv;subst hv;simp
 | x::l,vs,hv=>by
  simp only[kH]at hv;split at hv
  next v r h1 h2=>cases hv;have a1:=uX H ht h1;have a2:=Ea H ht h2;exact⟨by simp[a1.2,a2.1],by simpa using⟨a1.1,a2.2⟩⟩
  ·cases hv
def Lw{G:Bs}(H:bN G Z h w){t:Tm}{a:Act}(ht:iW Z t a.tmps):∀ {l:List (Nat × Operand)} {vs:List (Nat × V)},Qh G t l=U vs ->
  l.map (fun p=>(p.1,a.eval p.2))=vs.map (fun p=>(p.1,ren Z p.2))/\∀ p ∈ vs,c_ (dom Z) p.2
 | [],vs,hv=>by simp[Qh]at hv;subst hv;simp
 | (i,x)::l,vs,hv=>by
  simp only[Qh]at hv;split at hv
  ·rename_i v r h1 h2;cases hv;have a1:=uX H ht h1;have a2:=Lw H ht h2;refine⟨by simp[a1.2,a2.1],fun p hp => ?_⟩;rcases ao.1 hp with rfl | hp
   ·exact a1.1
   ·exact a2.2 p hp
  ·cases hv
def Om{G:Bs}(H:bN G Z h w){t:Tm}{a:Act}(ht:iW Z t a.tmps){x:Option Operand}{v:Option V}(hv:kU G t x=U v):x.map a.eval=v.map (ren Z):=by
 cases x with
 | none=>simp[kU]at hv;subst hv;rfl
 | some x =>
  simp only[kU,aj]at hv;obtain⟨u,hu,rfl⟩:=hv;simp[(uX H ht hu).2]
def mH{G:Bs}{s:Sem V}{v:V}{h':N}(hg:e_ P G Z h w s v h'):MT P G Z h w (do pure (.value (<- s))) (.val v h'):=by
 obtain⟨Z',w',r1,r2⟩:=hg;exact⟨Z',w',by simp[r1],r2⟩
def Ia{G:Bs}(H:bN G Z h w){s:Sem Next}{v:V}(hv:c_ (dom Z) v)(hr:s.run P w=.ok (.value (ren Z v)) w):MT P G Z h w s (.val v h) :=
 ⟨Z,w,hr,hv,iC.refl _ _,H,f_.refl _ _ _⟩
def qD{r:Option (V × N)}{x:mL}(h:gv r=U x):∃ v h',r=U (v,h')/\x=.val v h':=by
 unfold gv at h;split at h
 ·cases h;exact⟨_,_,rfl,rfl⟩
 ·cases h
def kw{h:N}{r:Option V}{x:mL}(hx:g0 h r=U x):∃ v,r=U v/\x=.val v h:=by
 unfold g0 at hx;split at hx
 ·cases hx;exact⟨_,rfl,rfl⟩
 ·cases hx
def BT{r:Option N}{x:mL}(h:gs r=U x):∃ h',r=U h'/\x=.skip h':=by
 unfold gs at h;split at h
 ·cases h;exact⟨_,rfl,rfl⟩
 ·cases h
end
section
variable{P:Program}{Z:Ren}{h:N}{w:World}
def Xxj(t:TypeId)(v:V)(w:World):(Instr.panic (.iface t v)).run P w=.halt (.panic (.iface t v)) w:=rfl
def Jp8(E:d_ P)(H:bN E.G Z h w){b:Builtin}{ts:Array TypeId}{ty:TypeId}{cs:Array Bool}{args:List V}{r:mL}(ha:∀ v ∈ args,c_ (dom Z) v)
  (hr:Q9 E b ts.toList args h=U r):MT P E.G Z h w (builtin b ts ty cs (args.map (ren Z)).toArray) r:=by
 unfold Q9 at hr;split at hr
 ·rename_i t x hx;obtain⟨v,hv,rfl⟩:=kw hr;have e1:ts = #[t]:=by apply bR;simpa using hx
  subst e1;exact mH (Vc2 E.toiS H (ha x kA) hv)
 ·rename_i t x hx;obtain⟨v,hv,rfl⟩:=kw hr;have e1:ts = #[t]:=by apply bR;simpa using hx
  subst e1;exact mH (Vd2 E.toiS H hv)
 ·rename_i t tx s x hx;obtain⟨v,h',hv,rfl⟩:=qD hr;have e1:ts = #[t,tx]:=by apply bR;simpa using hx
  subst e1;exact mH (Jxb E.toiS H (ha s kA) (ha x kA) hv)
 ·rename_i t tx d s hx;obtain⟨v,h',hv,rfl⟩:=qD hr;have e1:ts = #[t,tx]:=by apply bR;simpa using hx
  subst e1;exact mH (J61 E.toiS H (ha d kA) (ha s kA) hv)
 ·obtain⟨v,hv,rfl⟩:=kw hr;exact mH (Z52 (mx:=true) H ts ty hv)
 ·obtain⟨v,hv,rfl⟩:=kw hr;exact mH (Z52 (mx:=false) H ts ty hv)
 next t v=>cases hr;exact⟨rfl,by simp[builtin,Xxj,Result.andThen],ha _ kA⟩
 ·rename_i t tl m k hx;obtain⟨v,h',hv,rfl⟩:=qD hr;have e1:ts=(t::tl).toArray:=by apply bR;simpa using hx
  subst e1;exact mH (Jyi E.toiS H (ha m kA) hv)
 ·rename_i t tl x hx;obtain⟨v,h',hv,rfl⟩:=qD hr;have e1:ts=(t::tl).toArray:=by apply bR;simpa using hx
  subst e1;exact mH (J3z E.toiS H (ha x kA) hv)
 ·cases hr
def Jue:∀ {ps:List Tmp} {t:Tm} {vs:List V} {tmps:Array V},iW Z t tmps->qv t.size ps vs=Y->(∀ v ∈ vs,c_ (dom Z) v) ->
  iW Z (qz t ps vs) ((ps.zip (vs.map (ren Z))).foldl (fun tmps x=>tmps.setIfInBounds x.1 x.2) tmps)
 | [],t,[],tmps,h,_,_=>by simpa[qz]using h
 | p::ps,t,v::vs,tmps,h,hp,hv=>by
  simp only[qv,au,dQ]at hp;simp only[qz,aK,List.zip_cons_cons,eS];exact Jue (h.put hp.1 (hv v kA)) (by simpa[Tm.put]using hp.2) (fun x hx=>hv x (by simp[hx]))
 | [],t,_::_,_,_,hp,_=>by simp[qv]at hp
 | _::_,t,[],_,_,hp,_=>by simp[qv]at hp
def Zny{n:Nat}:∀ {ps:List Tmp} {vs:List V},qv n ps vs=Y->L vs=L ps
 | [],[],_=>rfl
 | p::ps,v::vs,h=>by
  simp only[qv,au]at h;simp[Zny h.2]
 | [],_::_,h=>by simp[qv]at h
 | _::_,[],h=>by simp[qv]at h
def J1q{G:Bs}(H:bN G Z h w){f:V}{args:List V}{r:mL}(hf:c_ (dom Z) f)(ha:∀ v ∈ args,c_ (dom Z) v)(hc:u6 f args h=U r) :
  ∃ l captured,ren Z f=.func (.yield (i4 Z l)) #[] captured/\r=.round l args h/\dom Z l/\∃ st hx t ps as bd d,h.A l=U (.obj (.loop st hx t ps as bd d))/\∃ fn tmps,iW Z (qz t ps.toList args) tmps /\
   (Instr.yield (i4 Z l) (args.map (ren Z)).toArray).run P w=.ok (.round (i4 Z l) fn tmps as bd) w:=by
 unfold u6 at hc;split at hc
 ·rename_i l captured;split at hc
  ·rename_i st hx t ps as bd d hg;split at hc
   next h2=>cases hc;simp only[c_]at hf;obtain⟨p,hp⟩:=aJ.1 hf.1;obtain⟨f0,o,f1,hd,fn,tmps,rfl,ht⟩:=H.fits l p _ hp hg;have hl:i4 Z l=p.blk:=(by simp[i4,hp]);refine⟨l,captured.map (ren Z),by simp[ren,tW,rM],rfl,hf.1,st,hx,t,ps,as,bd,d,hg,fn,_,Jue ht h2 ha,?_⟩;rw[hl,run_yield f1 (by simp[Zny h2])];simp only[Result.ok.injEq,and_true];congr 1;rw[<- Array.foldl_toList];simp
   ·cases hc
  ·cases hc
 ·cases hc
def Z5m{f:V}{args:List V}{hx:FuncId}{l:List V}(hf:c_ (dom Z) f)(ha:∀ v ∈ args,c_ (dom Z) v)(hc:Qi f args=U (hx,l)) :
  (∀ v ∈ l,c_ (dom Z) v)/\∃ first captured:Array V,ren Z f=.func (.func hx) first captured/\(l.map (ren Z)).toArray=first++(args.map (ren Z)).toArray++captured:=by
 unfold Qi at hc;split at hc
 ·rename_i fi first captured
  cases hc;simp only[c_,vO]at hf;refine⟨fun v hv => ?_,first.map (ren Z),captured.map (ren Z),by simp[ren,tW,rM],kA⟩;simp only[ab,dI]at hv;rcases hv with(hv | hv) | hv
  ·exact hf.1 v hv
  ·exact ha v hv
  ·exact hf.2 v hv
 ·cases hc
def qq(E:d_ P)(H:bN E.G Z h w){t:Tm}{a:Act}(ht:iW Z t a.tmps){o:Oper}{r:mL}(hr:iN E t h o=U r):MT P E.G Z h w (execOp a.eval o) r:=by
 unfold iN at hr;have ev:∀ {x:Operand} {v:V},g_ E.G t x=U v->c_ (dom Z) v/\a.eval x=ren Z v:=fun hx=>uX H ht hx;split at hr
 next x hk=>obtain⟨v,hv,rfl⟩:=kw hr;exact Ia H (ev hv).1 (by simp only[execOp,hk,(ev hv).2];rfl)
 next x hk=>obtain⟨v,hv,rfl⟩:=kw hr;exact Ia H (ev hv).1 (by simp only[execOp,hk,(ev hv).2];rfl)
 ·rename_i c x y hk;split at hr
  next hc=>obtain⟨v,hv,rfl⟩:=kw hr;exact Ia H (ev hv).1 (by simp[execOp,hk,(ev hv).2,(ev hc).2,asBool])
  next hc=>obtain⟨v,hv,rfl⟩:=kw hr;exact Ia H (ev hv).1 (by simp[execOp,hk,(ev hv).2,(ev hc).2,asBool])
  ·cases hr
 next e hk=>obtain⟨v,h',hv,rfl⟩:=qD hr;simp only[execOp,hk];exact mH (J1r E.toiS H hv)
 ·rename_i e x hk;split at hr
  next v0 h0=>obtain⟨v,h',hv,rfl⟩:=qD hr;simp only[execOp,hk,(ev h0).2];exact mH (Vd5 H (ev h0).1 hv)
  ·cases hr
 ·rename_i ty ps hk;split at hr
  ·rename_i l hl;obtain⟨v,hv,rfl⟩:=kw hr;obtain⟨e1,e2⟩:=Lw H ht hl;have e3:(ps.map fun x=>(x.1,a.eval x.2))=(l.map fun p=>(p.1,ren Z p.2)).toArray:=by apply bR;rw[bL,e1]
   simp only[execOp,hk];rw[e3];exact mH (Jzo E.toiS H e2 hv)
  ·cases hr
 ·rename_i ty n ps hk;split at hr
  ·rename_i l hl;obtain⟨v,h',hv,rfl⟩:=qD hr;obtain⟨e1,e2⟩:=Lw H ht hl;have e3:(ps.map fun x=>(x.1,a.eval x.2))=(l.map fun p=>(p.1,ren Z p.2)).toArray:=by apply bR;rw[bL,e1]
   simp only[execOp,hk];rw[e3];exact mH (Z2o E.toiS H e2 hv)
  ·cases hr
 ·rename_i ty x hk;split at hr
  next v0 h0=>obtain⟨v,hv,rfl⟩:=kw hr;simp only[execOp,hk,(ev h0).2];exact mH (J8x E.toiS H (ev h0).1 hv)
  ·cases hr
 ·rename_i ty x y hk;split at hr
  next v0 v1 h0 h1=>obtain⟨h',hv,rfl⟩:=BT hr;obtain⟨w',r1,r2⟩:=J04 E.toiS H (ev h0).1 (ev h1).1 hv;exact⟨w',by simp[execOp,hk,(ev h0).2,(ev h1).2,r1],r2⟩
  ·cases hr
 ·rename_i x hk;split at hr
  next v0 h0=>obtain⟨v,hv,rfl⟩:=kw hr;obtain⟨n,op,ty,p,af,g⟩:=o;simp only at hk;subst hk;obtain⟨rfl,h2⟩:=Jgy (P:=P) hv w n x ty p af g a.eval (ev h0).2;exact Ia H (ev h0).1 h2
  ·cases hr
 ·rename_i op ty x y yt hk;split at hr
  next v0 v1 h0 h1=>obtain⟨v,hv,rfl⟩:=kw hr;simp only[execOp,hk,(ev h0).2,(ev h1).2];exact mH (J87 E.toiS H (ev h0).1 (ev h1).1 hv)
  ·cases hr
 ·rename_i op ty x hk;split at hr
  next v0 h0=>obtain⟨v,hv,rfl⟩:=kw hr;simp only[execOp,hk,(ev h0).2];exact mH (Vhl H hv)
  ·cases hr
 ·rename_i s d x hk;split at hr
  ·rename_i v0 h0;simp only[execOp,hk,(ev h0).2];split at hr
   ·obtain⟨v,hv,rfl⟩:=kw hr;exact mH (Jpy E.toiS H hv)
   ·obtain⟨v,h',hv,rfl⟩:=qD hr;exact mH (J2p E.toiS H (ev h0).1 hv)
  ·cases hr
 ·rename_i ty x hk;split at hr
  next v0 h0=>obtain⟨v,hv,rfl⟩:=kw hr;simp only[execOp,hk,(ev h0).2];exact mH (Jwv E.toiS H (ev h0).1 hv)
  ·cases hr
 ·rename_i ty x hk;split at hr
  next v0 h0=>obtain⟨v,hv,rfl⟩:=kw hr;simp only[execOp,hk,(ev h0).2];exact mH (Jrd E.toiS H (ev h0).1 hv)
  ·cases hr
 ·rename_i fn x y hk;split at hr
  ·rename_i l1 l2 h1 h2;obtain⟨v,hv,rfl⟩:=kw hr;obtain⟨a1,a2⟩:=Ea H ht h1;obtain⟨b1,b2⟩:=Ea H ht h2;have e1:x.map a.eval=(l1.map (ren Z)).toArray:=by apply bR;rw[bL,a1]
   have e2:y.map a.eval=(l2.map (ren Z)).toArray:=by apply bR;rw[bL,b1]
   simp only[execOp,hk];rw[e1,e2];exact mH (Jy3 H a2 b2 hv)
  ·cases hr
 ·rename_i ty x y hk;split at hr
  next v0 v1 h0 h1=>obtain⟨v,h',hv,rfl⟩:=qD hr;simp only[execOp,hk,(ev h0).2,(ev h1).2];exact mH (Z5z E.toiS H hv)
  ·cases hr
 ·rename_i ty x lo hi mx hk;split at hr
  next v0 l0 l1 l2 h0 e0 e1 e2=>obtain⟨v,h',hv,rfl⟩:=qD hr;simp only[execOp,hk,(ev h0).2,Om H ht e0,Om H ht e1,Om H ht e2];exact mH (J2t E.toiS H (ev h0).1 hv)
  ·cases hr
 ·rename_i ty x f hk;split at hr
  next v0 h0=>obtain⟨v,hv,rfl⟩:=kw hr;simp only[execOp,hk,(ev h0).2];exact mH (Z8r E.toiS H (ev h0).1 hv)
  ·cases hr
 ·rename_i ty x f hk;split at hr
  next v0 h0=>obtain⟨v,hv,rfl⟩:=kw hr;simp only[execOp,hk,(ev h0).2];exact mH (J3t E.toiS H (ev h0).1 hv)
  ·cases hr
 ·rename_i ty x y hk;split at hr
  next v0 v1 h0 h1=>obtain⟨v,hv,rfl⟩:=kw hr;simp only[execOp,hk,(ev h0).2,(ev h1).2];exact mH (Jdn E.toiS H (ev h0).1 hv)
  ·cases hr
 ·rename_i ty x y hk;split at hr
  next v0 v1 h0 h1=>obtain⟨v,hv,rfl⟩:=kw hr;simp only[execOp,hk,(ev h0).2,(ev h1).2];exact mH (J0c E.toiS H (ev h0).1 hv)
  ·cases hr
 ·rename_i x xt ty ok hk;split at hr
  next v0 h0=>obtain⟨v,hv,rfl⟩:=kw hr;simp only[execOp,hk,(ev h0).2];exact mH (Jyj E.toiS H (ev h0).1 hv)
  ·cases hr
 ·rename_i x i hk;split at hr
  next v0 h0=>obtain⟨v,hv,rfl⟩:=kw hr;simp only[execOp,hk,(ev h0).2];exact mH (Jrp H (ev h0).1 hv)
  ·cases hr
 ·rename_i x hk;split at hr
  next u v h0=>cases hr;refine⟨rfl,?_,(ev h0).1⟩;simp[execOp,hk,(ev h0).2,mq,Xxj,Result.andThen]
  ·cases hr
 ·rename_i ty r hk;split at hr
  next hv e0=>obtain⟨v,h',hv,rfl⟩:=qD hr;simp only[execOp,hk,Om H ht e0];exact mH (Jpg E.toiS H hv)
  ·cases hr
 ·rename_i ty x k ok hk;split at hr
  next v0 v1 h0 h1=>obtain⟨v,hv,rfl⟩:=kw hr;simp only[execOp,hk,(ev h0).2,(ev h1).2];exact mH (Jy1 E.toiS H (ev h0).1 hv)
  ·cases hr
 ·rename_i ty m k x hk;split at hr
  next v0 v1 v2 h0 h1 h2=>obtain⟨h',hv,rfl⟩:=BT hr;obtain⟨w',r1,r2,r3⟩:=Y9e E.toiS H (k:=v1) (ev h0).1 (ev h2).1 hv;exact⟨w',by simp[execOp,hk,(ev h0).2,(ev h1).2,(ev h2).2,r1],r2,r3⟩
  ·cases hr
 ·rename_i ty m k x hk;split at hr
  next v0 v1 v2 h0 h1 h2=>obtain⟨h',hv,rfl⟩:=BT hr;obtain⟨w',r1,r2,r3⟩:=Y9e E.toiS H (k:=v1) (ev h0).1 (ev h2).1 hv;exact⟨w',by simp[execOp,hk,(ev h0).2,(ev h1).2,(ev h2).2,r1],r2,r3⟩
  ·cases hr
 ·rename_i ty m k hk;split at hr
  next v0 v1 h0 h1=>obtain⟨v,h',hv,rfl⟩:=qD hr;simp only[execOp,hk,(ev h0).2,(ev h1).2];exact mH (Jkx E.toiS H (ev h0).1 hv)
  ·cases hr
 ·rename_i ty m st x hk;split at hr
  next v0 v1 v2 h0 h1 h2=>obtain⟨h',hv,rfl⟩:=BT hr;obtain⟨w',r1,r2,r3⟩:=Zxd (P:=P) (t:=ty) H (st:=v1) (ev h0).1 (ev h2).1 hv;exact⟨w',by simp[execOp,hk,(ev h0).2,(ev h1).2,(ev h2).2,r1],r2,r3⟩
  ·cases hr
 ·rename_i ty x hk;split at hr
  next v0 h0=>obtain⟨v,h',hv,rfl⟩:=qD hr;simp only[execOp,hk,(ev h0).2];exact mH (Jzt E.toiS H (ev h0).1 hv)
  ·cases hr
 ·rename_i x s hk;split at hr
  next v0 h0=>obtain⟨v,h',hv,rfl⟩:=qD hr;simp only[execOp,hk,(ev h0).2];exact mH (J5r H (ev h0).1 hv)
  ·cases hr
 ·rename_i x hk;split at hr
  next v0 h0=>obtain⟨v,hv,rfl⟩:=kw hr;simp only[execOp,hk,(ev h0).2];exact mH (J4j H (ev h0).1 hv)
  ·cases hr
 ·rename_i c hk;split at hr
  ·cases hr
  ·rename_i args hA;obtain⟨e1,e2⟩:=Ea H ht hA;have e3:c.args.map a.eval=(args.map (ren Z)).toArray:=by apply bR;rw[bL,e1]
   split at hr
   ·rename_i b hb;have:=Jp8 (ty:=o.type) (cs:=c.args.map fun | .const _=>Y | _=>J) (ts:=c.argTypes) E H e2 hr;have he:(execOp a.eval o)=builtin b c.argTypes o.type (c.args.map fun | .const _=>Y | _=>J) (args.map (ren Z)).toArray:=by
     simp only[execOp,hk,resolve,hb,e3];rfl
    rw[he];exact this
   ·rename_i f hf;split at hr
    ·rename_i fv hp;split at hr
     ·rename_i s1 l hc;split at hr
      ·rename_i F hF;cases hr;obtain⟨o1,first,h3,o2,o3⟩:=Z5m (ev hp).1 e2 hc;obtain⟨g1,g2,g3⟩:=E.fnok _ _ hF;refine⟨rfl,?_,o1⟩;have ls:F.body.isNone=J:=by cases hb:F.body <;> simp[hb]at g3 ⊢
       simp only[execOp,hk,resolve,hf,e3,(ev hp).2,o2,Deferred.ofValue,aq,aN,ae,invoke,callFunc,run_program,g1,g2,az,if_false,ls,o3]
      ·split at hr
       next x hg=>obtain⟨v,h',hv,rfl⟩:=qD hr;obtain⟨o1,first,h3,o2,o3⟩:=Z5m (ev hp).1 e2 hc;obtain⟨F,g1,gx⟩:=E.exok _ _ hg;obtain⟨g2,g3,g4,g5⟩:=J8d gx;obtain⟨Z',w',r1,r2⟩:=J2f (P:=P) H o1 hv;rw[o3]at r1;have hy:∀ m,(mark m).run P w=.ok () w:=fun _=>rfl;refine⟨Z',w',?_,r2⟩;simp only[execOp,hk,resolve,hf,e3,(ev hp).2,o2,Deferred.ofValue,aq,aN,ae,invoke,callFunc,run_program,g1,g2,az,if_false,g3,if_true,hy,g4,g5,r1]
       ·cases hr
     ·obtain⟨l,h3,q1,rfl,q2,st,hq,t',ps,as,bd,d,q3,fn,tmps,q4,q5⟩:=J1q (P:=P) H (ev hp).1 e2 hr;refine⟨rfl,q2,e2,st,hq,t',ps,as,bd,d,q3,fn,tmps,q4,?_⟩;simp only[execOp,hk,resolve,hf,e3,(ev hp).2,q1,Deferred.ofValue,aq,aN,ae,invoke,Array.empty_append,q5]
    ·cases hr
   ·cases hr
 ·cases hr
end
structure St where
 t:Tm
 ds:List Deferred
 h:N
def uf(Z:Ren)(p:PanicEntry):PanicEntry:={v:=ren Z p.v,recovered:=p.recovered,goexit:=p.goexit}
def pX(Z:Ren):Exit->Exit
 | .panic ch => .panic (ch.map (uf Z))
 | e=>e
def qw(D:Nat->Prop):Exit->Prop
 | .panic ch => ∀ p ∈ ch,c_ D p.v
 | .outgrown=>False
 | _=>True
inductive ip where
 | ret (v:V)
 | panic (ch:List PanicEntry)
def qo(Z:Ren):ip->Ending
 | .ret v => .returned (ren Z v)
 | .panic ch => .panicked (ch.map (uf Z))
def tw(D:Nat->Prop):ip->Prop
 | .ret v=>c_ D v
 | .panic ch => ∀ p ∈ ch,c_ D p.v
structure iu (G:Bs) (Z:Ren) (s:St) (a:Act) (w:World):Prop where
 h:bN G Z s.h w
 t:iW Z s.t a.tmps
 ds:a.defers=s.ds.map (pK Z)
 okd:∀ d ∈ s.ds,uh (dom Z) d
def kZ(rd:Option Nat)(Z:Ren):Fence:=match rd with
 | none=>Fence.wide
 | some l=>Fence.wide.inRound (i4 Z l)
def CW(P:Program)(G:Bs)(rd:Option Nat)(n:Nat)(c:Code)(s:St)(Q:Exit->St->Prop):Prop :=
 ∀ Z a w,iu G Z s a w->(∀ l,rd=U l->dom Z l)->c.wpIn (kZ rd Z) 0 P (fun e' a' w' => ∃ Z' e s',Q e s'/\e'=pX Z' e/\qw (dom Z') e/\iC n Z Z'/\f_ Z s.h w Z' s'.h w'/\iu G Z' s' a' w') a w
def fx(P:Program)(G:Bs)(f:FuncId)(args:List V)(h:N)(R:ip->N->Prop):Prop :=
 ∀ Z w,bN G Z h w->(∀ v ∈ args,c_ (dom Z) v)->CallsIn Fence.wide 0 P f (args.map (ren Z)).toArray w
  (fun e w' => ∃ Z' r h',R r h'/\e=qo Z' r/\tw (dom Z') r/\iC h.Q Z Z'/\f_ Z h w Z' h' w'/\bN G Z' h' w')
def zI(P:Program)(G:Bs)(l:Nat)(args:List V)(h:N)(R:ip->N->Prop):Prop :=
 ∀ (Z:Ren) (w:World) (β:Ren) (rd:Option Nat) st hc t ps as bd d fn hx,bN G Z h w->dom Z l->(∀ v ∈ args,c_ (dom Z) v)->h.A l=U (.obj (.loop st hc t ps as bd d))->iW Z (qz t ps.toList args) hx ->
  RoundIn (kZ rd β) 0 P (i4 Z l) fn hx as bd w
   (fun e w' => ∃ Z' r h',R r h'/\e=qo Z' r/\tw (dom Z') r/\iC h.Q Z Z'/\f_ Z h w Z' h' w'/\bN G Z' h' w')
def fx.mono{P:Program}{G:Bs}{f:FuncId}{args:List V}{h:N}{R R':ip->N->Prop}(hc:fx P G f args h R)(hr:∀ r h',R r h'->R' r h'):fx P G f args h R' :=
 fun Z w H ha=>(hc Z w H ha).mono fun _ _ ⟨Z',r,h',h1,h2⟩=>⟨Z',r,h',hr _ _ h1,h2⟩
def CW.mono{P:Program}{G:Bs}{rd:Option Nat}{n m:Nat}{c:Code}{s:St}{Q Q':Exit->St->Prop}(hc:CW P G rd n c s Q)(hx:m<=n)(hq:∀ e s',Q e s'->Q' e s'):CW P G rd m c s Q' :=
 fun Z a w H hl=>wpIn_mono (hc Z a w H hl) fun _ _ _ ⟨Z',e,s',h1,h2,h3,h4,h5⟩=>⟨Z',e,s',hq _ _ h1,h2,h3,h4.mono hx,h5⟩
def St.put(s:St)(d:Option Tmp)(v:V)(h:N):St:=match d with
 | none=>{s with h:=h}
 | some i=>{t:=s.t.put i v,ds:=s.ds,h:=h}
def jY(s:St)(d:Option Tmp):Bool:=match d with
 | none=>Y
 | some i=>Nat.blt i s.t.size
section
variable{P:Program}{G:Bs}{Z:Ren}{s:St}{a:Act}{w:World}
def Eu{Z β:Ren}{D:Nat->Prop}(h:∀ b,D b->β b=Z b){d:Deferred}(hd:uh D d):pK β d=pK Z d:=by
 obtain⟨t,args⟩:=d;cases t <;> simp only[uh,pK]at hd ⊢
 next f c=>have h1:ren β (.func f #[] c)=ren Z (.func f #[] c):=ij h _ hd.1;simp only[ren,Value.func.injEq]at h1;rw[h1.1,h1.2.2,iX h _ hd.2]
 ·rw[iX h _ hd]
 ·rw[iX h _ hd]
 ·rw[rq (h _ hd.1),iX h _ hd.2]
def El{D E:Nat->Prop}(h:∀ b,D b->E b){d:Deferred}(hd:uh D d):uh E d:=by
 obtain⟨t,args⟩:=d;cases t <;> simp only[uh]at hd ⊢
 ·exact⟨h_ h _ hd.1,jl h _ hd.2⟩
 ·exact jl h _ hd
 ·exact jl h _ hd
 ·exact⟨h _ hd.1,jl h _ hd.2⟩
def iu.step(S_:iu G Z s a w){Z':Ren}{h':N}{w':World}(he:iC s.h.Q Z Z')(H':bN G Z' h' w'):iu G Z' {s with h:=h' } a w':=by
 have hd:∀ b,dom Z b->Z' b=Z b:=fun b hb=>he b (lJ S_.h hb);refine⟨H',S_.t.ext S_.h he,?_,fun d hx=>El (fun b hb=>by simpa[dom,hd b hb]using hb) (S_.okd d hx)⟩;rw[S_.ds];apply bV;intro d hx;exact(Eu hd (S_.okd d hx)).symm
def iu.put(S_:iu G Z s a w){d:Option Tmp}{v:V}(hd:jY s d=Y)(hv:c_ (dom Z) v):iu G Z (s.put d v s.h) (a.put d (ren Z v)) w:=by
 cases d with
 | none=>exact⟨S_.h,S_.t,S_.ds,S_.okd⟩
 | some i =>
  simp only[jY,dQ]at hd;exact⟨S_.h,S_.t.put hd hv,S_.ds,S_.okd⟩
def J0p{rd:Option Nat}{Q:Exit->St->Prop}(hq:Q .normal s):CW P G rd s.h.Q .skip s Q :=
 fun Z _ _ S_ _=>wpIn_skip ⟨Z,.normal,s,hq,rfl,trivial,iC.refl _ _,f_.refl _ _ _,S_⟩
def Jvy{rd:Option Nat}{l:Nat}{Q:Exit->St->Prop}(hq:Q .normal s):CW P G rd s.h.Q (.label l) s Q :=
 fun Z _ _ S_ _=>wpIn_label ⟨Z,.normal,s,hq,rfl,trivial,iC.refl _ _,f_.refl _ _ _,S_⟩
def J57{rd:Option Nat}{id:Nat}{Q:Exit->St->Prop}(hq:Q (.exit id) s):CW P G rd s.h.Q (.exit id) s Q :=
 fun Z _ _ S_ _=>wpIn_exit ⟨Z,.exit id,s,hq,rfl,trivial,iC.refl _ _,f_.refl _ _ _,S_⟩
def Va1{rd:Option Nat}{Q:Exit->St->Prop}(hq:Q .ret s):CW P G rd s.h.Q .ret s Q :=
 fun Z _ _ S_ _=>wpIn_ret ⟨Z,.ret,s,hq,rfl,trivial,iC.refl _ _,f_.refl _ _ _,S_⟩
def Ey{rd:Option Nat}{n:Nat}{Z β:Ren}{G:Bs}{s:St}{w:World}{a:Act}(S_:iu G Z s a w)(he:iC s.h.Q Z β)(hl:∀ l,rd=U l->dom Z l):kZ rd β=kZ rd Z/\(∀ l,rd=U l->dom β l)/\n=n:=by
 refine⟨?_,fun l h => ?_,rfl⟩
 ·cases rd with
  | none=>rfl
  | some l=>simp only[kZ,rq (he l (lJ S_.h (hl l rfl)))]
 ·have:=he l (lJ S_.h (hl l h));simpa[dom,this]using hl l h
def Va9{rd:Option Nat}{x y:Code}{Q:Exit->St->Prop}(h:CW P G rd s.h.Q x s (fun e s'=>s.h.Q<=s'.h.Q/\(e=.normal->CW P G rd s'.h.Q y s' Q)/\(e ≠ .normal->Q e s'))) :
  CW P G rd s.h.Q (.seq x y) s Q:=by
 intro Z a w S_ hl;refine wpIn_seq (wpIn_mono (h Z a w S_ hl) ?_);rintro e' a' w' ⟨Z',e,s',⟨hn,hA,ls⟩,rfl,hp,h2,hc,S'⟩;by_cases hb:e=.normal
 ·subst hb;obtain⟨f1,f2,_⟩:=Ey (rd:=rd) (n:=0) S_ h2 hl;have:=hA rfl Z' a' w' S' f2;rw[f1]at this;show y.wpIn _ _ _ _ _ _;refine wpIn_mono this ?_;rintro hg hq e1 ⟨h3,e2,hy,g1,g2,g3,g4,g5,g6⟩;exact⟨h3,e2,hy,g1,g2,g3,h2.trans g4 hn,hc.trans g5,g6⟩
 ·have : ∃ hx hr hk,Q hr hk/\pX Z' e=pX hx hr/\qw (dom hx) hr/\iC s.h.Q Z hx/\f_ Z s.h w hx hk.h w'/\iu G hx hk a' w':=⟨Z',e,s',ls hb,rfl,hp,h2,hc,S'⟩;cases e <;> first
   | exact absurd rfl hb
   | exact this
def ZC{rd:Option Nat}{c:Operand}{x y:Code}{Q:Exit->St->Prop}{b:Bool}(hc:g_ G s.t c=U (.bool b))(h:CW P G rd s.h.Q (if b then x else y) s Q):CW P G rd s.h.Q (.cond c x y) s Q:=by
 intro Z a w S_ hl;exact wpIn_cond (by rw[(uX S_.h S_.t hc).2,np]) (h Z a w S_ hl)
def Jvi{rd:Option Nat}{id n:Nat}{c:Code}{Q:Exit->St->Prop}(h:CW P G rd n c s (fun e s'=>match e with
  | .exit hk=>if hk=id then Q .normal s' else Q (.exit hk) s'
  | e=>Q e s')):CW P G rd n (.block id c) s Q:=by
 intro Z a w S_ hl;refine wpIn_block (wpIn_mono (h Z a w S_ hl) ?_);rintro e' a' w' ⟨Z',e,s',hq,rfl,h2,hc,hx,S'⟩;cases e with
 | exit hk =>
  simp only[pX,Exit.inBlock];simp only at hq;split
  next hr=>rw[if_pos hr]at hq;exact⟨Z',.normal,s',hq,rfl,trivial,hc,hx,S'⟩
  next hr=>rw[if_neg hr]at hq;exact⟨Z',.exit hk,s',hq,rfl,trivial,hc,hx,S'⟩
 | outgrown=>exact h2.elim
 | normal=>exact⟨Z',_,s',hq,rfl,h2,hc,hx,S'⟩
 | goto l=>exact⟨Z',_,s',hq,rfl,h2,hc,hx,S'⟩
 | ret=>exact⟨Z',_,s',hq,rfl,h2,hc,hx,S'⟩
 | panic ch=>exact⟨Z',_,s',hq,rfl,h2,hc,hx,S'⟩
def Jk4{p:Nat->Prop}:∀ k,p k->∃ j,p j/\∀ i,p i->j<=i:=by
 intro k;induction k using Nat.strongRecOn with
 | _ k ih =>
  intro hk;by_cases hj:∃ j,j < k/\p j
  ·obtain⟨j,h1,h2⟩:=hj;exact ih j h1 h2
  ·exact⟨k,hk,fun i hi=>Nat.le_of_not_lt fun hx=>hj ⟨i,hx,hi⟩⟩
def J24{rd:Option Nat}{n:Nat}{c:Code}{Q:Exit->St->Prop}(I_:Nat->St->Prop){k:Nat}(h0:I_ k s)(es:∀ l,rd=U l->l < n)(hn:n<=s.h.Q)
  (round:∀ k s,I_ k s->n<=s.h.Q->CW P G rd n c s (fun e s'=>n<=s'.h.Q/\(e=.normal->∃ k',k' < k/\I_ k' s')/\(e ≠ .normal->Q e s'))):CW P G rd n (.loop c) s Q:=by
 intro Z a w S_ hl
 let J_:Nat->Act->World->Prop:=fun k a' w' => ∃ Z' s',I_ k s'/\n<=s'.h.Q/\iC n Z Z'/\f_ Z s.h w Z' s'.h w'/\iu G Z' s' a' w'
 have hy:∃ μ:Act->World->Nat,∀ a w,(∃ k,J_ k a w)->J_ (μ a w) a w/\∀ j,J_ j a w->μ a w<=j:=by
  have : ∀ x:Act × World,∃ m:Nat,(∃ k,J_ k x.1 x.2)->J_ m x.1 x.2/\∀ j,J_ j x.1 x.2->m<=j:=fun x=>by
   by_cases hx:∃ k,J_ k x.1 x.2
   ·obtain⟨k,hk⟩:=hx;obtain⟨m,h1,h2⟩:=Jk4 (p:=fun k=>J_ k x.1 x.2) k hk;exact⟨m,fun _=>⟨h1,h2⟩⟩
   ·exact⟨0,fun h=>absurd h hx⟩
  exact⟨fun a w=>(this (a,w)).choose,fun a w h=>(this (a,w)).choose_spec h⟩
 obtain⟨μ,hy⟩:=hy;refine wpIn_loop (fun a w => ∃ k,J_ k a w) μ ⟨k,Z,s,h0,hn,iC.refl _ _,f_.refl _ _ _,S_⟩ fun a1 w1 hJ => ?_;obtain⟨⟨Z1,s1,hI,he,hc,h3,S1⟩,hg⟩:=hy a1 w1 hJ;have hf:kZ rd Z1=kZ rd Z:=by
  cases rd with
  | none=>rfl
  | some l=>simp only[kZ,rq (hc l (es l rfl))]
 have q1:∀ l,rd=U l->dom Z1 l:=fun l hB=>by
  have:=hc l (es l hB);simpa[dom,this]using hl l hB
 have hr:=round _ s1 hI he Z1 a1 w1 S1 q1;rw[hf]at hr;refine wpIn_mono hr ?_;rintro e' a' w' ⟨Z',e,s',⟨hz,hm,re⟩,rfl,hC,ls,hp,S'⟩;by_cases e1:e=.normal
 ·subst e1;obtain⟨k',h4,q2⟩:=hm rfl;have e2:J_ k' a' w':=⟨Z',s',q2,hz,hc.trans ls (ac _),h3.trans hp,S'⟩;exact⟨⟨k',e2⟩,Nat.lt_of_le_of_lt ((hy a' w' ⟨k',e2⟩).2 k' e2) h4⟩
 ·have : ∃ hb hq hA,Q hq hA/\pX Z' e=pX hb hq/\qw (dom hb) hq/\iC n Z hb/\f_ Z s.h w hb hA.h w'/\iu G hb hA a' w' :=
   ⟨Z',e,s',re e1,rfl,hC,hc.trans ls (ac _),h3.trans hp,S'⟩
  cases e <;> first
   | exact absurd rfl e1
   | exact this
end
structure b_ where
 fn:FuncId->List V->N->Option (ip × N)
 rnd:Nat->List V->N->Option (ip × N)
structure gr (P:Program) (G:Bs) (C:b_):Prop where
 fn:∀ f args h r h',C.fn f args h=U (r,h')->fx P G f args h (fun r1 h1=>r1=r/\h1=h')
 rnd:∀ l args h r h',C.rnd l args h=U (r,h')->zI P G l args h (fun r1 h1=>r1=r/\h1=h')
def Qg(ops:List Oper)(t:Tm)(o:Oper):Option Bool :=
 match o.guard with
 | none=>U Y
 | some (j,hx)=>match gS ops j with
  | none=>U J
  | some oj=>match oj.dst with
   | none=>U J
   | some d=>match t.t.A d with
    | some (.bool b)=>U (b == hx)
    | some _=>U J
    | none=>O
def Qq:V:=.tuple #[]
def BM{P:Program}(E:d_ P)(t:Tm)(c:Call):Option Deferred :=
 match c.callee with
 | .value f=>match g_ E.G t f,kH E.G t c.args.toList with
  | some (.func (.func fn) first hx),U args=>U {target:=.fn (.func fn) hx,args:=first++args.toArray}
  | _,_=>O
 | _=>O
def ui{P:Program}(E:d_ P)(C:b_)(rd:Option Nat)(o:Oper)(s:St):Option (Exit × St) :=
 if !jY s o.dst then O else
 match o.op with
 | .defer c=>match rd with
  | none=>match BM E s.t c with
   | some d=>U (.normal,({s with ds:=d::s.ds}:St).put o.dst Qq s.h)
   | none=>O
  | some _=>O
 | _=>match iN E s.t s.h o with
  | some (.val v h)=>U (.normal,s.put o.dst v h)
  | some (.skip h)=>U (.normal,s.put o.dst Qq h)
  | some (.panic v h)=>U (.panic [{v,recovered:=false}],{s with h:=h})
  | some (.enter f args h)=>match C.fn f args h with
   | some (.ret v,h')=>U (.normal,s.put o.dst v h')
   | some (.panic ch,h')=>U (.panic ch,{s with h:=h' })
   | none=>O
  | some (.round l args h)=>match C.rnd l args h with
   | some (.ret v,h')=>U (.normal,s.put o.dst v h')
   | some (.panic ch,h')=>U (.panic ch,{s with h:=h' })
   | none=>O
  | _=>O
def o8{P:Program}(E:d_ P)(C:b_)(rd:Option Nat)(ops:List Oper):List Oper->St->Option (Exit × St)
 | [],s=>U (.normal,s)
 | o::r,s =>
  match Qg ops s.t o with
  | some Y=>match ui E C rd o s with
   | some (.normal,s')=>o8 E C rd ops r s'
   | some (.panic ch,s')=>U (.panic ch,s')
   | _=>O
  | some J=>if jY s o.dst then o8 E C rd ops r (s.put o.dst Qq s.h)else O
  | none=>O
section
variable{P:Program}{Z:Ren}{s:St}{a:Act}{w:World}
def vn(rd:Option Nat)(Z:Ren)(f:FuncId):(kZ rd Z).fn f:=by cases rd <;> exact trivial
def yB(rd:Option Nat)(Z:Ren):(kZ rd Z).depth=O:=by cases rd <;> rfl
def Eo(rd:Option Nat)(Z:Ren):(kZ rd Z).round=rd.map (i4 Z):=by cases rd <;> rfl
def HO{rd:Option Nat}{Z:Ren}{n:Nat}{f:FuncId}{args:Array V}{w:World}{R:Ending->World->Prop}(h:CallsIn Fence.wide n P f args w R):CallsIn (kZ rd Z) n P f args w R:=by
 cases rd with
 | none=>exact h
 | some l=>exact h
def wb{G:Bs}{t:Tm}{tmps:Array V}(ht:iW Z t tmps){ops:Array Oper}{o:Oper}{b:Bool}(h:Qg ops.toList t o=U b):Region.wanted o (yielded ops tmps)=b:=by
 have _:=G;unfold Qg at h;unfold Region.wanted;split at h
 next hg=>rw[hg];cases h;rfl
 ·rename_i j hc hg;rw[hg];simp only;rw[u0,Array.getElem?_toList]at h;unfold yielded;split at h
  next hj=>cases h;simp[hj]
  ·rename_i oj hj;split at h
   next hd=>cases h;simp[hj,hd]
   ·rename_i d hd;split at h
    next q hq=>cases h;have:=(ht.vals d _ hq).2;simp[hj,hd,this]
    next v hq hx=>cases h;have:=(ht.vals d _ hx).2;simp only[hj,hd,dZ,this];cases v <;> simp[ren];rename_i b;exact absurd rfl (hq b)
    ·cases h
def Jls(E:d_ P)(S_:iu E.G Z s a w){c:Call}{d:Deferred}(hd:BM E s.t c=U d)(ty:TypeId):uh (dom Z) d/\(resolve a.eval c ty).run P w=.ok (pK Z d) w:=by
 unfold BM at hd;split at hd
 ·rename_i f hf;split at hd
  ·rename_i fn first hx args h1 h2
   cases hd;obtain⟨e1,e2⟩:=uX S_.h S_.t h1;obtain⟨e3,e4⟩:=Ea S_.h S_.t h2;have e5:c.args.map a.eval=(args.map (ren Z)).toArray:=by apply bR;rw[bL,e3]
   simp only[c_,vO]at e1;refine⟨?_,?_⟩
   ·simp only[uh,c_,vO];refine⟨⟨kA,e1.2⟩,fun v hv => ?_⟩;rcases Array.mem_append.1 hv with hv | hv
    ·exact e1.1 v hv
    ·exact e4 v (by simpa using hv)
   ·simp only[resolve,hf,e5,e2,ren,tW,Deferred.ofValue,aN,pK,rM,Array.map_append,List.map_toArray]
  ·cases hd
 ·cases hd
def iu.putU{G:Bs}(S_:iu G Z s a w){d:Option Tmp}(hd:jY s d=Y):iu G Z (s.put d Qq s.h) (a.put d undef) w:=by
 have:=S_.put (v:=Qq) hd (by simp[Qq,c_,lF,mO]);simpa[Qq,undef,ren,jk,jT]using this
def gy(s:St)(d:Option Tmp)(v:V)(h:N):s.put d v h=({s with h:=h}:St).put d v h:=by cases d <;> rfl
def Jtw(E:d_ P){C:b_}(hC:gr P E.G C){rd:Option Nat}{o:Oper}{e:Exit}{s1:St}(hs:ui E C rd o s=U (e,s1))(S_:iu E.G Z s a w)
  {next:Act->World->Prop} {Q:Exit->Act->World->Prop}
  (hn:∀ Z' a' w',iC s.h.Q Z Z'->f_ Z s.h w Z' s1.h w'->iu E.G Z' s1 a' w'->e=.normal->next a' w')
  (hp:∀ Z' a' w',iC s.h.Q Z Z'->f_ Z s.h w Z' s1.h w'->iu E.G Z' s1 a' w'->∀ ch,e=.panic ch->qw (dom Z') e->Q (pX Z' e) a' w') :
  o.wpIn (kZ rd Z) 0 P a w next Q:=by
 refine⟨fun f _=>vn rd Z f,?_⟩;unfold ui at hs;split at hs
 ·cases hs
 ·rename_i hk;have h2:jY s o.dst=Y:=by simpa using hk
  split at hs
  ·rename_i c hb;split at hs
   ·split at hs
    ·rename_i d hd;cases hs;obtain⟨d1,d2⟩:=Jls E S_ hd o.type;have : (o.semAt (kZ O Z).round a.eval).run P w=.ok (.defer (pK Z d)) w:=by
      rw[Eo];simp[Oper.semAt,execOp,hb,d2]
     rw[this];refine hn Z _ w (iC.refl _ _) ?_ ?_ rfl
     ·cases o.dst <;> exact f_.refl _ _ _
     ·have S1:iu E.G Z {s with ds:=d::s.ds} {a with defers:=pK Z d::a.defers} w :=
       ⟨S_.h,S_.t,by simp[S_.ds],fun x hx=>by rcases ao.1 hx with rfl | hx;exact d1;exact S_.okd x hx⟩
      exact S1.putU h2
    ·cases hs
   ·cases hs
  ·rename_i hb;have h3:o.semAt (kZ rd Z).round a.eval=execOp a.eval o:=f7 _ _ _ hb;rw[h3];split at hs
   ·rename_i v h hr;cases hs;obtain⟨Z',w',r1,r2,r3,r4,r5⟩:=qq E S_.h S_.t hr;rw[r1];have S1:=S_.step r3 r4;refine hn Z' _ w' r3 ?_ ?_ rfl
    ·cases o.dst <;> exact r5
    ·have:=S1.put (d:=o.dst) (v:=v) (by cases hd:o.dst <;> simp only[hd,jY]at h2 ⊢;exact h2) r2;rw[gy];exact this
   ·rename_i h hr;cases hs;obtain⟨w',r1,r2,r3⟩:=qq E S_.h S_.t hr;rw[r1];have S1:=S_.step (iC.refl _ _) r2;refine hn Z _ w' (iC.refl _ _) ?_ ?_ rfl
    ·cases o.dst <;> exact r3
    ·have:=S1.putU (d:=o.dst) (by cases hd:o.dst <;> simp only[hd,jY]at h2 ⊢;exact h2);rw[gy];exact this
   next v h hr=>cases hs;obtain⟨rfl,r1,r2⟩:=qq E S_.h S_.t hr;rw[r1];exact hp Z a w (iC.refl _ _) (f_.refl _ _ _) S_ _ rfl (by simpa[qw]using r2)
   ·rename_i f args h hr;obtain⟨rfl,r1,r2⟩:=qq E S_.h S_.t hr;rw[r1,f9];refine⟨by rw[yB];simp,HO ?_⟩;split at hs
    ·rename_i v h' hc;cases hs;refine(hC.fn _ _ _ _ _ hc Z w S_.h r2).mono ?_;rintro e' w' ⟨Z',r,h1,⟨rfl,rfl⟩,rfl,q1,q2,q3,q4⟩;have S1:=S_.step q2 q4;refine hn Z' _ w' q2 ?_ ?_ rfl
     ·cases o.dst <;> exact q3
     ·have:=S1.put (d:=o.dst) (v:=v) (by cases hd:o.dst <;> simp only[hd,jY]at h2 ⊢;exact h2) q1;rw[gy];exact this
    next ch h' hc=>cases hs;refine(hC.fn _ _ _ _ _ hc Z w S_.h r2).mono ?_;rintro e' w' ⟨Z',r,h1,⟨rfl,rfl⟩,rfl,q1,q2,q3,q4⟩;exact hp Z' a w' q2 q3 (S_.step q2 q4) _ rfl q1
    ·cases hs
   ·rename_i l args h hr;obtain⟨rfl,k1,r2,st,hA,t',ps,as,bd,d,k2,fn,ls,k3,r1⟩:=qq E S_.h S_.t hr;rw[r1,f8];refine⟨by rw[yB];simp,?_⟩;split at hs
    ·rename_i v h' hc;cases hs;refine(hC.rnd _ _ _ _ _ hc Z w Z rd _ _ _ _ _ _ _ _ _ S_.h k1 r2 k2 k3).mono ?_;rintro e' w' ⟨Z',r,h1,⟨rfl,rfl⟩,rfl,q1,q2,q3,q4⟩;have S1:=S_.step q2 q4;refine hn Z' _ w' q2 ?_ ?_ rfl
     ·cases o.dst <;> exact q3
     ·have:=S1.put (d:=o.dst) (v:=v) (by cases hd:o.dst <;> simp only[hd,jY]at h2 ⊢;exact h2) q1;rw[gy];exact this
    next ch h' hc=>cases hs;refine(hC.rnd _ _ _ _ _ hc Z w Z rd _ _ _ _ _ _ _ _ _ S_.h k1 r2 k2 k3).mono ?_;rintro e' w' ⟨Z',r,h1,⟨rfl,rfl⟩,rfl,q1,q2,q3,q4⟩;exact hp Z' a w' q2 q3 (S_.step q2 q4) _ rfl q1
    ·cases hs
   ·cases hs
def Vln(G:Bs)(n:Nat)(Z:Ren)(h:N)(w:World)(Q:Exit->St->Prop):Exit->Act->World->Prop :=
 fun e' a' w' => ∃ Z' e s',Q e s'/\e'=pX Z' e/\qw (dom Z') e/\iC n Z Z'/\f_ Z h w Z' s'.h w'/\iu G Z' s' a' w'
def Jop(E:d_ P){C:b_}(hC:gr P E.G C){rd:Option Nat}{ops:Array Oper}{Q:Exit->Act->World->Prop}:∀ (l:List Oper) (i:Nat) (s:St) (Z:Ren) (a:Act) (w:World) (e:Exit) (s1:St),
  ops.toList.drop i=l->o8 E C rd ops.toList l s=U (e,s1)->iu E.G Z s a w->(∀ l,rd=U l->dom Z l) ->
  (∀ Z' a' w',iC s.h.Q Z Z'->f_ Z s.h w Z' s1.h w'->iu E.G Z' s1 a' w'->qw (dom Z') e->Q (pX Z' e) a' w') ->
  wpOpsIn (kZ rd Z) 0 P ops Q (List.range' i (L l)) a w
 | [],i,s,Z,a,w,e,s1,_,h,S_,_,hQ=>by
  simp only[o8,av,bZ]at h;obtain⟨rfl,rfl⟩:=h;exact hQ Z a w (iC.refl _ _) (f_.refl _ _ _) S_ trivial
 | o::r,i,s,Z,a,w,e,s1,hc,h,S_,hl,hQ=>by
  have ho:ops[i]? = U o:=by
   have:=congrArg (fun l=>l[0]?) hc;simpa[List.getElem?_drop]using this
  have hx:ops.toList.drop (i+1)=r:=by
   have:=congrArg List.tail hc;simpa[fE]using this
  simp only[bm,ef,wpOpsIn,ho];simp only[o8]at h;split at h
  ·rename_i hw;rw[if_pos (wb (G:=E.G) S_.t hw)];split at h
   next s' hk=>refine Jtw E hC hk S_ (fun Z' a' w' h1 h2 h3 _ => ?_) (fun Z' a' w' _ _ _ ch hr _=>by cases hr);obtain⟨f1,f2,_⟩:=Ey (rd:=rd) (n:=0) S_ h1 hl;have:=Jop E hC (Q:=Q) r (i+1) s' Z' a' w' e s1 hx h h3 f2 (fun hb hp hy g1 g2 g3 g4=>hQ hb hp hy (h1.trans g1 h2.Q) (h2.trans g2) g3 g4);rwa [f1]at this
   next ch s' hk=>cases h;refine Jtw E hC hk S_ (fun Z' a' w' _ _ _ hA=>by cases hA) (fun Z' a' w' h1 h2 h3 hq hr ls => ?_);exact hQ Z' a' w' h1 h2 h3 ls
   ·cases h
  ·rename_i hw;rw[if_neg (by rw[wb (G:=E.G) S_.t hw];simp)];refine⟨fun f _=>vn rd Z f,?_⟩;split at h
   ·rename_i hd;have hh:(s.put o.dst Qq s.h).h=s.h:=by cases o.dst <;> rfl
    have:=Jop E hC (Q:=Q) r (i+1) _ Z _ w e s1 hx h (S_.putU hd) hl (by rw[hh];exact hQ);exact this
   ·cases h
  ·cases h
def J5g(E:d_ P){C:b_}(hC:gr P E.G C){rd:Option Nat}{id:Nat}{ops:Array Oper}{Q:Exit->St->Prop}{e:Exit}{s1:St}(h:o8 E C rd ops.toList ops.toList s=U (e,s1))(hQ:Q e s1) :
  CW P E.G rd s.h.Q (.region id ops J) s Q:=by
 intro Z a w S_ hl;have:=Jop E hC (ops:=ops) ops.toList 0 s Z a w e s1 rfl h S_ hl (Q:=Vln E.G s.h.Q Z s.h w Q) (fun Z' a' w' h1 h2 h3 h4=>⟨Z',e,s1,hQ,rfl,h4,h1,h2,h3⟩);rw[eY,<- dH]at this;exact wpIn_region this
end
structure dk (h h':N):Prop where
 Q:h.Q<=h'.Q
 low:h'.low<=h.low
 same:∀ b,b < h.Q->b < h'.low->h'.A b=h.A b
def dk.refl(h:N):dk h h:=⟨ac _,ac _,fun _ _ _=>rfl⟩
def dk.trans{a b c:N}(x:dk a b)(y:dk b c):dk a c :=
 ⟨ak x.Q y.Q,ak y.low x.low,fun k h1 h2=>(y.same k (aw h1 x.Q) h2).trans (x.same k h1 (aw h2 y.low))⟩
def dk.set(h:N)(b:Nat)(x:Option Blk)(hb:b < h.Q):dk h (h.set b x) :=
 ⟨ac _,fA _ _,fun k _ h2=>by
  rw[gY hb];have : k < b:=aw h2 (Nat.min_le_right _ _);rw[if_neg jA]⟩
def dk.push(h:N)(x:Blk):dk h (h.push x) :=
 ⟨bn _,ac _,fun k h1 _=>by rw[N.F,if_neg jA]⟩
def MD{h h':N}{a:Addr}{l:List V}(hh:storeAt h a l=U h'):dk h h':=by
 unfold storeAt at hh;split at hh
 next sz c hg=>rw[aj]at hh;obtain⟨c',_,rfl⟩:=hh;exact dk.set _ _ _ (N.D hg)
 ·cases hh
def mL.heap:mL->N
 | .val _ h | .skip h | .enter _ _ h | .round _ _ h | .defer _ h | .panic _ h=>h
section
variable{P:Program}
def Z48{E:iS P}{t:TypeId}{x:V}{lo hi mx:Option V}{h h':N}{v:V}(hv:ka E t x lo hi mx h=U (v,h')):dk h h':=by
 have hx:∀ {ad:Addr} {sz used l n:Nat} {h h':N} {v:V},ka.aCut ad sz used l n h=U (v,h')->dk h h':=by
  intro ad sz used l n h h' v hc;unfold ka.aCut at hc;split at hc
  ·cases hc;exact dk.refl _
  ·split at hc
   ·cases hc;exact dk.refl _
   ·split at hc
    ·cases hc;exact dk.push _ _
    ·cases hc
 have h2:∀ {o:Option V} {h h':N} {v:V},o.map (fun v=>(v,h))=U (v,h')->dk h h':=by
  intro o h h' v ho;rw[aj]at ho;obtain⟨_,_,hq⟩:=ho;cases hq;exact dk.refl _
 unfold ka at hv
 repeat' (first | (cases hv;done) | (exact h2 hv) | (exact hx hv) | (cases hv;exact dk.refl _) | split at hv | simp only at hv)
def Jt1{E:iS P}{t tx:TypeId}{s x:V}{h h':N}{v:V}(hv:mR E t tx s x h=U (v,h')):dk h h':=by
 have hx:∀ {a:Addr} {l:List V} {u:V} {h h':N} {v:V},(storeAt h a l).map (fun h'=>(u,h'))=U (v,h')->dk h h':=by
  intro a l u h h' v ho;rw[aj]at ho;obtain⟨_,h1,hq⟩:=ho;cases hq;exact MD h1
 unfold mR at hv;simp only at hv
 repeat' (first | (cases hv;done) | (exact hx hv) | (cases hv;exact dk.push _ _) | (cases hv;exact dk.refl _) |
  (cases hv;exact(dk.set _ _ _ (N.D (by assumption))).trans (dk.push _ _)) | split at hv)
def Jwy{E:iS P}{t:TypeId}{x v:V}{h h':N}(hv:KH E t x h=U (v,h')):dk h h':=by
 unfold KH at hv
 repeat' (first | (cases hv;done) | (cases hv;exact dk.refl _) | (cases hv;exact dk.set _ _ _ (N.D (by assumption))) | (rw[aj]at hv;obtain⟨_,h1,hq⟩:=hv;cases hq;exact MD h1) | split at hv)
def Jjc{E:d_ P}{b:Builtin}{ts:List TypeId}{args:List V}{h:N}{r:mL}(hr:Q9 E b ts args h=U r):dk h r.heap:=by
 unfold Q9 at hr;split at hr
 ·obtain⟨v,_,rfl⟩:=kw hr;exact dk.refl _
 ·obtain⟨v,_,rfl⟩:=kw hr;exact dk.refl _
 ·obtain⟨v,h',hv,rfl⟩:=qD hr;exact Jt1 hv
 ·obtain⟨v,h',hv,rfl⟩:=qD hr;unfold tj at hv
  repeat' (first | (cases hv;done) | (cases hv;exact dk.refl _) | (rw[aj]at hv;obtain⟨_,h1,hq⟩:=hv;cases hq;exact MD h1) | split at hv)
 ·obtain⟨v,_,rfl⟩:=kw hr;exact dk.refl _
 ·obtain⟨v,_,rfl⟩:=kw hr;exact dk.refl _
 ·cases hr;exact dk.refl _
 ·obtain⟨v,h',hv,rfl⟩:=qD hr;unfold zg at hv
  repeat' (first | (cases hv;done) | (cases hv;exact dk.set _ _ _ (N.D (by assumption))) | split at hv)
 ·obtain⟨v,h',hv,rfl⟩:=qD hr;exact Jwy hv
 ·cases hr
def Jxo{f:V}{args:List V}{h:N}{r:mL}(hr:u6 f args h=U r):dk h r.heap:=by
 unfold u6 at hr
 repeat' (first | (cases hr;done) | (cases hr;exact dk.refl _) | split at hr)
def Z1i{E:iS P}{t:TypeId}{m k x:V}{h h':N}(hv:pY E t m k x h=U h'):dk h h':=by
 unfold pY at hv
 repeat' (first | (cases hv;done) | (cases hv;exact dk.set _ _ _ (N.D (by assumption))) | split at hv)
def Jj1{E:iS P}{t:TypeId}{hint:Option V}{h h':N}{v:V}(hv:uC E t hint h=U (v,h')):dk h h':=by
 unfold uC at hv
 repeat' (first | (cases hv;done) | (cases hv;exact dk.push _ _) | split at hv)
def Jxv{E:iS P}{t:TypeId}{x v:V}{h h':N}(hv:ym E t x h=U (v,h')):dk h h':=by
 unfold ym at hv
 repeat' (first | (cases hv;done) | (cases hv;exact dk.push _ _) | split at hv)
def Zn5{it:V}{isS:Bool}{h:N}{x:V × N}(hx:x ∈ sm it isS h):dk h x.2:=by
 unfold sm at hx;split at hx
 ·rename_i r;split at hx
  ·rename_i hg;split at hx
   ·split at hx
    ·rw[aU]at hx;subst hx;exact dk.set _ _ _ (N.D hg)
    ·rw[aU]at hx;subst hx;exact dk.refl _
   ·cases hx
  ·split at hx
   ·cases hx
   ·rw[aU]at hx;subst hx;exact dk.refl _
  ·rename_i hg;split at hx
   ·split at hx
    ·cases hx
    ·obtain⟨c,_,rfl⟩:=am.1 hx;cases c with
     | none=>exact dk.refl _
     | some e=>exact dk.set _ _ _ (N.D hg)
   ·cases hx
  ·cases hx
 ·cases hx
def J1f{it:V}{isS:Bool}{v:V}{h h':N}(hv:G7 it isS h=U (v,h')):dk h h':=by
 unfold G7 at hv;split at hv
 next x hx=>cases hv;exact Zn5 (x:=(v,h')) (it:=it) (isS:=isS) (by rw[hx];simp)
 ·cases hv
def Jx1{x:pR}{l:List V}{v:V}{h h':N}(hv:AA x l h=U (v,h')):dk h h':=by
 unfold AA at hv
 repeat' (first | (cases hv;done) | (cases hv;exact dk.refl _) | (cases hv;exact dk.push _ _) | split at hv)
def Jdf{E:iS P}{t:TypeId}{m k v:V}{h h':N}(hv:zv E t m k h=U (v,h')):dk h h':=by
 unfold zv at hv
 repeat' (first | (cases hv;done) | (cases hv;exact dk.set _ _ _ (N.D (by assumption))) | split at hv)
def Zox{m st x:V}{h h':N}(hv:Ak m st x h=U h'):dk h h':=by
 unfold Ak at hv
 repeat' (first | (cases hv;done) | (cases hv;exact dk.set _ _ _ (N.D (by assumption))) | split at hv)
def sj {E : d_ P} {t : Tm} {h : N} {o : Oper} {r : mL} (hr : iN E t h o = U r) : dk h r.heap := by
  unfold iN at hr;have k0 : ∀ {x : Option V}, g0 h x = U r -> dk h r.heap := fun hx => by obtain ⟨v, _, rfl⟩ := kw hx; exact dk.refl _
  repeat' (first | (cases hr; done) | (exact k0 hr) | (exact Jjc hr) | (exact Jxo hr) | (cases hr; exact dk.refl _) |
    (obtain ⟨v, h', hv, rfl⟩ := qD hr
     first
      | exact Z48 hv
      | exact Jj1 hv
      | exact Jxv hv
      | exact J1f hv
      | exact Jdf hv
      | exact Jx1 hv
      | (rcases Jxi hv with rfl | ⟨_, rfl⟩
         · exact dk.refl _
         · exact dk.push _ _)
      | (unfold jh at hv; split at hv <;> cases hv; exact dk.push _ _)
      | (unfold jP at hv; split at hv <;> cases hv; exact dk.push _ _)
      | (unfold Wc at hv; repeat' (first | (cases hv; done) | (rw [aj] at hv; obtain ⟨_, h1, hq⟩ := hv; cases hq; exact dk.push _ _) | split at hv))
      | (unfold Ah at hv; repeat' (first | (cases hv; done) | (cases hv; exact dk.push _ _) | split at hv))) |
    (obtain ⟨h', hv, rfl⟩ := BT hr
     exact Z1i hv) |
    (obtain ⟨h', hv, rfl⟩ := BT hr
     exact Zox hv) |
    (obtain ⟨h', hv, rfl⟩ := BT hr
     unfold j0 at hv
     repeat' (first | (cases hv; done) | (unfold BR at hv; split at hv <;> first | exact MD hv | cases hv) | split at hv)) |
    split at hr)
structure gp (C:b_):Prop where
 fn:∀ f args h r h',C.fn f args h=U (r,h')->dk h h'
 rnd:∀ f args h r h',C.rnd f args h=U (r,h')->dk h h'
def Jl7{E:d_ P}{C:b_}(hC:gp C){rd:Option Nat}{o:Oper}{s s1:St}{e:Exit}(hs:ui E C rd o s=U (e,s1)):dk s.h s1.h:=by
 have hx:∀ (s:St) d v h,(s.put d v h).h=h:=fun s d v h=>by cases d <;> rfl
 unfold ui at hs;split at hs
 ·cases hs
 ·split at hs
  ·split at hs
   ·split at hs
    ·cases hs;rw[hx];exact dk.refl _
    ·cases hs
   ·cases hs
  ·split at hs
   next v h hr=>cases hs;rw[hx];exact sj hr
   next h hr=>cases hs;rw[hx];exact sj hr
   next v h hr=>cases hs;exact sj hr
   ·rename_i f args h hr;have h1:=sj hr;split at hs
    next hc=>cases hs;rw[hx];exact h1.trans (hC.fn _ _ _ _ _ hc)
    next hc=>cases hs;exact h1.trans (hC.fn _ _ _ _ _ hc)
    ·cases hs
   ·rename_i f args h hr;have h1:=sj hr;split at hs
    next hc=>cases hs;rw[hx];exact h1.trans (hC.rnd _ _ _ _ _ hc)
    next hc=>cases hs;exact h1.trans (hC.rnd _ _ _ _ _ hc)
    ·cases hs
   ·cases hs
end
def mh{P:Program}(E:d_ P)(C:b_)(o:Oper)(t:Tm)(h:N):Option (V × N) :=
 match iN E t h o with
 | some (.val v h)=>U (v,h)
 | some (.skip h)=>U (Qq,h)
 | some (.enter f args h)=>match C.fn f args h with
  | some (.ret v,h')=>U (v,h')
  | _=>O
 | some (.round l args h)=>match C.rnd l args h with
  | some (.ret v,h')=>U (v,h')
  | _=>O
 | _=>O
def Ho{G:Bs}{t t':Tm}:∀ {l:List Operand},(∀ x ∈ l,g_ G t x=g_ G t' x)->kH G t l=kH G t' l
 | [],_=>rfl
 | x::l,h=>by simp only[kH,h x kA,Ho (l:=l) fun y hy=>h y (by simp[hy])]
def Y53{G:Bs}{t t':Tm}:∀ {l:List (Nat × Operand)},(∀ x ∈ l.map (·.2),g_ G t x=g_ G t' x)->Qh G t l=Qh G t' l
 | [],_=>rfl
 | (i,x)::l,h=>by simp only[Qh,h x kA,Y53 (l:=l) fun y hy=>h y (by simp only[aK,ao];exact .inr hy)]
def L7{G:Bs}{t t':Tm}{x:Option Operand}(h:∀ y,x=U y->g_ G t y=g_ G t' y):kU G t x=kU G t' x:=by
 cases x with
 | none=>rfl
 | some y=>simp only[kU,h y rfl]
section
variable{P:Program}{Z:Ren}{h:N}{w:World}{a:Act}
def J07 (E : d_ P) {t t' : Tm} (o : Oper) (hx : ∀ x ∈ o.op.operands, g_ E.G t x = g_ E.G t' x) (h : N) : iN E t h o = iN E t' h o := by
  unfold iN;split <;> first
    | rfl
    | (rename_i hc; rw [hc] at hx; simp only [Op.operands] at hx
       first
        | (rw [hx _ kA]; done)
        | (rename_i a b; rw [hx a kA, hx b kA]; done)
        | (rename_i a b _; rw [hx a kA, hx b kA]; done)
        | (rename_i c a b; rw [hx c kA, hx a kA, hx b kA]; done)
        | (rw [Y53 fun x hm => hx x (by simpa using hm)]; done)
        | (rw [Ho fun x hm => hx x (by simp at hm ⊢; exact .inl hm), Ho fun x hm => hx x (by simp at hm ⊢; exact .inr hm)]; done)
        | (rename_i r; rw [L7 fun y hy => hx y (by subst hy; simp)]; done)
        | (rename_i m k v; rw [hx m kA, hx k kA, hx v kA]; done)
        | (rename_i x lo hi mx
           rw [hx x kA, L7 fun y hy => hx y (by subst hy; simp), L7 fun y hy => hx y (by subst hy; simp), L7 fun y hy => hx y (by subst hy; simp)]; done)
        | (rename_i c
           rw [Ho fun x hm => hx x (by simp only [Call.operands]; simp at hm ⊢; exact .inr hm)];split
           · rfl
           · split
             · rfl
             · rename_i f hf
               rw [hx f (by simp only [Call.operands,hf]; simp)]
             · rfl))
def MF(E:d_ P)(C:b_){t t':Tm}(o:Oper)(hx:∀ x ∈ o.op.operands,g_ E.G t x=g_ E.G t' x)(h:N):mh E C o t h=mh E C o t' h:=by
 unfold mh;rw[J07 E o hx h]
def Hs{E:d_ P}{C:b_}(hC:gp C){o:Oper}{t:Tm}{h h1:N}{v:V}(hs:mh E C o t h=U (v,h1)):dk h h1:=by
 unfold mh at hs;split at hs
 next hr=>cases hs;exact sj hr
 next hr=>cases hs;exact sj hr
 ·rename_i hr;have h1:=sj hr;split at hs
  next hc=>cases hs;exact h1.trans (hC.fn _ _ _ _ _ hc)
  ·cases hs
 ·rename_i hr;have h1:=sj hr;split at hs
  next hc=>cases hs;exact h1.trans (hC.rnd _ _ _ _ _ hc)
  ·cases hs
 ·cases hs
def J4(o:Oper):Bool:=match o.op with
 | .defer _=>J
 | _=>Y
def Jb9(E:d_ P){C:b_}(hC:gr P E.G C){rd:Option Nat}{β:Ren}{o:Oper}{t:Tm}{v:V}{h1:N}(hd:J4 o=Y)(hs:mh E C o t h=U (v,h1))(H:bN E.G Z h w)(ht:iW Z t a.tmps)
  {next:Act->World->Prop} {Q:Exit->Act->World->Prop}
  (hn:∀ Z' w',iC h.Q Z Z'->f_ Z h w Z' h1 w'->bN E.G Z' h1 w'->c_ (dom Z') v->next (a.put o.dst (ren Z' v)) w') :
  o.wpIn (kZ rd β) 0 P a w next Q:=by
 refine⟨fun f _=>vn rd β f,?_⟩;have hx:o.semAt (kZ rd β).round a.eval=execOp a.eval o:=f7 _ _ _ (fun c hc=>by simp[J4,hc]at hd);rw[hx];unfold mh at hs;split at hs
 next hr=>cases hs;obtain⟨Z',w',r1,r2,r3,r4,r5⟩:=qq E H ht hr;rw[r1];exact hn Z' w' r3 r5 r4 r2
 ·rename_i hr;cases hs;obtain⟨w',r1,r2,r3⟩:=qq E H ht hr;rw[r1];have:=hn Z w' (iC.refl _ _) r3 r2 (by simp[Qq,c_,lF,mO]);have e:ren Z Qq=undef:=by simp[Qq,undef]
  rw[e]at this;exact this
 ·rename_i f args h0 hr;obtain⟨rfl,r1,r2⟩:=qq E H ht hr;split at hs
  next v' h' hc=>cases hs;rw[r1,f9];refine⟨by rw[yB];simp,HO ?_⟩;refine(hC.fn _ _ _ _ _ hc Z w H r2).mono ?_;rintro e' w' ⟨Z',r,h2,⟨rfl,rfl⟩,rfl,q1,q2,q3,q4⟩;exact hn Z' w' q2 q3 q4 q1
  ·cases hs
 ·rename_i l args h0 hr;obtain⟨rfl,k1,r2,st,hk,t',ps,as,bd,d,k2,fn,tmps,k3,r1⟩:=qq E H ht hr;split at hs
  next v' h' hc=>cases hs;rw[r1,f8];refine⟨by rw[yB];simp,?_⟩;refine(hC.rnd _ _ _ _ _ hc Z w β rd _ _ _ _ _ _ _ _ _ H k1 r2 k2 k3).mono ?_;rintro e' w' ⟨Z',r,h2,⟨rfl,rfl⟩,rfl,q1,q2,q3,q4⟩;exact hn Z' w' q2 q3 q4 q1
  ·cases hs
 ·cases hs
def J0{P:Program}(E:d_ P)(o:Oper):Bool:=match o.op with
 | .move _ | .assign _ | .pick .. | .build .. | .nilCheck _ | .unOp .. | .sliceToArrayPointer .. | .makeInterface .. | .makeFunc .. | .fieldAddr .. | .field .. | .indexAddr .. | .index .. | .typeAssert .. | .extract .. => Y
 | .convert hc hx _=>vT E.toiS hc hx
 | .binOp _ t x y _=>Q8 x || Q8 y || !N6 E.toiS t
 | _=>J
def Zvv (E : d_ P) (C : b_) {o : Oper} (hf : J0 E o = Y) {t : Tm} {h h1 : N} {v : V} (hs : mh E C o t h = U (v, h1)) (h' : N) : h1 = h /\ mh E C o t h' = U (v, h') := by
  have key : ∀ r, iN E t h o = U r -> ∃ v, r = .val v h /\ iN E t h' o = U (.val v h') := by
    intro r hr;unfold J0 at hf;unfold iN at hr ⊢;split at hf <;> first
      | (cases hf; done)
      | skip
    all_goals
      rename_i hx;simp only [hx] at hr ⊢
      try simp only [hf] at hr ⊢
      first
      | (rw [P5 hf _ h'] at hr
         obtain ⟨u, hu, rfl⟩ := kw hr; exact ⟨u, rfl, by simp only [g0,hu]⟩)
      | (split at hr <;> first
          | (cases hr; done)
          | (rw [P5 hf _ h'] at hr
             obtain ⟨u, hu, rfl⟩ := kw hr; refine ⟨u, rfl, ?_⟩; simp only [g0, *]; done))
      | (obtain ⟨u, hu, rfl⟩ := kw hr; exact ⟨u, rfl, by simp only [g0,hu]⟩)
      | (split at hr <;> first
          | (cases hr; done)
          | (obtain ⟨u, hu, rfl⟩ := kw hr; refine ⟨u, rfl, ?_⟩; simp only [g0, *]; done))
  unfold mh at hs ⊢;cases hr : iN E t h o with
  | none => simp [hr] at hs
  | some r =>
    obtain ⟨u, rfl, hu⟩ := key r hr;rw [hr] at hs;simp only at hs;cases hs;exact ⟨rfl, by rw [hu]⟩
def loadAt{P:Program}(E:d_ P)(t:Tm)(o:Oper):Option Nat:=match o.op with
 | .load _ a=>match g_ E.G t a with
  | some (.pointer (U a))=>U a.block
  | _=>O
 | .lookup _ x _ _=>match g_ E.G t x with
  | some (.map (U b))=>U b
  | _=>O
 | _=>O
def Zo(o:Oper):Bool:=match o.op with
 | .load _ _=>Y
 | .lookup .. => Y
 | _=>J
def kT{P:Program}(E:d_ P)(t:Tm)(o:Oper)(h:N):Option V:=match o.op with
 | .load ty a=>match g_ E.G t a with
  | some x=>jy E.toiS ty x h
  | none=>O
 | .lookup ty x k ok=>match g_ E.G t x,g_ E.G t k with
  | some a,U b=>mW E.toiS ty a b ok h
  | _,_=>O
 | _=>O
def Jbl{h h':N}{a:Addr}(hg:h'.A a.block=h.A a.block)(n:Nat):cellsAt h' a n=cellsAt h a n:=by
 unfold cellsAt;rw[hg]
def HQ{h h':N}{a:Addr}(hg:h'.A a.block=h.A a.block)(r:ib):Bw r h' a=Bw r h a:=by
 unfold Bw;simp only[Jbl hg]
def LP{E:d_ P}{o:Oper}{t:Tm}(hl:Zo o=Y)(hs:(!Zo o || (loadAt E t o).isSome)=Y):(loadAt E t o).isSome=Y:=by
 simpa[hl]using hs
def Y61(E:iS P){ty:TypeId}{k:V}{ok:Bool}{b:Nat}{h h':N}(hg:h'.A b=h.A b):mW E ty (.map (U b)) k ok h'=mW E ty (.map (U b)) k ok h:=by
 have he:qi (.map (U b)) h'=qi (.map (U b)) h:=by simp only[qi,hg]
 simp only[mW,he]
def Vef{E:d_ P}{C:b_}{o:Oper}{t:Tm}{v:V}{h1:N}{b:Nat}(hl:loadAt E t o=U b)(hs:mh E C o t h=U (v,h1)) :
  h1=h/\∀ h':N,h'.A b=h.A b->mh E C o t h'=U (v,h'):=by
 unfold loadAt at hl;split at hl
 ·rename_i ty a hc;split at hl
  ·rename_i p ha;cases hl;simp only[mh,iN,hc,ha]at hs ⊢;cases hv:jy E.toiS ty (.pointer (U p)) h with
   | none=>simp[hv,g0]at hs
   | some u =>
    simp only[hv,g0]at hs;cases hs;refine⟨rfl,fun h' hg => ?_⟩;have : jy E.toiS ty (.pointer (U p)) h'=U v:=by
     rw[<- hv];unfold jy;split
     next a r e1 e2=>cases e1;exact HQ hg _
     ·rfl
    simp only[this,g0]
  ·cases hl
 ·rename_i ty x k ok hc;split at hl
  ·rename_i m hx;cases hl;simp only[mh,iN,hc,hx]at hs ⊢;cases hk:g_ E.G t k with
   | none=>simp[hk]at hs
   | some kv =>
    simp only[hk]at hs ⊢;cases hv:mW E.toiS ty (.map (U b)) kv ok h with
    | none=>simp[hv,g0]at hs
    | some u =>
     simp only[hv,g0]at hs;cases hs;refine⟨rfl,fun h' hg => ?_⟩;rw[Y61 E.toiS hg,hv];rfl
  ·cases hl
 ·cases hl
def Z4s{G:Bs}{Z:Ren}{E:d_ P}(hG:E.G=G)(H:bN G Z h w){t:Tm}{tmps:Array V}(ht:iW Z t tmps){o:Oper}{b:Nat}(hl:loadAt E t o=U b):dom Z b:=by
 subst hG;unfold loadAt at hl;split at hl
 ·split at hl
  next p ha=>cases hl;have:=(uX (a:=⟨tmps,[]⟩) H ht ha).1;simp only[c_]at this;exact this.1
  ·cases hl
 ·split at hl
  next m ha=>cases hl;have:=(uX (a:=⟨tmps,[]⟩) H ht ha).1;simpa only[c_]using this
  ·cases hl
 ·cases hl
def Z4u{E:d_ P}{C:b_}{o:Oper}{t:Tm}(hl:Zo o=Y)(h:N):mh E C o t h=(kT E t o h).map (fun v=>(v,h)):=by
 unfold Zo at hl;split at hl
 ·rename_i ty a hx;simp only[mh,iN,hx,kT];cases g_ E.G t a with
  | none=>rfl
  | some x =>
   simp only[g0];cases jy E.toiS ty x h <;> rfl
 ·rename_i ty x k ok hx;simp only[mh,iN,hx,kT];cases g_ E.G t x with
  | none=>rfl
  | some a =>
   cases g_ E.G t k with
   | none=>rfl
   | some b =>
    simp only[g0];cases mW E.toiS ty a b ok h <;> rfl
 ·cases hl
def DL{E:d_ P}{o:Oper}{t:Tm}{b:Nat}(hl:loadAt E t o=U b){h h':N}(hg:h'.A b=h.A b):kT E t o h'=kT E t o h:=by
 unfold loadAt at hl;split at hl
 ·rename_i ty a hc;split at hl
  ·rename_i ad hx;cases hl;simp only[kT,hc,hx,jy];cases E.ty.A ty with
   | none=>rfl
   | some r=>exact HQ hg r
  ·cases hl
 ·rename_i ty x k ok hc;split at hl
  ·rename_i m hx;cases hl;simp only[kT,hc,hx];cases g_ E.G t k with
   | none=>rfl
   | some kv=>exact Y61 E.toiS hg
  ·cases hl
 ·cases hl
def J6a{E:d_ P}{o:Oper}{t:Tm}{h h':N}(hg:∀ b,h'.A b=h.A b):kT E t o h'=kT E t o h:=by
 unfold kT;split
 ·split
  ·simp only[jy];split
   ·exact HQ (hg _) _
   ·rfl
  ·rfl
 ·split
  ·rename_i a b e1 e2;have he:qi a h'=qi a h:=by
    unfold qi;split
    ·rfl
    ·rw[hg]
    ·rfl
   simp only[mW,he]
  ·rfl
 ·rfl
def Jjv{E:d_ P}{t t':Tm}{o:Oper}(hx:∀ x ∈ o.op.operands,g_ E.G t x=g_ E.G t' x):loadAt E t o=loadAt E t' o:=by
 unfold loadAt;split
 next ty a hc=>rw[hc]at hx;simp only[Op.operands]at hx;rw[hx a kA]
 next ty x k ok hc=>rw[hc]at hx;simp only[Op.operands]at hx;rw[hx x kA]
 ·rfl
end
def Dr(B:List Nat):List Edge->Option Nat
 | []=>U 0
 | e::r=>match Dr B r with
  | none=>O
  | some s=>if Region.binds .any e then(match gS B e.on with
   | some b=>U (s ||| 2 ^ e.on ||| b)
   | none=>O)else U s
def i':List Oper->List Nat->Option (List Nat)
 | [],B=>U B
 | o::r,B=>match Dr B o.after.toList with
  | some b=>i' r (B ++ [b])
  | none=>O
def EL(x:Nat):List Nat->Bool
 | []=>J
 | y::l=>x == y || EL x l
def looks (ops : List Oper) (o : Oper) : List Tmp :=
  (o.op.operands.toList.filterMap fun | .tmp t => U t | _ => O) ++
  (match o.guard with
   | some (g, _) => match gS ops g with
     | some og => og.dst.toList
     | none => []
   | none => [])
def AJ (ops : List Oper) (x y : Oper) : Bool :=
  (match x.dst with
   | some d => !EL d (looks ops y) && !(match y.dst with | some c => d == c | none => J)
   | none => Y) &&
  (match y.dst with
   | some d => !EL d (looks ops x)
   | none => Y)
def OP(ops:List Oper)(b:Nat)(oj:Oper):List Oper->Nat->Bool
 | [],_=>Y
 | oi::r,i=>(b.testBit i || AJ ops oi oj) && OP ops b oj r (i+1)
def ji(ops:List Oper):List Oper->List Nat->List Oper->Bool
 | o::r,b::B,past=>OP ops b o past 0 && ji ops r B (past ++ [o])
 | [],[],_=>Y
 | _,_,_=>J
def W8{P:Program}(E:d_ P)(j bj:Nat):List Oper->List Nat->Nat->Bool
 | o::r,b::B,i=>(J0 E o || Zo o || (if i < j then bj.testBit i else if i == j then Y else b.testBit j)) && W8 E j bj r B (i+1)
 | _,_,_=>Y
def mS(h:N):N:={h with low:=h.Q}
def yl(h h1:N):N:={h1 with low:=min h.low h1.low}
inductive iU where
 | ld (t:Tm) (o:Oper)
 | wr (h0 h1:N)
def uR{P:Program}(E:d_ P)(s:St)(o:Oper)(h1:N):Option iU :=
 if Zo o then U (.ld s.t o)else if J0 E o then O else if Nat.ble s.h.Q h1.low then O else U (.wr s.h h1)
def AN:Option Addr->Option Addr->Bool
 | none,O=>Y
 | some a,U b=>Nat.beq a.block b.block && Nat.beq a.off b.off && (match a.spot,b.spot with | none,O=>Y | _,_=>J)
 | _,_=>J
def J2c:Int->Int->Bool
 | .ofNat a,.ofNat b=>Nat.beq a b
 | .negSucc a,.negSucc b=>Nat.beq a b
 | _,_=>J
def Ef:List UInt8->List UInt8->Bool
 | [],[]=>Y
 | a::l,b::r=>Nat.beq a.toNat b.toNat && Ef l r
 | _,_=>J
def A5:V->V->Bool
 | .bool a,.bool b=>a == b
 | .int k a,.int j b=>decide (k=j) && J2c a b
 | .string a,.string b=>Ef a.data.toList b.data.toList
 | .pointer a,.pointer b=>AN a b
 | .slice a n c,.slice b m d=>AN a b && Nat.beq n m && Nat.beq c d
 | .map O,.map O=>Y
 | .map (U a),.map (U b)=>Nat.beq a b
 | .nilFunc,.nilFunc=>Y
 | .nilIface,.nilIface=>Y
 | _,_=>J
def DU:List V->List V->Bool
 | [],[]=>Y
 | a::l,b::r=>A5 a b && DU l r
 | _,_=>J
def AL:V->V->Bool
 | .agg a,.agg b=>DU a.toList b.toList
 | a,b=>A5 a b
def D_:List V->List V->Bool
 | [],[]=>Y
 | a::l,b::r=>AL a b && D_ l r
 | _,_=>J
def vJ:Option V->Option V->Bool
 | none,O=>Y
 | some (.tuple a),U (.tuple b)=>D_ a.toList b.toList
 | some a,U b=>AL a b
 | _,_=>J
def Ym{P:Program}(E:d_ P)(i bi:Nat)(h0 h1:N):List (Option iU)->List Nat->Nat->Bool
 | some (.ld t o)::R,bk::Bs,k=>((if k < i then bi.testBit k else bk.testBit i) || vJ (kT E t o h1) (kT E t o h0)) && Ym E i bi h0 h1 R Bs (k+1)
 | _::R,_::Bs,k=>Ym E i bi h0 h1 R Bs (k+1)
 | _,_,_=>Y
def Zj{P:Program}(E:d_ P)(R0:List (Option iU))(B0:List Nat):List (Option iU)->List Nat->Nat->Bool
 | some (.wr h0 h1)::R,bi::Bs,i=>Ym E i bi h0 h1 R0 B0 0 && Zj E R0 B0 R Bs (i+1)
 | _::R,_::Bs,i=>Zj E R0 B0 R Bs (i+1)
 | _,_,_=>Y
def u9{P:Program}(E:d_ P)(ops:List Oper)(B:List Nat)(i:Nat)(o:Oper)(s:St)(h1:N):Bool :=
 (J0 E o || Nat.ble s.h.Q h1.low || Zo o || W8 E i ((gS B i).getD 0) ops B 0) && (!Zo o || (loadAt E s.t o).isSome)
def mX(x:Option iU):Option (St × List (Option iU))->Option (St × List (Option iU))
 | some (s,R)=>U (s,x::R)
 | none=>O
def sE{P:Program}(E:d_ P)(C:b_)(ops:List Oper)(B:List Nat):List Oper->Nat->St->Option (St × List (Option iU))
 | [],_,s=>U (s,[])
 | o::r,i,s =>
  if !(jY s o.dst && J4 o)then O else
  match Qg ops s.t o with
  | some J=>mX O (sE E C ops B r (i+1) (s.put o.dst Qq s.h))
  | some Y=>match mh E C o s.t (mS s.h)with
   | some (v,h1) =>
    if u9 E ops B i o s h1 then mX (uR E s o h1) (sE E C ops B r (i+1) (s.put o.dst v (yl s.h h1)))
    else O
   | none=>O
  | none=>O
def th{P:Program}(E:d_ P)(C:b_)(ops:List Oper)(s:St):Option St :=
 match i' ops []with
 | some B=>if ji ops ops B []then(match sE E C ops B ops 0 s with
  | some (s1,R)=>if Zj E R B R B 0 then U s1 else O
  | none=>O)else O
 | none=>O
def Jfu{a b:Option Addr}(h:AN a b=Y):a=b:=by
 unfold AN at h;split at h
 ·rfl
 next a b=>obtain⟨b1,o1,s1⟩:=a;obtain⟨b2,o2,s2⟩:=b;simp only[au]at h;obtain⟨⟨h1,h2⟩,h3⟩:=h;have e1:=aT h1;have e2:=aT h2;subst e1;subst e2;cases s1 <;> cases s2 <;> first | rfl | simp at h3
 ·cases h
def J85{a b:Int}(h:J2c a b=Y):a=b:=by
 unfold J2c at h;split at h
 ·rw[aT h]
 ·rw[aT h]
 ·cases h
def Z4w:∀ {a b:List UInt8},Ef a b=Y->a=b
 | [],[],_=>rfl
 | a::l,b::r,h=>by
  simp only[Ef,au]at h;rw[fw.1 (aT h.1),Z4w h.2]
 | [],_::_,h=>by simp[Ef]at h
 | _::_,[],h=>by simp[Ef]at h
def Jly{a b:V}(h:A5 a b=Y):a=b:=by
 unfold A5 at h;split at h
 ·rw[eq_of_beq h]
 ·simp only[au,decide_eq_true_eq]at h;rw[h.1,J85 h.2]
 next a b=>have:=Z4w h;cases a;cases b;congr 2;exact bR this
 ·rw[Jfu h]
 ·simp only[au]at h;rw[Jfu h.1.1,aT h.1.2,aT h.2]
 ·rfl
 ·rw[aT h]
 ·rfl
 ·rfl
 ·cases h
def Jvr:∀ {a b:List V},DU a b=Y->a=b
 | [],[],_=>rfl
 | a::l,b::r,h=>by
  simp only[DU,au]at h;rw[Jly h.1,Jvr h.2]
 | [],_::_,h=>by simp[DU]at h
 | _::_,[],h=>by simp[DU]at h
def Jwb{a b:V}(h:AL a b=Y):a=b:=by
 unfold AL at h;split at h
 ·rw[bR (Jvr h)]
 ·exact Jly h
def Jin:∀ {a b:List V},D_ a b=Y->a=b
 | [],[],_=>rfl
 | a::l,b::r,h=>by
  simp only[D_,au]at h;rw[Jwb h.1,Jin h.2]
 | [],_::_,h=>by simp[D_]at h
 | _::_,[],h=>by simp[D_]at h
def J6e{a b:Option V}(h:vJ a b=Y):a=b:=by
 unfold vJ at h;split at h
 ·rfl
 ·rw[bR (Jin h)]
 ·rw[Jwb h]
 ·cases h
def Jaq{x:Nat}:∀ {l:List Nat},EL x l=Y↔x ∈ l
 | []=>by simp[EL]
 | y::l=>by simp[EL,Jaq (l:=l)]
def Z4h{B:List Nat}:∀ {es:List Edge} {s:Nat},Dr B es=U s->∀ e ∈ es,Region.binds .any e=Y->∃ b,B[e.on]? = U b
 | [],_,_,e,he,_=>by simp at he
 | e0::r,s,h,e,he,hb=>by
  simp only[Dr]at h;split at h
  ·cases h
  ·rename_i s0 hc;rcases ao.1 he with rfl | he
   ·rw[if_pos hb]at h;rw[u0]at h;split at h
    next b hx=>exact⟨b,hx⟩
    ·cases h
   ·exact Z4h hc e he hb
def Z4c{B:List Nat}:∀ {es:List Edge} {s:Nat},Dr B es=U s->∀ i,s.testBit i=Y->∃ e ∈ es,Region.binds .any e=Y/\(i=e.on ∨ ∃ b,B[e.on]? = U b/\b.testBit i=Y)
 | [],s,h,i,hi=>by simp[Dr]at h;subst h;simp at hi
 | e0::r,s,h,i,hi=>by
  simp only[Dr]at h;split at h
  ·cases h
  ·rename_i s0 hc;have ih:=Z4c hc i;split at h
   ·rename_i hb;rw[u0]at h;split at h
    ·rename_i b hx;cases h;simp only[Nat.testBit_or,cx,Nat.testBit_two_pow]at hi;rcases hi with(hi | hi) | hi
     ·obtain⟨e,h1,h2⟩:=ih hi;exact⟨e,aY _ h1,h2⟩
     ·simp only[decide_eq_true_eq]at hi;exact⟨e0,bY,hb,.inl hi.symm⟩
     ·exact⟨e0,bY,hb,.inr ⟨b,hx,hi⟩⟩
    ·cases h
   ·cases h;obtain⟨e,h1,h2⟩:=ih hi;exact⟨e,aY _ h1,h2⟩
structure sG (ops:List Oper) (B:List Nat):Prop where
 len:L B=L ops
 on:∀ (j:Nat) (o:Oper),ops[j]? = U o->∀ e ∈ o.after.toList,Region.binds .any e=Y->e.on < j
 bits:∀ (j:Nat) (o:Oper) (b:Nat),ops[j]? = U o->B[j]? = U b->∀ i,b.testBit i=Y->∃ e ∈ o.after.toList,Region.binds .any e=Y/\(i=e.on ∨ ∃ b',B[e.on]? = U b'/\b'.testBit i=Y)
def Pz:∀ (r past:List Oper) (B0 B:List Nat),i' r B0=U B->sG past B0->sG (past++r) B
 | [],past,B0,B,h,hp=>by simp only[i',av]at h;subst h;simpa using hp
 | o::r,past,B0,B,h,hp=>by
  simp only[i']at h;split at h
  ·rename_i b hb;have:=Pz r (past ++ [o]) (B0 ++ [b]) B h ⟨by simp[hp.len],?_,?_⟩
   ·simpa using this
   ·intro j oj hj e he Z';by_cases hc:j < L past
    ·rw[List.getElem?_append_left hc]at hj;exact hp.on j oj hj e he Z'
    ·have hr:j=L past:=by
      have : j < L (past ++ [o]):=by
       rcases bJ j (L (past ++ [o])) with h | h
       ·exact h
       ·rw[List.getElem?_eq_none h]at hj;cases hj
      simp at this;omega
     subst hr;simp at hj;subst hj;obtain⟨b',hA⟩:=Z4h hb e he Z';have : e.on < L B0:=by
      rcases bJ e.on (L B0) with h | h
      ·exact h
      ·rw[List.getElem?_eq_none h]at hA;cases hA
     rw[hp.len]at this;exact this
   ·intro j oj bj hj hx i hi;by_cases hc:j < L past
    ·rw[List.getElem?_append_left hc]at hj;rw[List.getElem?_append_left (by rw[hp.len];exact hc)]at hx;obtain⟨e,h1,h2,h3⟩:=hp.bits j oj bj hj hx i hi;refine⟨e,h1,h2,h3.imp id ?_⟩;rintro⟨b',h4,h5⟩;have : e.on < L B0:=by
      rcases bJ e.on (L B0) with h | h
      ·exact h
      ·rw[List.getElem?_eq_none h]at h4;cases h4
     exact⟨b',by rw[List.getElem?_append_left this];exact h4,h5⟩
    ·have hr:j=L past:=by
      have : j < L (past ++ [o]):=by
       rcases bJ j (L (past ++ [o])) with h | h
       ·exact h
       ·rw[List.getElem?_eq_none h]at hj;cases hj
      simp at this;omega
     subst hr;simp at hj;subst hj;have hk:bj=b:=by
      rw[<- hp.len]at hx;simpa using hx.symm
     subst hk;obtain⟨e,h1,h2,h3⟩:=Z4c hb i hi;refine⟨e,h1,h2,h3.imp id ?_⟩;rintro⟨b',h4,h5⟩;have : e.on < L B0:=by
      rcases bJ e.on (L B0) with h | h
      ·exact h
      ·rw[List.getElem?_eq_none h]at h4;cases h4
     exact⟨b',by rw[List.getElem?_append_left this];exact h4,h5⟩
  ·cases h
def Z58{ops:List Oper}{b:Nat}{oj:Oper}:∀ {l:List Oper} {i:Nat},OP ops b oj l i=Y->∀ (k:Nat) (o:Oper),l[k]? = U o->b.testBit (i+k)=Y∨AJ ops o oj=Y
 | [],_,_,k,o,ho=>by simp at ho
 | o0::r,i,h,k,o,ho=>by
  simp only[OP,au,cx]at h;cases k with
  | zero=>simp at ho;subst ho;exact h.1
  | succ k =>
   simp at ho;have:=Z58 h.2 k o ho;rwa [show i+1+k=i+(k+1) by omega]at this
def QZ{ops:List Oper}:∀ {r:List Oper} {B:List Nat} {past:List Oper},ji ops r B past=Y ->
  ∀ (k:Nat) (o:Oper) (b:Nat),r[k]? = U o->B[k]? = U b->∀ (i:Nat) (oi:Oper),i < L past+k->(past++r)[i]? = U oi->b.testBit i=Y∨AJ ops oi o=Y
 | [],B,past,_,k,o,b,ho,_,_,_,_,_=>by simp at ho
 | o0::r,[],past,h,_,_,_,_,_,_,_,_,_=>by simp[ji]at h
 | o0::r,b0::B,past,h,k,o,b,ho,hb,i,oi,hi,hx=>by
  simp only[ji,au]at h;cases k with
  | zero =>
   simp at ho hb;subst ho;subst hb;simp only[cz]at hi;rw[List.getElem?_append_left hi]at hx;have:=Z58 h.1 i oi hx;rwa [bK]at this
  | succ k =>
   simp at ho hb;refine QZ h.2 k o b ho hb i oi (by simp;omega) ?_;rw[aQ];exact hx
def Zfg{P:Program}{E:d_ P}{j bj:Nat}:∀ {l:List Oper} {B:List Nat} {i:Nat},W8 E j bj l B i=Y->∀ (k:Nat) (o:Oper) (b:Nat),l[k]? = U o->B[k]? = U b ->
  J0 E o=Y∨Zo o=Y∨i+k=j∨(i+k < j/\bj.testBit (i+k)=Y)∨(j < i+k/\b.testBit j=Y)
 | [],_,_,_,k,o,_,ho,_=>by simp at ho
 | _::_,[],_,_,k,_,_,_,hb=>by simp at hb
 | o0::r,b0::B,i,h,k,o,b,ho,hb=>by
  simp only[W8,au,cx]at h;cases k with
  | zero =>
   simp at ho hb;subst ho;subst hb;rcases h.1 with(h1 | h1) | h1
   ·exact .inl h1
   ·exact .inr (.inl h1)
   ·split at h1
    next hx=>exact .inr (.inr (.inr (.inl ⟨by simpa using hx,by simpa using h1⟩)))
    ·rename_i h2;split at h1
     next heq=>exact .inr (.inr (.inl (by simpa using heq)))
     next hc=>have : i≠j:=(by simpa using hc);exact .inr (.inr (.inr (.inr ⟨jA,by simpa using h1⟩)))
  | succ k =>
   simp at ho hb;have:=Zfg h.2 k o b ho hb;rwa [show i+1+k=i+(k+1) by omega]at this
def Y89{P:Program}{E:d_ P}{i bi:Nat}{h0 h1:N}:∀ {R:List (Option iU)} {Bs:List Nat} {k0:Nat},Ym E i bi h0 h1 R Bs k0=Y->∀ (k:Nat) (t:Tm) (o:Oper) (bk:Nat),R[k]? = U (U (.ld t o))->Bs[k]? = U bk ->
  kT E t o h1=kT E t o h0∨(k0+k < i/\bi.testBit (k0+k)=Y)∨(i<=k0+k/\bk.testBit i=Y)
 | [],_,_,_,k,t,o,bk,hr,_=>by simp at hr
 | r::R,[],_,_,k,t,o,bk,_,hb=>by simp at hb
 | r::R,b::Bs,k0,h,k,t,o,bk,hr,hb=>by
  cases k with
  | zero =>
   simp only[List.getElem?_cons_zero,av]at hr hb;subst hr;subst hb;simp only[Ym,au,cx]at h;rcases h.1 with h2 | h2
   ·split at h2
    ·exact .inr (.inl ⟨by simpa,by simpa using h2⟩)
    ·exact .inr (.inr ⟨by simp;omega,h2⟩)
   ·exact .inl (J6e h2)
  | succ k =>
   have hx:Ym E i bi h0 h1 R Bs (k0+1)=Y:=by
    unfold Ym at h;split at h
    next e1 e2=>cases e1;cases e2;simp only[au]at h;exact h.2
    next e1 e2=>cases e1;cases e2;exact h
    next hc=>first | exact(hc _ _ _ _ rfl rfl).elim | rfl
   have:=Y89 hx k t o bk (by simpa using hr) (by simpa using hb);rw[show k0+1+k=k0+(k+1)from by omega]at this;exact this
def Zef{P:Program}{E:d_ P}{R0:List (Option iU)}{B0:List Nat}:∀ {R:List (Option iU)} {Bs:List Nat} {i0:Nat},Zj E R0 B0 R Bs i0=Y->∀ (i:Nat) (h0 h1:N) (bi:Nat),R[i]? = U (U (.wr h0 h1))->Bs[i]? = U bi->Ym E (i0+i) bi h0 h1 R0 B0 0=Y
 | [],_,_,_,i,h0,h1,bi,hr,_=>by simp at hr
 | r::R,[],_,_,i,h0,h1,bi,_,hb=>by simp at hb
 | r::R,b::Bs,i0,h,i,h0,h1,bi,hr,hb=>by
  cases i with
  | zero =>
   simp only[List.getElem?_cons_zero,av]at hr hb;subst hr;subst hb;simp only[Zj,au]at h;exact h.1
  | succ i =>
   have hx:Zj E R0 B0 R Bs (i0+1)=Y:=by
    unfold Zj at h;split at h
    next e1 e2=>cases e1;cases e2;simp only[au]at h;exact h.2
    next e1 e2=>cases e1;cases e2;exact h
    next hc=>first | exact(hc _ _ _ _ rfl rfl).elim | rfl
   have:=Zef hx i h0 h1 bi (by simpa using hr) (by simpa using hb);rwa [show i0+1+i=i0+(i+1)from by omega]at this
mutual
def mu{D E:Nat->Prop}:(v:V)->c_ D v->c_ E v->c_ (fun b=>D b/\E b) v
 | .pointer (U a),h,k=>by simp only[c_]at h k ⊢;exact⟨⟨h.1,k.1⟩,h.2⟩
 | .pointer O,_,_=>by simp[c_]
 | M (U a) _ _,h,k=>by simp only[c_]at h k ⊢;exact⟨⟨h.1,k.1⟩,h.2⟩
 | M O _ _,h,_=>by simpa only[c_]using h
 | .map (U r),h,k=>by simp only[c_]at h k ⊢;exact⟨h,k⟩
 | .map O,_,_=>by simp[c_]
 | .chan (U _),h,_=>by simp[c_]at h
 | .chan O,_,_=>by simp[c_]
 | .func fn f c,h,k=>by
  cases fn <;> simp only[c_]at h k ⊢ <;>
   first
    | exact⟨mw f h.1 k.1,mw c h.2 k.2⟩
    | exact⟨⟨h.1,k.1⟩,mw f h.2.1 k.2.1,mw c h.2.2 k.2.2⟩
 | .iface _ v,h,k=>by simp only[c_]at h k ⊢;exact mu v h k
 | .agg cs,h,k=>by simp only[c_]at h k ⊢;exact⟨mw cs h.1 k.1,h.2⟩
 | .tuple cs,h,k=>by simp only[c_]at h k ⊢;exact mw cs h k
 | .bool _,_,_=>by simp[c_]
 | .int _ _,_,_=>by simp[c_]
 | .float _ _,_,_=>by simp[c_]
 | .complex _ _ _,_,_=>by simp[c_]
 | .string _,_,_=>by simp[c_]
 | .nilFunc,_,_=>by simp[c_]
 | .nilIface,_,_=>by simp[c_]
def mw{D E:Nat->Prop}:(v:Array V)->lF D v->lF E v->lF (fun b=>D b/\E b) v
 | ⟨l⟩,h,k=>by simp only[lF]at h k ⊢;exact tS l h k
def tS{D E:Nat->Prop}:(v:List V)->mO D v->mO E v->mO (fun b=>D b/\E b) v
 | [],_,_=>by simp[mO]
 | v::l,h,k=>by simp only[mO]at h k ⊢;exact⟨mu v h.1 k.1,tS l h.2 k.2⟩
end
def Vdn{D E:Nat->Prop}{x:Blk}(h:okB D x)(k:okB E x):okB (fun b=>D b/\E b) x:=by
 cases x with
 | cells o z c=>exact fun v hv=>⟨mu v (h v hv).1 (k v hv).1,(h v hv).2⟩
 | map es c=>exact fun e he=>⟨(h e he).1,mu _ (h e he).2 (k e he).2⟩
 | obj o =>
  cases o with
  | loop st hc t ps as bd d=>exact⟨fun i v hv=>mu v (h.1 i v hv) (k.1 i v hv),h.2,k.2⟩
  | defs=>trivial
  | strIter b n=>trivial
  | mapIter m hx seen last=>exact fun b hb=>⟨h b hb,k b hb⟩
  | any=>trivial
def kM.keepD{Z β:Ren}{p:Place}{w w':World}{x:Blk}{D:Nat->Prop}(hf:kM Z p w x)(hx:Go.Ab.okB D x)(h:∀ b,D b->β b=Z b)(hD:∀ b,D b->dom Z b)(hw:w'.heap[p.blk]? = w.heap[p.blk]?):kM β p w' x:=by
 have hd:∀ b,D b->dom β b:=fun b hb=>by have:=hD b hb;simpa[dom,h b hb]using this
 cases x with
 | cells own sz c =>
  obtain⟨hk,hf⟩:=hf;rcases hf with hf | ⟨C,e,lo,hi,h1,h2,h3⟩
  ·exact⟨hk,.inl hf⟩
  refine⟨hk,.inr ⟨C,e,lo,hi,by rw[hw,h1],fun i v hv => ?_,h3⟩⟩;have hr:=(hx v (List.mem_of_getElem? hv)).1;obtain⟨a1,_,a3⟩:=h2 i v hv;exact⟨by rw[a1,ij h v hr],h_ hd v hr,a3⟩
 | map es Z' =>
  obtain⟨h0,h1,h2⟩:=hf;refine⟨h0,?_,fun e he=>⟨(h2 e he).1,h_ hd _ (hx e he).2⟩⟩;rw[hw,h1];congr 2;apply dJ;intro e he;exact(PT h (h2 e he).1 (hx e he).2).symm
 | obj o =>
  obtain⟨h0,o',h1,h2⟩:=hf;refine⟨h0,o',by rw[hw,h1],?_⟩;cases o with
  | loop st hA t ps as bd d =>
   obtain⟨h3,fn,hc,h4,h5⟩:=h2;exact⟨hd d hx.2,fn,hc,by rw[h4,rq (h d hx.2)],h5.size,fun i v hv=>⟨h_ hd v (hx.1 i v hv),by rw[(h5.vals i v hv).2,ij h v (hx.1 i v hv)]⟩⟩
  | defs=>exact h2
  | strIter b n=>exact h2
  | mapIter m hp seen last =>
   obtain⟨h3,h4⟩:=h2;refine⟨fun b hb=>hd b (hx b hb),?_⟩;rw[h4];cases m with
   | none=>rfl
   | some b=>simp only[aL,rq (h b (hx b rfl))]
  | any=>trivial
def Ren.below(Z:Ren)(n:Nat):Ren:=fun b=>if b < n then Z b else O
section
variable{P:Program}{G:Bs}{Z:Ren}{h:N}{w:World}
def bN.restrict(H:bN G Z h w){h':N}(hn:G.n<=h'.Q)(hg:∀ b,Go.Ab.dom Z b->b < h'.Q->h'.A b=h.A b)(hA:∀ b x,h'.A b=U x->okB (fun c=>c < h'.Q) x):bN G (Ren.below Z h'.Q) h' w:=by
 have hb:∀ b p,Ren.below Z h'.Q b=U p->b < h'.Q/\Z b=U p:=by
  intro b p hp;unfold Ren.below at hp;split at hp
  ·exact⟨by assumption,hp⟩
  ·cases hp
 refine⟨fun b p hp=>⟨(hb b p hp).1,(H.dom b p (hb b p hp).2).2⟩,fun b p x hp hx => ?_,fun b c p q hp hq Z' ho hl => ?_,fun g hk => ?_,hn,hA,fun b p x hp hx => ?_,H.bsz⟩
 ·obtain⟨h1,h2⟩:=hb b p hp;have ls:h.A b=U x:=by rw[<- hg b (uB h2) h1];exact hx
  have hf:=H.fits b p x h2 ls;refine hf.keepD (Vdn hf.okB (hA b x hx)) (fun c hc => ?_) (fun c hc=>hc.1) rfl;unfold Ren.below;rw[if_pos hc.2]
 ·obtain⟨h1,h2⟩:=hb b p hp;obtain⟨h3,h4⟩:=hb c q hq;exact H.apart b c p q h2 h4 Z' (by rw[<- uv (hg b (uB h2) h1)];exact ho) (by rw[<- PQ (hg c (uB h4) h3)];exact hl)
 ·have hr:g < h'.Q:=jA
  refine⟨by unfold Ren.below;rw[if_pos hr];exact(H.glob g hk).1,?_⟩;rw[uv (hg g (uB (H.glob g hk).1) hr)];exact(H.glob g hk).2
 ·obtain⟨h1,h2⟩:=hb b p hp;exact H.base b p x h2 (by rw[<- hg b (uB h2) h1];exact hx)
def Jie(E:d_ P){C:b_}(hC:gr P E.G C){o:Oper}{t:Tm}{a:Act}{v:V}{h1:N}(hs:mh E C o t h=U (v,h1))(H:bN E.G Z h w)(ht:iW Z t a.tmps) :
  ∃ Z' w',iC h.Q Z Z'/\bN E.G Z' h1 w'/\c_ (dom Z') v:=by
 unfold mh at hs;split at hs
 next hr=>cases hs;obtain⟨Z',w',r1,r2,r3,r4,r5⟩:=qq E H ht hr;exact⟨Z',w',r3,r4,r2⟩
 next hr=>cases hs;obtain⟨w',r1,r2,r3⟩:=qq E H ht hr;exact⟨Z,w',iC.refl _ _,r2,by simp[Qq,c_,lF,mO]⟩
 ·rename_i f args h0 hr;obtain⟨rfl,r1,r2⟩:=qq E H ht hr;split at hs
  next v' h' hc=>cases hs;obtain⟨e,w',fr,⟨Z',r,h2,⟨rfl,rfl⟩,_,q1,q2,q3,q4⟩,_⟩:=(hC.fn _ _ _ _ _ hc Z w H r2).2 [] (room_wide _);exact⟨Z',w',q2,q4,q1⟩
  ·cases hs
 ·rename_i l args h0 hr;obtain⟨rfl,k1,r2,st,hk,t',ps,as,bd,d,k2,fn,tmps,k3,r1⟩:=qq E H ht hr;split at hs
  next v' h' hc=>cases hs;obtain⟨_,hx⟩:=hC.rnd _ _ _ _ _ hc Z w Z O st hk t' ps as bd d fn tmps H k1 r2 k2 k3;obtain⟨e,w',⟨Z',r,h2,⟨rfl,rfl⟩,_,q1,q2,q3,q4⟩,_⟩:=hx default [] (room_wide _);exact⟨Z',w',q2,q4,q1⟩
  ·cases hs
 ·cases hs
end
def KT{P:Program}(E:d_ P)(C:b_)(ops:List Oper)(B:List Nat)(i:Nat)(o:Oper)(s s':St):Prop :=
 jY s o.dst=Y/\J4 o=Y/\((Qg ops s.t o=U J/\s'=s.put o.dst Qq s.h) ∨
  (Qg ops s.t o=U Y/\∃ v h1,mh E C o s.t (mS s.h)=U (v,h1)/\s'=s.put o.dst v (yl s.h h1)/\u9 E ops B i o s h1=Y))
def PW{x:Option iU}{r:Option (St × List (Option iU))}{s:St}{R:List (Option iU)}(h:mX x r=U (s,R)):∃ R',r=U (s,R')/\R=x::R':=by
 unfold mX at h;split at h
 ·cases h;exact⟨_,rfl,rfl⟩
 ·cases h
def Iu{P:Program}(E:d_ P)(C:b_)(ops:List Oper)(o:Oper)(s s':St)(x:Option iU):Prop :=
 (Qg ops s.t o=U J/\x=O)∨(Qg ops s.t o=U Y/\∃ v h1,mh E C o s.t (mS s.h)=U (v,h1)/\s'=s.put o.dst v (yl s.h h1)/\x=uR E s o h1)
def Rj{P:Program}{E:d_ P}{C:b_}{ops:List Oper}{B:List Nat}:∀ (r:List Oper) (i:Nat) (s s1:St) (R:List (Option iU)),sE E C ops B r i s=U (s1,R) ->
  ∃ σ:Nat->St,σ i=s/\σ (i+L r)=s1/\(∀ k o,r[k]? = U o->KT E C ops B (i+k) o (σ (i+k)) (σ (i+k+1)))/\∀ k o,r[k]? = U o->∃ x,R[k]? = U x/\Iu E C ops o (σ (i+k)) (σ (i+k+1)) x
 | [],i,s,s1,R,h=>by
  simp only[sE,av,bZ]at h;exact⟨fun _=>s,rfl,h.1,fun k o ho=>by simp at ho,fun k o ho=>by simp at ho⟩
 | o0::r,i,s,s1,R,h=>by
  have key:∀ s' x,KT E C ops B i o0 s s'->Iu E C ops o0 s s' x->mX x (sE E C ops B r (i+1) s')=U (s1,R) ->
    ∃ σ:Nat->St,σ i=s/\σ (i+L (o0::r))=s1/\(∀ k o,(o0::r)[k]? = U o->KT E C ops B (i+k) o (σ (i+k)) (σ (i+k+1)))/\∀ k o,(o0::r)[k]? = U o->∃ x,R[k]? = U x/\Iu E C ops o (σ (i+k)) (σ (i+k+1)) x:=by
   intro s' x hb hx hr;obtain⟨R',hk,rfl⟩:=PW hr;obtain⟨σ,e1,e2,e3,e4⟩:=Rj r (i+1) s' s1 R' hk;refine⟨fun j=>if j=i then s else σ j,kA,?_,?_,?_⟩
   ·simp only[bm];rw[if_neg jA,show i+(L r+1)=i+1+L r by omega];exact e2
   ·intro k o ho;cases k with
    | zero =>
     simp at ho;subst ho;simp only[cz,if_true];rw[if_neg jA,e1];exact hb
    | succ k =>
     simp at ho;show KT E C ops B (i+(k+1)) o (if i+(k+1)=i then s else σ (i+(k+1))) (if i+(k+1)+1=i then s else σ (i+(k+1)+1));rw[if_neg jA,if_neg jA];have:=e3 k o ho;rwa [show i+1+k=i+(k+1) by omega]at this
   ·intro k o ho;cases k with
    | zero =>
     simp at ho;subst ho;refine⟨x,rfl,?_⟩;simp only[cz,if_true];rw[if_neg jA,e1];exact hx
    | succ k =>
     simp at ho;obtain⟨y,h1,h2⟩:=e4 k o ho;refine⟨y,h1,?_⟩;show Iu E C ops o (if i+(k+1)=i then s else σ (i+(k+1))) (if i+(k+1)+1=i then s else σ (i+(k+1)+1)) y;rw[if_neg jA,if_neg jA];rwa [show i+1+k=i+(k+1) by omega]at h2
  simp only[sE]at h;split at h
  ·cases h
  ·rename_i hc;simp only[cQ,dW,au]at hc;split at h
   next hw=>exact key _ _ ⟨hc.1,hc.2,.inl ⟨hw,rfl⟩⟩ (.inl ⟨hw,rfl⟩) h
   ·rename_i hw;split at h
    ·rename_i v h1 hv;split at h
     next hq=>exact key _ _ ⟨hc.1,hc.2,.inr ⟨hw,v,h1,hv,rfl,hq⟩⟩ (.inr ⟨hw,v,h1,hv,rfl,rfl⟩) h
     ·cases h
    ·cases h
   ·cases h
structure iQ {P:Program} (E:d_ P) (C:b_) (ops:Array Oper) (B:List Nat) (σ:Nat->St):Prop where
 bef:sG ops.toList B
 pairs:∀ (j i:Nat) (oj oi:Oper) (b:Nat),ops[j]? = U oj->ops[i]? = U oi->B[j]? = U b->i < j->b.testBit i=Y∨AJ ops.toList oi oj=Y
 step:∀ (i:Nat) (o:Oper),ops[i]? = U o->KT E C ops.toList B i o (σ i) (σ (i+1))
 cross:∃ R:List (Option iU),Zj E R B R B 0=Y/\∀ (k:Nat) (o:Oper),ops[k]? = U o->∃ x,R[k]? = U x/\Iu E C ops.toList o (σ k) (σ (k+1)) x
section
variable{P:Program}{E:d_ P}{C:b_}{ops:Array Oper}{B:List Nat}{σ:Nat->St}
def rv(E:d_ P)(ops:Array Oper)(σ:Nat->St)(i:Nat):Prop:=∃ o,ops[i]? = U o/\(J0 E o=Y∨Qg ops.toList (σ i).t o=U J∨(loadAt E (σ i).t o).isSome=Y)
def qa(s:St)(d:Option Tmp)(v:V)(h:N):(s.put d v h).h=h:=by cases d <;> rfl
def Vak(s:St)(d:Option Tmp)(v:V)(h:N):(s.put d v h).ds=s.ds:=by cases d <;> rfl
def Jvc(s:St)(d:Option Tmp)(v:V)(h:N):(s.put d v h).t.size=s.t.size:=by cases d <;> rfl
def ZI(s:St)(d:Option Tmp)(v:V)(h:N)(x:Nat)(hx:d≠U x):(s.put d v h).t.t.A x=s.t.t.A x:=by
 cases d with
 | none=>rfl
 | some i =>
  simp only[St.put,Tm.put,Tr.H];rw[if_neg (fun e=>hx (by rw[e]))]
def QT(s:St)(i:Nat)(v:V)(h:N):(s.put (U i) v h).t.t.A i=U v:=by
 simp[St.put,Tm.put,Tr.H]
def Jib(h:N)(b:Nat):(mS h).A b=h.A b:=rfl
def P_(h h1:N)(b:Nat):(yl h h1).A b=h1.A b:=rfl
def iQ.next_le(c:iQ E C ops B σ)(hL:gp C){i:Nat}(hi:i < ops.size):(σ i).h.Q<=(σ (i+1)).h.Q:=by
 have ho:ops[i]? = U ops[i]:=by simp[hi]
 obtain⟨_,_,h⟩:=c.step i _ ho;rcases h with⟨_,h⟩ | ⟨_,v,h1,hv,h,_⟩
 ·rw[h,qa];exact ac _
 ·rw[h,qa];exact(Hs hL hv).Q
def iQ.next_mono(c:iQ E C ops B σ)(hL:gp C):∀ {i j:Nat},i<=j->j<=ops.size->(σ i).h.Q<=(σ j).h.Q:=by
 intro i j hx;induction hx with
 | refl=>exact fun _=>ac _
 | step h ih=>exact fun hj=>ak (ih jA) (c.next_le hL jA)
def iQ.size(c:iQ E C ops B σ):∀ {i:Nat},i<=ops.size->(σ i).t.size=(σ 0).t.size:=by
 intro i;induction i with
 | zero=>exact fun _=>rfl
 | succ i ih =>
  intro hi;have ho:ops[i]? = U ops[i]:=by simp[show i < ops.size by omega]
  obtain⟨_,_,h⟩:=c.step i _ ho;rcases h with⟨_,h⟩ | ⟨_,v,h1,hv,h,_⟩
  ·rw[h,Jvc];exact ih jA
  ·rw[h,Jvc];exact ih jA
def iQ.dss(c:iQ E C ops B σ):∀ {i:Nat},i<=ops.size->(σ i).ds=(σ 0).ds:=by
 intro i;induction i with
 | zero=>exact fun _=>rfl
 | succ i ih =>
  intro hi;have ho:ops[i]? = U ops[i]:=by simp[show i < ops.size by omega]
  obtain⟨_,_,h⟩:=c.step i _ ho;rcases h with⟨_,h⟩ | ⟨_,v,h1,hv,h,_⟩
  ·rw[h,Vak];exact ih jA
  ·rw[h,Vak];exact ih jA
def iQ.free(c:iQ E C ops B σ){i:Nat}(hf:rv E ops σ i):(σ (i+1)).h.Q=(σ i).h.Q/\∀ b,(σ (i+1)).h.A b=(σ i).h.A b:=by
 obtain⟨o,ho,hf⟩:=hf;obtain⟨_,_,h⟩:=c.step i _ ho;rcases h with⟨_,h⟩ | ⟨hw,v,h1,hv,h,_⟩
 ·rw[h,qa];exact⟨rfl,fun _=>rfl⟩
 ·rcases hf with hf | hf
  ·obtain⟨rfl,_⟩:=Zvv E C hf hv (σ i).h;rw[h,qa];exact⟨rfl,fun _=>rfl⟩
  ·rcases hf with hf | hf
   ·rw[hw]at hf;cases hf
   ·obtain⟨b,hb⟩:=aJ.1 hf;obtain⟨rfl,_⟩:=Vef hb hv;rw[h,qa];exact⟨rfl,fun _=>rfl⟩
def OQ(σ:Nat->St)(i:Nat):Prop:=∀ b,b < (σ i).h.Q->(σ (i+1)).h.A b=(σ i).h.A b
def Vm9(E:d_ P)(ops:Array Oper)(B:List Nat)(σ:Nat->St)(i:Nat):Prop:=∀ k,k < ops.size->¬ rv E ops σ k->k≠i->(k < i/\∃ b,B[i]? = U b/\b.testBit k=Y)∨(i < k/\∃ b,B[k]? = U b/\b.testBit i=Y)
def Vko(E:d_ P)(ops:Array Oper)(B:List Nat)(σ:Nat->St)(i:Nat):Prop:=∀ k ok c,ops[k]? = U ok->Qg ops.toList (σ k).t ok=U Y->loadAt E (σ k).t ok=U c->c < (σ i).h.Q ->
 kT E (σ k).t ok (σ (i+1)).h=kT E (σ k).t ok (σ i).h∨(k < i/\∃ b,B[i]? = U b/\b.testBit k=Y)∨(i < k/\∃ b,B[k]? = U b/\b.testBit i=Y)
def Y70{E:d_ P}{t:Tm}{o:Oper}{b:Nat}(h:loadAt E t o=U b):Zo o=Y:=by
 unfold loadAt at h;unfold Zo;split at h
 next hx=>simp[hx]
 next hx=>simp[hx]
 ·cases h
def iQ.kinds(c:iQ E C ops B σ)(hL:gp C){i:Nat}(hi:i < ops.size):rv E ops σ i∨OQ σ i∨(Vm9 E ops B σ i/\Vko E ops B σ i):=by
 have ho:ops[i]? = U ops[i]:=by simp[hi]
 have Z':i < L B:=by rw[c.bef.len];simpa using hi
 obtain⟨_,_,h⟩:=c.step i _ ho;rcases h with⟨hw,h⟩ | ⟨hw,v,h1,hv,h,hq⟩
 ·exact .inl ⟨_,ho,.inr (.inl hw)⟩
 ·unfold u9 at hq;rw[au]at hq;obtain⟨hq,hB⟩:=hq;simp only[cx,cY]at hq;rcases hq with((hq | hq) | hq) | hq
  ·exact .inl ⟨_,ho,.inl hq⟩
  ·refine .inr (.inl fun b hb => ?_);rw[h,qa,P_];have:=(Hs hL hv).same b hb (aw hb hq);rw[this,Jib]
  ·exact .inl ⟨_,ho,.inr (.inr (LP hq hB))⟩
  ·by_cases ls:(loadAt E (σ i).t ops[i]).isSome=Y
   ·exact .inl ⟨_,ho,.inr (.inr ls)⟩
   by_cases hn:J0 E ops[i]=Y
   ·exact .inl ⟨_,ho,.inl hn⟩
   by_cases es:(σ i).h.Q<=h1.low
   ·refine .inr (.inl fun b hb => ?_);rw[h,qa,P_];have:=(Hs hL hv).same b hb (aw hb es);rw[this,Jib]
   refine .inr (.inr ⟨fun k hk hg q1 => ?_,fun k ok cc hx hC hl a1 => ?_⟩)
   ·have hx:ops.toList[k]? = U ops[k]:=(by simp[hk]);have hp:k < L B:=(by rw[c.bef.len];simpa using hk);have:=Zfg hq k ops[k] B[k] hx (List.getElem?_eq_getElem hp);simp only[bK]at this;rcases this with h0 | h0 | h0 | ⟨h0,h2⟩ | ⟨h0,h2⟩
    ·exact absurd ⟨_,by simp[hk],.inl h0⟩ hg
    ·exfalso;have hc:ops[k]? = U ops[k]:=(by simp[hk]);obtain⟨_,_,hs⟩:=c.step k _ hc;rcases hs with⟨hr,_⟩ | ⟨_,v',s1,hy,_,e1⟩
     ·exact hg ⟨_,hc,.inr (.inl hr)⟩
     ·unfold u9 at e1;rw[au]at e1;exact hg ⟨_,hc,.inr (.inr (LP h0 e1.2))⟩
    ·exact absurd h0 q1
    ·refine .inl ⟨h0,B[i],List.getElem?_eq_getElem Z',?_⟩;simpa[List.getElem?_eq_getElem Z',u0]using h2
    ·exact .inr ⟨h0,B[k],List.getElem?_eq_getElem hp,h2⟩
   ·obtain⟨R,hR,hA⟩:=c.cross;have hks:k < ops.size:=by
     rcases bJ k ops.size with h | h
     ·exact h
     ·rw[Array.getElem?_eq_none h]at hx;cases hx
    have hp:k < L B:=(by rw[c.bef.len];simpa using hks);obtain⟨xi,hm,hz⟩:=hA i _ ho;have hf:Zo ops[i]=J:=by
     cases hh:Zo ops[i]with
     | false=>rfl
     | true=>exact absurd (LP hh hB) ls
    have s':xi=U (.wr (σ i).h h1):=by
     rcases hz with⟨hr,_⟩ | ⟨_,v',s1,hy,_,rfl⟩
     ·rw[hw]at hr;cases hr
     ·rw[hv]at hy;cases hy;unfold uR;rw[if_neg (by simp[hf]),if_neg hn,if_neg (fun h=>es (dD h))]
    obtain⟨xk,re,he⟩:=hA k _ hx;have q2:Zo ok=Y:=Y70 hl;have e2:xk=U (.ld (σ k).t ok):=by
     rcases he with⟨hr,_⟩ | ⟨_,v',s1,hy,_,rfl⟩
     ·rw[hC]at hr;cases hr
     ·unfold uR;rw[if_pos q2]
    subst e2;subst s';have h3:=Zef hR i (σ i).h h1 B[i] hm (List.getElem?_eq_getElem Z');rw[bK]at h3;have h4:=Y89 h3 k (σ k).t ok B[k] re (List.getElem?_eq_getElem hp);rw[bK]at h4;rcases h4 with h4 | ⟨h4,h5⟩ | ⟨h4,h5⟩
    ·left;rw[<- h4];exact J6a (fun b=>by rw[h,qa,P_])
    ·exact .inr (.inl ⟨h4,B[i],List.getElem?_eq_getElem Z',h5⟩)
    ·rcases bJ i k with h6 | h6
     ·exact .inr (.inr ⟨h6,B[k],List.getElem?_eq_getElem hp,h5⟩)
     ·have : k=i:=jA;subst this;rw[ho]at hx;cases hx;rw[hl]at ls;simp at ls
def iQ.still2(_:iQ E C ops B σ){f:N->Option V}:∀ {i j:Nat},i<=j->(∀ k,i<=k->k < j->f (σ (k+1)).h=f (σ k).h)->f (σ j).h=f (σ i).h:=by
 intro i j hx;induction hx with
 | refl=>exact fun _=>rfl
 | step h ih =>
  rename_i j;intro hk;rw[hk j h (bX _)];exact ih fun k h1 h2=>hk k h1 jA
def iQ.still(c:iQ E C ops B σ)(hL:gp C):∀ {i j:Nat},i<=j->j<=ops.size->(∀ k,i<=k->k < j->rv E ops σ k∨OQ σ k)->∀ b,b < (σ i).h.Q->(σ j).h.A b=(σ i).h.A b:=by
 intro i j hx;induction hx with
 | refl=>exact fun _ _ _ _=>rfl
 | step h ih =>
  rename_i j;intro hj hk b hb;have hx:i<=j:=h;rw[<- ih jA (fun k h1 h2=>hk k h1 jA) b hb];rcases hk j hx (bX _)with h1 | h1
  ·exact(c.free h1).2 b
  ·exact h1 b (aw hb (c.next_mono hL hx jA))
def iQ.wf(c:iQ E C ops B σ)(hC:gr P E.G C){Z:Ren}{tmps:Array V}{w:World}(H:bN E.G Z (σ 0).h w)(ht:iW Z (σ 0).t tmps) :
  ∀ i,i<=ops.size->∃ Z' w' hc,bN E.G Z' (σ i).h w'/\iW Z' (σ i).t hc:=by
 intro i;induction i with
 | zero=>exact fun _=>⟨Z,w,tmps,H,ht⟩
 | succ i ih =>
  intro hi;obtain⟨Z1,w1,t1,H1,T1⟩:=ih jA;have ho:ops[i]? = U ops[i]:=by simp[show i < ops.size by omega]
  obtain⟨hd,_,h⟩:=c.step i _ ho;have hx:∀ (Z2:Ren) (v:V) (h2:N),iW Z2 (σ i).t t1->c_ (dom Z2) v->∃ t2,iW Z2 ((σ i).put (ops[i]).dst v h2).t t2:=by
   intro Z2 v h2 hT hv;cases hr:(ops[i]).dst with
   | none=>exact⟨t1,hT⟩
   | some d =>
    rw[hr]at hd;simp only[jY,dQ]at hd;exact⟨_,hT.put hd hv⟩
  rcases h with⟨_,h⟩ | ⟨_,v,h1,hv,h,_⟩
  ·obtain⟨t2,T2⟩:=hx Z1 Qq (σ i).h T1 (by simp[Qq,c_,lF,mO]);exact⟨Z1,w1,t2,by rw[h,qa];exact H1,by rw[h];exact T2⟩
  ·have hk:bN E.G Z1 (mS (σ i).h) w1:=H1.congr (h':=mS (σ i).h) H1.globs (fun b hb=>lJ H1 hb) (fun _ _=>rfl) H1.wf;obtain⟨Z2,w2,e2,H2,v2⟩:=Jie E hC (a:=⟨t1,[]⟩) hv hk T1;obtain⟨t2,T2⟩:=hx Z2 v (yl (σ i).h h1) (T1.ext H1 e2) v2;refine⟨Z2,w2,t2,?_,by rw[h];exact T2⟩;rw[h,qa];exact H2.congr (h':=yl (σ i).h h1) H2.globs (fun b hb=>lJ H2 hb) (fun _ _=>rfl) H2.wf
end
section
variable{P:Program}{E:d_ P}{C:b_}{ops:Array Oper}{B:List Nat}{σ:Nat->St}
abbrev je(listed:Array Bool)(j:Nat):Prop:=listed.getD j J=Y
structure Inv (E:d_ P) (ops:Array Oper) (B:List Nat) (σ:Nat->St) (Z0:Ren) (w0:World) (listed:Array Bool) (Z:Ren) (a:Act) (w:World) (T:Tm) (p:Nat):Prop where
 down:∀ j o,ops[j]? = U o->je listed j->∀ e ∈ o.after.toList,Region.binds .any e=Y->je listed e.on
 small:∀ j,je listed j->j < ops.size
 t:iW Z T a.tmps
 ts:T.size=(σ 0).t.size
 tv:∀ x i,i<=ops.size->(∀ j o,ops[j]? = U o->o.dst=U x->(je listed j↔j < i))->T.t.A x=(σ i).t.t.A x
 ds:a.defers=(σ 0).ds.map (pK Z)
 okd:∀ d ∈ (σ 0).ds,uh (dom Z) d
 ple:p<=ops.size
 h:bN E.G Z (σ p).h w
 top:∀ j,je listed j->¬ rv E ops σ j->j < p
 last:p=0 ∨ ∃ j,je listed j/\¬ rv E ops σ j/\p=j+1
 dom:∀ b,dom Z b->b < (σ 0).h.Q ∨ ∃ j,je listed j/\(σ j).h.Q<=b/\b < (σ (j+1)).h.Q
 ext:iC (σ 0).h.Q Z0 Z
 turn:f_ Z0 (σ 0).h w0 Z (σ p).h w
def Oo{listed:Array Bool}{i j:Nat}(hi:i < listed.size):je (listed.setIfInBounds i Y) j↔j=i∨je listed j:=by
 simp only[je,Array.getD_eq_getD_getElem?,Array.getElem?_setIfInBounds];by_cases h:i=j
 ·subst h;simp[hi]
 ·rw[if_neg h];exact⟨.inr,fun h'=>h'.elim (fun e=>absurd e.symm h) id⟩
def A3(c:iQ E C ops B σ){D:Nat->Prop}(hd:∀ j o,ops[j]? = U o->D j->∀ e ∈ o.after.toList,Region.binds .any e=Y->D e.on) :
  ∀ j b i,D j->B[j]? = U b->b.testBit i=Y->D i:=by
 intro j;induction j using Nat.strongRecOn with
 | _ j ih =>
  intro b i hj hb hi;have hc:j < ops.size:=by
   rcases bJ j (L B) with h | h
   ·rw[c.bef.len]at h;simpa using h
   ·rw[List.getElem?_eq_none h]at hb;cases hb
  have ho:ops[j]? = U ops[j]:=by simp[hc]
  have h2:ops.toList[j]? = U ops[j]:=by simp[hc]
  obtain⟨e,he,hx,h⟩:=c.bef.bits j _ b h2 hb i hi;have h1:=hd j _ ho hj e he hx;rcases h with rfl | ⟨b',hk,hr⟩
  ·exact h1
  ·exact ih e.on (c.bef.on j _ h2 e he hx) b' i h1 hk hr
def H_(c:iQ E C ops B σ){D:Nat->Prop}(hd:∀ j o,ops[j]? = U o->D j->∀ e ∈ o.after.toList,Region.binds .any e=Y->D e.on){i:Nat}{o:Oper}(ho:ops[i]? = U o)
  (hr:∀ e ∈ o.after.toList,Region.binds .any e=Y->D e.on) {b:Nat} (hb:B[i]? = U b) {k:Nat} (hk:b.testBit k=Y):D k:=by
 obtain⟨e,he,hx,h⟩:=c.bef.bits i _ b (by simpa using ho) hb k hk;rcases h with rfl | ⟨b',hc,h2⟩
 ·exact hr e he hx
 ·exact A3 c hd e.on b' k (hr e he hx) hc h2
def DV(c:iQ E C ops B σ){i:Nat}(hi:i < ops.size):∃ b,B[i]? = U b:=by
 have : i < L B:=by rw[c.bef.len];simpa using hi
 exact⟨_,List.getElem?_eq_getElem this⟩
def Jno{ops:List Oper}{x y:Oper}(h:AJ ops x y=Y){d:Nat}(hx:x.dst=U d):d ∉ looks ops y/\y.dst≠U d:=by
 simp only[AJ,hx,au,cQ]at h;refine⟨fun hm=>by rw[Jaq.2 hm]at h;simp at h,fun hy => ?_⟩;rw[hy]at h;simp at h
def td {ops:List Oper}{x y:Oper}(h:AJ ops x y=Y){d:Nat}(hy:y.dst=U d):d ∉ looks ops x:=by
 simp only[AJ,au,hy,cQ]at h;intro hm;have:=h.2;rw[Jaq.2 hm]at this;simp at this
def Inv.looks(c:iQ E C ops B σ){Z0 Z:Ren}{w0 w:World}{listed:Array Bool}{a:Act}{T:Tm}{p:Nat}(I_:Inv E ops B σ Z0 w0 listed Z a w T p){i:Nat}{o:Oper}(ho:ops[i]? = U o)(hb:¬ je listed i)
  (hr:∀ e ∈ o.after.toList,Region.binds .any e=Y->je listed e.on) (x:Nat) (hx:x ∈ Go.Ab.looks ops.toList o):T.t.A x=(σ i).t.t.A x:=by
 have hi:i < ops.size:=by
  rcases bJ i ops.size with h | h
  ·exact h
  ·rw[Array.getElem?_eq_none h]at ho;cases ho
 obtain⟨bi,hc⟩:=DV c hi;refine I_.tv x i jA fun j oj h3 hk=>⟨fun hj => ?_,fun hj => ?_⟩
 ·rcases di j i with h | h | h
  ·exact h
  ·subst h;exact absurd hj hb
  ·have hp:j < ops.size:=I_.small j hj;obtain⟨bj,h2⟩:=DV c hp;rcases c.pairs j i oj o bj h3 ho h2 h with h1 | h1
   ·exact absurd (A3 c I_.down j bj i hj h2 h1) hb
   ·exact absurd hx (td h1 hk)
 ·rcases c.pairs i j o oj bi ho h3 hc hj with h1 | h1
  ·exact H_ c I_.down ho hr hc h1
  ·exact absurd hx (Jno h1 hk).1
def Jf5{ops:List Oper}{o:Oper}{G:Bs}{t t':Tm}(h:∀ x ∈ looks ops o,t.t.A x=t'.t.A x):(∀ x ∈ o.op.operands,g_ G t x=g_ G t' x)/\Qg ops t o=Qg ops t' o:=by
 constructor
 ·intro x hx;cases x with
  | tmp i =>
   simp only[g_];refine h i ?_;simp only[looks,ab,ce];exact .inl ⟨.tmp i,by simpa using hx,rfl⟩
  | _=>rfl
 ·unfold Qg;split
  ·rfl
  ·rename_i j h2 hg;split
   ·rfl
   ·rename_i oj hc;split
    ·rfl
    next d hd=>rw[h d];simp only[looks,hg,hc,hd,ab];exact .inr kA
def Inv.tmps(c:iQ E C ops B σ){Z0 Z:Ren}{w0 w:World}{listed:Array Bool}{a:Act}{T:Tm}{p:Nat}(I_:Inv E ops B σ Z0 w0 listed Z a w T p){i:Nat}{o:Oper}(ho:ops[i]? = U o)(e1:¬ je listed i)(hn:listed.size=ops.size)
  {v:V} {h1:N} (s1:σ (i+1)=(σ i).put o.dst v h1) :
  ∀ x k,k<=ops.size->(∀ j o',ops[j]? = U o'->o'.dst=U x->(je (listed.setIfInBounds i Y) j↔j < k))->(match o.dst with | some d=>(T.put d v).t | none=>T.t).A x=(σ k).t.t.A x:=by
 intro x k hk hr;have hi:i < ops.size:=by
  rcases bJ i ops.size with h | h
  ·exact h
  ·rw[Array.getElem?_eq_none h]at ho;cases ho
 have hc:∀ j,je (listed.setIfInBounds i Y) j↔j=i∨je listed j:=fun j=>Oo (by rw[hn];exact hi);by_cases hx:o.dst=U x
 ·have e2:i < k:=(hr i o ho hx).1 ((hc i).2 (.inl rfl));rw[hx];simp only[Tm.put,Tr.H,if_true];have hp:∀ k',i < k'->k'<=k->(σ k').t.t.A x=(σ (i+1)).t.t.A x:=by
   intro k' h1 h2;induction k' with
   | zero=>omega
   | succ k' ih =>
    by_cases he:k'=i
    ·subst he;rfl
    ·have hq:k' < ops.size:=jA;have ls:ops[k']? = U ops[k']:=(by simp[hq]);have hg:(ops[k']).dst≠U x:=by
      intro hd;have Z':=(hr k' _ ls hd).2 jA;rcases(hc k').1 Z' with h | h
      ·exact he h
      ·obtain⟨b,hb⟩:=DV c hq;rcases c.pairs k' i _ o b ls ho hb jA with h3 | h3
       ·exact e1 (A3 c I_.down k' b i h hb h3)
       ·exact(Jno h3 hx).2 hd
     obtain⟨_,_,h⟩:=c.step k' _ ls;have hA:(σ (k'+1)).t.t.A x=(σ k').t.t.A x:=by
      rcases h with⟨_,h⟩ | ⟨_,v',h',_,h,_⟩ <;> (rw[h];exact ZI _ _ _ _ _ hg)
     rw[hA];exact ih jA jA
  rw[hp k e2 (ac _),s1,hx,QT]
 ·have hy:∀ j o',ops[j]? = U o'->o'.dst=U x->(je listed j↔j < k):=by
   intro j o' hj hd;rw[<- hr j o' hj hd,hc];refine⟨.inr,fun h=>h.elim (fun e => ?_) id⟩;subst e;rw[ho]at hj;cases hj;exact absurd hd hx
  have:=I_.tv x k hk hy;cases Z':o.dst with
  | none=>exact this
  | some d =>
   simp only[Tm.put,Tr.H];rw[if_neg (fun e=>hx (by rw[Z',e]))];exact this
end
def Tm.at? (t:Tm)(d:Option Tmp)(v:V):Tm:=match d with | some d=>t.put d v | none=>t
def Tm.only(t:Tm):List Nat->Tr V
 | [] => .leaf
 | x::l=>(Tm.only t l).put x (t.t.A x)
def gF(t:Tm):∀ (l:List Nat) (x:Nat),(t.only l).A x=if x ∈ l then t.t.A x else O
 | [],x=>by simp[Tm.only]
 | y::l,x=>by
  simp only[Tm.only,Tr.H,gF t l x,ao];by_cases e:y=x
  ·subst e;simp
  ·have : ¬ x=y:=fun h=>e h.symm;simp[e,this]
def iW.congr{Z β:Ren}{t:Tm}{tmps:Array V}(hd:∀ b,dom Z b->β b=Z b)(ht:iW Z t tmps):iW β t tmps :=
 ⟨ht.size,fun i v hv=>by
  have:=ht.vals i v hv;exact⟨h_ (fun b hb=>by simpa[dom,hd b hb]using hb) v this.1,by rw[this.2,ij hd v this.1]⟩⟩
section
variable{P:Program}{E:d_ P}{C:b_}{ops:Array Oper}{B:List Nat}{σ:Nat->St}
variable{Z0 Z:Ren}{w0 w:World}{listed:Array Bool}{a:Act}{T:Tm}{p:Nat}
def xC{i:Nat}{o:Oper}(ho:ops[i]? = U o):i < ops.size:=by
 rcases bJ i ops.size with h | h
 ·exact h
 ·rw[Array.getElem?_eq_none h]at ho;cases ho
def Ja3(c:iQ E C ops B σ)(I_:Inv E ops B σ Z0 w0 listed Z a w T p){i:Nat}{o:Oper}(ho:ops[i]? = U o)(hn:¬ je listed i)
  (hr:∀ e ∈ o.after.toList,Region.binds .any e=Y->je listed e.on) (hg:listed.size=ops.size)
  {v:V} {h1:N} (q2:σ (i+1)=(σ i).put o.dst v h1) (hc:jY (σ i) o.dst=Y)
  {Z':Ren} {w':World} {p':Nat} (hZ:∀ b,dom Z b->Z' b=Z b) (hv:c_ (dom Z') v) (H:bN E.G Z' (σ p').h w') (hB:p'<=ops.size) (es:p<=p')
  (s1:¬ rv E ops σ i->i < p') (hp:p'=p∨(¬ rv E ops σ i/\p'=i+1))
  (hy:∀ b,dom Z' b->dom Z b∨((σ i).h.Q<=b/\b < (σ (i+1)).h.Q)) (hq:iC (σ 0).h.Q Z Z') (ls:f_ Z0 (σ 0).h w0 Z' (σ p').h w') :
  Inv E ops B σ Z0 w0 (listed.setIfInBounds i Y) Z' (a.put o.dst (ren Z' v)) w' (T.at? o.dst v) p':=by
 have hi:=xC ho;have hx:∀ j,je (listed.setIfInBounds i Y) j↔j=i∨je listed j:=fun j=>Oo (by rw[hg];exact hi);have h4:=I_.tmps c ho hn hg q2;have e1:(a.put o.dst (ren Z' v)).defers=a.defers:=by cases o.dst <;> rfl
 refine⟨?_,?_,?_,?_,?_,?_,?_,hB,H,?_,?_,?_,?_,ls⟩
 ·intro j o' e2 hj e he hb;rw[hx]at hj ⊢;rcases hj with rfl | hj
  ·rw[ho]at e2;cases e2;exact .inr (hr e he hb)
  ·exact .inr (I_.down j o' e2 hj e he hb)
 ·intro j hj;rcases(hx j).1 hj with rfl | h
  ·exact hi
  ·exact I_.small j h
 ·have ht:=I_.t.congr hZ;cases hd:o.dst with
  | none=>exact ht
  | some d =>
   rw[hd]at hc;simp only[jY,dQ]at hc;exact ht.put (by rw[I_.ts,<- c.size (fS hi)];exact hc) hv
 ·cases hd:o.dst with
  | none=>exact I_.ts
  | some d=>exact I_.ts
 ·intro x k hk h;have:=h4 x k hk h;cases hd:o.dst with
  | none=>simpa only[hd,Tm.at?]using this
  | some d=>simpa only[hd,Tm.at?]using this
 ·rw[e1,I_.ds];apply bV;intro d hd;exact(Eu hZ (I_.okd d hd)).symm
 ·exact fun d hd=>El (fun b hb=>by simpa[dom,hZ b hb]using hb) (I_.okd d hd)
 ·intro j hj hA;rcases(hx j).1 hj with rfl | h
  ·exact s1 hA
  ·exact aw (I_.top j h hA) es
 ·rcases hp with rfl | ⟨h1,h2⟩
  ·rcases I_.last with h | ⟨j,h1,h2,h3⟩
   ·exact .inl h
   ·exact .inr ⟨j,(hx j).2 (.inr h1),h2,h3⟩
  ·exact .inr ⟨i,(hx i).2 (.inl rfl),h1,h2⟩
 ·intro b hb;rcases hy b hb with h | h
  ·rcases I_.dom b h with h | ⟨j,h1,h2⟩
   ·exact .inl h
   ·exact .inr ⟨j,(hx j).2 (.inr h1),h2⟩
  ·exact .inr ⟨i,(hx i).2 (.inl rfl),h⟩
 ·intro b hb;rw[hq b hb,I_.ext b hb]
def Jv5(c:iQ E C ops B σ)(I_:Inv E ops B σ Z0 w0 listed Z a w T p){i:Nat}{o:Oper}(ho:ops[i]? = U o)(hc:¬ je listed i)
  (hr:∀ e ∈ o.after.toList,Region.binds .any e=Y->je listed e.on) (hk:listed.size=ops.size)
  {v:V} {h1:N} (h2:σ (i+1)=(σ i).put o.dst v h1) (hx:jY (σ i) o.dst=Y) (hf:rv E ops σ i) (hv:c_ (dom Z) v)
  {w':World} (hw:bN E.G Z (σ p).h w') (ht:f_ Z (σ p).h w Z (σ p).h w') :
  Inv E ops B σ Z0 w0 (listed.setIfInBounds i Y) Z (a.put o.dst (ren Z v)) w' (T.at? o.dst v) p :=
 Ja3 c I_ ho hc hr hk h2 hx (fun _ _=>rfl) hv hw I_.ple (ac _) (fun h=>absurd hf h) (.inl rfl) (fun b hb => .inl hb) (iC.refl _ _) (I_.turn.trans ht)
end
section
variable{P:Program}{E:d_ P}{C:b_}{ops:Array Oper}{B:List Nat}{σ:Nat->St}
variable{Z0 Z:Ren}{w0 w:World}{listed:Array Bool}{a:Act}{T:Tm}{p:Nat}
def sH(Z1 Z:Ren)(n:Nat):Ren:=fun b=>if b < n then Z1 b else Z b
def J3l{Z1 Z:Ren}{n m:Nat}(hc:n<=m)(h1:∀ b,b < n->Z1 b=Z b)(h2:∀ b,n<=b->b < m->Z b=O):∀ b,dom Z b->sH Z1 Z m b=Z b:=by
 intro b hb;unfold sH;split
 ·rename_i hx;rcases bJ b n with h | h
  ·exact h1 b h
  ·rw[dom,h2 b h hx]at hb;simp at hb
 ·rfl
def Vdx{G:Bs}{Z Z1:Ren}{h h0 h1:N}{w w':World}(H:bN G Z h w)(H1:bN G Z1 h1 w')(he:iC h0.Q (Ren.below Z h0.Q) Z1)(ht:f_ (Ren.below Z h0.Q) h0 w Z1 h1 w')
  (hn:h1.Q<=h.Q) (es:∀ b,h0.Q<=b->b < h1.Q->Z b=O) (hB:∀ b,b < h0.Q->h.A b=h0.A b) (e2:∀ b,b < h1.Q->h.A b=h1.A b) :
  bN G (sH Z1 Z h1.Q) h w'/\f_ Z h w (sH Z1 Z h1.Q) h w':=by
 have s1:∀ b p,Ren.below Z h0.Q b=U p->b < h0.Q/\Z b=U p:=by
  intro b p hp;unfold Ren.below at hp;split at hp
  ·exact⟨by assumption,hp⟩
  ·cases hp
 have hC:∀ b,b < h0.Q->Z1 b=Z b:=by
  intro b hb;rw[he b hb];unfold Ren.below;rw[if_pos hb]
 have e1:∀ b,dom Z b->sH Z1 Z h1.Q b=Z b:=J3l ht.Q hC es;have q1:∀ b,dom Z1 b->sH Z1 Z h1.Q b=Z1 b:=by
  intro b hb;unfold sH;rw[if_pos (lJ H1 hb)]
 have hA:∀ b q,sH Z1 Z h1.Q b=U q->(b < h1.Q/\Z1 b=U q)∨(h1.Q<=b/\Z b=U q):=by
  intro b q hq;unfold sH at hq;split at hq
  ·exact .inl ⟨by assumption,hq⟩
  ·exact .inr ⟨jA,hq⟩
 have Z':∀ b q,Z1 b=U q->h1.own b=Y->w.heap.size<=q.blk ∨ ∃ c r,Z c=U r/\h.own c=Y/\c < h0.Q/\r.blk=q.blk:=by
  intro b q hq ho;rcases ht.owns b q hq ho with h2 | ⟨c,r,hc,ls,s'⟩
  ·exact .inl h2
  ·obtain⟨h3,h4⟩:=s1 c r hc;exact .inr ⟨c,r,h4,by rw[uv (hB c h3)];exact ls,h3,s'⟩
 constructor
 ·refine⟨?_,?_,?_,?_,H.globs,H.wf,?_,H1.bsz⟩
  ·intro b q hq;rcases hA b q hq with⟨h2,h3⟩ | ⟨h2,h3⟩
   ·exact⟨jA,(H1.dom b q h3).2⟩
   ·exact⟨(H.dom b q h3).1,trivial⟩
  ·intro b q x hq hx;rcases hA b q hq with⟨h2,h3⟩ | ⟨h2,h3⟩
   ·exact(H1.fits b q x h3 (by rw[<- e2 b h2];exact hx)).keep q1 rfl
   ·have hf:=H.fits b q x h3 hx;by_cases hs:x.solid=Y
    ·refine hf.keep e1 (ht.same q.blk (H.blk_lt h3 hx hs) fun c r hc ls => ?_);obtain⟨h4,h5⟩:=s1 c r hc;have : h0.Q<=h1.Q:=ht.Q;exact H.apart c b r q h5 h3 jA (by rw[uv (hB c h4)];exact ls) (by rw[DK hx];exact hs)
    ·cases x with
     | cells o z cs =>
      cases o with
      | true=>exact absurd (gu rfl) hs
      | false =>
       cases cs with
       | nil=>exact⟨hf.1,.inl ⟨rfl,rfl⟩⟩
       | cons _ _=>exact absurd rfl hs
     | map _ _=>exact absurd rfl hs
     | obj _=>exact absurd rfl hs
  ·intro b c q r hq hr hz ho hl;rcases hA b q hq with⟨h2,h3⟩ | ⟨h2,h3⟩ <;> rcases hA c r hr with⟨h4,h5⟩ | ⟨h4,h5⟩
   ·exact H1.apart b c q r h3 h5 hz (by rw[<- uv (e2 b h2)];exact ho) (by rw[<- PQ (e2 c h4)];exact hl)
   ·rcases Z' b q h3 (by rw[<- uv (e2 b h2)];exact ho)with h6 | ⟨d,s,h6,h7,h8,h9⟩
    ·have:=H.blk_live h5 hl;omega
    ·rw[<- h9];have : h0.Q<=h1.Q:=ht.Q;exact H.apart d c s r h6 h5 jA h7 hl
   ·have a1:=H.blk_own h3 ho;by_cases ls:h.own c=Y
    ·rcases Z' c r h5 (by rw[<- uv (e2 c h4)];exact ls)with h6 | ⟨d,s,h6,h7,h8,h9⟩
     ·omega
     ·rw[<- h9];have : h0.Q<=h1.Q:=ht.Q;exact H.apart b d q s h3 h6 jA ho (K7 h7)
    ·obtain⟨x,hx,re⟩:=vS ho;have h6:=((H.base b q x h3 hx).1 re).1;cases hy:h.A c with
     | none=>simp[N.live,hy]at hl
     | some y =>
      have h7:y.own=J:=(by rw[rH hy]at ls;simpa using ls);have h8:y.solid=Y:=(by rw[DK hy]at hl;exact hl);have:=(H1.base c r y h5 (by rw[<- e2 c h4];exact hy)).2 h7 h8 |>.1;omega
   ·exact H.apart b c q r h3 h5 hz ho hl
  ·intro g hg;have q2:=H.glob g hg;exact⟨by rw[e1 g (uB q2.1)];exact q2.1,q2.2⟩
  ·intro b q x hq hx;rcases hA b q hq with⟨h2,h3⟩ | ⟨h2,h3⟩
   ·exact H1.base b q x h3 (by rw[<- e2 b h2];exact hx)
   ·exact H.base b q x h3 hx
 ·refine⟨ht.size,fun k hk hm => ?_,fun b q hq ho => ?_,ht.tape,ht.os,ht.output,ht.drawn,ac _⟩
  ·refine ht.same k hk fun c r hc ls => ?_;obtain⟨h4,h5⟩:=s1 c r hc;exact hm c r h5 (by rw[uv (hB c h4)];exact ls)
  ·rcases hA b q hq with⟨h2,h3⟩ | ⟨h2,h3⟩
   ·rcases Z' b q h3 (by rw[<- uv (e2 b h2)];exact ho)with h6 | ⟨d,s,h6,h7,_,h9⟩
    ·exact .inl h6
    ·exact .inr ⟨d,s,h6,h7,h9⟩
   ·exact .inr ⟨b,q,h3,ho,rfl⟩
end
section
variable{P:Program}{E:d_ P}{C:b_}{ops:Array Oper}{B:List Nat}{σ:Nat->St}
variable{Z0 Z:Ren}{w0 w:World}{listed:Array Bool}{a:Act}{T:Tm}{p:Nat}
def Ju5{rd:Option Nat}{β:Ren}(c:iQ E C ops B σ)(hC:gr P E.G C)(hL:gp C)(z':∀ i,i<=ops.size->∃ Z' w' ud,bN E.G Z' (σ i).h w'/\iW Z' (σ i).t ud)
  (I_:Inv E ops B σ Z0 w0 listed Z a w T p) {i:Nat} {o:Oper} (ho:ops[i]? = U o) (s1:¬ je listed i)
  (hr:∀ e ∈ o.after.toList,Region.binds .any e=Y->je listed e.on) (e0:listed.size=ops.size) {Q:Exit->Act->World->Prop} {K:Act->World->Prop}
  (hK:∀ Z' a' w' T' p',Inv E ops B σ Z0 w0 (listed.setIfInBounds i Y) Z' a' w' T' p'->K a' w'):wpOpIn (kZ rd β) 0 P ops Q i K a w:=by
 have hi:=xC ho;have hB:=I_.looks c ho s1 hr;obtain⟨v',x2⟩:=Jf5 (ops:=ops.toList) (o:=o) (G:=E.G) hB;obtain⟨hn,q1,hs⟩:=c.step i o ho;unfold wpOpIn;rw[ho];simp only;rcases hs with⟨hw,hm⟩ | ⟨hw,v,h1,hv,hm,_⟩
 ·rw[if_neg (by rw[wb (G:=E.G) I_.t (x2.trans hw)];simp)];refine⟨fun f _=>vn rd β f,?_⟩;have:=Jv5 c I_ ho s1 hr e0 hm hn ⟨o,ho,.inr (.inl hw)⟩ (by simp[Qq,c_,lF,mO]) I_.h (f_.refl _ _ _);have e:ren Z Qq=undef:=by simp[Qq,undef]
  rw[e]at this;exact hK _ _ _ _ _ this
 ·rw[if_pos (wb (G:=E.G) I_.t (x2.trans hw))];show o.wpIn (kZ rd β) 0 P a w K Q;have ls:rv E ops σ i->mh E C o T (σ p).h=U (v,(σ p).h)->o.wpIn (kZ rd β) 0 P a w K Q:=by
   intro a1 s';refine Jb9 E hC q1 s' I_.h I_.t fun Z' w' e1 e2 e3 e4 => ?_;have hZ:Z'=Z:=by
    funext b;rcases bJ b (σ p).h.Q with h | h
    ·exact e1 b h
    ·have h2:Z b=O:=by
      cases hb:Z b with
      | none=>rfl
      | some q=>have:=(I_.h.dom b q hb).1;omega
     rw[h2];cases hb:Z' b with
     | none=>rfl
     | some q=>have:=(e3.dom b q hb).1;omega
   subst hZ;exact hK _ _ _ _ _ (Jv5 c I_ ho s1 hr e0 hm hn a1 e4 e3 e2)
  by_cases hf:J0 E o=Y
  ·obtain⟨he,s'⟩:=Zvv E C hf hv (σ p).h;rw[<- MF E C o v']at s';exact ls ⟨o,ho,.inl hf⟩ s'
  by_cases p3:(loadAt E (σ i).t o).isSome=Y
  ·obtain⟨cc,hy⟩:=aJ.1 p3;have pD:loadAt E T o=U cc:=by rw[Jjv v'];exact hy
   have m1:dom Z cc:=Z4s rfl I_.h I_.t pD;obtain⟨Zi,wi,ti,Hi,Ti⟩:=z' i jA;have pE:cc < (σ i).h.Q:=lJ Hi (Z4s rfl Hi Ti hy);have pC:cc < (σ p).h.Q:=lJ I_.h m1;have q3:kT E (σ i).t o (σ p).h=kT E (σ i).t o (σ i).h:=by
    rcases bJ i p with hq | hq
    ·obtain⟨j,hj,p2,p7⟩:∃ j,je listed j/\¬ rv E ops σ j/\p=j+1:=by
      rcases I_.last with h | h
      ·omega
      ·exact h
     have g2:=I_.small j hj;refine c.still2 (f:=fun h=>kT E (σ i).t o h) (fS hq) fun k a2 h7 => ?_;have hks:k < ops.size:=jA;have re:cc < (σ k).h.Q:=aw pE (c.next_mono hL a2 jA);rcases c.kinds hL hks with h | h | ⟨h,hx⟩
     ·exact DL hy ((c.free h).2 cc)
     ·exact DL hy (h cc re)
     ·rcases hx i o cc ho hw hy re with h1 | ⟨h1,b,hb,hp⟩ | ⟨h1,_⟩
      ·exact h1
      ·exfalso;by_cases hA:je listed k
       ·exact s1 (A3 c I_.down k b i hA hb hp)
       ·have a3:j≠k:=fun e=>hA (e ▸ hj);rcases h j g2 p2 a3 with⟨h2,_⟩ | ⟨_,b,hb,hp⟩
        ·omega
        ·exact hA (A3 c I_.down j b k hj hb hp)
      ·omega
    ·refine(c.still2 (f:=fun h=>kT E (σ i).t o h) hq fun k a2 h7 => ?_).symm;have hks:k < ops.size:=jA;have re:cc < (σ k).h.Q:=aw pC (c.next_mono hL a2 jA);rcases c.kinds hL hks with h | h | ⟨h,hx⟩
     ·exact DL hy ((c.free h).2 cc)
     ·exact DL hy (h cc re)
     ·rcases hx i o cc ho hw hy re with h1 | ⟨h1,_⟩ | ⟨h1,b,hb,hp⟩
      ·exact h1
      ·omega
      ·have hA:=H_ c I_.down ho hr hb hp;apply cU;intro _;have lb:rv E ops σ k:=by
        apply cU;intro lb;have:=I_.top k hA lb;omega
       obtain⟨_,h9⟩:=c.free lb;exact absurd (DL hy (h9 cc)) (by assumption)
   have r2:Zo o=Y:=Y70 hy;rw[Z4u r2]at hv;rw[aj]at hv;obtain⟨v0,pF,c1⟩:=hv;cases c1;have hz:kT E (σ i).t o (mS (σ i).h)=kT E (σ i).t o (σ i).h:=DL hy rfl;have s':mh E C o (σ i).t (σ p).h=U (v,(σ p).h):=by
    rw[Z4u r2,q3,<- hz,pF];rfl
   rw[<- MF E C o v']at s';exact ls ⟨o,ho,.inr (.inr p3)⟩ s'
  ·have aA:¬ rv E ops σ i:=by
    rintro⟨o',p4,h⟩;rw[ho]at p4;cases p4;rcases h with h | h | h
    ·exact hf h
    ·rw[hw]at h;cases h
    ·exact p3 h
   have wj:=Hs hL hv;have x1:(σ (i+1)).h=yl (σ i).h h1:=by rw[hm,qa]
   have q2:(σ (i+1)).h.Q=h1.Q:=by rw[x1];rfl
   have ht:∀ b,(σ (i+1)).h.A b=h1.A b:=by intro b;rw[x1];rfl
   have p6:(σ i).h.Q<=h1.Q:=wj.Q;obtain⟨bi,n1⟩:=DV c hi;obtain⟨Zi,wi,ti,Hi,Ti⟩:=z' i jA;rcases bJ i p with hq | hq
   ·
    obtain⟨j,hj,p2,p7⟩:∃ j,je listed j/\¬ rv E ops σ j/\p=j+1:=by
     rcases I_.last with h | h
     ·omega
     ·exact h
    have p5:j≠i:=fun e=>s1 (e ▸ hj);have g2:=I_.small j hj;obtain⟨bj,c2⟩:=DV c g2;have hc:∀ k,i<=k->k < p->rv E ops σ k∨OQ σ k:=by
     intro k a2 h7;have hks:k < ops.size:=jA;rcases c.kinds hL hks with h | h | ⟨h,_⟩
     ·exact .inl h
     ·exact .inr h
     ·exfalso;by_cases pB:k=i
      ·subst pB;rcases h j g2 p2 p5 with⟨h2,_⟩ | ⟨_,b,hb,hp⟩
       ·omega
       ·exact s1 (A3 c I_.down j b k hj hb hp)
      ·by_cases hA:je listed k
       ·rcases h i hi aA (fun e=>pB e.symm)with⟨_,b,hb,hp⟩ | ⟨h2,_⟩
        ·exact s1 (A3 c I_.down k b i hA hb hp)
        ·omega
       ·have a3:j≠k:=fun e=>hA (e ▸ hj);rcases h j g2 p2 a3 with⟨h2,_⟩ | ⟨_,b,hb,hp⟩
        ·omega
        ·exact hA (A3 c I_.down j b k hj hb hp)
    have hg:=c.still hL (fS hq) I_.ple hc;have q4:=c.still hL (i:=i+1) hq I_.ple fun k h2 h3=>hc k jA h3;have p1:(σ (i+1)).h.Q<=(σ p).h.Q:=c.next_mono hL hq I_.ple;have g1:∀ b,(σ i).h.Q<=b->b < h1.Q->Z b=O:=by
     intro b h2 h3;cases hb:Z b with
     | none=>rfl
     | some q =>
      exfalso;rcases I_.dom b (uB hb)with h4 | ⟨k,hk,h4,h5⟩
      ·have:=c.next_mono hL (bQ i) jA;omega
      ·have hks:=I_.small k hk;rcases di k i with h6 | h6 | h6
       ·have:=c.next_mono hL (i:=k+1) (j:=i) h6 jA;omega
       ·exact s1 (h6 ▸ hk)
       ·have:=c.next_mono hL (i:=i+1) (j:=k) h6 jA;omega
    have Hr:bN E.G (Ren.below Z (σ i).h.Q) (mS (σ i).h) w :=
     I_.h.restrict (h':=mS (σ i).h) Hi.globs (fun b _ hb=>(hg b hb).symm) Hi.wf
    have p9:iW (Ren.below Z (σ i).h.Q) ⟨T.size,T.only (looks ops.toList o)⟩ a.tmps:=by
     refine⟨I_.t.size,fun x u hu => ?_⟩;have eA:(if x ∈ looks ops.toList o then T.t.A x else O)=U u:=by rw[<- gF];exact hu
     split at eA
     ·rename_i hx;have h2:=I_.t.vals x u eA;have h3:=(Ti.vals x u (by rw[<- hB x hx];exact eA)).1;have h4:=mu u h2.1 (h_ (fun b hb=>lJ Hi hb) u h3);have h5:∀ b,dom Z b/\b < (σ i).h.Q->Ren.below Z (σ i).h.Q b=Z b:=by
       intro b hb;unfold Ren.below;rw[if_pos hb.2]
      refine⟨h_ (fun b hb => ?_) u h4,by rw[h2.2,ij h5 u h4]⟩;have:=hb.1;simpa[dom,h5 b hb]using this
     ·cases eA
    have g3:mh E C o ⟨T.size,T.only (looks ops.toList o)⟩ (mS (σ i).h)=U (v,h1):=by
     rw[<- hv];refine MF E C o (fun x hx => ?_) _;rw[<- v' x hx];cases x with
     | tmp t =>
      simp only[g_];rw[gF,if_pos];simp only[looks,ab,ce];exact .inl ⟨.tmp t,by simpa using hx,rfl⟩
     | _=>rfl
    refine Jb9 E hC q1 g3 Hr p9 fun Z1 w' e1 e2 e3 e4 => ?_;obtain⟨H2,T2⟩:=Vdx (h0:=mS (σ i).h) I_.h e3 e1 e2 (by rw[<- q2];exact p1) g1 (fun b hb=>hg b hb) (fun b hb=>by rw[q4 b (by rw[q2];exact hb),ht]);have m0:∀ b,dom Z1 b->sH Z1 Z h1.Q b=Z1 b:=by
     intro b hb;unfold sH;rw[if_pos (lJ e3 hb)]
    have r1:∀ b,b < (σ i).h.Q->Z1 b=Z b:=by
     intro b hb;rw[e1 b hb];unfold Ren.below;rw[if_pos (by exact hb)]
    have cb:c_ (dom (sH Z1 Z h1.Q)) v:=h_ (fun b hb=>by have:=m0 b hb;simpa[dom,this]using hb) v e4;have he:ren Z1 v=ren (sH Z1 Z h1.Q) v:=(ij m0 v e4).symm;rw[he];refine hK _ _ _ _ _ (Ja3 c I_ ho s1 hr e0 hm hn (p':=p) (J3l p6 r1 g1) cb H2 I_.ple (ac _) (fun _=>hq) (.inl rfl) (fun b hb => ?_) (fun b hb => ?_) (I_.turn.trans T2))
    ·rw[q2];by_cases es:b < h1.Q
     ·rcases bJ b (σ i).h.Q with h2 | h2
      ·refine .inl ?_;simp only[dom,sH,if_pos es,r1 b h2]at hb;exact hb
      ·exact .inr ⟨h2,es⟩
     ·refine .inl ?_;simp only[dom,sH,if_neg es]at hb;exact hb
    ·have h2:=c.next_mono hL (bQ i) jA;unfold sH;rw[if_pos jA,r1 b jA]
   ·
    have hc:∀ k,p<=k->k < i->rv E ops σ k∨OQ σ k:=by
     intro k a2 h7;have hks:k < ops.size:=jA;rcases c.kinds hL hks with h | h | ⟨h,_⟩
     ·exact .inl h
     ·exact .inr h
     ·by_cases hA:je listed k
      ·left;apply cU;intro lb;have:=I_.top k hA lb;omega
      ·exfalso;rcases h i hi aA jA with⟨h2,_⟩ | ⟨_,b,hb,hp⟩
       ·omega
       ·exact hA (H_ c I_.down ho hr hb hp)
    have hg:=c.still hL hq jA hc;have p1:(σ p).h.Q<=(σ i).h.Q:=c.next_mono hL hq jA;have es:∀ b,dom Z b->b < (σ p).h.Q:=fun b hb=>lJ I_.h hb;have Hr:bN E.G Z (mS (σ i).h) w :=
     I_.h.congr (h':=mS (σ i).h) Hi.globs (fun b hb=>aw (es b hb) p1) (fun b hb=>hg b (es b hb)) Hi.wf
    have g3:mh E C o T (mS (σ i).h)=U (v,h1):=by
     rw[<- hv];exact MF E C o v' _
    refine Jb9 E hC q1 g3 Hr I_.t fun Z' w' e1 e2 e3 e4 => ?_;have H2:bN E.G Z' (σ (i+1)).h w':=e3.congr (h':=(σ (i+1)).h) (by rw[q2];exact e3.globs) (fun b hb=>by rw[q2];exact lJ e3 hb) (fun b _=>ht b) (by
     intro b x hx;rw[q2];exact e3.wf b x (by rw[<- ht];exact hx))
    have T1:f_ Z0 (σ 0).h w0 Z (mS (σ i).h) w:=I_.turn.heap (fun b hb=>hg b (es b hb)) p1;have T2:f_ Z0 (σ 0).h w0 Z' (σ (i+1)).h w':=(T1.trans e2).heap (fun b _=>ht b) (by rw[q2];exact ac _);have ha:∀ b,b < (σ i).h.Q->Z' b=Z b:=e1;refine hK _ _ _ _ _ (Ja3 c I_ ho s1 hr e0 hm hn (p':=i+1) (fun b hb=>ha b (aw (es b hb) p1)) e4 H2 hi jA (fun _=>bX _) (.inr ⟨aA,rfl⟩) (fun b hb => ?_) (fun b hb => ?_) T2)
    ·rcases bJ b (σ i).h.Q with h2 | h2
     ·refine .inl ?_;rw[dom,ha b h2]at hb;exact hb
     ·refine .inr ⟨h2,?_⟩;rw[q2];exact lJ e3 hb
    ·have:=c.next_mono hL (bQ i) jA;exact ha b jA
def J15(c:iQ E C ops B σ)(hy:∀ i,i<=ops.size->∃ Z' w' hp,bN E.G Z' (σ i).h w'/\iW Z' (σ i).t hp)
  (I_:Inv E ops B σ Z0 w0 listed Z a w T p) (hc:∀ j,j < ops.size->je listed j) :
  iu E.G Z (σ ops.size) a w/\iC (σ 0).h.Q Z0 Z/\f_ Z0 (σ 0).h w0 Z (σ ops.size).h w:=by
 have hk:∀ k,p<=k->k < ops.size->rv E ops σ k:=by
  intro k e2 hA;apply cU;intro ls;have:=I_.top k (hc k hA) ls;omega
 have hr:∀ j,p<=j->j<=ops.size->(σ j).h.Q=(σ p).h.Q/\∀ b,(σ j).h.A b=(σ p).h.A b:=by
  intro j hj;induction hj with
  | refl=>exact fun _=>⟨rfl,fun _=>rfl⟩
  | step h ih =>
   rename_i j;intro hq;obtain⟨h1,h2⟩:=ih jA;obtain⟨h3,h4⟩:=c.free (hk j h jA);exact⟨h3.trans h1,fun b=>(h4 b).trans (h2 b)⟩
 obtain⟨hn,hg⟩:=hr ops.size I_.ple (ac _);obtain⟨Zi,wi,ti,Hi,Ti⟩:=hy ops.size (ac _);have H:bN E.G Z (σ ops.size).h w:=I_.h.congr Hi.globs (fun b hb=>by rw[hn];exact lJ I_.h hb) (fun b _=>hg b) Hi.wf;refine⟨⟨H,⟨?_,fun x v hx => ?_⟩,?_,?_⟩,I_.ext,I_.turn.heap (fun b _=>hg b) (by rw[hn];exact ac _)⟩
 ·rw[I_.t.size,I_.ts,c.size (ac _)]
 ·refine I_.t.vals x v ?_;rw[I_.tv x ops.size (ac _) fun j o' hj _=>⟨fun _=>xC hj,fun h=>hc j h⟩];exact hx
 ·rw[c.dss (ac _)];exact I_.ds
 ·rw[c.dss (ac _)];exact I_.okd
def Py(c:iQ E C ops B σ)(hk:listed.size=ops.size)(h:Region.ready .any ops listed=[]):∀ j,j < ops.size->je listed j:=by
 intro j;induction j using Nat.strongRecOn with
 | _ j ih =>
  intro hj;apply cU;intro hd;have ho:ops[j]? = U ops[j]:=by simp[hj]
  have hm:j ∈ Region.ready .any ops listed:=by
   unfold Region.ready;rw[cS];refine⟨by simpa using hj,?_⟩;have h1:listed.getD j Y=J:=by
    simp only[je,Array.getD_eq_getD_getElem?]at hd ⊢;have hc:j < listed.size:=jA;rw[Array.getElem?_eq_getElem hc]at hd ⊢;simpa using hd
   rw[h1,ho];simp only[aL,fh,dC,dx,Array.all_eq_true'];intro e he;have hx:e ∈ (ops[j]).after.toList:=by simpa using he
   cases hb:Region.binds .any e with
   | false=>rfl
   | true =>
    have h2:=c.bef.on j _ (by simp[hj]) e hx hb;have:=ih e.on h2 jA;simpa[je]using this
  rw[h]at hm;simp at hm
def LS{i:Nat}(hc:listed.size=ops.size)(h:i ∈ Region.ready .any ops listed):∃ o,ops[i]? = U o/\¬ je listed i/\∀ e ∈ o.after.toList,Region.binds .any e=Y->je listed e.on:=by
 unfold Region.ready at h;rw[cS]at h;obtain⟨h1,h2⟩:=h;have hi:i < ops.size:=by simpa using h1
 have ho:ops[i]? = U ops[i]:=by simp[hi]
 rw[ho]at h2;simp only[aL,fh,au,cQ,Array.all_eq_true']at h2;refine⟨_,ho,?_,fun e he hb => ?_⟩
 ·have h3:=h2.1;simp only[je,Array.getD_eq_getD_getElem?]at h3 ⊢;have hx:i < listed.size:=jA
  rw[Array.getElem?_eq_getElem hx]at h3 ⊢;simp only[fh]at h3 ⊢;rw[h3];simp
 ·have:=h2.2 e (by simpa using he);rw[hb]at this;simpa[je]using this
def Vcm{rd:Option Nat}{β:Ren}(c:iQ E C ops B σ)(hC:gr P E.G C)(hL:gp C)(hy:∀ i,i<=ops.size->∃ Z' w' ls,bN E.G Z' (σ i).h w'/\iW Z' (σ i).t ls){Q:Exit->Act->World->Prop}
  (hQ:∀ Z a w,iu E.G Z (σ ops.size) a w->iC (σ 0).h.Q Z0 Z->f_ Z0 (σ 0).h w0 Z (σ ops.size).h w->Q .normal a w) :
  ∀ (hx:Nat) (listed:Array Bool) (Z:Ren) (a:Act) (w:World) (T:Tm) (p:Nat),listed.size=ops.size->listed.toList.count J<=hx->Inv E ops B σ Z0 w0 listed Z a w T p->wpAnyIn (kZ rd β) 0 P .any ops Q hx listed a w:=by
 intro hx;induction hx with
 | zero =>
  intro listed Z a w T p hb hc I_;have hk:Region.ready .any ops listed=[]:=by
   cases hr:Region.ready .any ops listed with
   | nil=>rfl
   | cons i l =>
    obtain⟨o,ho,hp,_⟩:=LS hb (by rw[hr];exact bY);exfalso;have hi:=xC ho;have hA:i < L listed.toList:=(by simpa[hb]using hi);have hz:listed.toList.count J=0:=jA;rw[List.count_eq_zero]at hz;refine hz ?_;have : listed.toList[i]=J:=by
     simp only[je,Array.getD_eq_getD_getElem?]at hp;rw[Array.getElem?_eq_getElem jA]at hp;simpa using hp
    rw[<- this];exact dF hA
  obtain⟨h1,h2,h3⟩:=J15 c hy I_ (Py c hb hk);exact⟨hk,hQ _ _ _ h1 h2 h3⟩
 | succ hx ih =>
  intro listed Z a w T p hb hc I_;refine⟨fun hk => ?_,fun i hi => ?_⟩
  ·obtain⟨h1,h2,h3⟩:=J15 c hy I_ (Py c hb hk);exact hQ _ _ _ h1 h2 h3
  ·obtain⟨o,ho,hp,hr⟩:=LS hb hi;refine Ju5 c hC hL hy I_ ho hp hr hb fun Z' a' w' T' p' I'=>ih _ Z' a' w' T' p' (by simpa using hb) ?_ I';have hA:i < L listed.toList:=by have:=xC ho;simpa[hb]using this
   have : listed.toList[i]=J:=by
    simp only[je,Array.getD_eq_getD_getElem?]at hp;rw[Array.getElem?_eq_getElem (by simpa using hA)]at hp;simpa using hp
   rw[fK,List.count_set hA,this];have hq:0 < listed.toList.count J:=by
    rw[List.count_pos_iff,<- this];exact dF hA
   rw[if_pos (by rfl),if_neg qA];omega
def Ji4(c:iQ E C ops B σ){s:St}(h0:σ 0=s)(S_:iu E.G Z s a w):Inv E ops B σ Z w (Array.replicate ops.size J) Z a w s.t 0:=by
 have hc:∀ j,¬ je (Array.replicate ops.size J) j:=by
  intro j hj;simp only[je,Array.getD_eq_getD_getElem?,Array.getElem?_replicate]at hj;split at hj <;> simp at hj
 subst h0;refine⟨fun j o _ h=>absurd h (hc j),fun j h=>absurd h (hc j),S_.t,rfl,fun x i => ?_,S_.ds,S_.okd,bQ _,S_.h,fun j h=>absurd h (hc j),.inl rfl,fun b hb => .inl (lJ S_.h hb),iC.refl _ _,f_.refl _ _ _⟩;induction i with
 | zero=>exact fun _ _=>rfl
 | succ i ih =>
  intro hi hs;have h2:i < ops.size:=hi;have ho:ops[i]? = U ops[i]:=by simp[h2]
  have hx:(ops[i]).dst≠U x:=fun e=>hc i ((hs i _ ho e).2 (bX _));rw[ih jA (fun j o hj hd=>⟨fun h=>absurd h (hc j),fun h=>absurd ((hs j o hj hd).2 jA) (hc j)⟩)];obtain⟨_,_,h⟩:=c.step i _ ho;rcases h with⟨_,h⟩ | ⟨_,v',h',_,h,_⟩ <;> (rw[h];exact(ZI _ _ _ _ _ hx).symm)
def Jsr{s s1:St}(h:th E C ops.toList s=U s1):∃ B σ,iQ E C ops B σ/\σ 0=s/\σ ops.size=s1:=by
 unfold th at h;split at h
 ·rename_i B hB;split at h
  ·rename_i hp;split at h
   ·rename_i s2 R hR;split at h
    ·rename_i hx;cases h;obtain⟨σ,e1,e2,e3,e4⟩:=Rj _ _ _ _ _ hR;have hc:sG ops.toList B:=by
      have:=Pz ops.toList [] [] B hB ⟨rfl,fun j o h=>by simp at h,fun j o b h=>by simp at h⟩;simpa using this
     refine⟨B,σ,⟨hc,fun j i oj oi b hj hi hb h2 => ?_,fun i o ho => ?_,R,hx,fun k o ho => ?_⟩,e1,by simpa using e2⟩
     ·have:=QZ hp j oj b (by simpa using hj) hb i oi (by simpa using h2) (by simpa using hi);exact this
     ·have:=e3 i o (by simpa using ho);simpa using this
     ·have:=e4 k o (by simpa using ho);simpa using this
    ·cases h
   ·cases h
  ·cases h
 ·cases h
def Yvt(E:d_ P){rd:Option Nat}{C:b_}(hC:gr P E.G C)(hL:gp C)(hm:P.follows .mixedOrders=Y){id:Nat}{Q:Exit->St->Prop}{s s1:St}(h:th E C ops.toList s=U s1)(hQ:Q .normal s1) :
  CW P E.G rd s.h.Q (.region id ops Y) s Q:=by
 intro Z a w S_ _;obtain⟨B,σ,c,h0,h1⟩:=Jsr h;refine wpIn_region_any hm ?_;have H':bN E.G Z s.h {w with drawn:=w.drawn+1}:=S_.h.same rfl;have S':iu E.G Z s a {w with drawn:=w.drawn+1}:=⟨H',S_.t,S_.ds,S_.okd⟩;subst h0;refine Vcm c hC hL (c.wf hC H' S_.t) (fun Z' a' w' S1 e1 t1 => ?_) _ _ _ _ _ _ _ kA ?_ (Ji4 c rfl S')
 ·rw[h1]at S1 t1;exact⟨Z',.normal,s1,hQ,rfl,trivial,e1,(f_.drew _ _ _ (bn _)).trans t1,S1⟩
 ·simp
end
end Go.Ab
