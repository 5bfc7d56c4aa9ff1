import Derived.Test.YtbhojjejgmfgmaaGreatDoorAbC
import Derived.RangeFuncIn
import Derived.RecoverIn
set_option linter.all false
open List renaming length→L
open Option renaming some→U,none→O
open Bool renaming true→Y,false→J
open Go renaming Value→V
open Go.Value renaming int→I,slice→M
open Go.IntKind renaming i64→X
open Go.Ab.Blk renaming cells→S
noncomputable section
namespace Go.Ab
section
variable{P:Program}{G:Bs}{Z:Ren}{h:N}{w:World}
def Pf(E:d_ P){f:FuncId}{F:Func}(hF:E.fn.A f=U F)(cap args:Array V)(w:World):(invoke (.fn (.func f) cap) args).run P w=.ok (.enter f (args++cap)) w:=by
 obtain⟨T,g2,g3⟩:=E.fnok _ _ hF;have C:F.body.isNone=J:=by cases hb:F.body <;> simp[hb]at g3 ⊢
 simp only[aq,aN,ae,invoke,callFunc,run_program,T,g2,az,if_false,C]
def BZ(H:bN G Z h w){l:Nat}(hl:dom Z l){st:LoopState}{hx:Option Code}{t:Tm}{ps:Array Tmp}{as bd:Code}{d:Nat}(hg:h.A l=U (.obj (.loop st hx t ps as bd d))) :
  ∃ r:Loop,w.heap[i4 Z l]? = U (.loop r)/\r.state=st/\r.pending=hx/\r.params=ps/\r.assign=as/\r.body=bd/\iW Z t r.tmps/\dom Z d/\r.defers=i4 Z d /\
   ∀ T C,bN G Z (h.set l (U (.obj (.loop T C t ps as bd d)))) (w.putObj (i4 Z l) (.loop {r with state:=T,pending:=C })) /\
    f_ Z h w Z (h.set l (U (.obj (.loop T C t ps as bd d)))) (w.putObj (i4 Z l) (.loop {r with state:=T,pending:=C })):=by
 obtain⟨p,hp⟩:=aJ.1 hl;obtain⟨f0,o,f1,hd,fn,tmps,rfl,ht⟩:=H.fits l p _ hp hg;have e:i4 Z l=p.blk:=by simp[i4,hp]
 rw[e];refine⟨_,f1,rfl,rfl,rfl,rfl,rfl,ht,hd,rfl,fun T C => ?_⟩;have hc:=H.blk_lt hp hg rfl;exact H.upd hp (by rw[rH hg];rfl) (x:=.obj (.loop T C t ps as bd d)) rfl ⟨f0,_,Am hc,hd,fn,tmps,rfl,ht⟩
def BJ:Exit->Option (Option Code)
 | .normal=>U O
 | .ret=>U (U .ret)
 | .exit id=>U (U (.exit id))
 | _=>O
def tC(t:Tm)(ds:List Deferred)(l:Nat):Option (ip × N)->Option (Exit × St)
 | some (.ret _,h)=>match h.A l with
  | some (.obj (.loop .busy _ _ _ _ _ _))=>O
  | some (.obj (.loop _ O _ _ _ _ _))=>U (.normal,⟨t,ds,h.set l O⟩)
  | some (.obj (.loop _ (U .ret) _ _ _ _ _))=>U (.ret,⟨t,ds,h.set l O⟩)
  | some (.obj (.loop _ (U (.exit id)) _ _ _ _ _))=>U (.exit id,⟨t,ds,h.set l O⟩)
  | _=>O
 | some (.panic C,h)=>U (.panic C,⟨t,ds,h⟩)
 | none=>O
def GZ{P:Program}(E:d_ P)(C:b_)(rd:Option Nat)(g:Operand)(ps:Array Tmp)(as bd:Code)(s:St):Option (Exit × St) :=
 match g_ E.G s.t g with
 | some (.func (.func f) first T)=>match E.fn.A f with
  | none=>O
  | some _=>match rd with
   | none=>tC s.t ({target:=.collected s.h.Q,args:=#[]}::s.ds) (s.h.Q+1)
     (C.fn f (first.toList ++ [.func (.yield (s.h.Q+1)) #[] #[]]++T.toList) ((s.h.push (.obj .defs)).push (.obj (.loop .ready O s.t ps as bd s.h.Q))))
   | some l0=>match s.h.A l0 with
    | some (.obj (.loop _ _ _ _ _ _ d))=>tC s.t s.ds s.h.Q
      (C.fn f (first.toList ++ [.func (.yield s.h.Q) #[] #[]]++T.toList) (s.h.push (.obj (.loop .ready O s.t ps as bd d))))
    | _=>O
 | _=>O
def Pd{t:Tm}{ds:List Deferred}{l:Nat}{r:ip}{h:N}{e:Exit}{T:St}(hh:tC t ds l (U (r,h))=U (e,T)):dk h T.h:=by
 cases r with
 | ret v =>
  unfold tC at hh;split at hh
  ·rename_i C;cases C;split at hh <;> first
    | cases hh;done
    | (cases hh;exact dk.set _ _ _ (N.D (by assumption)))
  next C=>cases C
  ·cases hh
 | panic ch =>
  unfold tC at hh;cases hh;exact dk.refl _
def J3j{E:d_ P}{C:b_}(hC:gp C){rd:Option Nat}{g:Operand}{ps:Array Tmp}{as bd:Code}{s s1:St}{e:Exit}(hh:GZ E C rd g ps as bd s=U (e,s1)):dk s.h s1.h:=by
 unfold GZ at hh;split at hh
 ·split at hh
  ·cases hh
  ·split at hh
   ·cases T:C.fn _ _ _ with
    | none=>rw[T]at hh;simp[tC]at hh
    | some x =>
     obtain⟨r,h2⟩:=x;rw[T]at hh;exact(((dk.push _ _).trans (dk.push _ _)).trans (hC.fn _ _ _ _ _ T)).trans (Pd hh)
   ·split at hh
    ·cases T:C.fn _ _ _ with
     | none=>rw[T]at hh;simp[tC]at hh
     | some x =>
      obtain⟨r,h2⟩:=x;rw[T]at hh;exact((dk.push _ _).trans (hC.fn _ _ _ _ _ T)).trans (Pd hh)
    ·cases hh
 ·cases hh
def Jtx{a:Act}{w3:World}{Z3:Ren}{t:Tm}{ds:List Deferred}{l:Nat}{r:ip}{h3:N}{e:Exit}{s1:St}{F:Fence}{n:Nat}{Q:Exit->Act->World->Prop}
  (hh:tC t ds l (U (r,h3))=U (e,s1)) (hl:dom Z3 l) (hr:tw (dom Z3) r) (S_:iu G Z3 ⟨t,ds,h3⟩ a w3)
  (hQ:∀ w',f_ Z3 h3 w3 Z3 s1.h w'->iu G Z3 s1 a w'->qw (dom Z3) e->Q (pX Z3 e) a w') :
  rangePost F n P (i4 Z3 l) Q a (qo Z3 r) w3:=by
 cases r with
 | panic ch =>
  unfold tC at hh;cases hh;exact hQ w3 (f_.refl _ _ _) S_ hr
 | ret v =>
  unfold tC at hh;split at hh
  ·rename_i hq;cases hq;have key:∀ {st T t' ps as bd d},h3.A l=U (.obj (.loop st T t' ps as bd d))->st ≠ .busy->∃ C,(Instr.endLoop (i4 Z3 l)).run P w3=.ok T C/\bN G Z3 (h3.set l O) C/\f_ Z3 h3 w3 Z3 (h3.set l O) C:=by
    intro st T t' ps as bd d hg h2;obtain⟨r,r1,r2,r3,_,_,_,_,_,_,r4⟩:=BZ S_.h hl hg;obtain⟨H4,T4⟩:=r4 .exhausted T;have hc:=N.D hg;have hk:=H4.kill (b:=l) hc;rw[ZY]at hk;subst r3;exact⟨_,run_endLoop r1 (by rw[r2];exact h2),hk.1,T4.trans hk.2⟩
   have hx:∀ {C:World},bN G Z3 (h3.set l O) C->iu G Z3 ⟨t,ds,h3.set l O⟩ a C:=fun H4=>S_.step (iC.refl _ _) H4;split at hh
   ·cases hh
   next hb hg=>cases hh;obtain⟨C,e1,e2,e3⟩:=key hg hb;exact⟨O,C,e1,hQ C e3 (hx e2) trivial⟩
   next hb hg=>cases hh;obtain⟨C,e1,e2,e3⟩:=key hg hb;exact⟨_,C,e1,wpIn_ret (hQ C e3 (hx e2) trivial)⟩
   next hb hg=>cases hh;obtain⟨C,e1,e2,e3⟩:=key hg hb;exact⟨_,C,e1,wpIn_exit (hQ C e3 (hx e2) trivial)⟩
   ·cases hh
  next hq=>cases hq
  ·cases hh
def Z5c(w:World)(o:Obj):(w.alloc o).heap.size=w.heap.size+1:=Array.size_push _
def Jdk(H:bN G Z h w){x:oU}{o:Obj}(T:kz (Ren.add Z h.Q ⟨w.heap.size,0,0,0,O⟩) o x) :
  ∃ C,bN G C (h.push (.obj x)) (w.alloc o)/\f_ Z h w C (h.push (.obj x)) (w.alloc o)/\dom C h.Q/\i4 C h.Q=w.heap.size/\iC h.Q Z C :=
 have h1:=H.push (x:=.obj x) rfl (p:=⟨w.heap.size,0,0,0,O⟩) rfl (o:=o) (w':=w.alloc o) rfl ⟨rfl,o,World.alloc_heap_new _ _,T⟩
 ⟨_,h1.1,h1.2,by show(Ren.add _ _ _ _).isSome=Y;rw[gq];rfl,by unfold i4;rw[gq],gt _ _ _⟩
def LU(H:bN G Z h w){t:Tm}{tmps:Array V}{ps:Array Tmp}{as bd:Code}{d:Nat}(ht:iW Z t tmps)(hd:dom Z d)(fn:FuncId) :
  ∃ C,bN G C (h.push (.obj (.loop .ready O t ps as bd d))) (w.alloc (.loop {state:=.ready,pending:=O,fn,tmps,params:=ps,assign:=as,body:=bd,defers:=i4 Z d})) /\
   f_ Z h w C (h.push (.obj (.loop .ready O t ps as bd d))) (w.alloc (.loop {state:=.ready,pending:=O,fn,tmps,params:=ps,assign:=as,body:=bd,defers:=i4 Z d})) /\
   dom C h.Q/\i4 C h.Q=w.heap.size/\iC h.Q Z C:=by
 have T:∀ b,dom Z b->Ren.add Z h.Q ⟨w.heap.size,0,0,0,O⟩ b=Z b:=H.add_dom _;exact Jdk H ⟨by simpa[dom,T d hd]using hd,fn,tmps,by rw[rq (T d hd)],ht.keep T⟩
def Jme{Z2:Ren}{first captured:Array V}{l k:Nat}(C:(∀ v ∈ first,c_ (dom Z) v)/\∀ v ∈ captured,c_ (dom Z) v)(hc:∀ b,dom Z b->Z2 b=Z b)(hl:dom Z2 l)(hk:i4 Z2 l=k) :
  first.map (ren Z) ++ #[Value.func (.yield k) #[] #[]]++captured.map (ren Z)=((first.toList ++ [Value.func (.yield l) #[] #[]]++captured.toList).map (ren Z2)).toArray /\
  ∀ v ∈ first.toList ++ [Value.func (.yield l) #[] #[]]++captured.toList,c_ (dom Z2) v:=by
 have hd:∀ b,dom Z b->dom Z2 b:=fun b hb=>by simpa[dom,hc b hb]using hb
 constructor
 ·have T:∀ A:Array V,(∀ v ∈ A,c_ (dom Z) v)->A.map (ren Z)=A.map (ren Z2):=fun A hA=>by
   apply dJ;intro v hv;exact(ij hc v (hA v hv)).symm
  rw[T _ C.1,T _ C.2,<- hk];apply bR;simp[ren,tW,rM]
 ·intro v hv;simp only[ab,dI,aU]at hv;rcases hv with(hv | rfl) | hv
  ·exact h_ hd v (C.1 v hv)
  ·simp only[c_,lF,mO];exact⟨hl,trivial,trivial⟩
  ·exact h_ hd v (C.2 v hv)
def Vcd(E:d_ P){C:b_}(hC:gr P E.G C)(hL:gp C){rd:Option Nat}{g:Operand}{ps:Array Tmp}{as bd:Code}{s s1:St}{e:Exit}(hh:GZ E C rd g ps as bd s=U (e,s1)) :
  CW P E.G rd s.h.Q (.rangeFunc g ps as bd) s (fun e' s'=>e'=e/\s'=s1):=by
 intro Z a w S_ hl;unfold GZ at hh;split at hh
 ·rename_i f first T hg
  obtain⟨g1,g2⟩:=uX S_.h S_.t hg;split at hh
  ·cases hh
  ·rename_i F hF;obtain⟨q1,q2,q3⟩:=E.fnok _ _ hF;have hq:F.body.isNone=J:=by cases hb:F.body <;> simp[hb]at q3 ⊢
   have g3:a.eval g=.func (.func f) (first.map (ren Z)) (T.map (ren Z)):=by rw[g2];simp[ren,tW,rM]
   simp only[c_,vO]at g1;have hA:∀ (args:Array V) (w:World),(invoke (.fn (.func f) (T.map (ren Z))) args).run P w=.ok (.enter f (args++T.map (ren Z))) w:=fun args w=>Pf E hF _ _ w;have go:∀ (Z2:Ren) (w2:World) (h2:N) (l:Nat) (ds:List Deferred) (mark:List Deferred),iC s.h.Q Z Z2->s.h.Q<=h2.Q->bN E.G Z2 h2 w2->f_ Z s.h w Z2 h2 w2->dom Z2 l ->
     (mark++a.defers=ds.map (pK Z2))->(∀ d ∈ ds,uh (dom Z2) d) ->
     tC s.t ds l (C.fn f (first.toList ++ [.func (.yield l) #[] #[]]++T.toList) h2)=U (e,s1) ->
     CallsIn (kZ rd Z) 0 P f (first.map (ren Z) ++ #[Value.func (.yield (i4 Z2 l)) #[] #[]]++T.map (ren Z)) w2 (rangePost (kZ rd Z) 0 P (i4 Z2 l)
      (fun e' a' w' => ∃ Z' e0 s',(e0=e/\s'=s1)/\e'=pX Z' e0/\qw (dom Z') e0/\iC s.h.Q Z Z'/\f_ Z s.h w Z' s'.h w'/\iu E.G Z' s' a' w') {a with defers:=mark++a.defers}):=by
    intro Z2 w2 h2 l ds mark he hn H2 T2 ls hz e2 hr;have hk:∀ b,dom Z b->Z2 b=Z b:=fun b hb=>he b (lJ S_.h hb);obtain⟨a1,a2⟩:=Jme g1 hk ls rfl;rw[a1];cases hc:C.fn f (first.toList ++ [.func (.yield l) #[] #[]]++T.toList) h2 with
    | none=>rw[hc]at hr;simp[tC]at hr
    | some x =>
     obtain⟨r,h3⟩:=x;rw[hc]at hr;refine HO ((hC.fn _ _ _ _ _ hc Z2 w2 H2 a2).mono ?_);rintro e' w3 ⟨Z3,r',hB,⟨rfl,rfl⟩,rfl,k1,k2,k3,k4⟩;have hp:∀ b,dom Z2 b->Z3 b=Z2 b:=fun b hb=>k2 b (lJ H2 hb);have hu:dom Z3 l:=(by simpa[dom,hp l ls]using ls);have er:i4 Z2 l=i4 Z3 l:=(rq (hp l ls)).symm;have S3:iu E.G Z3 ⟨s.t,ds,hB⟩ {a with defers:=mark++a.defers} w3:=by
      refine⟨k4,(S_.t.keep hk).keep hp,?_,fun d hd=>El (fun b hb=>by simpa[dom,hp b hb]using hb) (e2 d hd)⟩;show mark++a.defers=_;rw[hz];apply bV;intro d hd;exact(Eu hp (e2 d hd)).symm
     rw[er];refine Jtx hr hu k1 S3 fun w' T' S' hx => ?_;exact⟨Z3,e,s1,⟨rfl,rfl⟩,rfl,hx,he.trans k2 hn,(T2.trans k3).trans T',S'⟩
   split at hh
   ·
    refine wpIn_rangeFunc fun fn _ => ?_;obtain⟨Z1,H1,T1,d1,b1,x1⟩:=Jdk S_.h (x:=.defs) (o:=.deferred (U [])) rfl;have S1:=S_.step x1 H1;obtain⟨Z2,H2,T2,d2,b2,x2⟩:=LU (ps:=ps) (as:=as) (bd:=bd) H1 S1.t d1 fn;have v':(s.h.push (.obj .defs)).Q=s.h.Q+1:=rfl;have hy:iC s.h.Q Z Z2:=x1.trans x2 jA;have es:i4 Z2 s.h.Q=w.heap.size:=by rw[rq (x2 _ jA),b1]
    have hf:dom Z2 s.h.Q:=by have:=x2 s.h.Q jA;simpa[dom,this]using d1
    rw[Z5c]at b2;rw[b1]at H2 T2;refine⟨w.heap.size+1,[{target:=.collected w.heap.size,args:=#[]}],(w.alloc (.deferred (U []))).alloc (.loop {state:=.ready,pending:=O,fn:=fn,tmps:=a.tmps,params:=ps,assign:=as,body:=bd,defers:=w.heap.size}),⟨.fn (.func f) (T.map (ren Z)),first.map (ren Z) ++ #[.func (.yield (w.heap.size+1)) #[] #[]]⟩,(w.alloc (.deferred (U []))).alloc (.loop {state:=.ready,pending:=O,fn:=fn,tmps:=a.tmps,params:=ps,assign:=as,body:=bd,defers:=w.heap.size}),f,_,(w.alloc (.deferred (U []))).alloc (.loop {state:=.ready,pending:=O,fn:=fn,tmps:=a.tmps,params:=ps,assign:=as,body:=bd,defers:=w.heap.size}),?_,?_,?_,hA _ _,by rw[yB];simp,?_⟩
    ·rw[Eo];exact run_enterLoop_outer fn a.tmps ps as bd
    ·show(Deferred.ofValue (a.eval g) _).run P _=_;rw[g3];simp[Deferred.ofValue,rangeCall,Act.eval]
    ·exact fun f' _=>vn O Z f'
    ·have:=go Z2 _ _ (s.h.Q+1) ({target:=.collected s.h.Q,args:=#[]}::s.ds) [{target:=.collected w.heap.size,args:=#[]}] hy (by show s.h.Q<=s.h.Q+1+1;omega) H2 (T1.trans T2) d2 ?_ ?_ hh
     ·rw[<- v',b2]at this;exact this
     ·have S2:=S_.step hy H2;simp only[aK,pK,es,jk,jT];rw[<- S2.ds];rfl
     ·intro d hd;rcases ao.1 hd with rfl | hd
      ·exact⟨hf,by simp[lF,mO]⟩
      ·exact(S_.step hy H2).okd d hd
   ·
    rename_i l0;split at hh
    ·rename_i DB e1 t0 p1 m0 lb d0 hm;refine wpIn_rangeFunc fun fn _ => ?_;have re:=hl l0 rfl;obtain⟨r0,r1,_,_,_,_,_,_,h4,r2,_⟩:=BZ S_.h re hm;obtain⟨Z2,H2,T2,d2,b2,x2⟩:=LU (ps:=ps) (as:=as) (bd:=bd) S_.h S_.t h4 fn;have S2:=S_.step x2 H2;refine⟨w.heap.size,[],w.alloc (.loop {state:=.ready,pending:=O,fn:=fn,tmps:=a.tmps,params:=ps,assign:=as,body:=bd,defers:=i4 Z d0}),⟨.fn (.func f) (T.map (ren Z)),first.map (ren Z) ++ #[.func (.yield w.heap.size) #[] #[]]⟩,w.alloc (.loop {state:=.ready,pending:=O,fn:=fn,tmps:=a.tmps,params:=ps,assign:=as,body:=bd,defers:=i4 Z d0}),f,_,w.alloc (.loop {state:=.ready,pending:=O,fn:=fn,tmps:=a.tmps,params:=ps,assign:=as,body:=bd,defers:=i4 Z d0}),?_,?_,?_,hA _ _,by rw[yB];simp,?_⟩
     ·rw[Eo];unfold Instr.enterLoop;simp only[aL,aq,run_getLoop r1,Result.andThen,aN,run_newObj_alloc,r2]
     ·show(Deferred.ofValue (a.eval g) _).run P _=_;rw[g3];simp[Deferred.ofValue,rangeCall,Act.eval]
     ·exact fun f' _=>vn _ Z f'
     ·have:=go Z2 _ _ s.h.Q s.ds [] x2 (by show s.h.Q<=s.h.Q+1;omega) H2 T2 d2 (by simpa using S2.ds) S2.okd hh;rw[b2]at this;exact this
    ·cases hh
 ·cases hh
end
def rW(body:St->Option (Exit × St)):Nat->St->Option (Exit × St)
 | 0,_=>O
 | k+1,s=>match body s with
  | some (.normal,C)=>rW body k C
  | r=>r
def jF{P:Program}(E:d_ P)(C:b_)(rd:Option Nat)(k:Nat):Code->St->Option (Exit × St)
 | .skip,s=>U (.normal,s)
 | .label _,s=>U (.normal,s)
 | .ret,s=>U (.ret,s)
 | .exit id,s=>U (.exit id,s)
 | .seq x y,s=>match jF E C rd k x s with
  | some (.normal,s')=>jF E C rd k y s'
  | r=>r
 | .cond c x y,s=>match g_ E.G s.t c with
  | some (.bool Y)=>jF E C rd k x s
  | some (.bool J)=>jF E C rd k y s
  | _=>O
 | .block id c,s=>match jF E C rd k c s with
  | some (.exit hx,s')=>match Nat.beq hx id with
   | true=>U (.normal,s')
   | false=>U (.exit hx,s')
  | r=>r
 | .loop c,s=>rW (jF E C rd k c) k s
 | .region _ T Y,s=>match th E C T.toList s with
  | some s'=>U (.normal,s')
  | none=>O
 | .region _ T J,s=>o8 E C rd T.toList T.toList s
 | .rangeFunc g ps as bd,s=>GZ E C rd g ps as bd s
 | _,_=>O
section
variable{P:Program}
def Jay{E:d_ P}{C:b_}(hC:gp C){rd:Option Nat}{ops:List Oper}:∀ (l:List Oper) (s s1:St) (e:Exit),o8 E C rd ops l s=U (e,s1)->dk s.h s1.h
 | [],s,s1,e,h=>by simp only[o8,av,bZ]at h;rw[<- h.2];exact dk.refl _
 | o::r,s,s1,e,h=>by
  simp only[o8]at h;split at h
  ·split at h
   next s' T=>exact(Jl7 hC T).trans (Jay hC r _ _ _ h)
   next T=>cases h;exact Jl7 hC T
   ·cases h
  ·split at h
   ·have:=Jay hC r _ _ _ h;rwa [qa]at this
   ·cases h
  ·cases h
def Jal{E:d_ P}{C:b_}(hC:gp C){ops:List Oper}{B:List Nat}:∀ (l:List Oper) (i:Nat) (s T:St) (R:List (Option iU)),sE E C ops B l i s=U (T,R)->dk s.h T.h
 | [],i,s,T,R,h=>by simp only[sE,av,bZ]at h;rw[<- h.1];exact dk.refl _
 | o::r,i,s,T,R,h=>by
  simp only[sE]at h;split at h
  ·cases h
  ·split at h
   ·obtain⟨R',h',_⟩:=PW h;have:=Jal hC r _ _ _ _ h';rwa [qa]at this
   ·split at h
    ·rename_i v h1 hv;split at h
     ·obtain⟨R',h',_⟩:=PW h;have h2:=Jal hC r _ _ _ _ h';rw[qa]at h2;have h3:=Hs hC hv;refine dk.trans (b:=yl s.h h1) ⟨h3.Q,fA _ _,fun b hb hl => ?_⟩ h2;have:=h3.same b hb (aw hl (Nat.min_le_right _ _));exact this
     ·cases h
    ·cases h
   ·cases h
def Jke{E:d_ P}{C:b_}(hC:gp C){ops:List Oper}{s T:St}(h:th E C ops s=U T):dk s.h T.h:=by
 unfold th at h;split at h
 ·split at h
  ·split at h
   ·rename_i hR;split at h
    ·cases h;exact Jal hC _ _ _ _ _ hR
    ·cases h
   ·cases h
  ·cases h
 ·cases h
def Jmh{body:St->Option (Exit × St)}(T:∀ s e C,body s=U (e,C)->dk s.h C.h):∀ k s e C,rW body k s=U (e,C)->dk s.h C.h
 | 0,_,_,_,h=>by simp[rW]at h
 | k+1,s,e,C,h=>by
  simp only[rW]at h;split at h
  next s' hs=>exact(T _ _ _ hs).trans (Jmh T k _ _ _ h)
  ·exact T _ _ _ h
def sT{E:d_ P}{C:b_}(hC:gp C){rd:Option Nat}{k:Nat}:∀ (c:Code) (s:St) (e:Exit) (T:St),jF E C rd k c s=U (e,T)->dk s.h T.h
 | .skip,s,e,T,h | .label _,s,e,T,h | .ret,s,e,T,h | .exit _,s,e,T,h=>by
  simp only[jF,av,bZ]at h;rw[<- h.2];exact dk.refl _
 | .seq x y,s,e,T,h=>by
  simp only[jF]at h;split at h
  next s' hs=>exact(sT hC x _ _ _ hs).trans (sT hC y _ _ _ h)
  ·exact sT hC x _ _ _ h
 | .cond c x y,s,e,T,h=>by
  simp only[jF]at h;split at h
  ·exact sT hC x _ _ _ h
  ·exact sT hC y _ _ _ h
  ·cases h
 | .block id c,s,e,T,h=>by
  simp only[jF]at h;split at h
  next hc s' hs=>split at h <;> (cases h;exact sT hC c _ _ _ hs)
  ·exact sT hC c _ _ _ h
 | .loop c,s,e,T,h=>by
  simp only[jF]at h;exact Jmh (sT hC c) k _ _ _ h
 | .region _ hx Y,s,e,T,h=>by
  simp only[jF]at h;split at h
  next s' hs=>cases h;exact Jke hC hs
  ·cases h
 | .region _ hx J,s,e,T,h=>by
  simp only[jF]at h;exact Jay hC _ _ _ _ h
 | .rangeFunc ..,s,e,T,h=>by
  simp only[jF]at h;exact J3j hC h
 | .scope _,_,_,_,h | .goto _,_,_,_,h | .refuse _,_,_,_,h=>by simp[jF]at h
def J5z{G:Bs}{rd:Option Nat}{c:Code}{body:St->Option (Exit × St)}(wj:∀ s e C,body s=U (e,C)->dk s.h C.h)(hb:∀ s e C,body s=U (e,C)->CW P G rd s.h.Q c s (fun e' s'=>e'=e/\s'=C))
  {k:Nat} {s:St} {e:Exit} {C:St} (h:rW body k s=U (e,C)):CW P G rd s.h.Q (.loop c) s (fun e' s'=>e'=e/\s'=C):=by
 intro Z0 a0 w0 S0 hc;refine J24 (n:=s.h.Q) (fun k s'=>rW body k s'=U (e,C)/\s.h.Q<=s'.h.Q) ⟨h,ac _⟩ (fun l hl=>lJ S0.h (hc l hl)) (ac _) (fun k s' hI _ => ?_) Z0 a0 w0 S0 hc;obtain⟨T,hn⟩:=hI;cases k with
 | zero=>simp[rW]at T
 | succ k =>
  simp only[rW]at T;split at T
  next s2 hs=>refine(hb _ _ _ hs).mono hn ?_;rintro e' h2 ⟨rfl,rfl⟩;have:=(wj _ _ _ hs).Q;exact⟨jA,fun _=>⟨k,bX _,T,jA⟩,fun hx=>absurd rfl hx⟩
  next hx=>refine(hb _ _ _ T).mono hn ?_;rintro e' h2 ⟨rfl,rfl⟩;have:=(wj _ _ _ T).Q;refine⟨jA,fun he => ?_,fun _=>⟨rfl,rfl⟩⟩;subst he;exact absurd T (hx _)
def vP(E:d_ P){C:b_}(hC:gr P E.G C)(T:gp C)(hm:P.follows .mixedOrders=Y){rd:Option Nat}{k:Nat}:∀ (c:Code) (s:St) (e:Exit) (s1:St),jF E C rd k c s=U (e,s1)->CW P E.G rd s.h.Q c s (fun e' s'=>e'=e/\s'=s1)
 | .skip,s,e,s1,h=>by
  simp only[jF,av,bZ]at h;exact J0p ⟨h.1,h.2⟩
 | .label _,s,e,s1,h=>by
  simp only[jF,av,bZ]at h;exact Jvy ⟨h.1,h.2⟩
 | .ret,s,e,s1,h=>by
  simp only[jF,av,bZ]at h;exact Va1 ⟨h.1,h.2⟩
 | .exit _,s,e,s1,h=>by
  simp only[jF,av,bZ]at h;exact J57 ⟨h.1,h.2⟩
 | .seq x y,s,e,s1,h=>by
  simp only[jF]at h;refine Va9 ?_;split at h
  next s' hs=>refine(vP E hC T hm x _ _ _ hs).mono (ac _) ?_;rintro e' h2 ⟨rfl,rfl⟩;exact⟨(sT T x _ _ _ hs).Q,fun _=>vP E hC T hm y _ _ _ h,fun hx=>absurd rfl hx⟩
  next hx=>refine(vP E hC T hm x _ _ _ h).mono (ac _) ?_;rintro e' h2 ⟨rfl,rfl⟩;refine⟨(sT T x _ _ _ h).Q,fun he => ?_,fun _=>⟨rfl,rfl⟩⟩;subst he;exact absurd h (hx _)
 | .cond c x y,s,e,s1,h=>by
  simp only[jF]at h;split at h
  next hc=>exact ZC hc (vP E hC T hm x _ _ _ h)
  next hc=>exact ZC hc (vP E hC T hm y _ _ _ h)
  ·cases h
 | .block id c,s,e,s1,h=>by
  simp only[jF]at h;refine Jvi ?_;split at h
  ·rename_i hk s' hs;refine(vP E hC T hm c _ _ _ hs).mono (ac _) ?_;rintro e' h2 ⟨rfl,rfl⟩;simp only;split at h
   next hb=>rw[if_pos (aT hb)];cases h;exact⟨rfl,rfl⟩
   next hb=>rw[if_neg (dh hb)];cases h;exact⟨rfl,rfl⟩
  ·rename_i hx;refine(vP E hC T hm c _ _ _ h).mono (ac _) ?_;rintro e' h2 ⟨rfl,rfl⟩;cases e' with
   | exit hk=>exact absurd h (hx _ _)
   | _=>exact⟨rfl,rfl⟩
 | .loop c,s,e,s1,h=>by
  simp only[jF]at h;exact J5z (sT T c) (vP E hC T hm c) h
 | .region _ hr Y,s,e,s1,h=>by
  simp only[jF]at h;split at h
  next s' hs=>cases h;exact Yvt E hC T hm hs ⟨rfl,rfl⟩
  ·cases h
 | .region _ hr J,s,e,s1,h=>by
  simp only[jF]at h;exact J5g E hC h ⟨rfl,rfl⟩
 | .rangeFunc ..,s,e,s1,h=>by
  simp only[jF]at h;exact Vcd E hC T h
 | .scope _,_,_,_,h | .goto _,_,_,_,h | .refuse _,_,_,_,h=>by simp[jF]at h
def BO{P:Program}(E:d_ P)(C:b_)(k:Nat)(l:Nat)(args:List V)(h:N):Option (ip × N) :=
 match h.A l with
 | some (.obj (.loop .ready _ t ps as bd _))=>match qv t.size ps.toList args with
  | false=>O
  | true=>match jF E C (U l) k as ⟨qz t ps.toList args,[],h⟩with
   | some (.normal,s1)=>match s1.h.A l with
    | some (.obj (.loop .ready p1 t1 hk T hc d1))=>match jF E C (U l) k bd {s1 with h:=s1.h.set l (U (.obj (.loop .busy p1 t1 hk T hc d1)))} with
     | some (e,s2)=>match BJ e,s2.h.A l with
      | some j,U (.obj (.loop _ _ t2 hr hx h2 d2))=>U (.ret (.bool j.isNone),s2.h.set l (U (.obj (.loop (if j.isNone then .ready else .done) j t2 hr hx h2 d2))))
      | _,_=>O
     | none=>O
    | _=>O
   | _=>O
 | _=>O
def Jxg{E:d_ P}{C:b_}(hC:gp C){k l:Nat}{args:List V}{h h1:N}{r:ip}(hh:BO E C k l args h=U (r,h1)):dk h h1:=by
 unfold BO at hh;split at hh
 ·split at hh
  ·cases hh
  ·split at hh
   ·rename_i hc;split at hh
    ·rename_i T;split at hh
     ·rename_i h2;split at hh
      next hj hx=>cases hh;exact(((sT hC _ _ _ _ hc).trans (dk.set _ _ _ (N.D T))).trans (sT hC _ _ _ _ h2)).trans (dk.set _ _ _ (N.D hx))
      ·cases hh
     ·cases hh
    ·cases hh
   ·cases hh
 ·cases hh
def Y4y(rd:Option Nat)(Z β:Ren)(l:Nat):(kZ rd β).inRound (i4 Z l)=kZ (U l) Z:=by cases rd <;> rfl
def Zf9{Z:Ren}{e:Exit}{j:Option Code}(C:BJ e=U j){l:Nat}{R:Ending->World->Prop}{a:Act}{w:World}(h:∃ v w',(Instr.endRound l j).run P w=.ok v w'/\R (.returned v) w') :
  roundPost P l R (pX Z e) a w:=by
 cases e <;> simp only[BJ,av,reduceCtorEq]at C <;> subst C <;> exact h
def J06(E:d_ P){C:b_}(hC:gr P E.G C)(hL:gp C)(hm:P.follows .mixedOrders=Y){k l:Nat}{args:List V}{h h1:N}{r:ip}(hh:BO E C k l args h=U (r,h1)) :
  zI P E.G l args h (fun r' h'=>r'=r/\h'=h1):=by
 intro Z w β rd st s' t ps as bd d fn h2 H hl ha hg ht;unfold BO at hh;rw[hg]at hh;cases st with
 | ready =>
  simp only at hh;split at hh
  ·cases hh
  ·split at hh
   ·rename_i s1 hA;split at hh
    ·rename_i p1 t1 q3 hu v' d1 h4;split at hh
     ·rename_i e2 s2 he;split at hh
      ·rename_i j vz lb t2 re hB es d2 hj q1;cases hh;refine roundIn_of_wpIn (vn rd β _) ?_;rw[Y4y rd Z β l];have S0:iu E.G Z ⟨qz t ps.toList args,[],h⟩ {tmps:=h2,defers:=[]} w:=⟨H,ht,rfl,fun d hd=>by cases hd⟩;refine wpIn_mono (vP E hC hL hm as _ _ _ hA Z _ w S0 (fun l' T=>by cases T;exact hl)) ?_;rintro e' a1 w1 ⟨Z1,e1,g1,⟨rfl,rfl⟩,rfl,_,x1,T1,S1⟩;have h3:∀ b,dom Z b->Z1 b=Z b:=fun b hb=>x1 b (lJ H hb);have hx:dom Z1 l:=(by simpa[dom,h3 l hl]using hl);obtain⟨r1,k1,k2,kp,_,_,_,_,_,_,k3⟩:=BZ S1.h hx h4;subst kp;obtain⟨hk,hq⟩:=k3 .busy r1.pending;have hc:i4 Z1 l=i4 Z l:=rq (h3 l hl);refine⟨_,by rw[<- hc];exact run_beginRound k1 k2,?_⟩;rw[<- hc];have hy:=S1.step (iC.refl _ _) hk;rw[<- (Ey (rd:=U l) (n:=0) S0 x1 (fun l' T=>by cases T;exact hl)).1];refine wpIn_mono (vP E hC hL hm bd _ _ _ he Z1 a1 _ hy (fun l' T=>by cases T;exact hx)) ?_;rintro e' a2 w2 ⟨Z2,m0,g2,⟨rfl,rfl⟩,rfl,_,x2,T2,S2⟩;have hz:h.Q<=g1.h.Q:=(sT hL _ _ _ _ hA).Q;have hp:∀ b,dom Z1 b->Z2 b=Z1 b:=fun b hb=>x2 b (lJ hk hb);have hf:dom Z2 l:=(by simpa[dom,hp l hx]using hx);have q2:i4 Z2 l=i4 Z1 l:=rq (hp l hx);obtain⟨r2,m1,m2,_,_,_,_,_,_,_,m3⟩:=BZ S2.h hf q1;obtain⟨ls,hn⟩:=m3 (if j.isNone then .ready else .done) j;have hr:∃ v w',(Instr.endRound (i4 Z1 l) j).run P w2=.ok v w'/\∃ Z' r h',(r=ip.ret (.bool j.isNone)/\h'=g2.h.set l (U (.obj (.loop (if j.isNone then .ready else .done) j t2 re hB es d2)))) /\
         Ending.returned v=qo Z' r/\tw (dom Z') r/\iC h.Q Z Z'/\f_ Z h w Z' h' w'/\bN E.G Z' h' w' :=
        ⟨_,_,by rw[<- q2];exact run_endRound j m1,Z2,_,_,⟨rfl,rfl⟩,by simp[qo],trivial,x1.trans x2 hz,((T1.trans hq).trans T2).trans hn,ls⟩
       rw[hc]at hr ⊢;exact Zf9 hj hr
      ·cases hh
     ·cases hh
    ·cases hh
   ·cases hh
 | _=>cases hh
end
def Z6{P:Program}(E:d_ P)(t:Tm)(h:N):List ResultVar->Option (List V)
 | []=>U []
 | .tmp i::r=>match t.t.A i,Z6 E t h r with
  | some v,U l=>U (v::l)
  | _,_=>O
 | .cell i ty::r=>match t.t.A i with
  | some x=>match jy E.toiS ty x h,Z6 E t h r with
   | some v,U l=>U (v::l)
   | _,_=>O
  | none=>O
def Zk{P:Program}(E:d_ P)(fn:Func)(t:Tm)(h:N):Option V :=
 match Z6 E t h fn.results.toList with
 | some [v]=>U v
 | some l=>U (.tuple l.toArray)
 | none=>O
def l_(Z:Ren):FrameMode->FrameMode
 | .panicking C => .panicking (C.map (uf Z))
 | u=>u
def nN(D:Nat->Prop):FrameMode->Prop
 | .panicking C => ∀ p ∈ C,c_ D p.v
 | _=>True
abbrev pL:=FuncId->List V->FrameMode->N->Option (ip × FrameMode × N)
def Cd(P:Program)(G:Bs)(D:pL):Prop:=∀ f args u h r T h1,D f args u h=U (r,T,h1) ->
 ∀ Z w,bN G Z h w->(∀ v ∈ args,c_ (dom Z) v)->nN (dom Z) u->CallsDIn Fence.wide 0 P f (args.map (ren Z)).toArray (l_ Z u) w fun e u' w' =>
  ∃ C,e=qo C r/\u'=l_ C T/\tw (dom C) r/\nN (dom C) T/\iC h.Q Z C/\f_ Z h w C h1 w'/\bN G C h1 w'
def HC(D:pL):Prop:=∀ f args u h r C h1,D f args u h=U (r,C,h1)->dk h h1
def Qv{P:Program}(E:d_ P)(D:pL)(fn:Func)(t:Tm):List Deferred->FrameMode->N->Option (ip × N)
 | [],.returning,h=>match Zk E fn t h with
  | some v=>U (.ret v,h)
  | none=>O
 | [],.panicking C,h=>U (.panic C,h)
 | [],.run,_=>O
 | d::ds,u,h=>match u,d.target with
  | .run,_=>O
  | _,.collected r=>match h.A r with
   | some (.obj .defs)=>Qv E D fn t ds u (h.set r O)
   | _=>O
  | _,.fn (.func f) cap=>match E.fn.A f with
   | none=>O
   | some _=>match D f (d.args.toList++cap.toList) u h with
    | some (.ret _,T,h1)=>Qv E D fn t ds (settle T) h1
    | some (.panic C,T,h1)=>Qv E D fn t ds (raised T C) h1
    | none=>O
  | _,_=>O
def Xs(fn:Func)(args:List V):Tm:=⟨fn.ntmps,putAll 0 args .leaf⟩
 where putAll (i:Nat):List V->Tr V->Tr V
 | [],t=>t
 | v::l,t=>putAll (i+1) l (t.put i (U v))
def Dk{P:Program}(E:d_ P)(C:b_)(D:pL)(k:Nat)(f:FuncId)(args:List V)(h:N):Option (ip × N) :=
 match E.fn.A f with
 | none=>O
 | some fn=>match fn.body,Nat.ble (L args) fn.ntmps with
  | some c,Y=>match jF E C O k c ⟨Xs fn args,[],h⟩with
   | some (.normal,s) | some (.ret,s)=>Qv E D fn s.t s.ds .returning s.h
   | some (.panic T,s)=>Qv E D fn s.t s.ds (.panicking T) s.h
   | _=>O
  | _,_=>O
section
variable{P:Program}{G:Bs}{Z:Ren}{h:N}{w:World}
def ZW(E:d_ P)(H:bN E.G Z h w){t:Tm}{tmps:Array V}(ht:iW Z t tmps):∀ {rs:List ResultVar} {l:List V},Z6 E t h rs=U l ->
  (∀ v ∈ l,c_ (dom Z) v)/\((rs.mapM (m:=Sem) fun
   | .tmp t=>pure (tmps.getD t undef)
   | .cell a t=>do loadVar t (<- asAddr (tmps.getD a undef))):Sem (List V)).run P w=.ok (l.map (ren Z)) w
 | [],l,hl=>by simp only[Z6,av]at hl;subst hl;simp
 | .tmp i::r,l,hl=>by
  simp only[Z6]at hl;split at hl
  ·rename_i v l' hv C;cases hl;obtain⟨i1,i2⟩:=ZW E H ht C;obtain⟨T,j2⟩:=ht.vals i v hv;refine⟨by simpa using⟨T,i1⟩,?_⟩;have : tmps.getD i undef=ren Z v:=by simp[Array.getD_eq_getD_getElem?,j2]
   simp only[fF,this,pure_bind,aq,i2,ae,aN,aK]
  ·cases hl
 | .cell i ty::r,l,hl=>by
  simp only[Z6]at hl;split at hl
  ·rename_i x hx;split at hl
   ·rename_i v l' hv C;cases hl;obtain⟨i1,i2⟩:=ZW E H ht C;obtain⟨T,j2⟩:=ht.vals i x hx;have : tmps.getD i undef=ren Z x:=(by simp[Array.getD_eq_getD_getElem?,j2]);unfold jy at hv;split at hv
    ·rename_i a rr hr;simp only[c_]at T;obtain⟨k1,k2⟩:=Yvs (P:=P) H (E.K ty rr hr) T.1 T.2 hv;refine⟨by simpa using⟨k1,i1⟩,?_⟩;have hA:asAddr (ren Z (.pointer (U a)))=pure (jv Z a):=by simp[ren,asAddr]
     simp only[fF,this,hA,pure_bind,aq,k2,i2,ae,aN,aK]
    ·cases hv
   ·cases hl
  ·cases hl
def ZN(E:d_ P)(H:bN E.G Z h w){t:Tm}{tmps:Array V}(ht:iW Z t tmps){fn:Func}{v:V}(hv:Zk E fn t h=U v):c_ (dom Z) v/\(results fn tmps).run P w=.ok (ren Z v) w:=by
 unfold Zk at hv;have key:∀ l,Z6 E t h fn.results.toList=U l->(∀ v ∈ l,c_ (dom Z) v)/\(results fn tmps).run P w=.ok (if h:(l.map (ren Z)).toArray.size=1 then(l.map (ren Z)).toArray[0]else .tuple (l.map (ren Z)).toArray) w:=by
  intro l hl;obtain⟨C,T⟩:=ZW E H ht hl;refine⟨C,?_⟩;unfold results;rw[fN];simp only[bind_map_left,aq];refine(congrArg (fun r=>Result.andThen r _) T).trans ?_;simp only[ae,aN]
 split at hv
 next u hl=>cases hv;obtain⟨C,T⟩:=key _ hl;exact⟨C _ kA,by rw[T];simp⟩
 ·rename_i l hc hl;cases hv;obtain⟨C,T⟩:=key _ hl;refine⟨by simp only[c_,vO];intro x hx;exact C x (by simpa using hx),?_⟩;have : ¬ (l.map (ren Z)).toArray.size=1:=by
   intro hs;simp only[fc,aM]at hs;obtain⟨x,rfl⟩:=List.length_eq_one_iff.1 hs;exact hc x rfl
  rw[T,dif_neg this];simp[ren,rM]
 ·cases hv
def Z47:∀ (l:List V) (i:Nat) (t:Tr V) (j:Nat),(Xs.putAll i l t).A j=if i<=j/\j < i+L l then l[j-i]? else t.A j
 | [],i,t,j=>by simp[Xs.putAll];omega
 | v::l,i,t,j=>by
  simp only[Xs.putAll,Z47 l (i+1),Tr.H,bm];by_cases h1:i+1<=j/\j < i+1+L l
  ·rw[if_pos h1,if_pos jA,show j-i=(j-(i+1))+1 by omega,List.getElem?_cons_succ]
  ·rw[if_neg h1];by_cases C:i=j
   ·subst C;rw[if_pos rfl,if_pos jA];simp
   ·rw[if_neg C,if_neg jA]
def Pk{fn:Func}{args:List V}(T:L args<=fn.ntmps)(C:∀ v ∈ args,c_ (dom Z) v) :
  iW Z (Xs fn args) ((args.map (ren Z)).toArray++Array.replicate (fn.ntmps-(args.map (ren Z)).toArray.size) undef):=by
 refine⟨by simp[Xs];omega,fun i v hv => ?_⟩;simp only[Xs,Z47,bQ,true_and,bK,dc,Tr.get_leaf]at hv;split at hv
 next hi=>refine⟨C v (List.mem_of_getElem? hv),?_⟩;rw[Array.getElem?_append_left (by simpa using hi)];simp[hv]
 ·cases hv
def Jvz{D E:Nat->Prop}(h:∀ b,D b->E b){u:FrameMode}(C:nN D u):nN E u:=by
 cases u <;> simp only[nN]at C ⊢;exact fun p T=>h_ h _ (C p T)
def Z5k{β:Ren}{D:Nat->Prop}(h:∀ b,D b->β b=Z b){u:FrameMode}(C:nN D u):l_ β u=l_ Z u:=by
 cases u <;> simp only[nN,l_]at C ⊢;congr 1;apply bV;intro p T;simp[uf,ij h _ (C p T)]
def Jqf(u:FrameMode):l_ Z (settle u)=settle (l_ Z u):=by
 cases u with
 | panicking T =>
  cases T with
  | nil=>rfl
  | cons p C =>
   obtain⟨v,r,g⟩:=p;cases r with
   | false=>rfl
   | true =>
    simp only[settle,l_,aK,uf];have : (C.map (uf Z)).dropWhile (fun x => !x.goexit)=(C.dropWhile (fun x => !x.goexit)).map (uf Z):=by
     induction C with
     | nil=>rfl
     | cons q C ih=>simp only[aK,List.dropWhile_cons,uf];split <;> simp_all [uf]
    have h2:List.dropWhile (fun x => !x.goexit) (List.map (fun p=>({v:=ren Z p.v,recovered:=p.recovered,goexit:=p.goexit}:PanicEntry)) C)=(C.dropWhile (fun x => !x.goexit)).map (uf Z):=this;rw[show(uf Z)=(fun p=>({v:=ren Z p.v,recovered:=p.recovered,goexit:=p.goexit}:PanicEntry))from rfl]at *;rw[h2];cases h3:C.dropWhile (fun x => !x.goexit)with
    | nil=>rfl
    | cons _ _=>rfl
 | _=>rfl
def Jwu{D:Nat->Prop}{u:FrameMode}(C:nN D u):nN D (settle u):=by
 cases u with
 | panicking ch =>
  cases ch with
  | nil=>exact C
  | cons p T =>
   obtain⟨v,r,g⟩:=p;cases r with
   | false=>exact C
   | true =>
    simp only[settle];split
    ·trivial
    ·exact fun q hq=>C q (aY _ (List.dropWhile_sublist _ |>.subset hq))
 | _=>exact C
def Jpe(u:FrameMode)(C:List PanicEntry):l_ Z (raised u C)=raised (l_ Z u) (C.map (uf Z)):=by
 cases u <;> simp[raised,l_]
def Jwk{D:Nat->Prop}{u:FrameMode}{T:List PanicEntry}(hu:nN D u)(C:∀ p ∈ T,c_ D p.v):nN D (raised u T):=by
 cases u <;> simp only[raised,nN]at hu ⊢
 ·exact C
 ·exact C
 ·intro p hp;rcases ab.1 hp with h | h
  ·exact C p h
  ·exact hu p h
end
section
variable{P:Program}{G:Bs}{Z:Ren}{h:N}{w:World}
def Hy(E:d_ P){D:pL}(hD:Cd P E.G D){fn:Func}{t:Tm}:∀ (ds:List Deferred) (u:FrameMode) (h:N) (Z:Ren) (w:World) (tmps:Array V) (r:ip) (h1:N),
  Qv E D fn t ds u h=U (r,h1)->bN E.G Z h w->iW Z t tmps->(∀ d ∈ ds,uh (dom Z) d)->nN (dom Z) u->∀ {R:Ending->World->Prop},
  (∀ Z' w',iC h.Q Z Z'->f_ Z h w Z' h1 w'->bN E.G Z' h1 w'->tw (dom Z') r->R (qo Z' r) w') ->
  LeavesInM Fence.wide 0 P fn tmps R (ds.map (pK Z)) (l_ Z u) w
 | [],u,h,Z,w,tmps,r,h1,hl,H,T,_,hu,R,hR=>by
  cases u with
  | run=>simp[Qv]at hl
  | returning =>
   simp only[Qv]at hl;split at hl
   next v hv=>cases hl;obtain⟨i1,i2⟩:=ZN E H T hv;exact⟨ren Z v,i2,hR Z w (iC.refl _ _) (f_.refl _ _ _) H i1⟩
   ·cases hl
  | panicking ch =>
   simp only[Qv,av,bZ]at hl;obtain⟨rfl,rfl⟩:=hl;exact hR Z w (iC.refl _ _) (f_.refl _ _ _) H hu
 | d::ds,u,h,Z,w,tmps,r,h1,hl,H,T,hc,hu,R,hR=>by
  obtain⟨tg,C⟩:=d;simp only[Qv]at hl;split at hl
  ·cases hl
  ·rename_i r0 e1;split at hl
   ·rename_i hg;have hy:=hc _ bY;have h3:l_ Z u ≠ .run:=by
     cases u <;> simp[l_]at e1 ⊢
    obtain⟨p,hp⟩:=aJ.1 hy.1;obtain⟨f0,o,f1,f2⟩:=H.fits _ p _ hp hg;have hn:=H.blk_lt hp hg rfl;have e:i4 Z r0=p.blk:=(by simp[i4,hp]);obtain⟨H1,T1⟩:=H.upd hp (by rw[rH hg];rfl) (x:=.obj .any) rfl (o:=.deferred O) ⟨f0,_,Am hn,trivial⟩;have hk:=H1.kill (b:=r0) (show r0 < h.Q from N.D hg);rw[ZY]at hk;simp only[aK,pK];refine⟨h3,.inl ⟨_,_,rfl,run_takeDeferred (by rw[e,f1,f2]),?_⟩⟩;rw[e];exact Hy E hD ds _ _ Z _ tmps r h1 hl hk.1 T (fun d hd=>hc d (aY _ hd)) hu
     fun hA hq p1 p2 p3 p4=>hR hA hq p1 ((T1.trans hk.2).trans p2) p3 p4
   ·cases hl
  ·rename_i f cap e1;split at hl
   ·cases hl
   ·rename_i F hF;have hy:=hc _ bY;simp only[uh,c_,vO]at hy;have hx:∀ v ∈ C.toList++cap.toList,c_ (dom Z) v:=by
     intro v hv;rcases ab.1 hv with hv | hv
     ·exact hy.2 v (by simpa using hv)
     ·exact hy.1.2 v (by simpa using hv)
    have e2:=Pf E hF (jk Z cap) (jk Z C) w;have s1:((C.toList++cap.toList).map (ren Z)).toArray=jk Z C++jk Z cap:=by
     simp[rM]
    have h3:l_ Z u ≠ .run:=by
     cases u <;> simp[l_]at e1 ⊢
    simp only[aK,pK,tW];refine⟨h3,.inr ⟨by simp[Fence.wide],_,_,f,_,rfl,e2,fun _ _=>trivial,?_⟩⟩;rw[<- s1];split at hl
    ·rename_i v u1 h2 hd;refine(hD _ _ _ _ _ _ _ hd Z w H hx hu).mono ?_;rintro e um w' ⟨Z',rfl,rfl,q1,q2,q3,q4,q5⟩;simp only[qo];have ls:∀ b,dom Z b->Z' b=Z b:=fun b hb=>q3 b (lJ H hb);have hr:ds.map (pK Z)=ds.map (pK Z'):=bV fun d hd=>(Eu ls (hc d (aY _ hd))).symm;rw[hr,<- Jqf];exact Hy E hD ds _ _ Z' w' tmps r h1 hl q5 (T.ext H q3) (fun d hd=>El (fun b hb=>by simpa[dom,ls b hb]using hb) (hc d (aY _ hd))) (Jwu q2)
      fun hA hq p1 p2 p3 p4=>hR hA hq (q3.trans p1 q4.Q) (q4.trans p2) p3 p4
    ·rename_i ch u1 h2 hd;refine(hD _ _ _ _ _ _ _ hd Z w H hx hu).mono ?_;rintro e um w' ⟨Z',rfl,rfl,q1,q2,q3,q4,q5⟩;simp only[qo];have ls:∀ b,dom Z b->Z' b=Z b:=fun b hb=>q3 b (lJ H hb);have hr:ds.map (pK Z)=ds.map (pK Z'):=bV fun d hd=>(Eu ls (hc d (aY _ hd))).symm;rw[hr,<- Jpe];exact Hy E hD ds _ _ Z' w' tmps r h1 hl q5 (T.ext H q3) (fun d hd=>El (fun b hb=>by simpa[dom,ls b hb]using hb) (hc d (aY _ hd))) (Jwk q2 q1)
      fun hA hq p1 p2 p3 p4=>hR hA hq (q3.trans p1 q4.Q) (q4.trans p2) p3 p4
    ·cases hl
  ·cases hl
def Ic{E:d_ P}{D:pL}(C:HC D){fn:Func}{t:Tm}:∀ (ds:List Deferred) (u:FrameMode) (h:N) (r:ip) (h1:N),
  Qv E D fn t ds u h=U (r,h1)->dk h h1
 | [],u,h,r,h1,hl=>by
  cases u with
  | run=>simp[Qv]at hl
  | returning=>simp only[Qv]at hl;split at hl <;> cases hl;exact dk.refl _
  | panicking ch=>simp only[Qv,av,bZ]at hl;rw[<- hl.2];exact dk.refl _
 | d::ds,u,h,r,h1,hl=>by
  simp only[Qv]at hl;split at hl
  ·cases hl
  ·split at hl
   next T=>exact(dk.set _ _ _ (N.D T)).trans (Ic C ds _ _ _ _ hl)
   ·cases hl
  ·split at hl
   ·cases hl
   ·split at hl
    next hd=>exact(C _ _ _ _ _ _ _ hd).trans (Ic C ds _ _ _ _ hl)
    next hd=>exact(C _ _ _ _ _ _ _ hd).trans (Ic C ds _ _ _ _ hl)
    ·cases hl
  ·cases hl
def J6f(E:d_ P){C:b_}(hC:gr P E.G C)(hL:gp C)(hm:P.follows .mixedOrders=Y){D:pL}(hD:Cd P E.G D){k:Nat}  {f:FuncId}{args:List V}{h:N}{r:ip}{h':N}(hb:Dk E C D k f args h=U (r,h')) :
  fx P E.G f args h (fun r1 h1=>r1=r/\h1=h'):=by
 intro Z w H ha;unfold Dk at hb;split at hb
 ·cases hb
 ·rename_i fn h3;obtain⟨g1,g2,g3⟩:=E.fnok _ _ h3;split at hb
  ·rename_i c hc hA;have hk:L args<=fn.ntmps:=by simpa using hA
   have S_:iu E.G Z ⟨Xs fn args,[],h⟩ {tmps:=(args.map (ren Z)).toArray++Array.replicate (fn.ntmps-(args.map (ren Z)).toArray.size) undef,defers:=[]} w :=
    ⟨H,Pk hk ha,rfl,fun d hd=>by cases hd⟩
   have h2:∀ e s,jF E C O k c ⟨Xs fn args,[],h⟩=U (e,s)->(∀ a' w' T,iC h.Q Z T->f_ Z h w T s.h w'->iu E.G T s a' w'->qw (dom T) e ->
     bodyPostM Fence.wide 0 P fn (fun e w' => ∃ T r1 h1,(r1=r/\h1=h')/\e=qo T r1/\tw (dom T) r1/\iC h.Q Z T/\f_ Z h w T h1 w'/\bN E.G T h1 w') (pX T e) a' w') ->
     CallsIn Fence.wide 0 P f (args.map (ren Z)).toArray w (fun e w' => ∃ T r1 h1,(r1=r/\h1=h')/\e=qo T r1/\tw (dom T) r1/\iC h.Q Z T/\f_ Z h w T h1 w'/\bN E.G T h1 w'):=by
    intro e s hx hp;refine callsIn_of_wp_marks g1 hc trivial ?_;refine wpIn_mono (vP E hC hL hm c _ _ _ hx Z _ w S_ (fun l hl=>by cases hl)) ?_;rintro e' a' w' ⟨T,e1,s1,⟨rfl,rfl⟩,rfl,q1,q2,q3,q4⟩;exact hp a' w' T q2 q3 q4 q1
   have lv:∀ (s:St) (u:FrameMode),Qv E D fn s.t s.ds u s.h=U (r,h')->∀ a' w' T,iC h.Q Z T->f_ Z h w T s.h w'->iu E.G T s a' w'->nN (dom T) u ->
     LeavesInM Fence.wide 0 P fn a'.tmps (fun e w' => ∃ T r1 h1,(r1=r/\h1=h')/\e=qo T r1/\tw (dom T) r1/\iC h.Q Z T/\f_ Z h w T h1 w'/\bN E.G T h1 w') a'.defers (l_ T u) w':=by
    intro s u hl a' w' T q2 q3 q4 hu;rw[q4.ds];exact Hy E hD s.ds u s.h T w' a'.tmps r h' hl q4.h q4.t q4.okd hu fun hr ls p1 p2 p3 p4=>⟨hr,r,h',⟨rfl,rfl⟩,rfl,p4,q2.trans p1 q3.Q,q3.trans p2,p3⟩
   split at hb
   next s hx=>refine h2 _ s hx fun a' w' T q2 q3 q4 q1 => ?_;exact lv s .returning hb a' w' T q2 q3 q4 trivial
   next s hx=>refine h2 _ s hx fun a' w' T q2 q3 q4 q1 => ?_;exact lv s .returning hb a' w' T q2 q3 q4 trivial
   next ch s hx=>refine h2 _ s hx fun a' w' T q2 q3 q4 q1 => ?_;exact lv s (.panicking ch) hb a' w' T q2 q3 q4 q1
   ·cases hb
  ·cases hb
def J31{E:d_ P}{C:b_}(hL:gp C){D:pL}(hD:HC D){k:Nat}  {f:FuncId}{args:List V}{h:N}{r:ip}{h':N}(T:Dk E C D k f args h=U (r,h')):dk h h':=by
 unfold Dk at T;split at T
 ·cases T
 ·split at T
  ·split at T <;> first
    | (rename_i hx;exact(sT hL _ _ _ _ hx).trans (Ic hD _ _ _ _ _ T))
    | cases T
  ·cases T
end
def Dw(o:Oper):Bool:=match o.op with
 | .call c=>(match c.callee with | .builtin .recover=>Y | _=>J) && c.args.isEmpty
 | _=>J
def xK(u:FrameMode):V × FrameMode:=match u with
 | .panicking ({v,recovered:=false,goexit:=false}::C)=>(v,.panicking ({v,recovered:=true}::C))
 | u=>(.nilIface,u)
def tQ{P:Program}(E:d_ P)(ops:List Oper):List Oper->FrameMode->St->Option (Exit × FrameMode × St)
 | [],u,s=>U (.normal,u,s)
 | o::r,u,s =>
  match Qg ops s.t o,jY s o.dst with
  | some Y,Y=>match Dw o with
   | true=>tQ E ops r (xK u).2 (s.put o.dst (xK u).1 s.h)
   | false=>match J4 o,iN E s.t s.h o with
    | true,U (.val v h)=>tQ E ops r u (s.put o.dst v h)
    | true,U (.skip h)=>tQ E ops r u (s.put o.dst Qq h)
    | true,U (.panic v h)=>U (.panic [{v,recovered:=false}],u,{s with h:=h})
    | _,_=>O
  | some J,Y=>tQ E ops r u (s.put o.dst Qq s.h)
  | _,_=>O
def DH:List Oper->Bool
 | []=>J
 | o::r=>Dw o || DH r
def nS{P:Program}(E:d_ P)(C:b_)(k:Nat):Code->FrameMode->St->Option (Exit × FrameMode × St)
 | .seq x y,u,s=>match nS E C k x u s with
  | some (.normal,u',s')=>nS E C k y u' s'
  | r=>r
 | .cond c x y,u,s=>match g_ E.G s.t c with
  | some (.bool Y)=>nS E C k x u s
  | some (.bool J)=>nS E C k y u s
  | _=>O
 | .region id T J,u,s=>match DH T.toList with
  | true=>tQ E T.toList T.toList u s
  | false=>match jF E C O k (.region id T J) s with
   | some (e,s')=>U (e,u,s')
   | none=>O
 | c,u,s=>match jF E C O k c s with
  | some (e,s')=>U (e,u,s')
  | none=>O
def vM{P:Program}(E:d_ P)(C:b_)(k:Nat):pL:=fun f args u h =>
 match E.fn.A f with
 | none=>O
 | some fn=>match fn.body,Nat.ble (L args) fn.ntmps with
  | some c,Y=>match nS E C k c u ⟨Xs fn args,[],h⟩with
   | some (.normal,u',⟨t,[],T⟩) | some (.ret,u',⟨t,[],T⟩)=>match Zk E fn t T with
    | some v=>U (.ret v,u',T)
    | none=>O
   | some (.panic ch,u',⟨_,[],T⟩)=>U (.panic ch,u',T)
   | _=>O
  | _,_=>O
section
variable{P:Program}{G:Bs}{Z:Ren}{h:N}{w:World}{s:St}{a:Act}
def xR(P:Program)(G:Bs)(n:Nat)(c:Code)(u:FrameMode)(s:St)(Q:Exit->FrameMode->St->Prop):Prop :=
 ∀ Z a w c₀ cs,iu G Z s a w->nN (dom Z) u->c₀.mode=l_ Z u->c.wpSIn Fence.wide 0 P (fun e' a' T w' => ∃ C e u' s',Q e u' s'/\e'=pX C e/\qw (dom C) e/\nN (dom C) u'/\T = {c₀ with mode:=l_ C u' }::cs/\iC n Z C/\f_ Z s.h w C s'.h w'/\iu G C s' a' w') a (c₀::cs) w
def J45{n:Nat}{c:Code}{u:FrameMode}{Q:Exit->St->Prop}(hn:n=s.h.Q)(h:CW P G O n c s Q):xR P G n c u s (fun e u' T=>Q e T/\u'=u):=by
 subst hn;intro Z a w hx cs S_ hu hm;refine wpSIn_of_wpIn rfl (wpIn_mono (h Z a w S_ (fun l hl=>by cases hl)) ?_);rintro e' a' w' ⟨Z',e,T,q,rfl,q1,q2,q3,q4⟩;have hd:∀ b,dom Z b->Z' b=Z b:=fun b C=>q2 b (lJ S_.h C);refine⟨Z',e,u,T,⟨q,rfl⟩,rfl,q1,Jvz (fun b C=>by simpa[dom,hd b C]using C) hu,?_,q2,q3,q4⟩;rw[Z5k hd hu,<- hm]
def xR.mono{n m:Nat}{c:Code}{u:FrameMode}{Q Q':Exit->FrameMode->St->Prop}(hc:xR P G n c u s Q)(T:m<=n)(hq:∀ e u' s',Q e u' s'->Q' e u' s'):xR P G m c u s Q':=by
 intro Z a w hx cs S_ hu hm b k h1 h2 h3 h4;obtain⟨e,a',C,w',l,⟨Z',e1,u1,s1,q,q1,q2,q3,q4,q5,q6⟩,arr⟩:=hc Z a w hx cs S_ hu hm b k h1 h2 h3 h4;exact⟨e,a',C,w',l,⟨Z',e1,u1,s1,hq _ _ _ q,q1,q2,q3,q4,q5.mono T,q6⟩,arr⟩
def P9{F:Fence}{n:Nat}{c:Code}{Q T:Exit->Act->List Frame->World->Prop}{cs:List Frame}(hc:c.wpSIn F n P Q a cs w)(hq:∀ e a cs w,Q e a cs w->T e a cs w):c.wpSIn F n P T a cs w:=by
 intro b k h1 h2 h3 h4;obtain⟨e,a',C,w',l,q,arr⟩:=hc b k h1 h2 h3 h4;exact⟨e,a',C,w',l,hq _ _ _ _ q,arr⟩
def Vbq{x y:Code}{u:FrameMode}{Q:Exit->FrameMode->St->Prop}(h:xR P G s.h.Q x u s (fun e u' s'=>s.h.Q<=s'.h.Q/\(e=.normal->xR P G s'.h.Q y u' s' Q)/\(e ≠ .normal->Q e u' s'))) :
  xR P G s.h.Q (.seq x y) u s Q:=by
 intro Z a w c₀ cs S_ hu hm;refine wpSIn_seq (P9 (h Z a w c₀ cs S_ hu hm) ?_);rintro e' a' s1 w' ⟨Z',e,u',s',⟨hn,ls,hy⟩,rfl,hA,hb,rfl,h2,T,S'⟩;by_cases hr:e=.normal
 ·subst hr;show y.wpSIn _ _ _ _ _ _ _;refine P9 (ls rfl Z' a' w' _ cs S' hb rfl) ?_;rintro hB e1 hp es ⟨h3,e2,hg,hq,g1,g2,g3,g4,g5,g6,g7,g8⟩;exact⟨h3,e2,hg,hq,g1,g2,g3,g4,g5,h2.trans g6 hn,T.trans g7,g8⟩
 ·have : ∃ C hk hc hx,Q hk hc hx/\pX Z' e=pX C hk/\qw (dom C) hk/\nN (dom C) hc/\{c₀ with mode:=l_ Z' u' }::cs = {c₀ with mode:=l_ C hc}::cs/\iC s.h.Q Z C/\f_ Z s.h w C hx.h w'/\iu G C hx a' w' :=
   ⟨Z',e,u',s',hy hr,rfl,hA,hb,rfl,h2,T,S'⟩
  cases e <;> first
   | exact absurd rfl hr
   | exact this
def Ju0{c:Operand}{x y:Code}{u:FrameMode}{Q:Exit->FrameMode->St->Prop}{b:Bool}(hc:g_ G s.t c=U (.bool b))(h:xR P G s.h.Q (if b then x else y) u s Q):xR P G s.h.Q (.cond c x y) u s Q:=by
 intro Z a w T cs C hu hm;exact wpSIn_cond (by rw[(uX C.h C.t hc).2,np]) (h Z a w T cs C hu hm)
def Vcu{u:FrameMode}(T:nN (dom Z) u){c₀:Frame}(cs:List Frame)(hm:c₀.mode=l_ Z u) :
  c_ (dom Z) (xK u).1/\nN (dom Z) (xK u).2 /\
  (recoverD (c₀::cs)=U (ren Z (xK u).1,{c₀ with mode:=l_ Z (xK u).2}::cs)∨(recoverD (c₀::cs)=O/\(xK u).1=.nilIface/\(xK u).2=u)):=by
 unfold xK;split
 ·rename_i v C;simp only[nN]at T;have hv:=T {v:=v,recovered:=false} bY;refine⟨hv,fun p hp => ?_,.inl ?_⟩
  ·rcases ao.1 hp with rfl | h
   ·exact hv
   ·exact T p (aY _ h)
  ·simp[recoverD,hm,l_,uf]
 ·rename_i hx;refine⟨by simp[c_],T,.inr ⟨?_,rfl,rfl⟩⟩;simp only[recoverD,hm];cases u with
  | panicking ch =>
   cases ch with
   | nil=>simp[l_]
   | cons p C =>
    obtain⟨v,r,g⟩:=p;cases r <;> cases g <;> simp[l_,uf];exact hx _ _ rfl
  | _=>simp[l_]
def Jzk{o:Oper}(C:Dw o=Y)(a:Act)(w:World):(execOp a.eval o).run P w=.ok .recover w:=by
 unfold Dw at C;split at C
 ·rename_i c T;simp only[au]at C;obtain⟨h1,h2⟩:=C;split at h1
  ·rename_i hb;have : c.args = #[]:=by simpa using h2
   simp[execOp,T,resolve,hb,invoke,builtin,this]
  ·cases h1
 ·cases C
def DI(E:d_ P){ops:Array Oper}{Q:Exit->Act->List Frame->World->Prop}:∀ (l:List Oper) (i:Nat) (u:FrameMode) (s:St) (Z:Ren) (a:Act) (w:World) (c₀:Frame) (cs:List Frame) (e:Exit) (u1:FrameMode) (s1:St),
  ops.toList.drop i=l->tQ E ops.toList l u s=U (e,u1,s1)->iu E.G Z s a w->nN (dom Z) u->c₀.mode=l_ Z u ->
  (∀ Z' a' w',iC s.h.Q Z Z'->f_ Z s.h w Z' s1.h w'->iu E.G Z' s1 a' w'->qw (dom Z') e->nN (dom Z') u1->Q (pX Z' e) a' ({c₀ with mode:=l_ Z' u1}::cs) w') ->
  wpOpsSIn Fence.wide 0 P ops Q (List.range' i (L l)) a (c₀::cs) w
 | [],i,u,s,Z,a,w,c₀,cs,e,u1,s1,_,h,S_,hu,hm,hQ=>by
  simp only[tQ,av,bZ]at h;obtain⟨rfl,rfl,rfl⟩:=h;have:=hQ Z a w (iC.refl _ _) (f_.refl _ _ _) S_ trivial hu;rw[<- hm]at this;exact this
 | o::r,i,u,s,Z,a,w,c₀,cs,e,u1,s1,hx,h,S_,hu,hm,hQ=>by
  have ho:ops[i]? = U o:=by
   have:=congrArg (fun l=>l[0]?) hx;simpa[List.getElem?_drop]using this
  have C:ops.toList.drop (i+1)=r:=by
   have:=congrArg List.tail hx;simpa[fE]using this
  simp only[bm,ef,wpOpsSIn,ho];refine⟨fun _ _=>trivial,?_⟩;simp only[tQ]at h;split at h
  ·rename_i hw T;rw[if_pos (wb (G:=E.G) S_.t hw)];split at h
   ·rename_i hc;rw[Jzk hc a w];obtain⟨r1,r2,r3⟩:=Vcu (Z:=Z) hu cs hm;have S':=S_.put (d:=o.dst) T r1;have hh:(s.put o.dst (xK u).1 s.h).h=s.h:=qa _ _ _ _;rcases r3 with r3 | ⟨r3,r4,r5⟩
    ·simp only[r3];exact DI E (Q:=Q) r (i+1) _ _ Z _ w _ cs e u1 s1 C h S' r2 rfl (by rw[hh];exact hQ)
    ·simp only[r3];have:=DI E (Q:=Q) r (i+1) _ _ Z _ w c₀ cs e u1 s1 C h S' r2 (by rw[r5];exact hm) (by rw[hh];exact hQ);rw[r4]at this;simpa[ren]using this
   ·rename_i hc;split at h
    next v h2 hA hr=>obtain⟨Z',w',q1,q2,q3,q4,q5⟩:=qq E S_.h S_.t hr;rw[q1];have S1:=S_.step q3 q4;have S2:=S1.put (d:=o.dst) (v:=v) (by cases hd:o.dst <;> simp only[hd,jY]at T ⊢;exact T) q2;have hd:∀ b,dom Z b->Z' b=Z b:=fun b hb=>q3 b (lJ S_.h hb);have hh:(s.put o.dst v h2).h=h2:=qa _ _ _ _;refine DI E (Q:=Q) r (i+1) _ _ Z' _ w' c₀ cs e u1 s1 C h (by rw[gy];exact S2) (Jvz (fun b hb=>by simpa[dom,hd b hb]using hb) hu) (by rw[hm,Z5k hd hu]) ?_;rw[hh];exact fun hk h3 hp g1 g2 g3 g4 g5=>hQ hk h3 hp (q3.trans g1 q5.Q) (q5.trans g2) g3 g4 g5
    next h2 hA hr=>obtain⟨w',q1,q2,q3⟩:=qq E S_.h S_.t hr;rw[q1];have S1:=S_.step (iC.refl _ _) q2;have S2:=S1.putU (d:=o.dst) (by cases hd:o.dst <;> simp only[hd,jY]at T ⊢;exact T);have hh:(s.put o.dst Qq h2).h=h2:=qa _ _ _ _;refine DI E (Q:=Q) r (i+1) _ _ Z _ w' c₀ cs e u1 s1 C h (by rw[gy];exact S2) hu hm ?_;rw[hh];exact fun hk h3 hp g1 g2 g3 g4 g5=>hQ hk h3 hp (iC.trans (iC.refl _ _) g1 q3.Q) (q3.trans g2) g3 g4 g5
    next v h2 hA hr=>obtain⟨rfl,q1,q2⟩:=qq E S_.h S_.t hr;rw[q1];cases h;have:=hQ Z a w (iC.refl _ _) (f_.refl _ _ _) S_ (by simpa[qw]using q2) hu;rw[<- hm]at this;exact this
    ·cases h
  next hw T=>rw[if_neg (by rw[wb (G:=E.G) S_.t hw];simp)];have hh:(s.put o.dst Qq s.h).h=s.h:=qa _ _ _ _;exact DI E (Q:=Q) r (i+1) _ _ Z _ w c₀ cs e u1 s1 C h (S_.putU T) hu hm (by rw[hh];exact hQ)
  ·cases h
def HK{E:d_ P}{ops:List Oper}:∀ (l:List Oper) (u:FrameMode) (s:St) (e:Exit) (u1:FrameMode) (T:St),tQ E ops l u s=U (e,u1,T)->dk s.h T.h
 | [],u,s,e,u1,T,h=>by simp only[tQ,av,bZ]at h;rw[<- h.2.2];exact dk.refl _
 | o::r,u,s,e,u1,T,h=>by
  simp only[tQ]at h;split at h
  ·split at h
   ·have:=HK r _ _ _ _ _ h;rwa [qa]at this
   ·split at h
    next C=>have:=HK r _ _ _ _ _ h;rw[qa]at this;exact dk.trans (sj C) this
    next C=>have:=HK r _ _ _ _ _ h;rw[qa]at this;exact dk.trans (sj C) this
    next C=>cases h;exact sj C
    ·cases h
  ·have:=HK r _ _ _ _ _ h;rwa [qa]at this
  ·cases h
def HD{E:d_ P}{C:b_}(hL:gp C){k:Nat}:∀ (c:Code) (u:FrameMode) (s:St) (e:Exit) (u1:FrameMode) (s1:St),nS E C k c u s=U (e,u1,s1)->dk s.h s1.h:=by
 have base:∀ (c:Code) (u:FrameMode) (s:St) (e:Exit) (u1:FrameMode) (s1:St),(match jF E C O k c s with | some (e,s')=>U (e,u,s') | none=>O)=U (e,u1,s1)->dk s.h s1.h:=by
  intro c u s e u1 s1 h;split at h
  next hx=>cases h;exact sT hL _ _ _ _ hx
  ·cases h
 intro c;induction c with
 | seq x y T hc =>
  intro u s e u1 s1 h;simp only[nS]at h;split at h
  next hx=>exact(T _ _ _ _ _ hx).trans (hc _ _ _ _ _ h)
  ·exact T _ _ _ _ _ h
 | cond c x y T hc =>
  intro u s e u1 s1 h;simp only[nS]at h;split at h
  ·exact T _ _ _ _ _ h
  ·exact hc _ _ _ _ _ h
  ·cases h
 | region id h2 d =>
  intro u s e u1 s1 h;cases d with
  | true=>simp only[nS]at h;exact base _ _ _ _ _ _ h
  | false =>
   simp only[nS]at h;split at h
   ·exact HK _ _ _ _ _ _ h
   ·exact base _ _ _ _ _ _ h
 | skip=>exact base Code.skip
 | block id c _=>exact base (Code.block id c)
 | loop c _=>exact base (Code.loop c)
 | rangeFunc f ps x y _ _=>exact base (Code.rangeFunc f ps x y)
 | exit id=>exact base (Code.exit id)
 | scope c _=>exact base (Code.scope c)
 | label l=>exact base (Code.label l)
 | goto l=>exact base (Code.goto l)
 | ret=>exact base Code.ret
 | refuse y=>exact base (Code.refuse y)
def J70(E:d_ P){C:b_}(hC:gr P E.G C)(hL:gp C)(hm:P.follows .mixedOrders=Y){k:Nat}:∀ (c:Code) (u:FrameMode) (s:St) (e:Exit) (u1:FrameMode) (T:St),nS E C k c u s=U (e,u1,T) ->
  xR P E.G s.h.Q c u s (fun e' u' s'=>e'=e/\u'=u1/\s'=T):=by
 have base:∀ (c:Code) (u:FrameMode) (s:St) (e:Exit) (u1:FrameMode) (T:St),(match jF E C O k c s with | some (e,s')=>U (e,u,s') | none=>O)=U (e,u1,T)->xR P E.G s.h.Q c u s (fun e' u' s'=>e'=e/\u'=u1/\s'=T):=by
  intro c u s e u1 T h;split at h
  next hx=>cases h;refine(J45 rfl (vP E hC hL hm c _ _ _ hx)).mono (ac _) ?_;rintro e' u' s' ⟨⟨rfl,rfl⟩,rfl⟩;exact⟨rfl,rfl,rfl⟩
  ·cases h
 intro c;induction c with
 | seq x y hk hp =>
  intro u s e u1 T h;simp only[nS]at h;refine Vbq ?_;split at h
  next hx=>refine(hk _ _ _ _ _ hx).mono (ac _) ?_;rintro e' u' s' ⟨rfl,rfl,rfl⟩;exact⟨(HD hL x _ _ _ _ _ hx).Q,fun _=>hp _ _ _ _ _ h,fun hb=>absurd rfl hb⟩
  next hb=>refine(hk _ _ _ _ _ h).mono (ac _) ?_;rintro e' u' s' ⟨rfl,rfl,rfl⟩;refine⟨(HD hL x _ _ _ _ _ h).Q,fun he => ?_,fun _=>⟨rfl,rfl,rfl⟩⟩;subst he;exact absurd h (hb _ _)
 | cond c x y hk hp =>
  intro u s e u1 T h;simp only[nS]at h;split at h
  next hc=>exact Ju0 hc (hk _ _ _ _ _ h)
  next hc=>exact Ju0 hc (hp _ _ _ _ _ h)
  ·cases h
 | region id hA d =>
  intro u s e u1 T h;cases d with
  | true=>simp only[nS]at h;exact base _ _ _ _ _ _ h
  | false =>
   simp only[nS]at h;split at h
   ·intro Z a w c₀ cs S_ hu hy;have:=DI E (ops:=hA) hA.toList 0 u s Z a w c₀ cs e u1 T rfl h S_ hu hy
     (Q:=fun e' a' ls w' => ∃ Z' hr u' s',(hr=e/\u'=u1/\s'=T)/\e'=pX Z' hr/\qw (dom Z') hr/\nN (dom Z') u'/\ls = {c₀ with mode:=l_ Z' u' }::cs/\iC s.h.Q Z Z'/\f_ Z s.h w Z' s'.h w'/\iu E.G Z' s' a' w')
     (fun Z' a' w' h1 h2 h3 h4 h5=>⟨Z',e,u1,T,⟨rfl,rfl,rfl⟩,rfl,h4,h5,rfl,h1,h2,h3⟩)
    rw[eY,<- dH]at this;exact wpSIn_region this
   ·exact base _ _ _ _ _ _ h
 | _=>intro u s e u1 T h;simp only[nS]at h;exact base _ _ _ _ _ _ h
def Jh7(E:d_ P){C:b_}(hC:gr P E.G C)(hL:gp C)(hm:P.follows .mixedOrders=Y){k:Nat}:Cd P E.G (vM E C k):=by
 intro f args u h r u1 h1 hb Z w H ha hu;unfold vM at hb;split at hb
 ·cases hb
 ·rename_i fn h3;obtain⟨g1,g2,g3⟩:=E.fnok _ _ h3;split at hb
  ·rename_i c hc hA;have hr:L args<=fn.ntmps:=by simpa using hA
   have S_:iu E.G Z ⟨Xs fn args,[],h⟩ {tmps:=(args.map (ren Z)).toArray++Array.replicate (fn.ntmps-(args.map (ren Z)).toArray.size) undef,defers:=[]} w :=
    ⟨H,Pk hr ha,rfl,fun d hd=>by cases hd⟩
   have hk:∀ e u' s,nS E C k c u ⟨Xs fn args,[],h⟩=U (e,u',s)->(∀ a' w' T c₀ cs,iC h.Q Z T->f_ Z h w T s.h w'->iu E.G T s a' w'->qw (dom T) e->nN (dom T) u' ->
     bodyPostS P fn c₀ cs (fun e um w' => ∃ T,e=qo T r/\um=l_ T u1/\tw (dom T) r/\nN (dom T) u1/\iC h.Q Z T/\f_ Z h w T h1 w'/\bN E.G T h1 w') (pX T e) a' ({c₀ with mode:=l_ T u' }::cs) w') ->
     CallsDIn Fence.wide 0 P f (args.map (ren Z)).toArray (l_ Z u) w (fun e um w' => ∃ T,e=qo T r/\um=l_ T u1/\tw (dom T) r/\nN (dom T) u1/\iC h.Q Z T/\f_ Z h w T h1 w'/\bN E.G T h1 w'):=by
    intro e u' s hx hp;refine callsDIn_of_wpSIn g1 hc trivial fun c₀ cs h2 => ?_;refine P9 (J70 E hC hL hm c _ _ _ _ _ hx Z _ w c₀ cs S_ hu h2) ?_;rintro e' a' ls w' ⟨T,e1,u2,s1,⟨rfl,rfl,rfl⟩,rfl,q1,q2,rfl,q3,q4,q5⟩;exact hp a' w' T c₀ cs q3 q4 q5 q1 q2
   split at hb
   ·rename_i u' t h' hx;split at hb
    next v hv=>cases hb;refine hk _ _ _ hx fun a' w' T c₀ cs q3 q4 q5 q1 q2 => ?_;obtain⟨i1,i2⟩:=ZN E q5.h q5.t hv;exact⟨q5.ds,_,rfl,_,i2,T,rfl,rfl,i1,q2,q3,q4,q5.h⟩
    ·cases hb
   ·rename_i u' t h' hx;split at hb
    next v hv=>cases hb;refine hk _ _ _ hx fun a' w' T c₀ cs q3 q4 q5 q1 q2 => ?_;obtain⟨i1,i2⟩:=ZN E q5.h q5.t hv;exact⟨q5.ds,_,rfl,_,i2,T,rfl,rfl,i1,q2,q3,q4,q5.h⟩
    ·cases hb
   next ch u' t h' hx=>cases hb;refine hk _ _ _ hx fun a' w' T c₀ cs q3 q4 q5 q1 q2 => ?_;exact⟨q5.ds,_,rfl,T,rfl,rfl,q1,q2,q3,q4,q5.h⟩
   ·cases hb
  ·cases hb
def Z4v{E:d_ P}{C:b_}(hL:gp C){k:Nat}:HC (vM E C k):=by
 intro f args u h r u1 h1 T;unfold vM at T;split at T
 ·cases T
 ·split at T
  ·split at T
   ·rename_i hx;split at T
    ·cases T;exact HD hL _ _ _ _ _ _ hx
    ·cases T
   ·rename_i hx;split at T
    ·cases T;exact HD hL _ _ _ _ _ _ hx
    ·cases T
   next hx=>cases T;exact HD hL _ _ _ _ _ _ hx
   ·cases T
  ·cases T
end
abbrev vN:=FuncId->List V->N->Option (ip × N)
def A8(P:Program)(G:Bs)(T:vN):Prop:=∀ f args h r C,T f args h=U (r,C)->fx P G f args h (fun r1 h1=>r1=r/\h1=C)
def zr(T:vN):Prop:=∀ f args h r C,T f args h=U (r,C)->dk h C
def x_{P:Program}(E:d_ P)(C:vN)(k:Nat):Nat->b_
 | 0=>⟨C,fun _ _ _=>O⟩
 | n+1=>⟨fun f args h=>match C f args h with
   | some r=>U r
   | none=>Dk E (x_ E C k n) (vM E (x_ E C k n) k) k f args h,fun l args h=>BO E (x_ E C k n) k l args h⟩
section
variable{P:Program}
def Pn(E:d_ P){X_:vN}(T:zr X_)(k:Nat):∀ n,gp (x_ E X_ k n)
 | 0=>⟨T,fun _ _ _ _ _ h=>by cases h⟩
 | n+1=>by
  have ih:=Pn E T k n;refine⟨fun f args h r h' C => ?_,fun l args h r h' C=>Jxg ih C⟩;simp only[x_]at C;split at C
  next hx=>cases C;exact T _ _ _ _ _ hx
  ·exact J31 ih (Z4v ih) C
def QA(E:d_ P){X_:vN}(hX:A8 P E.G X_)(hL:zr X_)(T:P.follows .mixedOrders=Y)(k:Nat):∀ n,gr P E.G (x_ E X_ k n)
 | 0=>⟨hX,fun _ _ _ _ _ h=>by cases h⟩
 | n+1=>by
  have ih:=QA E hX hL T k n;have il:=Pn E hL k n;refine⟨fun f args h r h' C => ?_,fun l args h r h' C=>J06 E ih il T C⟩;simp only[x_]at C;split at C
  next hx=>cases C;exact hX _ _ _ _ _ hx
  ·exact J6f E ih il T (Jh7 E ih il T) C
def OE:vN:=fun _ _ _=>O
def Jvk(G:Bs):A8 P G OE:=fun _ _ _ _ _ h=>by cases h
def Pu:zr OE:=fun _ _ _ _ _ h=>by cases h
end
end Go.Ab
