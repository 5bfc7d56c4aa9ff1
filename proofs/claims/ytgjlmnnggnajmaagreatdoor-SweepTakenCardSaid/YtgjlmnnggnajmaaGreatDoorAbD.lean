import Derived.Test.YtgjlmnnggnajmaaGreatDoorAbC
import Derived.RangeFuncIn
import Derived.RecoverIn
set_option linter.all false
noncomputable section
namespace Go.Ab
section
variable{P:Program}{G:Bs}{α:Ren}{h:Heap}{w:World}
theorem Yft(E:Env2 P){f:FuncId}{F:Func}(hF:E.fn.get f=some F)(cap args:Array Value)(w:World):(invoke (.fn (.func f) cap) args).run P w=.ok (.enter f (args++cap)) w:=by
 obtain⟨g1,g2,g3⟩:=E.fnok _ _ hF
 have hbody:F.body.isNone=false:=by cases hb:F.body <;> simp[hb]at g3 ⊢
 simp only[Sem.run_bind,Sem.run_pure,Result.andThen_ok,invoke,callFunc,run_program,g1,g2,Bool.false_eq_true,if_false,hbody]
theorem Xkm(H:HRel G α h w){l:Nat}(hl:dom α l){st:LoopState}{pend:Option Code}{t:Tm}{ps:Array Tmp}{as bd:Code}{d:Nat}(hg:h.get l=some (.obj (.loop st pend t ps as bd d))) :
  ∃ r:Loop,w.heap[Uu α l]? = some (.loop r)/\r.state=st/\r.pending=pend/\r.params=ps/\r.assign=as/\r.body=bd/\TRel α t r.tmps/\dom α d/\r.defers=Uu α d /\
   ∀ st' pend',HRel G α (h.set l (some (.obj (.loop st' pend' t ps as bd d)))) (w.putObj (Uu α l) (.loop {r with state:=st',pending:=pend' })) /\
    Turn α h w α (h.set l (some (.obj (.loop st' pend' t ps as bd d)))) (w.putObj (Uu α l) (.loop {r with state:=st',pending:=pend' })):=by
 obtain⟨p,hp⟩:=Option.isSome_iff_exists.1 hl
 obtain⟨f0,o,f1,hd,fn,tmps,rfl,ht⟩:=H.fits l p _ hp hg
 have e:Uu α l=p.blk:=by simp[Uu,hp]
 rw[e]
 refine⟨_,f1,rfl,rfl,rfl,rfl,rfl,ht,hd,rfl,fun st' pend' => ?_⟩
 have hlt:=H.blk_lt hp hg rfl
 exact H.upd hp (by rw[Qs7 hg];rfl) (x:=.obj (.loop st' pend' t ps as bd d)) rfl ⟨f0,_,Qp1 hlt,hd,fn,tmps,rfl,ht⟩
def Yq4:Exit->Option (Option Code)
 | .normal=>some none
 | .ret=>some (some .ret)
 | .exit id=>some (some (.exit id))
 | _=>none
def Q8f(t:Tm)(ds:List Deferred)(l:Nat):Option (AEnd × Heap)->Option (Exit × St)
 | some (.ret _,h)=>match h.get l with
  | some (.obj (.loop .busy _ _ _ _ _ _))=>none
  | some (.obj (.loop _ none _ _ _ _ _))=>some (.normal,⟨t,ds,h.set l none⟩)
  | some (.obj (.loop _ (some .ret) _ _ _ _ _))=>some (.ret,⟨t,ds,h.set l none⟩)
  | some (.obj (.loop _ (some (.exit id)) _ _ _ _ _))=>some (.exit id,⟨t,ds,h.set l none⟩)
  | _=>none
 | some (.panic ch,h)=>some (.panic ch,⟨t,ds,h⟩)
 | none=>none
def Zfz{P:Program}(E:Env2 P)(C:CallF)(rd:Option Nat)(g:Operand)(ps:Array Tmp)(as bd:Code)(s:St):Option (Exit × St) :=
 match aev E.G s.t g with
 | some (.func (.func f) first captured)=>match E.fn.get f with
  | none=>none
  | some _=>match rd with
   | none=>Q8f s.t ({target:=.collected s.h.next,args:=#[]}::s.ds) (s.h.next+1)
     (C.fn f (first.toList ++ [.func (.yield (s.h.next+1)) #[] #[]]++captured.toList) ((s.h.push (.obj .defs)).push (.obj (.loop .ready none s.t ps as bd s.h.next))))
   | some l0=>match s.h.get l0 with
    | some (.obj (.loop _ _ _ _ _ _ d))=>Q8f s.t s.ds s.h.next
      (C.fn f (first.toList ++ [.func (.yield s.h.next) #[] #[]]++captured.toList) (s.h.push (.obj (.loop .ready none s.t ps as bd d))))
    | _=>none
 | _=>none
theorem Yg8{t:Tm}{ds:List Deferred}{l:Nat}{r:AEnd}{h:Heap}{e:Exit}{s1:St}(hh:Q8f t ds l (some (r,h))=some (e,s1)):LowOK h s1.h:=by
 cases r with
 | ret v =>
  unfold Q8f at hh
  split at hh
  ·rename_i hq;cases hq
   split at hh <;> first
    | cases hh;done
    | (cases hh;exact LowOK.set _ _ _ (Heap.get_lt (by assumption)))
  ·rename_i hq;cases hq
  ·cases hh
 | panic ch =>
  unfold Q8f at hh
  cases hh;exact LowOK.refl _
theorem Zki{E:Env2 P}{C:CallF}(hC:CallsLow C){rd:Option Nat}{g:Operand}{ps:Array Tmp}{as bd:Code}{s s1:St}{e:Exit}(hh:Zfz E C rd g ps as bd s=some (e,s1)):LowOK s.h s1.h:=by
 unfold Zfz at hh
 split at hh
 ·split at hh
  ·cases hh
  ·split at hh
   ·cases hc:C.fn _ _ _ with
    | none=>rw[hc]at hh;simp[Q8f]at hh
    | some x =>
     obtain⟨r,h2⟩:=x
     rw[hc]at hh
     exact(((LowOK.push _ _).trans (LowOK.push _ _)).trans (hC.fn _ _ _ _ _ hc)).trans (Yg8 hh)
   ·split at hh
    ·cases hc:C.fn _ _ _ with
     | none=>rw[hc]at hh;simp[Q8f]at hh
     | some x =>
      obtain⟨r,h2⟩:=x
      rw[hc]at hh
      exact((LowOK.push _ _).trans (hC.fn _ _ _ _ _ hc)).trans (Yg8 hh)
    ·cases hh
 ·cases hh
theorem Zbx{a:Act}{w3:World}{α3:Ren}{t:Tm}{ds:List Deferred}{l:Nat}{r:AEnd}{h3:Heap}{e:Exit}{s1:St}{F:Fence}{n:Nat}{Q:Exit->Act->World->Prop}
  (hh:Q8f t ds l (some (r,h3))=some (e,s1)) (hl:dom α3 l) (hr:Xwo (dom α3) r) (S:SRel G α3 ⟨t,ds,h3⟩ a w3)
  (hQ:∀ w',Turn α3 h3 w3 α3 s1.h w'->SRel G α3 s1 a w'->Qtv (dom α3) e->Q (Qku α3 e) a w') :
  rangePost F n P (Uu α3 l) Q a (Qsk α3 r) w3:=by
 cases r with
 | panic ch =>
  unfold Q8f at hh
  cases hh
  exact hQ w3 (Turn.refl _ _ _) S hr
 | ret v =>
  unfold Q8f at hh
  split at hh
  ·rename_i hq;cases hq
   have key:∀ {st pend t' ps as bd d},h3.get l=some (.obj (.loop st pend t' ps as bd d))->st ≠ .busy->∃ w4,(Instr.endLoop (Uu α3 l)).run P w3=.ok pend w4/\HRel G α3 (h3.set l none) w4/\Turn α3 h3 w3 α3 (h3.set l none) w4:=by
    intro st pend t' ps as bd d hg hst
    obtain⟨r,r1,r2,r3,_,_,_,_,_,_,r4⟩:=Xkm S.h hl hg
    obtain⟨H4,T4⟩:=r4 .exhausted pend
    have hlt:=Heap.get_lt hg
    have hk:=H4.kill (b:=l) hlt
    rw[Y7k]at hk
    subst r3
    exact⟨_,run_endLoop r1 (by rw[r2];exact hst),hk.1,T4.trans hk.2⟩
   have fin:∀ {w4:World},HRel G α3 (h3.set l none) w4->SRel G α3 ⟨t,ds,h3.set l none⟩ a w4:=fun H4=>S.step (Ext.refl _ _) H4
   split at hh
   ·cases hh
   ·rename_i hb hg
    cases hh
    obtain⟨w4,e1,e2,e3⟩:=key hg hb
    exact⟨none,w4,e1,hQ w4 e3 (fin e2) trivial⟩
   ·rename_i hb hg
    cases hh
    obtain⟨w4,e1,e2,e3⟩:=key hg hb
    exact⟨_,w4,e1,wpIn_ret (hQ w4 e3 (fin e2) trivial)⟩
   ·rename_i hb hg
    cases hh
    obtain⟨w4,e1,e2,e3⟩:=key hg hb
    exact⟨_,w4,e1,wpIn_exit (hQ w4 e3 (fin e2) trivial)⟩
   ·cases hh
  ·rename_i hq;cases hq
  ·cases hh
theorem Yps(w:World)(o:Obj):(w.alloc o).heap.size=w.heap.size+1:=Array.size_push _
theorem Ywe(H:HRel G α h w){x:AObj}{o:Obj}(hf:FitObj (Ren.add α h.next ⟨w.heap.size,0,0,0,none⟩) o x) :
  ∃ α',HRel G α' (h.push (.obj x)) (w.alloc o)/\Turn α h w α' (h.push (.obj x)) (w.alloc o)/\dom α' h.next/\Uu α' h.next=w.heap.size/\Ext h.next α α' :=
 have h1:=H.push (x:=.obj x) rfl (p:=⟨w.heap.size,0,0,0,none⟩) rfl (o:=o) (w':=w.alloc o) rfl ⟨rfl,o,World.alloc_heap_new _ _,hf⟩
 ⟨_,h1.1,h1.2,by show(Ren.add _ _ _ _).isSome=true;rw[Ren.add_same];rfl,by unfold Uu;rw[Ren.add_same],Ren.add_ext _ _ _⟩
theorem X1z(H:HRel G α h w){t:Tm}{tmps:Array Value}{ps:Array Tmp}{as bd:Code}{d:Nat}(ht:TRel α t tmps)(hd:dom α d)(fn:FuncId) :
  ∃ α',HRel G α' (h.push (.obj (.loop .ready none t ps as bd d))) (w.alloc (.loop {state:=.ready,pending:=none,fn,tmps,params:=ps,assign:=as,body:=bd,defers:=Uu α d})) /\
   Turn α h w α' (h.push (.obj (.loop .ready none t ps as bd d))) (w.alloc (.loop {state:=.ready,pending:=none,fn,tmps,params:=ps,assign:=as,body:=bd,defers:=Uu α d})) /\
   dom α' h.next/\Uu α' h.next=w.heap.size/\Ext h.next α α':=by
 have hc:∀ b,dom α b->Ren.add α h.next ⟨w.heap.size,0,0,0,none⟩ b=α b:=H.add_dom _
 exact Ywe H ⟨by simpa[dom,hc d hd]using hd,fn,tmps,by rw[Qbn (hc d hd)],ht.keep hc⟩
theorem Y5a{α2:Ren}{first captured:Array Value}{l k:Nat}(g1:(∀ v ∈ first,okV (dom α) v)/\∀ v ∈ captured,okV (dom α) v)(hc:∀ b,dom α b->α2 b=α b)(hl:dom α2 l)(hk:Uu α2 l=k) :
  first.map (ren α) ++ #[Value.func (.yield k) #[] #[]]++captured.map (ren α)=((first.toList ++ [Value.func (.yield l) #[] #[]]++captured.toList).map (ren α2)).toArray /\
  ∀ v ∈ first.toList ++ [Value.func (.yield l) #[] #[]]++captured.toList,okV (dom α2) v:=by
 have hd:∀ b,dom α b->dom α2 b:=fun b hb=>by simpa[dom,hc b hb]using hb
 constructor
 ·have e1:∀ A:Array Value,(∀ v ∈ A,okV (dom α) v)->A.map (ren α)=A.map (ren α2):=fun A hA=>by
   apply Array.map_congr_left
   intro v hv
   exact(ren_congr hc v (hA v hv)).symm
  rw[e1 _ g1.1,e1 _ g1.2,<- hk]
  apply Array.ext'
  simp[ren,X2e,Qnf]
 ·intro v hv
  simp only[List.mem_append,Array.mem_toList_iff,List.mem_singleton]at hv
  rcases hv with(hv | rfl) | hv
  ·exact okV_mono hd v (g1.1 v hv)
  ·simp only[okV,okA,okL]
   exact⟨hl,trivial,trivial⟩
  ·exact okV_mono hd v (g1.2 v hv)
theorem Zs7(E:Env2 P){C:CallF}(hC:CallsSound P E.G C)(hL:CallsLow C){rd:Option Nat}{g:Operand}{ps:Array Tmp}{as bd:Code}{s s1:St}{e:Exit}(hh:Zfz E C rd g ps as bd s=some (e,s1)) :
  CW P E.G rd s.h.next (.rangeFunc g ps as bd) s (fun e' s'=>e'=e/\s'=s1):=by
 intro α a w S hl
 unfold Zfz at hh
 split at hh
 ·rename_i f first captured hg
  obtain⟨g1,g2⟩:=Xef S.h S.t hg
  split at hh
  ·cases hh
  ·rename_i F hF
   obtain⟨q1,q2,q3⟩:=E.fnok _ _ hF
   have hbody:F.body.isNone=false:=by cases hb:F.body <;> simp[hb]at q3 ⊢
   have g3:a.eval g=.func (.func f) (first.map (ren α)) (captured.map (ren α)):=by rw[g2];simp[ren,X2e,Qnf]
   simp only[okV,Q00]at g1
   have hinv:∀ (args:Array Value) (w:World),(invoke (.fn (.func f) (captured.map (ren α))) args).run P w=.ok (.enter f (args++captured.map (ren α))) w:=fun args w=>Yft E hF _ _ w
   have go:∀ (α2:Ren) (w2:World) (h2:Heap) (l:Nat) (ds:List Deferred) (mark:List Deferred),Ext s.h.next α α2->s.h.next<=h2.next->HRel E.G α2 h2 w2->Turn α s.h w α2 h2 w2->dom α2 l ->
     (mark++a.defers=ds.map (Qpz α2))->(∀ d ∈ ds,Xzg (dom α2) d) ->
     Q8f s.t ds l (C.fn f (first.toList ++ [.func (.yield l) #[] #[]]++captured.toList) h2)=some (e,s1) ->
     CallsIn (Qnu rd α) 0 P f (first.map (ren α) ++ #[Value.func (.yield (Uu α2 l)) #[] #[]]++captured.map (ren α)) w2 (rangePost (Qnu rd α) 0 P (Uu α2 l)
      (fun e' a' w' => ∃ α' e0 s',(e0=e/\s'=s1)/\e'=Qku α' e0/\Qtv (dom α') e0/\Ext s.h.next α α'/\Turn α s.h w α' s'.h w'/\SRel E.G α' s' a' w') {a with defers:=mark++a.defers}):=by
    intro α2 w2 h2 l ds mark he hn H2 T2 hl2 hds hok haft
    have hcongr:∀ b,dom α b->α2 b=α b:=fun b hb=>he b (Qih S.h hb)
    obtain⟨a1,a2⟩:=Y5a g1 hcongr hl2 rfl
    rw[a1]
    cases hc:C.fn f (first.toList ++ [.func (.yield l) #[] #[]]++captured.toList) h2 with
    | none=>rw[hc]at haft;simp[Q8f]at haft
    | some x =>
     obtain⟨r,h3⟩:=x
     rw[hc]at haft
     refine Q66 ((hC.fn _ _ _ _ _ hc α2 w2 H2 a2).mono ?_)
     rintro e' w3 ⟨α3,r',h3',⟨rfl,rfl⟩,rfl,k1,k2,k3,k4⟩
     have hc3:∀ b,dom α2 b->α3 b=α2 b:=fun b hb=>k2 b (Qih H2 hb)
     have hl3:dom α3 l:=by simpa[dom,hc3 l hl2]using hl2
     have er:Uu α2 l=Uu α3 l:=(Qbn (hc3 l hl2)).symm
     have S3:SRel E.G α3 ⟨s.t,ds,h3'⟩ {a with defers:=mark++a.defers} w3:=by
      refine⟨k4,(S.t.keep hcongr).keep hc3,?_,fun d hd=>Q3b (fun b hb=>by simpa[dom,hc3 b hb]using hb) (hok d hd)⟩
      show mark++a.defers=_
      rw[hds]
      apply List.map_congr_left
      intro d hd
      exact(Qtt hc3 (hok d hd)).symm
     rw[er]
     refine Zbx haft hl3 k1 S3 fun w' T' S' hx => ?_
     exact⟨α3,e,s1,⟨rfl,rfl⟩,rfl,hx,he.trans k2 hn,(T2.trans k3).trans T',S'⟩
   split at hh
   ·
    refine wpIn_rangeFunc fun fn _ => ?_
    obtain⟨α1,H1,T1,d1,b1,x1⟩:=Ywe S.h (x:=.defs) (o:=.deferred (some [])) rfl
    have S1:=S.step x1 H1
    obtain⟨α2,H2,T2,d2,b2,x2⟩:=X1z (ps:=ps) (as:=as) (bd:=bd) H1 S1.t d1 fn
    have hn1:(s.h.push (.obj .defs)).next=s.h.next+1:=rfl
    have x12:Ext s.h.next α α2:=x1.trans x2 (by omega)
    have hb2:Uu α2 s.h.next=w.heap.size:=by rw[Qbn (x2 _ (by omega)),b1]
    have hd2:dom α2 s.h.next:=by have:=x2 s.h.next (by omega);simpa[dom,this]using d1
    rw[Yps]at b2
    rw[b1]at H2 T2
    refine⟨w.heap.size+1,[{target:=.collected w.heap.size,args:=#[]}],(w.alloc (.deferred (some []))).alloc (.loop {state:=.ready,pending:=none,fn:=fn,tmps:=a.tmps,params:=ps,assign:=as,body:=bd,defers:=w.heap.size}),⟨.fn (.func f) (captured.map (ren α)),first.map (ren α) ++ #[.func (.yield (w.heap.size+1)) #[] #[]]⟩,(w.alloc (.deferred (some []))).alloc (.loop {state:=.ready,pending:=none,fn:=fn,tmps:=a.tmps,params:=ps,assign:=as,body:=bd,defers:=w.heap.size}),f,_,(w.alloc (.deferred (some []))).alloc (.loop {state:=.ready,pending:=none,fn:=fn,tmps:=a.tmps,params:=ps,assign:=as,body:=bd,defers:=w.heap.size}),?_,?_,?_,hinv _ _,by rw[Qlv];simp,?_⟩
    ·rw[Qxj]
     exact run_enterLoop_outer fn a.tmps ps as bd
    ·show(Deferred.ofValue (a.eval g) _).run P _=_
     rw[g3];simp[Deferred.ofValue,rangeCall,Act.eval]
    ·exact fun f' _=>Qq8 none α f'
    ·have:=go α2 _ _ (s.h.next+1) ({target:=.collected s.h.next,args:=#[]}::s.ds) [{target:=.collected w.heap.size,args:=#[]}] x12 (by show s.h.next<=s.h.next+1+1;omega) H2 (T1.trans T2) d2 ?_ ?_ hh
     ·rw[<- hn1,b2]at this
      exact this
     ·have S2:=S.step x12 H2
      simp only[List.map_cons,Qpz,hb2,renA,renL]
      rw[<- S2.ds]
      rfl
     ·intro d hd
      rcases List.mem_cons.1 hd with rfl | hd
      ·exact⟨hd2,by simp[okA,okL]⟩
      ·exact(S.step x12 H2).okd d hd
   ·
    rename_i l0
    split at hh
    ·rename_i st0 pend0 t0 ps0 as0 bd0 d0 hg0
     refine wpIn_rangeFunc fun fn _ => ?_
     have hl0:=hl l0 rfl
     obtain⟨r0,r1,_,_,_,_,_,_,hd0,r2,_⟩:=Xkm S.h hl0 hg0
     obtain⟨α2,H2,T2,d2,b2,x2⟩:=X1z (ps:=ps) (as:=as) (bd:=bd) S.h S.t hd0 fn
     have S2:=S.step x2 H2
     refine⟨w.heap.size,[],w.alloc (.loop {state:=.ready,pending:=none,fn:=fn,tmps:=a.tmps,params:=ps,assign:=as,body:=bd,defers:=Uu α d0}),⟨.fn (.func f) (captured.map (ren α)),first.map (ren α) ++ #[.func (.yield w.heap.size) #[] #[]]⟩,w.alloc (.loop {state:=.ready,pending:=none,fn:=fn,tmps:=a.tmps,params:=ps,assign:=as,body:=bd,defers:=Uu α d0}),f,_,w.alloc (.loop {state:=.ready,pending:=none,fn:=fn,tmps:=a.tmps,params:=ps,assign:=as,body:=bd,defers:=Uu α d0}),?_,?_,?_,hinv _ _,by rw[Qlv];simp,?_⟩
     ·rw[Qxj]
      unfold Instr.enterLoop
      simp only[Option.map_some,Sem.run_bind,run_getLoop r1,Result.andThen,Sem.run_pure,run_newObj_alloc,r2]
     ·show(Deferred.ofValue (a.eval g) _).run P _=_
      rw[g3];simp[Deferred.ofValue,rangeCall,Act.eval]
     ·exact fun f' _=>Qq8 _ α f'
     ·have:=go α2 _ _ s.h.next s.ds [] x2 (by show s.h.next<=s.h.next+1;omega) H2 T2 d2 (by simpa using S2.ds) S2.okd hh
      rw[b2]at this
      exact this
    ·cases hh
 ·cases hh
end
def Xqs(body:St->Option (Exit × St)):Nat->St->Option (Exit × St)
 | 0,_=>none
 | k+1,s=>match body s with
  | some (.normal,s')=>Xqs body k s'
  | r=>r
def Qvw{P:Program}(E:Env2 P)(C:CallF)(rd:Option Nat)(k:Nat):Code->St->Option (Exit × St)
 | .skip,s=>some (.normal,s)
 | .label _,s=>some (.normal,s)
 | .ret,s=>some (.ret,s)
 | .exit id,s=>some (.exit id,s)
 | .seq x y,s=>match Qvw E C rd k x s with
  | some (.normal,s')=>Qvw E C rd k y s'
  | r=>r
 | .cond c x y,s=>match aev E.G s.t c with
  | some (.bool true)=>Qvw E C rd k x s
  | some (.bool false)=>Qvw E C rd k y s
  | _=>none
 | .block id c,s=>match Qvw E C rd k c s with
  | some (.exit id',s')=>match Nat.beq id' id with
   | true=>some (.normal,s')
   | false=>some (.exit id',s')
  | r=>r
 | .loop c,s=>Xqs (Qvw E C rd k c) k s
 | .region _ ops true,s=>match Xd1 E C ops.toList s with
  | some s'=>some (.normal,s')
  | none=>none
 | .region _ ops false,s=>Xyu E C rd ops.toList ops.toList s
 | .rangeFunc g ps as bd,s=>Zfz E C rd g ps as bd s
 | _,_=>none
section
variable{P:Program}
theorem X1g{E:Env2 P}{C:CallF}(hC:CallsLow C){rd:Option Nat}{ops:List Oper}:∀ (l:List Oper) (s s1:St) (e:Exit),Xyu E C rd ops l s=some (e,s1)->LowOK s.h s1.h
 | [],s,s1,e,h=>by simp only[Xyu,Option.some.injEq,Prod.mk.injEq]at h;rw[<- h.2];exact LowOK.refl _
 | o::r,s,s1,e,h=>by
  simp only[Xyu]at h
  split at h
  ·split at h
   ·rename_i s' hst;exact(Y4a hC hst).trans (X1g hC r _ _ _ h)
   ·rename_i hst;cases h;exact Y4a hC hst
   ·cases h
  ·split at h
   ·have:=X1g hC r _ _ _ h
    rwa [Qqw]at this
   ·cases h
  ·cases h
theorem Ytu{E:Env2 P}{C:CallF}(hC:CallsLow C){ops:List Oper}{B:List Nat}:∀ (l:List Oper) (i:Nat) (s s1:St) (R:List (Option LRec)),Yp4 E C ops B l i s=some (s1,R)->LowOK s.h s1.h
 | [],i,s,s1,R,h=>by simp only[Yp4,Option.some.injEq,Prod.mk.injEq]at h;rw[<- h.1];exact LowOK.refl _
 | o::r,i,s,s1,R,h=>by
  simp only[Yp4]at h
  split at h
  ·cases h
  ·split at h
   ·obtain⟨R',h',_⟩:=X4q h
    have:=Ytu hC r _ _ _ _ h'
    rwa [Qqw]at this
   ·split at h
    ·rename_i v h1 hv
     split at h
     ·obtain⟨R',h',_⟩:=X4q h
      have h2:=Ytu hC r _ _ _ _ h'
      rw[Qqw]at h2
      have h3:=Xr5 hC hv
      refine LowOK.trans (b:=Xp4 s.h h1) ⟨h3.next,Nat.min_le_left _ _,fun b hb hl => ?_⟩ h2
      have:=h3.same b hb (Nat.lt_of_lt_of_le hl (Nat.min_le_right _ _))
      exact this
     ·cases h
    ·cases h
   ·cases h
theorem Yfe{E:Env2 P}{C:CallF}(hC:CallsLow C){ops:List Oper}{s s1:St}(h:Xd1 E C ops s=some s1):LowOK s.h s1.h:=by
 unfold Xd1 at h
 split at h
 ·split at h
  ·split at h
   ·rename_i hR
    split at h
    ·cases h;exact Ytu hC _ _ _ _ _ hR
    ·cases h
   ·cases h
  ·cases h
 ·cases h
theorem Y5d{body:St->Option (Exit × St)}(hb:∀ s e s1,body s=some (e,s1)->LowOK s.h s1.h):∀ k s e s1,Xqs body k s=some (e,s1)->LowOK s.h s1.h
 | 0,_,_,_,h=>by simp[Xqs]at h
 | k+1,s,e,s1,h=>by
  simp only[Xqs]at h
  split at h
  ·rename_i s' hs;exact(hb _ _ _ hs).trans (Y5d hb k _ _ _ h)
  ·exact hb _ _ _ h
theorem Qmh{E:Env2 P}{C:CallF}(hC:CallsLow C){rd:Option Nat}{k:Nat}:∀ (c:Code) (s:St) (e:Exit) (s1:St),Qvw E C rd k c s=some (e,s1)->LowOK s.h s1.h
 | .skip,s,e,s1,h | .label _,s,e,s1,h | .ret,s,e,s1,h | .exit _,s,e,s1,h=>by
  simp only[Qvw,Option.some.injEq,Prod.mk.injEq]at h;rw[<- h.2];exact LowOK.refl _
 | .seq x y,s,e,s1,h=>by
  simp only[Qvw]at h
  split at h
  ·rename_i s' hs;exact(Qmh hC x _ _ _ hs).trans (Qmh hC y _ _ _ h)
  ·exact Qmh hC x _ _ _ h
 | .cond c x y,s,e,s1,h=>by
  simp only[Qvw]at h
  split at h
  ·exact Qmh hC x _ _ _ h
  ·exact Qmh hC y _ _ _ h
  ·cases h
 | .block id c,s,e,s1,h=>by
  simp only[Qvw]at h
  split at h
  ·rename_i id' s' hs
   split at h <;> (cases h;exact Qmh hC c _ _ _ hs)
  ·exact Qmh hC c _ _ _ h
 | .loop c,s,e,s1,h=>by
  simp only[Qvw]at h
  exact Y5d (Qmh hC c) k _ _ _ h
 | .region _ ops true,s,e,s1,h=>by
  simp only[Qvw]at h
  split at h
  ·rename_i s' hs;cases h;exact Yfe hC hs
  ·cases h
 | .region _ ops false,s,e,s1,h=>by
  simp only[Qvw]at h;exact X1g hC _ _ _ _ h
 | .rangeFunc ..,s,e,s1,h=>by
  simp only[Qvw]at h;exact Zki hC h
 | .scope _,_,_,_,h | .goto _,_,_,_,h | .refuse _,_,_,_,h=>by simp[Qvw]at h
theorem Zmo{G:Bs}{rd:Option Nat}{c:Code}{body:St->Option (Exit × St)}(Zgs:∀ s e s1,body s=some (e,s1)->LowOK s.h s1.h)(hb:∀ s e s1,body s=some (e,s1)->CW P G rd s.h.next c s (fun e' s'=>e'=e/\s'=s1))
  {k:Nat} {s:St} {e:Exit} {s1:St} (h:Xqs body k s=some (e,s1)):CW P G rd s.h.next (.loop c) s (fun e' s'=>e'=e/\s'=s1):=by
 intro α0 a0 w0 S0 hl0
 refine Zjb (n:=s.h.next) (fun k s'=>Xqs body k s'=some (e,s1)/\s.h.next<=s'.h.next) ⟨h,Nat.le_refl _⟩ (fun l hl=>Qih S0.h (hl0 l hl)) (Nat.le_refl _) (fun k s' hI _ => ?_) α0 a0 w0 S0 hl0
 obtain⟨hk,hn⟩:=hI
 cases k with
 | zero=>simp[Xqs]at hk
 | succ k =>
  simp only[Xqs]at hk
  split at hk
  ·rename_i s2 hs
   refine(hb _ _ _ hs).mono hn ?_
   rintro e' s'' ⟨rfl,rfl⟩
   have:=(Zgs _ _ _ hs).next
   exact⟨by omega,fun _=>⟨k,Nat.lt_succ_self _,hk,by omega⟩,fun hne=>absurd rfl hne⟩
  ·rename_i hne
   refine(hb _ _ _ hk).mono hn ?_
   rintro e' s'' ⟨rfl,rfl⟩
   have:=(Zgs _ _ _ hk).next
   refine⟨by omega,fun he => ?_,fun _=>⟨rfl,rfl⟩⟩
   subst he
   exact absurd hk (hne _)
theorem Qzv(E:Env2 P){C:CallF}(hC:CallsSound P E.G C)(hL:CallsLow C)(hm:P.follows .mixedOrders=true){rd:Option Nat}{k:Nat}:∀ (c:Code) (s:St) (e:Exit) (s1:St),Qvw E C rd k c s=some (e,s1)->CW P E.G rd s.h.next c s (fun e' s'=>e'=e/\s'=s1)
 | .skip,s,e,s1,h=>by
  simp only[Qvw,Option.some.injEq,Prod.mk.injEq]at h;exact Zi5 ⟨h.1,h.2⟩
 | .label _,s,e,s1,h=>by
  simp only[Qvw,Option.some.injEq,Prod.mk.injEq]at h;exact Zdt ⟨h.1,h.2⟩
 | .ret,s,e,s1,h=>by
  simp only[Qvw,Option.some.injEq,Prod.mk.injEq]at h;exact Zpz ⟨h.1,h.2⟩
 | .exit _,s,e,s1,h=>by
  simp only[Qvw,Option.some.injEq,Prod.mk.injEq]at h;exact Zlu ⟨h.1,h.2⟩
 | .seq x y,s,e,s1,h=>by
  simp only[Qvw]at h
  refine Zq2 ?_
  split at h
  ·rename_i s' hs
   refine(Qzv E hC hL hm x _ _ _ hs).mono (Nat.le_refl _) ?_
   rintro e' s'' ⟨rfl,rfl⟩
   exact⟨(Qmh hL x _ _ _ hs).next,fun _=>Qzv E hC hL hm y _ _ _ h,fun hne=>absurd rfl hne⟩
  ·rename_i hne
   refine(Qzv E hC hL hm x _ _ _ h).mono (Nat.le_refl _) ?_
   rintro e' s'' ⟨rfl,rfl⟩
   refine⟨(Qmh hL x _ _ _ h).next,fun he => ?_,fun _=>⟨rfl,rfl⟩⟩
   subst he;exact absurd h (hne _)
 | .cond c x y,s,e,s1,h=>by
  simp only[Qvw]at h
  split at h
  ·rename_i hc;exact Zb8 hc (Qzv E hC hL hm x _ _ _ h)
  ·rename_i hc;exact Zb8 hc (Qzv E hC hL hm y _ _ _ h)
  ·cases h
 | .block id c,s,e,s1,h=>by
  simp only[Qvw]at h
  refine Zdd ?_
  split at h
  ·rename_i id' s' hs
   refine(Qzv E hC hL hm c _ _ _ hs).mono (Nat.le_refl _) ?_
   rintro e' s'' ⟨rfl,rfl⟩
   simp only
   split at h
   ·rename_i hb
    rw[if_pos (Nat.eq_of_beq_eq_true hb)]
    cases h;exact⟨rfl,rfl⟩
   ·rename_i hb
    rw[if_neg (Nat.ne_of_beq_eq_false hb)]
    cases h;exact⟨rfl,rfl⟩
  ·rename_i hne
   refine(Qzv E hC hL hm c _ _ _ h).mono (Nat.le_refl _) ?_
   rintro e' s'' ⟨rfl,rfl⟩
   cases e' with
   | exit id'=>exact absurd h (hne _ _)
   | _=>exact⟨rfl,rfl⟩
 | .loop c,s,e,s1,h=>by
  simp only[Qvw]at h
  exact Zmo (Qmh hL c) (Qzv E hC hL hm c) h
 | .region _ ops true,s,e,s1,h=>by
  simp only[Qvw]at h
  split at h
  ·rename_i s' hs;cases h;exact Qsc E hC hL hm hs ⟨rfl,rfl⟩
  ·cases h
 | .region _ ops false,s,e,s1,h=>by
  simp only[Qvw]at h;exact Zm2 E hC h ⟨rfl,rfl⟩
 | .rangeFunc ..,s,e,s1,h=>by
  simp only[Qvw]at h;exact Zs7 E hC hL h
 | .scope _,_,_,_,h | .goto _,_,_,_,h | .refuse _,_,_,_,h=>by simp[Qvw]at h
def Ydt{P:Program}(E:Env2 P)(C:CallF)(k:Nat)(l:Nat)(args:List Value)(h:Heap):Option (AEnd × Heap) :=
 match h.get l with
 | some (.obj (.loop .ready _ t ps as bd _))=>match Ze4 t.size ps.toList args with
  | false=>none
  | true=>match Qvw E C (some l) k as ⟨X3n t ps.toList args,[],h⟩with
   | some (.normal,s1)=>match s1.h.get l with
    | some (.obj (.loop .ready p1 t1 ps1 as1 bd1 d1))=>match Qvw E C (some l) k bd {s1 with h:=s1.h.set l (some (.obj (.loop .busy p1 t1 ps1 as1 bd1 d1)))} with
     | some (e,s2)=>match Yq4 e,s2.h.get l with
      | some j,some (.obj (.loop _ _ t2 ps2 as2 bd2 d2))=>some (.ret (.bool j.isNone),s2.h.set l (some (.obj (.loop (if j.isNone then .ready else .done) j t2 ps2 as2 bd2 d2))))
      | _,_=>none
     | none=>none
    | _=>none
   | _=>none
 | _=>none
theorem Zf5{E:Env2 P}{C:CallF}(hC:CallsLow C){k l:Nat}{args:List Value}{h h1:Heap}{r:AEnd}(hh:Ydt E C k l args h=some (r,h1)):LowOK h h1:=by
 unfold Ydt at hh
 split at hh
 ·split at hh
  ·cases hh
  ·split at hh
   ·rename_i hs1
    split at hh
    ·rename_i hg1
     split at hh
     ·rename_i hs2
      split at hh
      ·rename_i hj hg2
       cases hh
       exact(((Qmh hC _ _ _ _ hs1).trans (LowOK.set _ _ _ (Heap.get_lt hg1))).trans (Qmh hC _ _ _ _ hs2)).trans (LowOK.set _ _ _ (Heap.get_lt hg2))
      ·cases hh
     ·cases hh
    ·cases hh
   ·cases hh
 ·cases hh
theorem X0u(rd:Option Nat)(α β:Ren)(l:Nat):(Qnu rd β).inRound (Uu α l)=Qnu (some l) α:=by cases rd <;> rfl
theorem X6e{α:Ren}{e:Exit}{j:Option Code}(hj:Yq4 e=some j){l:Nat}{R:Ending->World->Prop}{a:Act}{w:World}(h:∃ v w',(Instr.endRound l j).run P w=.ok v w'/\R (.returned v) w') :
  roundPost P l R (Qku α e) a w:=by
 cases e <;> simp only[Yq4,Option.some.injEq,reduceCtorEq]at hj <;> subst hj <;> exact h
theorem Zho(E:Env2 P){C:CallF}(hC:CallsSound P E.G C)(hL:CallsLow C)(hm:P.follows .mixedOrders=true){k l:Nat}{args:List Value}{h h1:Heap}{r:AEnd}(hh:Ydt E C k l args h=some (r,h1)) :
  Xra P E.G l args h (fun r' h'=>r'=r/\h'=h1):=by
 intro α w β rd st pend t ps as bd d fn tmps H hl ha hg ht
 unfold Ydt at hh
 rw[hg]at hh
 cases st with
 | ready =>
  simp only at hh
  split at hh
  ·cases hh
  ·split at hh
   ·rename_i s1 hs1
    split at hh
    ·rename_i p1 t1 ps1 as1 bd1 d1 hg1
     split at hh
     ·rename_i e2 s2 hs2
      split at hh
      ·rename_i j st2 pe2 t2 ps2 as2 bd2 d2 hj hg2
       cases hh
       refine roundIn_of_wpIn (Qq8 rd β _) ?_
       rw[X0u rd α β l]
       have S0:SRel E.G α ⟨X3n t ps.toList args,[],h⟩ {tmps:=tmps,defers:=[]} w:=⟨H,ht,rfl,fun d hd=>by cases hd⟩
       refine wpIn_mono (Qzv E hC hL hm as _ _ _ hs1 α _ w S0 (fun l' hl'=>by cases hl';exact hl)) ?_
       rintro e' a1 w1 ⟨α1,e1,s1',⟨rfl,rfl⟩,rfl,_,x1,T1,S1⟩
       have hc1:∀ b,dom α b->α1 b=α b:=fun b hb=>x1 b (Qih H hb)
       have hl1:dom α1 l:=by simpa[dom,hc1 l hl]using hl
       obtain⟨r1,k1,k2,kp,_,_,_,_,_,_,k3⟩:=Xkm S1.h hl1 hg1
       subst kp
       obtain⟨H1',T1'⟩:=k3 .busy r1.pending
       have er1:Uu α1 l=Uu α l:=Qbn (hc1 l hl)
       refine⟨_,by rw[<- er1];exact run_beginRound k1 k2,?_⟩
       rw[<- er1]
       have S1':=S1.step (Ext.refl _ _) H1'
       rw[<- (Xrl (rd:=some l) (n:=0) S0 x1 (fun l' hl'=>by cases hl';exact hl)).1]
       refine wpIn_mono (Qzv E hC hL hm bd _ _ _ hs2 α1 a1 _ S1' (fun l' hl'=>by cases hl';exact hl1)) ?_
       rintro e' a2 w2 ⟨α2,e2',s2',⟨rfl,rfl⟩,rfl,_,x2,T2,S2⟩
       have hn1:h.next<=s1'.h.next:=(Qmh hL _ _ _ _ hs1).next
       have hc2:∀ b,dom α1 b->α2 b=α1 b:=fun b hb=>x2 b (Qih H1' hb)
       have hl2:dom α2 l:=by simpa[dom,hc2 l hl1]using hl1
       have er2:Uu α2 l=Uu α1 l:=Qbn (hc2 l hl1)
       obtain⟨r2,m1,m2,_,_,_,_,_,_,_,m3⟩:=Xkm S2.h hl2 hg2
       obtain⟨H2',T2'⟩:=m3 (if j.isNone then .ready else .done) j
       have fin:∃ v w',(Instr.endRound (Uu α1 l) j).run P w2=.ok v w'/\∃ α' r h',(r=AEnd.ret (.bool j.isNone)/\h'=s2'.h.set l (some (.obj (.loop (if j.isNone then .ready else .done) j t2 ps2 as2 bd2 d2)))) /\
         Ending.returned v=Qsk α' r/\Xwo (dom α') r/\Ext h.next α α'/\Turn α h w α' h' w'/\HRel E.G α' h' w' :=
        ⟨_,_,by rw[<- er2];exact run_endRound j m1,α2,_,_,⟨rfl,rfl⟩,by simp[Qsk],trivial,x1.trans x2 hn1,((T1.trans T1').trans T2).trans T2',H2'⟩
       rw[er1]at fin ⊢
       exact X6e hj fin
      ·cases hh
     ·cases hh
    ·cases hh
   ·cases hh
 | _=>cases hh
end
def Zv{P:Program}(E:Env2 P)(t:Tm)(h:Heap):List ResultVar->Option (List Value)
 | []=>some []
 | .tmp i::r=>match t.t.get i,Zv E t h r with
  | some v,some l=>some (v::l)
  | _,_=>none
 | .cell i ty::r=>match t.t.get i with
  | some x=>match Qhr E.toEnv ty x h,Zv E t h r with
   | some v,some l=>some (v::l)
   | _,_=>none
  | none=>none
def J4{P:Program}(E:Env2 P)(fn:Func)(t:Tm)(h:Heap):Option Value :=
 match Zv E t h fn.results.toList with
 | some [v]=>some v
 | some l=>some (.tuple l.toArray)
 | none=>none
def Xpc(α:Ren):FrameMode->FrameMode
 | .panicking ch => .panicking (ch.map (Xzl α))
 | u=>u
def okM(D:Nat->Prop):FrameMode->Prop
 | .panicking ch => ∀ p ∈ ch,okV D p.v
 | _=>True
abbrev Qov:=FuncId->List Value->FrameMode->Heap->Option (AEnd × FrameMode × Heap)
def Qth(P:Program)(G:Bs)(D:Qov):Prop:=∀ f args u h r u1 h1,D f args u h=some (r,u1,h1) ->
 ∀ α w,HRel G α h w->(∀ v ∈ args,okV (dom α) v)->okM (dom α) u->CallsDIn Fence.wide 0 P f (args.map (ren α)).toArray (Xpc α u) w fun e u' w' =>
  ∃ α',e=Qsk α' r/\u'=Xpc α' u1/\Xwo (dom α') r/\okM (dom α') u1/\Ext h.next α α'/\Turn α h w α' h1 w'/\HRel G α' h1 w'
def Xom(D:Qov):Prop:=∀ f args u h r u1 h1,D f args u h=some (r,u1,h1)->LowOK h h1
def Xg{P:Program}(E:Env2 P)(D:Qov)(fn:Func)(t:Tm):List Deferred->FrameMode->Heap->Option (AEnd × Heap)
 | [],.returning,h=>match J4 E fn t h with
  | some v=>some (.ret v,h)
  | none=>none
 | [],.panicking ch,h=>some (.panic ch,h)
 | [],.run,_=>none
 | d::ds,u,h=>match u,d.target with
  | .run,_=>none
  | _,.collected r=>match h.get r with
   | some (.obj .defs)=>Xg E D fn t ds u (h.set r none)
   | _=>none
  | _,.fn (.func f) cap=>match E.fn.get f with
   | none=>none
   | some _=>match D f (d.args.toList++cap.toList) u h with
    | some (.ret _,u1,h1)=>Xg E D fn t ds (settle u1) h1
    | some (.panic ch,u1,h1)=>Xg E D fn t ds (raised u1 ch) h1
    | none=>none
  | _,_=>none
def Z1(fn:Func)(args:List Value):Tm:=⟨fn.ntmps,putAll 0 args .leaf⟩
 where putAll (i:Nat):List Value->Tr Value->Tr Value
 | [],t=>t
 | v::l,t=>putAll (i+1) l (t.put i (some v))
def Za9{P:Program}(E:Env2 P)(C:CallF)(D:Qov)(k:Nat)(f:FuncId)(args:List Value)(h:Heap):Option (AEnd × Heap) :=
 match E.fn.get f with
 | none=>none
 | some fn=>match fn.body,Nat.ble args.length fn.ntmps with
  | some c,true=>match Qvw E C none k c ⟨Z1 fn args,[],h⟩with
   | some (.normal,s) | some (.ret,s)=>Xg E D fn s.t s.ds .returning s.h
   | some (.panic ch,s)=>Xg E D fn s.t s.ds (.panicking ch) s.h
   | _=>none
  | _,_=>none
section
variable{P:Program}{G:Bs}{α:Ren}{h:Heap}{w:World}
theorem Y82(E:Env2 P)(H:HRel E.G α h w){t:Tm}{tmps:Array Value}(ht:TRel α t tmps):∀ {rs:List ResultVar} {l:List Value},Zv E t h rs=some l ->
  (∀ v ∈ l,okV (dom α) v)/\((rs.mapM (m:=Sem) fun
   | .tmp t=>pure (tmps.getD t undef)
   | .cell a t=>do loadVar t (<- asAddr (tmps.getD a undef))):Sem (List Value)).run P w=.ok (l.map (ren α)) w
 | [],l,hl=>by simp only[Zv,Option.some.injEq]at hl;subst hl;simp
 | .tmp i::r,l,hl=>by
  simp only[Zv]at hl
  split at hl
  ·rename_i v l' hv hl'
   cases hl
   obtain⟨i1,i2⟩:=Y82 E H ht hl'
   obtain⟨j1,j2⟩:=ht.vals i v hv
   refine⟨by simpa using⟨j1,i1⟩,?_⟩
   have : tmps.getD i undef=ren α v:=by simp[Array.getD_eq_getD_getElem?,j2]
   simp only[List.mapM_cons,this,pure_bind,Sem.run_bind,i2,Result.andThen_ok,Sem.run_pure,List.map_cons]
  ·cases hl
 | .cell i ty::r,l,hl=>by
  simp only[Zv]at hl
  split at hl
  ·rename_i x hx
   split at hl
   ·rename_i v l' hv hl'
    cases hl
    obtain⟨i1,i2⟩:=Y82 E H ht hl'
    obtain⟨j1,j2⟩:=ht.vals i x hx
    have : tmps.getD i undef=ren α x:=by simp[Array.getD_eq_getD_getElem?,j2]
    unfold Qhr at hv
    split at hv
    ·rename_i a rr hr
     simp only[okV]at j1
     obtain⟨k1,k2⟩:=Xw2 (P:=P) H (E.tyok ty rr hr) j1.1 j1.2 hv
     refine⟨by simpa using⟨k1,i1⟩,?_⟩
     have hA:asAddr (ren α (.pointer (some a)))=pure (Wa α a):=by simp[ren,asAddr]
     simp only[List.mapM_cons,this,hA,pure_bind,Sem.run_bind,k2,i2,Result.andThen_ok,Sem.run_pure,List.map_cons]
    ·cases hv
   ·cases hl
  ·cases hl
theorem Y94(E:Env2 P)(H:HRel E.G α h w){t:Tm}{tmps:Array Value}(ht:TRel α t tmps){fn:Func}{v:Value}(hv:J4 E fn t h=some v):okV (dom α) v/\(results fn tmps).run P w=.ok (ren α v) w:=by
 unfold J4 at hv
 have key:∀ l,Zv E t h fn.results.toList=some l->(∀ v ∈ l,okV (dom α) v)/\(results fn tmps).run P w=.ok (if h:(l.map (ren α)).toArray.size=1 then(l.map (ren α)).toArray[0]else .tuple (l.map (ren α)).toArray) w:=by
  intro l hl
  obtain⟨i1,i2⟩:=Y82 E H ht hl
  refine⟨i1,?_⟩
  unfold results
  rw[Array.mapM_eq_mapM_toList]
  simp only[bind_map_left,Sem.run_bind]
  refine(congrArg (fun r=>Result.andThen r _) i2).trans ?_
  simp only[Result.andThen_ok,Sem.run_pure]
 split at hv
 ·rename_i u hl
  cases hv
  obtain⟨i1,i2⟩:=key _ hl
  exact⟨i1 _ (by simp),by rw[i2];simp⟩
 ·rename_i l hne hl
  cases hv
  obtain⟨i1,i2⟩:=key _ hl
  refine⟨by simp only[okV,Q00];intro x hx;exact i1 x (by simpa using hx),?_⟩
  have : ¬ (l.map (ren α)).toArray.size=1:=by
   intro hs
   simp only[List.size_toArray,List.length_map]at hs
   obtain⟨x,rfl⟩:=List.length_eq_one_iff.1 hs
   exact hne x rfl
  rw[i2,dif_neg this]
  simp[ren,Qnf]
 ·cases hv
theorem Yoy:∀ (l:List Value) (i:Nat) (t:Tr Value) (j:Nat),(Z1.putAll i l t).get j=if i<=j/\j < i+l.length then l[j-i]? else t.get j
 | [],i,t,j=>by simp[Z1.putAll];omega
 | v::l,i,t,j=>by
  simp only[Z1.putAll,Yoy l (i+1),Tr.get_put,List.length_cons]
  by_cases h1:i+1<=j/\j < i+1+l.length
  ·rw[if_pos h1,if_pos (by omega),show j-i=(j-(i+1))+1 by omega,List.getElem?_cons_succ]
  ·rw[if_neg h1]
   by_cases h2:i=j
   ·subst h2
    rw[if_pos rfl,if_pos (by omega)];simp
   ·rw[if_neg h2,if_neg (by omega)]
theorem Yel{fn:Func}{args:List Value}(hn:args.length<=fn.ntmps)(ha:∀ v ∈ args,okV (dom α) v) :
  TRel α (Z1 fn args) ((args.map (ren α)).toArray++Array.replicate (fn.ntmps-(args.map (ren α)).toArray.size) undef):=by
 refine⟨by simp[Z1];omega,fun i v hv => ?_⟩
 simp only[Z1,Yoy,Nat.zero_le,true_and,Nat.zero_add,Nat.sub_zero,Tr.get_leaf]at hv
 split at hv
 ·rename_i hi
  refine⟨ha v (List.mem_of_getElem? hv),?_⟩
  rw[Array.getElem?_append_left (by simpa using hi)]
  simp[hv]
 ·cases hv
theorem Zdu{D E:Nat->Prop}(h:∀ b,D b->E b){u:FrameMode}(hu:okM D u):okM E u:=by
 cases u <;> simp only[okM]at hu ⊢
 exact fun p hp=>okV_mono h _ (hu p hp)
theorem Yq0{β:Ren}{D:Nat->Prop}(h:∀ b,D b->β b=α b){u:FrameMode}(hu:okM D u):Xpc β u=Xpc α u:=by
 cases u <;> simp only[okM,Xpc]at hu ⊢
 congr 1
 apply List.map_congr_left
 intro p hp
 simp[Xzl,ren_congr h _ (hu p hp)]
theorem Y8r(u:FrameMode):Xpc α (settle u)=settle (Xpc α u):=by
 cases u with
 | panicking ch =>
  cases ch with
  | nil=>rfl
  | cons p older =>
   obtain⟨v,r,g⟩:=p
   cases r with
   | false=>rfl
   | true =>
    simp only[settle,Xpc,List.map_cons,Xzl]
    have : (older.map (Xzl α)).dropWhile (fun x => !x.goexit)=(older.dropWhile (fun x => !x.goexit)).map (Xzl α):=by
     induction older with
     | nil=>rfl
     | cons q older ih=>simp only[List.map_cons,List.dropWhile_cons,Xzl];split <;> simp_all [Xzl]
    have h2:List.dropWhile (fun x => !x.goexit) (List.map (fun p=>({v:=ren α p.v,recovered:=p.recovered,goexit:=p.goexit}:PanicEntry)) older)=(older.dropWhile (fun x => !x.goexit)).map (Xzl α):=this
    rw[show(Xzl α)=(fun p=>({v:=ren α p.v,recovered:=p.recovered,goexit:=p.goexit}:PanicEntry))from rfl]at *
    rw[h2]
    cases h3:older.dropWhile (fun x => !x.goexit)with
    | nil=>rfl
    | cons _ _=>rfl
 | _=>rfl
theorem Zeh{D:Nat->Prop}{u:FrameMode}(hu:okM D u):okM D (settle u):=by
 cases u with
 | panicking ch =>
  cases ch with
  | nil=>exact hu
  | cons p older =>
   obtain⟨v,r,g⟩:=p
   cases r with
   | false=>exact hu
   | true =>
    simp only[settle]
    split
    ·trivial
    ·exact fun q hq=>hu q (List.mem_cons_of_mem _ (List.dropWhile_sublist _ |>.subset hq))
 | _=>exact hu
theorem Y7w(u:FrameMode)(ch:List PanicEntry):Xpc α (raised u ch)=raised (Xpc α u) (ch.map (Xzl α)):=by
 cases u <;> simp[raised,Xpc]
theorem Ze9{D:Nat->Prop}{u:FrameMode}{ch:List PanicEntry}(hu:okM D u)(hc:∀ p ∈ ch,okV D p.v):okM D (raised u ch):=by
 cases u <;> simp only[raised,okM]at hu ⊢
 ·exact hc
 ·exact hc
 ·intro p hp
  rcases List.mem_append.1 hp with h | h
  ·exact hc p h
  ·exact hu p h
end
section
variable{P:Program}{G:Bs}{α:Ren}{h:Heap}{w:World}
theorem Xq0(E:Env2 P){D:Qov}(hD:Qth P E.G D){fn:Func}{t:Tm}:∀ (ds:List Deferred) (u:FrameMode) (h:Heap) (α:Ren) (w:World) (tmps:Array Value) (r:AEnd) (h1:Heap),
  Xg E D fn t ds u h=some (r,h1)->HRel E.G α h w->TRel α t tmps->(∀ d ∈ ds,Xzg (dom α) d)->okM (dom α) u->∀ {R:Ending->World->Prop},
  (∀ α' w',Ext h.next α α'->Turn α h w α' h1 w'->HRel E.G α' h1 w'->Xwo (dom α') r->R (Qsk α' r) w') ->
  LeavesInM Fence.wide 0 P fn tmps R (ds.map (Qpz α)) (Xpc α u) w
 | [],u,h,α,w,tmps,r,h1,hl,H,T,_,hu,R,hR=>by
  cases u with
  | run=>simp[Xg]at hl
  | returning =>
   simp only[Xg]at hl
   split at hl
   ·rename_i v hv
    cases hl
    obtain⟨i1,i2⟩:=Y94 E H T hv
    exact⟨ren α v,i2,hR α w (Ext.refl _ _) (Turn.refl _ _ _) H i1⟩
   ·cases hl
  | panicking ch =>
   simp only[Xg,Option.some.injEq,Prod.mk.injEq]at hl
   obtain⟨rfl,rfl⟩:=hl
   exact hR α w (Ext.refl _ _) (Turn.refl _ _ _) H hu
 | d::ds,u,h,α,w,tmps,r,h1,hl,H,T,hds,hu,R,hR=>by
  obtain⟨tg,dargs⟩:=d
  simp only[Xg]at hl
  split at hl
  ·cases hl
  ·rename_i r0 hne
   split at hl
   ·rename_i hg
    have hod:=hds _ List.mem_cons_self
    have hune:Xpc α u ≠ .run:=by
     cases u <;> simp[Xpc]at hne ⊢
    obtain⟨p,hp⟩:=Option.isSome_iff_exists.1 hod.1
    obtain⟨f0,o,f1,f2⟩:=H.fits _ p _ hp hg
    have hlt:=H.blk_lt hp hg rfl
    have e:Uu α r0=p.blk:=by simp[Uu,hp]
    obtain⟨H1,T1⟩:=H.upd hp (by rw[Qs7 hg];rfl) (x:=.obj .any) rfl (o:=.deferred none) ⟨f0,_,Qp1 hlt,trivial⟩
    have hk:=H1.kill (b:=r0) (show r0 < h.next from Heap.get_lt hg)
    rw[Y7k]at hk
    simp only[List.map_cons,Qpz]
    refine⟨hune,.inl ⟨_,_,rfl,run_takeDeferred (by rw[e,f1,f2]),?_⟩⟩
    rw[e]
    exact Xq0 E hD ds _ _ α _ tmps r h1 hl hk.1 T (fun d hd=>hds d (List.mem_cons_of_mem _ hd)) hu
     fun α'' w'' p1 p2 p3 p4=>hR α'' w'' p1 ((T1.trans hk.2).trans p2) p3 p4
   ·cases hl
  ·rename_i f cap hne
   split at hl
   ·cases hl
   ·rename_i F hF
    have hod:=hds _ List.mem_cons_self
    simp only[Xzg,okV,Q00]at hod
    have hargs:∀ v ∈ dargs.toList++cap.toList,okV (dom α) v:=by
     intro v hv
     rcases List.mem_append.1 hv with hv | hv
     ·exact hod.2 v (by simpa using hv)
     ·exact hod.1.2 v (by simpa using hv)
    have hinv:=Yft E hF (renA α cap) (renA α dargs) w
    have hae:((dargs.toList++cap.toList).map (ren α)).toArray=renA α dargs++renA α cap:=by
     simp[Qnf]
    have hune:Xpc α u ≠ .run:=by
     cases u <;> simp[Xpc]at hne ⊢
    simp only[List.map_cons,Qpz,X2e]
    refine⟨hune,.inr ⟨by simp[Fence.wide],_,_,f,_,rfl,hinv,fun _ _=>trivial,?_⟩⟩
    rw[<- hae]
    split at hl
    ·rename_i v u1 h2 hd
     refine(hD _ _ _ _ _ _ _ hd α w H hargs hu).mono ?_
     rintro e um w' ⟨α',rfl,rfl,q1,q2,q3,q4,q5⟩
     simp only[Qsk]
     have hdd:∀ b,dom α b->α' b=α b:=fun b hb=>q3 b (Qih H hb)
     have hmap:ds.map (Qpz α)=ds.map (Qpz α'):=List.map_congr_left fun d hd=>(Qtt hdd (hds d (List.mem_cons_of_mem _ hd))).symm
     rw[hmap,<- Y8r]
     exact Xq0 E hD ds _ _ α' w' tmps r h1 hl q5 (T.ext H q3) (fun d hd=>Q3b (fun b hb=>by simpa[dom,hdd b hb]using hb) (hds d (List.mem_cons_of_mem _ hd))) (Zeh q2)
      fun α'' w'' p1 p2 p3 p4=>hR α'' w'' (q3.trans p1 q4.next) (q4.trans p2) p3 p4
    ·rename_i ch u1 h2 hd
     refine(hD _ _ _ _ _ _ _ hd α w H hargs hu).mono ?_
     rintro e um w' ⟨α',rfl,rfl,q1,q2,q3,q4,q5⟩
     simp only[Qsk]
     have hdd:∀ b,dom α b->α' b=α b:=fun b hb=>q3 b (Qih H hb)
     have hmap:ds.map (Qpz α)=ds.map (Qpz α'):=List.map_congr_left fun d hd=>(Qtt hdd (hds d (List.mem_cons_of_mem _ hd))).symm
     rw[hmap,<- Y7w]
     exact Xq0 E hD ds _ _ α' w' tmps r h1 hl q5 (T.ext H q3) (fun d hd=>Q3b (fun b hb=>by simpa[dom,hdd b hb]using hb) (hds d (List.mem_cons_of_mem _ hd))) (Ze9 q2 q1)
      fun α'' w'' p1 p2 p3 p4=>hR α'' w'' (q3.trans p1 q4.next) (q4.trans p2) p3 p4
    ·cases hl
  ·cases hl
theorem Xcb{E:Env2 P}{D:Qov}(hD:Xom D){fn:Func}{t:Tm}:∀ (ds:List Deferred) (u:FrameMode) (h:Heap) (r:AEnd) (h1:Heap),
  Xg E D fn t ds u h=some (r,h1)->LowOK h h1
 | [],u,h,r,h1,hl=>by
  cases u with
  | run=>simp[Xg]at hl
  | returning=>simp only[Xg]at hl;split at hl <;> cases hl;exact LowOK.refl _
  | panicking ch=>simp only[Xg,Option.some.injEq,Prod.mk.injEq]at hl;rw[<- hl.2];exact LowOK.refl _
 | d::ds,u,h,r,h1,hl=>by
  simp only[Xg]at hl
  split at hl
  ·cases hl
  ·split at hl
   ·rename_i hg;exact(LowOK.set _ _ _ (Heap.get_lt hg)).trans (Xcb hD ds _ _ _ _ hl)
   ·cases hl
  ·split at hl
   ·cases hl
   ·split at hl
    ·rename_i hd;exact(hD _ _ _ _ _ _ _ hd).trans (Xcb hD ds _ _ _ _ hl)
    ·rename_i hd;exact(hD _ _ _ _ _ _ _ hd).trans (Xcb hD ds _ _ _ _ hl)
    ·cases hl
  ·cases hl
theorem Zn3(E:Env2 P){C:CallF}(hC:CallsSound P E.G C)(hL:CallsLow C)(hm:P.follows .mixedOrders=true){D:Qov}(hD:Qth P E.G D){k:Nat}  {f:FuncId}{args:List Value}{h:Heap}{r:AEnd}{h':Heap}(hb:Za9 E C D k f args h=some (r,h')) :
  CallOK P E.G f args h (fun r1 h1=>r1=r/\h1=h'):=by
 intro α w H ha
 unfold Za9 at hb
 split at hb
 ·cases hb
 ·rename_i fn hfn
  obtain⟨g1,g2,g3⟩:=E.fnok _ _ hfn
  split at hb
  ·rename_i c hbody hle
   have hle':args.length<=fn.ntmps:=by simpa using hle
   have S:SRel E.G α ⟨Z1 fn args,[],h⟩ {tmps:=(args.map (ren α)).toArray++Array.replicate (fn.ntmps-(args.map (ren α)).toArray.size) undef,defers:=[]} w :=
    ⟨H,Yel hle' ha,rfl,fun d hd=>by cases hd⟩
   have fin:∀ e s,Qvw E C none k c ⟨Z1 fn args,[],h⟩=some (e,s)->(∀ a' w' α',Ext h.next α α'->Turn α h w α' s.h w'->SRel E.G α' s a' w'->Qtv (dom α') e ->
     bodyPostM Fence.wide 0 P fn (fun e w' => ∃ α' r1 h1,(r1=r/\h1=h')/\e=Qsk α' r1/\Xwo (dom α') r1/\Ext h.next α α'/\Turn α h w α' h1 w'/\HRel E.G α' h1 w') (Qku α' e) a' w') ->
     CallsIn Fence.wide 0 P f (args.map (ren α)).toArray w (fun e w' => ∃ α' r1 h1,(r1=r/\h1=h')/\e=Qsk α' r1/\Xwo (dom α') r1/\Ext h.next α α'/\Turn α h w α' h1 w'/\HRel E.G α' h1 w'):=by
    intro e s hex hp
    refine callsIn_of_wp_marks g1 hbody trivial ?_
    refine wpIn_mono (Qzv E hC hL hm c _ _ _ hex α _ w S (fun l hl=>by cases hl)) ?_
    rintro e' a' w' ⟨α',e1,s1,⟨rfl,rfl⟩,rfl,q1,q2,q3,q4⟩
    exact hp a' w' α' q2 q3 q4 q1
   have lv:∀ (s:St) (u:FrameMode),Xg E D fn s.t s.ds u s.h=some (r,h')->∀ a' w' α',Ext h.next α α'->Turn α h w α' s.h w'->SRel E.G α' s a' w'->okM (dom α') u ->
     LeavesInM Fence.wide 0 P fn a'.tmps (fun e w' => ∃ α' r1 h1,(r1=r/\h1=h')/\e=Qsk α' r1/\Xwo (dom α') r1/\Ext h.next α α'/\Turn α h w α' h1 w'/\HRel E.G α' h1 w') a'.defers (Xpc α' u) w':=by
    intro s u hl a' w' α' q2 q3 q4 hu
    rw[q4.ds]
    exact Xq0 E hD s.ds u s.h α' w' a'.tmps r h' hl q4.h q4.t q4.okd hu fun α'' w'' p1 p2 p3 p4=>⟨α'',r,h',⟨rfl,rfl⟩,rfl,p4,q2.trans p1 q3.next,q3.trans p2,p3⟩
   split at hb
   ·rename_i s hex
    refine fin _ s hex fun a' w' α' q2 q3 q4 q1 => ?_
    exact lv s .returning hb a' w' α' q2 q3 q4 trivial
   ·rename_i s hex
    refine fin _ s hex fun a' w' α' q2 q3 q4 q1 => ?_
    exact lv s .returning hb a' w' α' q2 q3 q4 trivial
   ·rename_i ch s hex
    refine fin _ s hex fun a' w' α' q2 q3 q4 q1 => ?_
    exact lv s (.panicking ch) hb a' w' α' q2 q3 q4 q1
   ·cases hb
  ·cases hb
theorem Zk3{E:Env2 P}{C:CallF}(hL:CallsLow C){D:Qov}(hD:Xom D){k:Nat}  {f:FuncId}{args:List Value}{h:Heap}{r:AEnd}{h':Heap}(hb:Za9 E C D k f args h=some (r,h')):LowOK h h':=by
 unfold Za9 at hb
 split at hb
 ·cases hb
 ·split at hb
  ·split at hb <;> first
    | (rename_i hex;exact(Qmh hL _ _ _ _ hex).trans (Xcb hD _ _ _ _ _ hb))
    | cases hb
  ·cases hb
end
def Y52(o:Oper):Bool:=match o.op with
 | .call c=>(match c.callee with | .builtin .recover=>true | _=>false) && c.args.isEmpty
 | _=>false
def Zgt(u:FrameMode):Value × FrameMode:=match u with
 | .panicking ({v,recovered:=false,goexit:=false}::older)=>(v,.panicking ({v,recovered:=true}::older))
 | u=>(.nilIface,u)
def Y75{P:Program}(E:Env2 P)(ops:List Oper):List Oper->FrameMode->St->Option (Exit × FrameMode × St)
 | [],u,s=>some (.normal,u,s)
 | o::r,u,s =>
  match Qg ops s.t o,Qif s o.dst with
  | some true,true=>match Y52 o with
   | true=>Y75 E ops r (Zgt u).2 (s.put o.dst (Zgt u).1 s.h)
   | false=>match J7 o,aop E s.t s.h o with
    | true,some (.val v h)=>Y75 E ops r u (s.put o.dst v h)
    | true,some (.skip h)=>Y75 E ops r u (s.put o.dst Qw h)
    | true,some (.panic v h)=>some (.panic [{v,recovered:=false}],u,{s with h:=h})
    | _,_=>none
  | some false,true=>Y75 E ops r u (s.put o.dst Qw s.h)
  | _,_=>none
def Ygz:List Oper->Bool
 | []=>false
 | o::r=>Y52 o || Ygz r
def Qw1{P:Program}(E:Env2 P)(C:CallF)(k:Nat):Code->FrameMode->St->Option (Exit × FrameMode × St)
 | .seq x y,u,s=>match Qw1 E C k x u s with
  | some (.normal,u',s')=>Qw1 E C k y u' s'
  | r=>r
 | .cond c x y,u,s=>match aev E.G s.t c with
  | some (.bool true)=>Qw1 E C k x u s
  | some (.bool false)=>Qw1 E C k y u s
  | _=>none
 | .region id ops false,u,s=>match Ygz ops.toList with
  | true=>Y75 E ops.toList ops.toList u s
  | false=>match Qvw E C none k (.region id ops false) s with
   | some (e,s')=>some (e,u,s')
   | none=>none
 | c,u,s=>match Qvw E C none k c s with
  | some (e,s')=>some (e,u,s')
  | none=>none
def Xl0{P:Program}(E:Env2 P)(C:CallF)(k:Nat):Qov:=fun f args u h =>
 match E.fn.get f with
 | none=>none
 | some fn=>match fn.body,Nat.ble args.length fn.ntmps with
  | some c,true=>match Qw1 E C k c u ⟨Z1 fn args,[],h⟩with
   | some (.normal,u',⟨t,[],h'⟩) | some (.ret,u',⟨t,[],h'⟩)=>match J4 E fn t h' with
    | some v=>some (.ret v,u',h')
    | none=>none
   | some (.panic ch,u',⟨_,[],h'⟩)=>some (.panic ch,u',h')
   | _=>none
  | _,_=>none
section
variable{P:Program}{G:Bs}{α:Ren}{h:Heap}{w:World}{s:St}{a:Act}
def CWD(P:Program)(G:Bs)(n:Nat)(c:Code)(u:FrameMode)(s:St)(Q:Exit->FrameMode->St->Prop):Prop :=
 ∀ α a w c₀ cs,SRel G α s a w->okM (dom α) u->c₀.mode=Xpc α u->c.wpSIn Fence.wide 0 P (fun e' a' cs' w' => ∃ α' e u' s',Q e u' s'/\e'=Qku α' e/\Qtv (dom α') e/\okM (dom α') u'/\cs' = {c₀ with mode:=Xpc α' u' }::cs/\Ext n α α'/\Turn α s.h w α' s'.h w'/\SRel G α' s' a' w') a (c₀::cs) w
theorem Zl1{n:Nat}{c:Code}{u:FrameMode}{Q:Exit->St->Prop}(hn:n=s.h.next)(h:CW P G none n c s Q):CWD P G n c u s (fun e u' s'=>Q e s'/\u'=u):=by
 subst hn
 intro α a w c₀ cs S hu hm
 refine wpSIn_of_wpIn rfl (wpIn_mono (h α a w S (fun l hl=>by cases hl)) ?_)
 rintro e' a' w' ⟨α',e,s',q,rfl,q1,q2,q3,q4⟩
 have hd:∀ b,dom α b->α' b=α b:=fun b hb=>q2 b (Qih S.h hb)
 refine⟨α',e,u,s',⟨q,rfl⟩,rfl,q1,Zdu (fun b hb=>by simpa[dom,hd b hb]using hb) hu,?_,q2,q3,q4⟩
 rw[Yq0 hd hu,<- hm]
theorem CWD.mono{n m:Nat}{c:Code}{u:FrameMode}{Q Q':Exit->FrameMode->St->Prop}(hc:CWD P G n c u s Q)(hmn:m<=n)(hq:∀ e u' s',Q e u' s'->Q' e u' s'):CWD P G m c u s Q':=by
 intro α a w c₀ cs S hu hm b k h1 h2 h3 h4
 obtain⟨e,a',cs',w',l,⟨α',e1,u1,s1,q,q1,q2,q3,q4,q5,q6⟩,arr⟩:=hc α a w c₀ cs S hu hm b k h1 h2 h3 h4
 exact⟨e,a',cs',w',l,⟨α',e1,u1,s1,hq _ _ _ q,q1,q2,q3,q4,q5.mono hmn,q6⟩,arr⟩
theorem X40{F:Fence}{n:Nat}{c:Code}{Q Q':Exit->Act->List Frame->World->Prop}{cs:List Frame}(hc:c.wpSIn F n P Q a cs w)(hq:∀ e a cs w,Q e a cs w->Q' e a cs w):c.wpSIn F n P Q' a cs w:=by
 intro b k h1 h2 h3 h4
 obtain⟨e,a',cs',w',l,q,arr⟩:=hc b k h1 h2 h3 h4
 exact⟨e,a',cs',w',l,hq _ _ _ _ q,arr⟩
theorem Zre{x y:Code}{u:FrameMode}{Q:Exit->FrameMode->St->Prop}(h:CWD P G s.h.next x u s (fun e u' s'=>s.h.next<=s'.h.next/\(e=.normal->CWD P G s'.h.next y u' s' Q)/\(e ≠ .normal->Q e u' s'))) :
  CWD P G s.h.next (.seq x y) u s Q:=by
 intro α a w c₀ cs S hu hm
 refine wpSIn_seq (X40 (h α a w c₀ cs S hu hm) ?_)
 rintro e' a' cs' w' ⟨α',e,u',s',⟨hn,hq1,hq2⟩,rfl,hoe,hou,rfl,hext,hturn,S'⟩
 by_cases hne:e=.normal
 ·subst hne
  show y.wpSIn _ _ _ _ _ _ _
  refine X40 (hq1 rfl α' a' w' _ cs S' hou rfl) ?_
  rintro e'' a'' cs'' w'' ⟨α'',e2,u'',s'',g1,g2,g3,g4,g5,g6,g7,g8⟩
  exact⟨α'',e2,u'',s'',g1,g2,g3,g4,g5,hext.trans g6 hn,hturn.trans g7,g8⟩
 ·have : ∃ α'_1 e_1 u'_1 s'_1,Q e_1 u'_1 s'_1/\Qku α' e=Qku α'_1 e_1/\Qtv (dom α'_1) e_1/\okM (dom α'_1) u'_1/\{c₀ with mode:=Xpc α' u' }::cs = {c₀ with mode:=Xpc α'_1 u'_1}::cs/\Ext s.h.next α α'_1/\Turn α s.h w α'_1 s'_1.h w'/\SRel G α'_1 s'_1 a' w' :=
   ⟨α',e,u',s',hq2 hne,rfl,hoe,hou,rfl,hext,hturn,S'⟩
  cases e <;> first
   | exact absurd rfl hne
   | exact this
theorem Zc2{c:Operand}{x y:Code}{u:FrameMode}{Q:Exit->FrameMode->St->Prop}{b:Bool}(hc:aev G s.t c=some (.bool b))(h:CWD P G s.h.next (if b then x else y) u s Q):CWD P G s.h.next (.cond c x y) u s Q:=by
 intro α a w c₀ cs S hu hm
 exact wpSIn_cond (by rw[(Xef S.h S.t hc).2,ren_bool]) (h α a w c₀ cs S hu hm)
theorem Zso{u:FrameMode}(hu:okM (dom α) u){c₀:Frame}(cs:List Frame)(hm:c₀.mode=Xpc α u) :
  okV (dom α) (Zgt u).1/\okM (dom α) (Zgt u).2 /\
  (recoverD (c₀::cs)=some (ren α (Zgt u).1,{c₀ with mode:=Xpc α (Zgt u).2}::cs)∨(recoverD (c₀::cs)=none/\(Zgt u).1=.nilIface/\(Zgt u).2=u)):=by
 unfold Zgt
 split
 ·rename_i v older
  simp only[okM]at hu
  have hv:=hu {v:=v,recovered:=false} List.mem_cons_self
  refine⟨hv,fun p hp => ?_,.inl ?_⟩
  ·rcases List.mem_cons.1 hp with rfl | h
   ·exact hv
   ·exact hu p (List.mem_cons_of_mem _ h)
  ·simp[recoverD,hm,Xpc,Xzl]
 ·rename_i hne
  refine⟨by simp[okV],hu,.inr ⟨?_,rfl,rfl⟩⟩
  simp only[recoverD,hm]
  cases u with
  | panicking ch =>
   cases ch with
   | nil=>simp[Xpc]
   | cons p older =>
    obtain⟨v,r,g⟩:=p
    cases r <;> cases g <;> simp[Xpc,Xzl]
    exact hne _ _ rfl
  | _=>simp[Xpc]
theorem Zh4{o:Oper}(hr:Y52 o=true)(a:Act)(w:World):(execOp a.eval o).run P w=.ok .recover w:=by
 unfold Y52 at hr
 split at hr
 ·rename_i c hop
  simp only[Bool.and_eq_true]at hr
  obtain⟨h1,h2⟩:=hr
  split at h1
  ·rename_i hb
   have : c.args = #[]:=by simpa using h2
   simp[execOp,hop,resolve,hb,invoke,builtin,this]
  ·cases h1
 ·cases hr
theorem X5j(E:Env2 P){ops:Array Oper}{Q:Exit->Act->List Frame->World->Prop}:∀ (l:List Oper) (i:Nat) (u:FrameMode) (s:St) (α:Ren) (a:Act) (w:World) (c₀:Frame) (cs:List Frame) (e:Exit) (u1:FrameMode) (s1:St),
  ops.toList.drop i=l->Y75 E ops.toList l u s=some (e,u1,s1)->SRel E.G α s a w->okM (dom α) u->c₀.mode=Xpc α u ->
  (∀ α' a' w',Ext s.h.next α α'->Turn α s.h w α' s1.h w'->SRel E.G α' s1 a' w'->Qtv (dom α') e->okM (dom α') u1->Q (Qku α' e) a' ({c₀ with mode:=Xpc α' u1}::cs) w') ->
  wpOpsSIn Fence.wide 0 P ops Q (List.range' i l.length) a (c₀::cs) w
 | [],i,u,s,α,a,w,c₀,cs,e,u1,s1,_,h,S,hu,hm,hQ=>by
  simp only[Y75,Option.some.injEq,Prod.mk.injEq]at h
  obtain⟨rfl,rfl,rfl⟩:=h
  have:=hQ α a w (Ext.refl _ _) (Turn.refl _ _ _) S trivial hu
  rw[<- hm]at this
  exact this
 | o::r,i,u,s,α,a,w,c₀,cs,e,u1,s1,hdrop,h,S,hu,hm,hQ=>by
  have ho:ops[i]? = some o:=by
   have:=congrArg (fun l=>l[0]?) hdrop
   simpa[List.getElem?_drop]using this
  have hdrop':ops.toList.drop (i+1)=r:=by
   have:=congrArg List.tail hdrop
   simpa[List.tail_drop]using this
  simp only[List.length_cons,List.range'_succ,wpOpsSIn,ho]
  refine⟨fun _ _=>trivial,?_⟩
  simp only[Y75]at h
  split at h
  ·rename_i hw hdst
   rw[if_pos (Qnt (G:=E.G) S.t hw)]
   split at h
   ·rename_i hrec
    rw[Zh4 hrec a w]
    obtain⟨r1,r2,r3⟩:=Zso (α:=α) hu cs hm
    have S':=S.put (d:=o.dst) hdst r1
    have hh:(s.put o.dst (Zgt u).1 s.h).h=s.h:=Qqw _ _ _ _
    rcases r3 with r3 | ⟨r3,r4,r5⟩
    ·simp only[r3]
     exact X5j E (Q:=Q) r (i+1) _ _ α _ w _ cs e u1 s1 hdrop' h S' r2 rfl (by rw[hh];exact hQ)
    ·simp only[r3]
     have:=X5j E (Q:=Q) r (i+1) _ _ α _ w c₀ cs e u1 s1 hdrop' h S' r2 (by rw[r5];exact hm) (by rw[hh];exact hQ)
     rw[r4]at this
     simpa[ren]using this
   ·rename_i hrec
    split at h
    ·rename_i v h2 hnd hr
     obtain⟨α',w',q1,q2,q3,q4,q5⟩:=Qs2 E S.h S.t hr
     rw[q1]
     have S1:=S.step q3 q4
     have S2:=S1.put (d:=o.dst) (v:=v) (by cases hd:o.dst <;> simp only[hd,Qif]at hdst ⊢;exact hdst) q2
     have hd:∀ b,dom α b->α' b=α b:=fun b hb=>q3 b (Qih S.h hb)
     have hh:(s.put o.dst v h2).h=h2:=Qqw _ _ _ _
     refine X5j E (Q:=Q) r (i+1) _ _ α' _ w' c₀ cs e u1 s1 hdrop' h (by rw[St.put_h];exact S2) (Zdu (fun b hb=>by simpa[dom,hd b hb]using hb) hu) (by rw[hm,Yq0 hd hu]) ?_
     rw[hh]
     exact fun α'' a'' w'' g1 g2 g3 g4 g5=>hQ α'' a'' w'' (q3.trans g1 q5.next) (q5.trans g2) g3 g4 g5
    ·rename_i h2 hnd hr
     obtain⟨w',q1,q2,q3⟩:=Qs2 E S.h S.t hr
     rw[q1]
     have S1:=S.step (Ext.refl _ _) q2
     have S2:=S1.putU (d:=o.dst) (by cases hd:o.dst <;> simp only[hd,Qif]at hdst ⊢;exact hdst)
     have hh:(s.put o.dst Qw h2).h=h2:=Qqw _ _ _ _
     refine X5j E (Q:=Q) r (i+1) _ _ α _ w' c₀ cs e u1 s1 hdrop' h (by rw[St.put_h];exact S2) hu hm ?_
     rw[hh]
     exact fun α'' a'' w'' g1 g2 g3 g4 g5=>hQ α'' a'' w'' (Ext.trans (Ext.refl _ _) g1 q3.next) (q3.trans g2) g3 g4 g5
    ·rename_i v h2 hnd hr
     obtain⟨rfl,q1,q2⟩:=Qs2 E S.h S.t hr
     rw[q1]
     cases h
     have:=hQ α a w (Ext.refl _ _) (Turn.refl _ _ _) S (by simpa[Qtv]using q2) hu
     rw[<- hm]at this
     exact this
    ·cases h
  ·rename_i hw hdst
   rw[if_neg (by rw[Qnt (G:=E.G) S.t hw];simp)]
   have hh:(s.put o.dst Qw s.h).h=s.h:=Qqw _ _ _ _
   exact X5j E (Q:=Q) r (i+1) _ _ α _ w c₀ cs e u1 s1 hdrop' h (S.putU hdst) hu hm (by rw[hh];exact hQ)
  ·cases h
theorem X09{E:Env2 P}{ops:List Oper}:∀ (l:List Oper) (u:FrameMode) (s:St) (e:Exit) (u1:FrameMode) (s1:St),Y75 E ops l u s=some (e,u1,s1)->LowOK s.h s1.h
 | [],u,s,e,u1,s1,h=>by simp only[Y75,Option.some.injEq,Prod.mk.injEq]at h;rw[<- h.2.2];exact LowOK.refl _
 | o::r,u,s,e,u1,s1,h=>by
  simp only[Y75]at h
  split at h
  ·split at h
   ·have:=X09 r _ _ _ _ _ h;rwa [Qqw]at this
   ·split at h
    ·rename_i hr;have:=X09 r _ _ _ _ _ h;rw[Qqw]at this;exact LowOK.trans (Qq2 hr) this
    ·rename_i hr;have:=X09 r _ _ _ _ _ h;rw[Qqw]at this;exact LowOK.trans (Qq2 hr) this
    ·rename_i hr;cases h;exact Qq2 hr
    ·cases h
  ·have:=X09 r _ _ _ _ _ h;rwa [Qqw]at this
  ·cases h
theorem Xok{E:Env2 P}{C:CallF}(hL:CallsLow C){k:Nat}:∀ (c:Code) (u:FrameMode) (s:St) (e:Exit) (u1:FrameMode) (s1:St),Qw1 E C k c u s=some (e,u1,s1)->LowOK s.h s1.h:=by
 have base:∀ (c:Code) (u:FrameMode) (s:St) (e:Exit) (u1:FrameMode) (s1:St),(match Qvw E C none k c s with | some (e,s')=>some (e,u,s') | none=>none)=some (e,u1,s1)->LowOK s.h s1.h:=by
  intro c u s e u1 s1 h
  split at h
  ·rename_i hx;cases h;exact Qmh hL _ _ _ _ hx
  ·cases h
 intro c
 induction c with
 | seq x y ihx ihy =>
  intro u s e u1 s1 h
  simp only[Qw1]at h
  split at h
  ·rename_i hx;exact(ihx _ _ _ _ _ hx).trans (ihy _ _ _ _ _ h)
  ·exact ihx _ _ _ _ _ h
 | cond c x y ihx ihy =>
  intro u s e u1 s1 h
  simp only[Qw1]at h
  split at h
  ·exact ihx _ _ _ _ _ h
  ·exact ihy _ _ _ _ _ h
  ·cases h
 | region id ops d =>
  intro u s e u1 s1 h
  cases d with
  | true=>simp only[Qw1]at h;exact base _ _ _ _ _ _ h
  | false =>
   simp only[Qw1]at h
   split at h
   ·exact X09 _ _ _ _ _ _ h
   ·exact base _ _ _ _ _ _ h
 | skip=>exact base Code.skip
 | block id c _=>exact base (Code.block id c)
 | loop c _=>exact base (Code.loop c)
 | rangeFunc f ps x y _ _=>exact base (Code.rangeFunc f ps x y)
 | exit id=>exact base (Code.exit id)
 | scope c _=>exact base (Code.scope c)
 | label l=>exact base (Code.label l)
 | goto l=>exact base (Code.goto l)
 | ret=>exact base Code.ret
 | refuse y=>exact base (Code.refuse y)
theorem Znl(E:Env2 P){C:CallF}(hC:CallsSound P E.G C)(hL:CallsLow C)(hm:P.follows .mixedOrders=true){k:Nat}:∀ (c:Code) (u:FrameMode) (s:St) (e:Exit) (u1:FrameMode) (s1:St),Qw1 E C k c u s=some (e,u1,s1) ->
  CWD P E.G s.h.next c u s (fun e' u' s'=>e'=e/\u'=u1/\s'=s1):=by
 have base:∀ (c:Code) (u:FrameMode) (s:St) (e:Exit) (u1:FrameMode) (s1:St),(match Qvw E C none k c s with | some (e,s')=>some (e,u,s') | none=>none)=some (e,u1,s1)->CWD P E.G s.h.next c u s (fun e' u' s'=>e'=e/\u'=u1/\s'=s1):=by
  intro c u s e u1 s1 h
  split at h
  ·rename_i hx;cases h
   refine(Zl1 rfl (Qzv E hC hL hm c _ _ _ hx)).mono (Nat.le_refl _) ?_
   rintro e' u' s' ⟨⟨rfl,rfl⟩,rfl⟩;exact⟨rfl,rfl,rfl⟩
  ·cases h
 intro c
 induction c with
 | seq x y ihx ihy =>
  intro u s e u1 s1 h
  simp only[Qw1]at h
  refine Zre ?_
  split at h
  ·rename_i hx
   refine(ihx _ _ _ _ _ hx).mono (Nat.le_refl _) ?_
   rintro e' u' s' ⟨rfl,rfl,rfl⟩
   exact⟨(Xok hL x _ _ _ _ _ hx).next,fun _=>ihy _ _ _ _ _ h,fun hne=>absurd rfl hne⟩
  ·rename_i hne
   refine(ihx _ _ _ _ _ h).mono (Nat.le_refl _) ?_
   rintro e' u' s' ⟨rfl,rfl,rfl⟩
   refine⟨(Xok hL x _ _ _ _ _ h).next,fun he => ?_,fun _=>⟨rfl,rfl,rfl⟩⟩
   subst he;exact absurd h (hne _ _)
 | cond c x y ihx ihy =>
  intro u s e u1 s1 h
  simp only[Qw1]at h
  split at h
  ·rename_i hc;exact Zc2 hc (ihx _ _ _ _ _ h)
  ·rename_i hc;exact Zc2 hc (ihy _ _ _ _ _ h)
  ·cases h
 | region id ops d =>
  intro u s e u1 s1 h
  cases d with
  | true=>simp only[Qw1]at h;exact base _ _ _ _ _ _ h
  | false =>
   simp only[Qw1]at h
   split at h
   ·intro α a w c₀ cs S hu hm'
    have:=X5j E (ops:=ops) ops.toList 0 u s α a w c₀ cs e u1 s1 rfl h S hu hm'
     (Q:=fun e' a' cs' w' => ∃ α' e_1 u' s',(e_1=e/\u'=u1/\s'=s1)/\e'=Qku α' e_1/\Qtv (dom α') e_1/\okM (dom α') u'/\cs' = {c₀ with mode:=Xpc α' u' }::cs/\Ext s.h.next α α'/\Turn α s.h w α' s'.h w'/\SRel E.G α' s' a' w')
     (fun α' a' w' h1 h2 h3 h4 h5=>⟨α',e,u1,s1,⟨rfl,rfl,rfl⟩,rfl,h4,h5,rfl,h1,h2,h3⟩)
    rw[Array.length_toList,<- List.range_eq_range']at this
    exact wpSIn_region this
   ·exact base _ _ _ _ _ _ h
 | _=>intro u s e u1 s1 h;simp only[Qw1]at h;exact base _ _ _ _ _ _ h
theorem Y0e(E:Env2 P){C:CallF}(hC:CallsSound P E.G C)(hL:CallsLow C)(hm:P.follows .mixedOrders=true){k:Nat}:Qth P E.G (Xl0 E C k):=by
 intro f args u h r u1 h1 hb α w H ha hu
 unfold Xl0 at hb
 split at hb
 ·cases hb
 ·rename_i fn hfn
  obtain⟨g1,g2,g3⟩:=E.fnok _ _ hfn
  split at hb
  ·rename_i c hbody hle
   have hle':args.length<=fn.ntmps:=by simpa using hle
   have S:SRel E.G α ⟨Z1 fn args,[],h⟩ {tmps:=(args.map (ren α)).toArray++Array.replicate (fn.ntmps-(args.map (ren α)).toArray.size) undef,defers:=[]} w :=
    ⟨H,Yel hle' ha,rfl,fun d hd=>by cases hd⟩
   have fin:∀ e u' s,Qw1 E C k c u ⟨Z1 fn args,[],h⟩=some (e,u',s)->(∀ a' w' α' c₀ cs,Ext h.next α α'->Turn α h w α' s.h w'->SRel E.G α' s a' w'->Qtv (dom α') e->okM (dom α') u' ->
     bodyPostS P fn c₀ cs (fun e um w' => ∃ α',e=Qsk α' r/\um=Xpc α' u1/\Xwo (dom α') r/\okM (dom α') u1/\Ext h.next α α'/\Turn α h w α' h1 w'/\HRel E.G α' h1 w') (Qku α' e) a' ({c₀ with mode:=Xpc α' u' }::cs) w') ->
     CallsDIn Fence.wide 0 P f (args.map (ren α)).toArray (Xpc α u) w (fun e um w' => ∃ α',e=Qsk α' r/\um=Xpc α' u1/\Xwo (dom α') r/\okM (dom α') u1/\Ext h.next α α'/\Turn α h w α' h1 w'/\HRel E.G α' h1 w'):=by
    intro e u' s hex hp
    refine callsDIn_of_wpSIn g1 hbody trivial fun c₀ cs hc₀ => ?_
    refine X40 (Znl E hC hL hm c _ _ _ _ _ hex α _ w c₀ cs S hu hc₀) ?_
    rintro e' a' cs' w' ⟨α',e1,u2,s1,⟨rfl,rfl,rfl⟩,rfl,q1,q2,rfl,q3,q4,q5⟩
    exact hp a' w' α' c₀ cs q3 q4 q5 q1 q2
   split at hb
   ·rename_i u' t h' hex
    split at hb
    ·rename_i v hv
     cases hb
     refine fin _ _ _ hex fun a' w' α' c₀ cs q3 q4 q5 q1 q2 => ?_
     obtain⟨i1,i2⟩:=Y94 E q5.h q5.t hv
     exact⟨q5.ds,_,rfl,_,i2,α',rfl,rfl,i1,q2,q3,q4,q5.h⟩
    ·cases hb
   ·rename_i u' t h' hex
    split at hb
    ·rename_i v hv
     cases hb
     refine fin _ _ _ hex fun a' w' α' c₀ cs q3 q4 q5 q1 q2 => ?_
     obtain⟨i1,i2⟩:=Y94 E q5.h q5.t hv
     exact⟨q5.ds,_,rfl,_,i2,α',rfl,rfl,i1,q2,q3,q4,q5.h⟩
    ·cases hb
   ·rename_i ch u' t h' hex
    cases hb
    refine fin _ _ _ hex fun a' w' α' c₀ cs q3 q4 q5 q1 q2 => ?_
    exact⟨q5.ds,_,rfl,α',rfl,rfl,q1,q2,q3,q4,q5.h⟩
   ·cases hb
  ·cases hb
theorem Yph{E:Env2 P}{C:CallF}(hL:CallsLow C){k:Nat}:Xom (Xl0 E C k):=by
 intro f args u h r u1 h1 hb
 unfold Xl0 at hb
 split at hb
 ·cases hb
 ·split at hb
  ·split at hb
   ·rename_i hex
    split at hb
    ·cases hb;exact Xok hL _ _ _ _ _ _ hex
    ·cases hb
   ·rename_i hex
    split at hb
    ·cases hb;exact Xok hL _ _ _ _ _ _ hex
    ·cases hb
   ·rename_i hex;cases hb;exact Xok hL _ _ _ _ _ _ hex
   ·cases hb
  ·cases hb
end
abbrev Q83:=FuncId->List Value->Heap->Option (AEnd × Heap)
def Qmo(P:Program)(G:Bs)(X:Q83):Prop:=∀ f args h r h',X f args h=some (r,h')->CallOK P G f args h (fun r1 h1=>r1=r/\h1=h')
def Qsx(X:Q83):Prop:=∀ f args h r h',X f args h=some (r,h')->LowOK h h'
def Yjq{P:Program}(E:Env2 P)(X:Q83)(k:Nat):Nat->CallF
 | 0=>⟨X,fun _ _ _=>none⟩
 | n+1=>⟨fun f args h=>match X f args h with
   | some r=>some r
   | none=>Za9 E (Yjq E X k n) (Xl0 E (Yjq E X k n) k) k f args h,fun l args h=>Ydt E (Yjq E X k n) k l args h⟩
section
variable{P:Program}
theorem Yee(E:Env2 P){X:Q83}(hL:Qsx X)(k:Nat):∀ n,CallsLow (Yjq E X k n)
 | 0=>⟨hL,fun _ _ _ _ _ h=>by cases h⟩
 | n+1=>by
  have ih:=Yee E hL k n
  refine⟨fun f args h r h' hc => ?_,fun l args h r h' hc=>Zf5 ih hc⟩
  simp only[Yjq]at hc
  split at hc
  ·rename_i hx;cases hc;exact hL _ _ _ _ _ hx
  ·exact Zk3 ih (Yph ih) hc
theorem Yt2(E:Env2 P){X:Q83}(hX:Qmo P E.G X)(hL:Qsx X)(hm:P.follows .mixedOrders=true)(k:Nat):∀ n,CallsSound P E.G (Yjq E X k n)
 | 0=>⟨hX,fun _ _ _ _ _ h=>by cases h⟩
 | n+1=>by
  have ih:=Yt2 E hX hL hm k n
  have il:=Yee E hL k n
  refine⟨fun f args h r h' hc => ?_,fun l args h r h' hc=>Zho E ih il hm hc⟩
  simp only[Yjq]at hc
  split at hc
  ·rename_i hx;cases hc;exact hX _ _ _ _ _ hx
  ·exact Zn3 E ih il hm (Y0e E ih il hm) hc
def Zp6:Q83:=fun _ _ _=>none
theorem Zdg(G:Bs):Qmo P G Zp6:=fun _ _ _ _ _ h=>by cases h
theorem Ydc:Qsx Zp6:=fun _ _ _ _ _ h=>by cases h
end
end Go.Ab
