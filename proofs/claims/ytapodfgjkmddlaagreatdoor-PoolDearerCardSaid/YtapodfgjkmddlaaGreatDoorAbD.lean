import Derived.Test.YtapodfgjkmddlaaGreatDoorAbC
import Derived.RangeFuncIn
import Derived.RecoverIn
set_option linter.all false
noncomputable section
namespace Go.Ab
section
variable{P:Program}{G:Bs}{Y:Ren}{h:Heap}{w:World}
def Y4i(E:Env2 P){f:FuncId}{F:Func}(hF:E.fn.get f=some F)(cap args:Array Value)(w:World):(invoke (.fn (.func f) cap) args).run P w=.ok (.enter f (args++cap)) w:=by
 obtain⟨g1,g2,g3⟩:=E.fnok _ _ hF;have hbody:F.body.isNone=false:=by cases hb:F.body <;> simp[hb]at g3 ⊢
 simp only[aq,aJ,ac,invoke,callFunc,run_program,g1,g2,av,if_false,hbody]
def Xu3(H:HRel G Y h w){l:Nat}(hl:dom Y l){st:LoopState}{pend:Option Code}{t:Tm}{ps:Array Tmp}{as bd:Code}{d:Nat}(hg:h.get l=some (.obj (.loop st pend t ps as bd d))) :
  ∃ r:Loop,w.heap[W8 Y l]? = some (.loop r)/\r.state=st/\r.pending=pend/\r.params=ps/\r.assign=as/\r.body=bd/\TRel Y t r.tmps/\dom Y d/\r.defers=W8 Y d /\
   ∀ st' pend',HRel G Y (h.set l (some (.obj (.loop st' pend' t ps as bd d)))) (w.putObj (W8 Y l) (.loop {r with state:=st',pending:=pend' })) /\
    Turn Y h w Y (h.set l (some (.obj (.loop st' pend' t ps as bd d)))) (w.putObj (W8 Y l) (.loop {r with state:=st',pending:=pend' })):=by
 obtain⟨p,hp⟩:=az.1 hl;obtain⟨f0,o,f1,hd,fn,tmps,rfl,ht⟩:=H.fits l p _ hp hg;have e:W8 Y l=p.blk:=by simp[W8,hp]
 rw[e];refine⟨_,f1,rfl,rfl,rfl,rfl,rfl,ht,hd,rfl,fun st' pend' => ?_⟩;have hlt:=H.blk_lt hp hg rfl;exact H.upd hp (by rw[Q05 hg];rfl) (x:=.obj (.loop st' pend' t ps as bd d)) rfl ⟨f0,_,Qtz hlt,hd,fn,tmps,rfl,ht⟩
def Zi6:Exit->Option (Option Code)
 | .normal=>some none
 | .ret=>some (some .ret)
 | .exit id=>some (some (.exit id))
 | _=>none
def Xid(t:Tm)(ds:List Deferred)(l:Nat):Option (AEnd × Heap)->Option (Exit × St)
 | some (.ret _,h)=>match h.get l with
  | some (.obj (.loop .busy _ _ _ _ _ _))=>none
  | some (.obj (.loop _ none _ _ _ _ _))=>some (.normal,⟨t,ds,h.set l none⟩)
  | some (.obj (.loop _ (some .ret) _ _ _ _ _))=>some (.ret,⟨t,ds,h.set l none⟩)
  | some (.obj (.loop _ (some (.exit id)) _ _ _ _ _))=>some (.exit id,⟨t,ds,h.set l none⟩)
  | _=>none
 | some (.panic ch,h)=>some (.panic ch,⟨t,ds,h⟩)
 | none=>none
def Z93{P:Program}(E:Env2 P)(C:CallF)(rd:Option Nat)(g:Operand)(ps:Array Tmp)(as bd:Code)(s:St):Option (Exit × St) :=
 match aev E.G s.t g with
 | some (.func (.func f) first captured)=>match E.fn.get f with
  | none=>none
  | some _=>match rd with
   | none=>Xid s.t ({target:=.collected s.h.next,args:=#[]}::s.ds) (s.h.next+1)
     (C.fn f (first.toList ++ [.func (.yield (s.h.next+1)) #[] #[]]++captured.toList) ((s.h.push (.obj .defs)).push (.obj (.loop .ready none s.t ps as bd s.h.next))))
   | some l0=>match s.h.get l0 with
    | some (.obj (.loop _ _ _ _ _ _ d))=>Xid s.t s.ds s.h.next
      (C.fn f (first.toList ++ [.func (.yield s.h.next) #[] #[]]++captured.toList) (s.h.push (.obj (.loop .ready none s.t ps as bd d))))
    | _=>none
 | _=>none
def Y56{t:Tm}{ds:List Deferred}{l:Nat}{r:AEnd}{h:Heap}{e:Exit}{s1:St}(hh:Xid t ds l (some (r,h))=some (e,s1)):LowOK h s1.h:=by
 cases r with
 | ret v =>
  unfold Xid at hh;split at hh
  ·rename_i hq;cases hq;split at hh <;> first
    | cases hh;done
    | (cases hh;exact LowOK.set _ _ _ (Heap.get_lt (by assumption)))
  ·rename_i hq;cases hq
  ·cases hh
 | panic ch =>
  unfold Xid at hh;cases hh;exact LowOK.refl _
def Jeg{E:Env2 P}{C:CallF}(hC:CallsLow C){rd:Option Nat}{g:Operand}{ps:Array Tmp}{as bd:Code}{s s1:St}{e:Exit}(hh:Z93 E C rd g ps as bd s=some (e,s1)):LowOK s.h s1.h:=by
 unfold Z93 at hh;split at hh
 ·split at hh
  ·cases hh
  ·split at hh
   ·cases hc:C.fn _ _ _ with
    | none=>rw[hc]at hh;simp[Xid]at hh
    | some x =>
     obtain⟨r,h2⟩:=x;rw[hc]at hh;exact(((LowOK.push _ _).trans (LowOK.push _ _)).trans (hC.fn _ _ _ _ _ hc)).trans (Y56 hh)
   ·split at hh
    ·cases hc:C.fn _ _ _ with
     | none=>rw[hc]at hh;simp[Xid]at hh
     | some x =>
      obtain⟨r,h2⟩:=x;rw[hc]at hh;exact((LowOK.push _ _).trans (hC.fn _ _ _ _ _ hc)).trans (Y56 hh)
    ·cases hh
 ·cases hh
def Z4x{a:Act}{w3:World}{Y3:Ren}{t:Tm}{ds:List Deferred}{l:Nat}{r:AEnd}{h3:Heap}{e:Exit}{s1:St}{F:Fence}{n:Nat}{Q:Exit->Act->World->Prop}
  (hh:Xid t ds l (some (r,h3))=some (e,s1)) (hl:dom Y3 l) (hr:Xy1 (dom Y3) r) (S:SRel G Y3 ⟨t,ds,h3⟩ a w3)
  (hQ:∀ w',Turn Y3 h3 w3 Y3 s1.h w'->SRel G Y3 s1 a w'->Q24 (dom Y3) e->Q (Qos Y3 e) a w') :
  rangePost F n P (W8 Y3 l) Q a (Qz1 Y3 r) w3:=by
 cases r with
 | panic ch =>
  unfold Xid at hh;cases hh;exact hQ w3 (Turn.refl _ _ _) S hr
 | ret v =>
  unfold Xid at hh;split at hh
  ·rename_i hq;cases hq;have key:∀ {st pend t' ps as bd d},h3.get l=some (.obj (.loop st pend t' ps as bd d))->st ≠ .busy->∃ w4,(Instr.endLoop (W8 Y3 l)).run P w3=.ok pend w4/\HRel G Y3 (h3.set l none) w4/\Turn Y3 h3 w3 Y3 (h3.set l none) w4:=by
    intro st pend t' ps as bd d hg hst;obtain⟨r,r1,r2,r3,_,_,_,_,_,_,r4⟩:=Xu3 S.h hl hg;obtain⟨H4,T4⟩:=r4 .exhausted pend;have hlt:=Heap.get_lt hg;have hk:=H4.kill (b:=l) hlt;rw[Z06]at hk;subst r3;exact⟨_,run_endLoop r1 (by rw[r2];exact hst),hk.1,T4.trans hk.2⟩
   have fin:∀ {w4:World},HRel G Y3 (h3.set l none) w4->SRel G Y3 ⟨t,ds,h3.set l none⟩ a w4:=fun H4=>S.step (Ext.refl _ _) H4;split at hh
   ·cases hh
   ·rename_i hb hg;cases hh;obtain⟨w4,e1,e2,e3⟩:=key hg hb;exact⟨none,w4,e1,hQ w4 e3 (fin e2) trivial⟩
   ·rename_i hb hg;cases hh;obtain⟨w4,e1,e2,e3⟩:=key hg hb;exact⟨_,w4,e1,wpIn_ret (hQ w4 e3 (fin e2) trivial)⟩
   ·rename_i hb hg;cases hh;obtain⟨w4,e1,e2,e3⟩:=key hg hb;exact⟨_,w4,e1,wpIn_exit (hQ w4 e3 (fin e2) trivial)⟩
   ·cases hh
  ·rename_i hq;cases hq
  ·cases hh
def Zhx(w:World)(o:Obj):(w.alloc o).heap.size=w.heap.size+1:=Array.size_push _
def Zow(H:HRel G Y h w){x:AObj}{o:Obj}(hf:FitObj (Ren.add Y h.next ⟨w.heap.size,0,0,0,none⟩) o x) :
  ∃ Y',HRel G Y' (h.push (.obj x)) (w.alloc o)/\Turn Y h w Y' (h.push (.obj x)) (w.alloc o)/\dom Y' h.next/\W8 Y' h.next=w.heap.size/\Ext h.next Y Y' :=
 have h1:=H.push (x:=.obj x) rfl (p:=⟨w.heap.size,0,0,0,none⟩) rfl (o:=o) (w':=w.alloc o) rfl ⟨rfl,o,World.alloc_heap_new _ _,hf⟩
 ⟨_,h1.1,h1.2,by show(Ren.add _ _ _ _).isSome=true;rw[eF];rfl,by unfold W8;rw[eF],eH _ _ _⟩
def Yjd(H:HRel G Y h w){t:Tm}{tmps:Array Value}{ps:Array Tmp}{as bd:Code}{d:Nat}(ht:TRel Y t tmps)(hd:dom Y d)(fn:FuncId) :
  ∃ Y',HRel G Y' (h.push (.obj (.loop .ready none t ps as bd d))) (w.alloc (.loop {state:=.ready,pending:=none,fn,tmps,params:=ps,assign:=as,body:=bd,defers:=W8 Y d})) /\
   Turn Y h w Y' (h.push (.obj (.loop .ready none t ps as bd d))) (w.alloc (.loop {state:=.ready,pending:=none,fn,tmps,params:=ps,assign:=as,body:=bd,defers:=W8 Y d})) /\
   dom Y' h.next/\W8 Y' h.next=w.heap.size/\Ext h.next Y Y':=by
 have hc:∀ b,dom Y b->Ren.add Y h.next ⟨w.heap.size,0,0,0,none⟩ b=Y b:=H.add_dom _;exact Zow H ⟨by simpa[dom,hc d hd]using hd,fn,tmps,by rw[Qc5 (hc d hd)],ht.keep hc⟩
def Zxt{Y2:Ren}{first captured:Array Value}{l k:Nat}(g1:(∀ v ∈ first,okV (dom Y) v)/\∀ v ∈ captured,okV (dom Y) v)(hc:∀ b,dom Y b->Y2 b=Y b)(hl:dom Y2 l)(hk:W8 Y2 l=k) :
  first.map (ren Y) ++ #[Value.func (.yield k) #[] #[]]++captured.map (ren Y)=((first.toList ++ [Value.func (.yield l) #[] #[]]++captured.toList).map (ren Y2)).toArray /\
  ∀ v ∈ first.toList ++ [Value.func (.yield l) #[] #[]]++captured.toList,okV (dom Y2) v:=by
 have hd:∀ b,dom Y b->dom Y2 b:=fun b hb=>by simpa[dom,hc b hb]using hb
 constructor
 ·have e1:∀ A:Array Value,(∀ v ∈ A,okV (dom Y) v)->A.map (ren Y)=A.map (ren Y2):=fun A hA=>by
   apply cZ;intro v hv;exact(ren_congr hc v (hA v hv)).symm
  rw[e1 _ g1.1,e1 _ g1.2,<- hk];apply bu;simp[ren,Ykn,Qub]
 ·intro v hv;simp only[al,cY,aw]at hv;rcases hv with(hv | rfl) | hv
  ·exact okV_mono hd v (g1.1 v hv)
  ·simp only[okV,okA,okL];exact⟨hl,trivial,trivial⟩
  ·exact okV_mono hd v (g1.2 v hv)
def Jma(E:Env2 P){C:CallF}(hC:CallsSound P E.G C)(hL:CallsLow C){rd:Option Nat}{g:Operand}{ps:Array Tmp}{as bd:Code}{s s1:St}{e:Exit}(hh:Z93 E C rd g ps as bd s=some (e,s1)) :
  CW P E.G rd s.h.next (.rangeFunc g ps as bd) s (fun e' s'=>e'=e/\s'=s1):=by
 intro Y a w S hl;unfold Z93 at hh;split at hh
 ·rename_i f first captured hg
  obtain⟨g1,g2⟩:=Xvk S.h S.t hg;split at hh
  ·cases hh
  ·rename_i F hF;obtain⟨q1,q2,q3⟩:=E.fnok _ _ hF;have hbody:F.body.isNone=false:=by cases hb:F.body <;> simp[hb]at q3 ⊢
   have g3:a.eval g=.func (.func f) (first.map (ren Y)) (captured.map (ren Y)):=by rw[g2];simp[ren,Ykn,Qub]
   simp only[okV,Q8x]at g1;have hinv:∀ (args:Array Value) (w:World),(invoke (.fn (.func f) (captured.map (ren Y))) args).run P w=.ok (.enter f (args++captured.map (ren Y))) w:=fun args w=>Y4i E hF _ _ w;have go:∀ (Y2:Ren) (w2:World) (h2:Heap) (l:Nat) (ds:List Deferred) (mark:List Deferred),Ext s.h.next Y Y2->s.h.next<=h2.next->HRel E.G Y2 h2 w2->Turn Y s.h w Y2 h2 w2->dom Y2 l ->
     (mark++a.defers=ds.map (Qxs Y2))->(∀ d ∈ ds,Yes (dom Y2) d) ->
     Xid s.t ds l (C.fn f (first.toList ++ [.func (.yield l) #[] #[]]++captured.toList) h2)=some (e,s1) ->
     CallsIn (Qvk rd Y) 0 P f (first.map (ren Y) ++ #[Value.func (.yield (W8 Y2 l)) #[] #[]]++captured.map (ren Y)) w2 (rangePost (Qvk rd Y) 0 P (W8 Y2 l)
      (fun e' a' w' => ∃ Y' e0 s',(e0=e/\s'=s1)/\e'=Qos Y' e0/\Q24 (dom Y') e0/\Ext s.h.next Y Y'/\Turn Y s.h w Y' s'.h w'/\SRel E.G Y' s' a' w') {a with defers:=mark++a.defers}):=by
    intro Y2 w2 h2 l ds mark he hn H2 T2 hl2 hds hok haft;have hcongr:∀ b,dom Y b->Y2 b=Y b:=fun b hb=>he b (Qkr S.h hb);obtain⟨a1,a2⟩:=Zxt g1 hcongr hl2 rfl;rw[a1];cases hc:C.fn f (first.toList ++ [.func (.yield l) #[] #[]]++captured.toList) h2 with
    | none=>rw[hc]at haft;simp[Xid]at haft
    | some x =>
     obtain⟨r,h3⟩:=x;rw[hc]at haft;refine Xfy ((hC.fn _ _ _ _ _ hc Y2 w2 H2 a2).mono ?_);rintro e' w3 ⟨Y3,r',h3',⟨rfl,rfl⟩,rfl,k1,k2,k3,k4⟩;have hc3:∀ b,dom Y2 b->Y3 b=Y2 b:=fun b hb=>k2 b (Qkr H2 hb);have hl3:dom Y3 l:=(by simpa[dom,hc3 l hl2]using hl2);have er:W8 Y2 l=W8 Y3 l:=(Qc5 (hc3 l hl2)).symm;have S3:SRel E.G Y3 ⟨s.t,ds,h3'⟩ {a with defers:=mark++a.defers} w3:=by
      refine⟨k4,(S.t.keep hcongr).keep hc3,?_,fun d hd=>Xct (fun b hb=>by simpa[dom,hc3 b hb]using hb) (hok d hd)⟩;show mark++a.defers=_;rw[hds];apply bA;intro d hd;exact(Q23 hc3 (hok d hd)).symm
     rw[er];refine Z4x haft hl3 k1 S3 fun w' T' S' hx => ?_;exact⟨Y3,e,s1,⟨rfl,rfl⟩,rfl,hx,he.trans k2 hn,(T2.trans k3).trans T',S'⟩
   split at hh
   ·
    refine wpIn_rangeFunc fun fn _ => ?_;obtain⟨Y1,H1,T1,d1,b1,x1⟩:=Zow S.h (x:=.defs) (o:=.deferred (some [])) rfl;have S1:=S.step x1 H1;obtain⟨Y2,H2,T2,d2,b2,x2⟩:=Yjd (ps:=ps) (as:=as) (bd:=bd) H1 S1.t d1 fn;have hn1:(s.h.push (.obj .defs)).next=s.h.next+1:=rfl;have x12:Ext s.h.next Y Y2:=x1.trans x2 (by omega);have hb2:W8 Y2 s.h.next=w.heap.size:=by rw[Qc5 (x2 _ (by omega)),b1]
    have hd2:dom Y2 s.h.next:=by have:=x2 s.h.next (by omega);simpa[dom,this]using d1
    rw[Zhx]at b2;rw[b1]at H2 T2;refine⟨w.heap.size+1,[{target:=.collected w.heap.size,args:=#[]}],(w.alloc (.deferred (some []))).alloc (.loop {state:=.ready,pending:=none,fn:=fn,tmps:=a.tmps,params:=ps,assign:=as,body:=bd,defers:=w.heap.size}),⟨.fn (.func f) (captured.map (ren Y)),first.map (ren Y) ++ #[.func (.yield (w.heap.size+1)) #[] #[]]⟩,(w.alloc (.deferred (some []))).alloc (.loop {state:=.ready,pending:=none,fn:=fn,tmps:=a.tmps,params:=ps,assign:=as,body:=bd,defers:=w.heap.size}),f,_,(w.alloc (.deferred (some []))).alloc (.loop {state:=.ready,pending:=none,fn:=fn,tmps:=a.tmps,params:=ps,assign:=as,body:=bd,defers:=w.heap.size}),?_,?_,?_,hinv _ _,by rw[Qrg];simp,?_⟩
    ·rw[Q6a];exact run_enterLoop_outer fn a.tmps ps as bd
    ·show(Deferred.ofValue (a.eval g) _).run P _=_;rw[g3];simp[Deferred.ofValue,rangeCall,Act.eval]
    ·exact fun f' _=>Q0u none Y f'
    ·have:=go Y2 _ _ (s.h.next+1) ({target:=.collected s.h.next,args:=#[]}::s.ds) [{target:=.collected w.heap.size,args:=#[]}] x12 (by show s.h.next<=s.h.next+1+1;omega) H2 (T1.trans T2) d2 ?_ ?_ hh
     ·rw[<- hn1,b2]at this;exact this
     ·have S2:=S.step x12 H2;simp only[aE,Qxs,hb2,renA,renL];rw[<- S2.ds];rfl
     ·intro d hd;rcases ap.1 hd with rfl | hd
      ·exact⟨hd2,by simp[okA,okL]⟩
      ·exact(S.step x12 H2).okd d hd
   ·
    rename_i l0;split at hh
    ·rename_i st0 pend0 t0 ps0 as0 bd0 d0 hg0;refine wpIn_rangeFunc fun fn _ => ?_;have hl0:=hl l0 rfl;obtain⟨r0,r1,_,_,_,_,_,_,hd0,r2,_⟩:=Xu3 S.h hl0 hg0;obtain⟨Y2,H2,T2,d2,b2,x2⟩:=Yjd (ps:=ps) (as:=as) (bd:=bd) S.h S.t hd0 fn;have S2:=S.step x2 H2;refine⟨w.heap.size,[],w.alloc (.loop {state:=.ready,pending:=none,fn:=fn,tmps:=a.tmps,params:=ps,assign:=as,body:=bd,defers:=W8 Y d0}),⟨.fn (.func f) (captured.map (ren Y)),first.map (ren Y) ++ #[.func (.yield w.heap.size) #[] #[]]⟩,w.alloc (.loop {state:=.ready,pending:=none,fn:=fn,tmps:=a.tmps,params:=ps,assign:=as,body:=bd,defers:=W8 Y d0}),f,_,w.alloc (.loop {state:=.ready,pending:=none,fn:=fn,tmps:=a.tmps,params:=ps,assign:=as,body:=bd,defers:=W8 Y d0}),?_,?_,?_,hinv _ _,by rw[Qrg];simp,?_⟩
     ·rw[Q6a];unfold Instr.enterLoop;simp only[ax,aq,run_getLoop r1,Result.andThen,aJ,run_newObj_alloc,r2]
     ·show(Deferred.ofValue (a.eval g) _).run P _=_;rw[g3];simp[Deferred.ofValue,rangeCall,Act.eval]
     ·exact fun f' _=>Q0u _ Y f'
     ·have:=go Y2 _ _ s.h.next s.ds [] x2 (by show s.h.next<=s.h.next+1;omega) H2 T2 d2 (by simpa using S2.ds) S2.okd hh;rw[b2]at this;exact this
    ·cases hh
 ·cases hh
end
def X0n(body:St->Option (Exit × St)):Nat->St->Option (Exit × St)
 | 0,_=>none
 | k+1,s=>match body s with
  | some (.normal,s')=>X0n body k s'
  | r=>r
def Q4d{P:Program}(E:Env2 P)(C:CallF)(rd:Option Nat)(k:Nat):Code->St->Option (Exit × St)
 | .skip,s=>some (.normal,s)
 | .label _,s=>some (.normal,s)
 | .ret,s=>some (.ret,s)
 | .exit id,s=>some (.exit id,s)
 | .seq x y,s=>match Q4d E C rd k x s with
  | some (.normal,s')=>Q4d E C rd k y s'
  | r=>r
 | .cond c x y,s=>match aev E.G s.t c with
  | some (.bool true)=>Q4d E C rd k x s
  | some (.bool false)=>Q4d E C rd k y s
  | _=>none
 | .block id c,s=>match Q4d E C rd k c s with
  | some (.exit id',s')=>match Nat.beq id' id with
   | true=>some (.normal,s')
   | false=>some (.exit id',s')
  | r=>r
 | .loop c,s=>X0n (Q4d E C rd k c) k s
 | .region _ ops true,s=>match Ybv E C ops.toList s with
  | some s'=>some (.normal,s')
  | none=>none
 | .region _ ops false,s=>Yxv E C rd ops.toList ops.toList s
 | .rangeFunc g ps as bd,s=>Z93 E C rd g ps as bd s
 | _,_=>none
section
variable{P:Program}
def Zmq{E:Env2 P}{C:CallF}(hC:CallsLow C){rd:Option Nat}{ops:List Oper}:∀ (l:List Oper) (s s1:St) (e:Exit),Yxv E C rd ops l s=some (e,s1)->LowOK s.h s1.h
 | [],s,s1,e,h=>by simp only[Yxv,ar,bG]at h;rw[<- h.2];exact LowOK.refl _
 | o::r,s,s1,e,h=>by
  simp only[Yxv]at h;split at h
  ·split at h
   ·rename_i s' hst;exact(Zwr hC hst).trans (Zmq hC r _ _ _ h)
   ·rename_i hst;cases h;exact Zwr hC hst
   ·cases h
  ·split at h
   ·have:=Zmq hC r _ _ _ h;rwa [Qyz]at this
   ·cases h
  ·cases h
def Zmg{E:Env2 P}{C:CallF}(hC:CallsLow C){ops:List Oper}{B:List Nat}:∀ (l:List Oper) (i:Nat) (s s1:St) (R:List (Option LRec)),Zt0 E C ops B l i s=some (s1,R)->LowOK s.h s1.h
 | [],i,s,s1,R,h=>by simp only[Zt0,ar,bG]at h;rw[<- h.1];exact LowOK.refl _
 | o::r,i,s,s1,R,h=>by
  simp only[Zt0]at h;split at h
  ·cases h
  ·split at h
   ·obtain⟨R',h',_⟩:=Yos h;have:=Zmg hC r _ _ _ _ h';rwa [Qyz]at this
   ·split at h
    ·rename_i v h1 hv;split at h
     ·obtain⟨R',h',_⟩:=Yos h;have h2:=Zmg hC r _ _ _ _ h';rw[Qyz]at h2;have h3:=X16 hC hv;refine LowOK.trans (b:=X78 s.h h1) ⟨h3.next,dS _ _,fun b hb hl => ?_⟩ h2;have:=h3.same b hb (au hl (Nat.min_le_right _ _));exact this
     ·cases h
    ·cases h
   ·cases h
def Zw4{E:Env2 P}{C:CallF}(hC:CallsLow C){ops:List Oper}{s s1:St}(h:Ybv E C ops s=some s1):LowOK s.h s1.h:=by
 unfold Ybv at h;split at h
 ·split at h
  ·split at h
   ·rename_i hR;split at h
    ·cases h;exact Zmg hC _ _ _ _ _ hR
    ·cases h
   ·cases h
  ·cases h
 ·cases h
def Zxv{body:St->Option (Exit × St)}(hb:∀ s e s1,body s=some (e,s1)->LowOK s.h s1.h):∀ k s e s1,X0n body k s=some (e,s1)->LowOK s.h s1.h
 | 0,_,_,_,h=>by simp[X0n]at h
 | k+1,s,e,s1,h=>by
  simp only[X0n]at h;split at h
  ·rename_i s' hs;exact(hb _ _ _ hs).trans (Zxv hb k _ _ _ h)
  ·exact hb _ _ _ h
def Qsk{E:Env2 P}{C:CallF}(hC:CallsLow C){rd:Option Nat}{k:Nat}:∀ (c:Code) (s:St) (e:Exit) (s1:St),Q4d E C rd k c s=some (e,s1)->LowOK s.h s1.h
 | .skip,s,e,s1,h | .label _,s,e,s1,h | .ret,s,e,s1,h | .exit _,s,e,s1,h=>by
  simp only[Q4d,ar,bG]at h;rw[<- h.2];exact LowOK.refl _
 | .seq x y,s,e,s1,h=>by
  simp only[Q4d]at h;split at h
  ·rename_i s' hs;exact(Qsk hC x _ _ _ hs).trans (Qsk hC y _ _ _ h)
  ·exact Qsk hC x _ _ _ h
 | .cond c x y,s,e,s1,h=>by
  simp only[Q4d]at h;split at h
  ·exact Qsk hC x _ _ _ h
  ·exact Qsk hC y _ _ _ h
  ·cases h
 | .block id c,s,e,s1,h=>by
  simp only[Q4d]at h;split at h
  ·rename_i id' s' hs;split at h <;> (cases h;exact Qsk hC c _ _ _ hs)
  ·exact Qsk hC c _ _ _ h
 | .loop c,s,e,s1,h=>by
  simp only[Q4d]at h;exact Zxv (Qsk hC c) k _ _ _ h
 | .region _ ops true,s,e,s1,h=>by
  simp only[Q4d]at h;split at h
  ·rename_i s' hs;cases h;exact Zw4 hC hs
  ·cases h
 | .region _ ops false,s,e,s1,h=>by
  simp only[Q4d]at h;exact Zmq hC _ _ _ _ h
 | .rangeFunc ..,s,e,s1,h=>by
  simp only[Q4d]at h;exact Jeg hC h
 | .scope _,_,_,_,h | .goto _,_,_,_,h | .refuse _,_,_,_,h=>by simp[Q4d]at h
def Jgt{G:Bs}{rd:Option Nat}{c:Code}{body:St->Option (Exit × St)}(Ja6:∀ s e s1,body s=some (e,s1)->LowOK s.h s1.h)(hb:∀ s e s1,body s=some (e,s1)->CW P G rd s.h.next c s (fun e' s'=>e'=e/\s'=s1))
  {k:Nat} {s:St} {e:Exit} {s1:St} (h:X0n body k s=some (e,s1)):CW P G rd s.h.next (.loop c) s (fun e' s'=>e'=e/\s'=s1):=by
 intro Y0 a0 w0 S0 hl0;refine Jd7 (n:=s.h.next) (fun k s'=>X0n body k s'=some (e,s1)/\s.h.next<=s'.h.next) ⟨h,ab _⟩ (fun l hl=>Qkr S0.h (hl0 l hl)) (ab _) (fun k s' hI _ => ?_) Y0 a0 w0 S0 hl0;obtain⟨hk,hn⟩:=hI;cases k with
 | zero=>simp[X0n]at hk
 | succ k =>
  simp only[X0n]at hk;split at hk
  ·rename_i s2 hs;refine(hb _ _ _ hs).mono hn ?_;rintro e' s'' ⟨rfl,rfl⟩;have:=(Ja6 _ _ _ hs).next;exact⟨by omega,fun _=>⟨k,bD _,hk,by omega⟩,fun hne=>absurd rfl hne⟩
  ·rename_i hne;refine(hb _ _ _ hk).mono hn ?_;rintro e' s'' ⟨rfl,rfl⟩;have:=(Ja6 _ _ _ hk).next;refine⟨by omega,fun he => ?_,fun _=>⟨rfl,rfl⟩⟩;subst he;exact absurd hk (hne _)
def Q8u(E:Env2 P){C:CallF}(hC:CallsSound P E.G C)(hL:CallsLow C)(hm:P.follows .mixedOrders=true){rd:Option Nat}{k:Nat}:∀ (c:Code) (s:St) (e:Exit) (s1:St),Q4d E C rd k c s=some (e,s1)->CW P E.G rd s.h.next c s (fun e' s'=>e'=e/\s'=s1)
 | .skip,s,e,s1,h=>by
  simp only[Q4d,ar,bG]at h;exact Jbp ⟨h.1,h.2⟩
 | .label _,s,e,s1,h=>by
  simp only[Q4d,ar,bG]at h;exact Z6l ⟨h.1,h.2⟩
 | .ret,s,e,s1,h=>by
  simp only[Q4d,ar,bG]at h;exact Jka ⟨h.1,h.2⟩
 | .exit _,s,e,s1,h=>by
  simp only[Q4d,ar,bG]at h;exact Jfw ⟨h.1,h.2⟩
 | .seq x y,s,e,s1,h=>by
  simp only[Q4d]at h;refine Jkk ?_;split at h
  ·rename_i s' hs;refine(Q8u E hC hL hm x _ _ _ hs).mono (ab _) ?_;rintro e' s'' ⟨rfl,rfl⟩;exact⟨(Qsk hL x _ _ _ hs).next,fun _=>Q8u E hC hL hm y _ _ _ h,fun hne=>absurd rfl hne⟩
  ·rename_i hne;refine(Q8u E hC hL hm x _ _ _ h).mono (ab _) ?_;rintro e' s'' ⟨rfl,rfl⟩;refine⟨(Qsk hL x _ _ _ h).next,fun he => ?_,fun _=>⟨rfl,rfl⟩⟩;subst he;exact absurd h (hne _)
 | .cond c x y,s,e,s1,h=>by
  simp only[Q4d]at h;split at h
  ·rename_i hc;exact Z3y hc (Q8u E hC hL hm x _ _ _ h)
  ·rename_i hc;exact Z3y hc (Q8u E hC hL hm y _ _ _ h)
  ·cases h
 | .block id c,s,e,s1,h=>by
  simp only[Q4d]at h;refine Z69 ?_;split at h
  ·rename_i id' s' hs;refine(Q8u E hC hL hm c _ _ _ hs).mono (ab _) ?_;rintro e' s'' ⟨rfl,rfl⟩;simp only;split at h
   ·rename_i hb;rw[if_pos (aK hb)];cases h;exact⟨rfl,rfl⟩
   ·rename_i hb;rw[if_neg (ct hb)];cases h;exact⟨rfl,rfl⟩
  ·rename_i hne;refine(Q8u E hC hL hm c _ _ _ h).mono (ab _) ?_;rintro e' s'' ⟨rfl,rfl⟩;cases e' with
   | exit id'=>exact absurd h (hne _ _)
   | _=>exact⟨rfl,rfl⟩
 | .loop c,s,e,s1,h=>by
  simp only[Q4d]at h;exact Jgt (Qsk hL c) (Q8u E hC hL hm c) h
 | .region _ ops true,s,e,s1,h=>by
  simp only[Q4d]at h;split at h
  ·rename_i s' hs;cases h;exact X83 E hC hL hm hs ⟨rfl,rfl⟩
  ·cases h
 | .region _ ops false,s,e,s1,h=>by
  simp only[Q4d]at h;exact Jg4 E hC h ⟨rfl,rfl⟩
 | .rangeFunc ..,s,e,s1,h=>by
  simp only[Q4d]at h;exact Jma E hC hL h
 | .scope _,_,_,_,h | .goto _,_,_,_,h | .refuse _,_,_,_,h=>by simp[Q4d]at h
def Y1p{P:Program}(E:Env2 P)(C:CallF)(k:Nat)(l:Nat)(args:List Value)(h:Heap):Option (AEnd × Heap) :=
 match h.get l with
 | some (.obj (.loop .ready _ t ps as bd _))=>match Z70 t.size ps.toList args with
  | false=>none
  | true=>match Q4d E C (some l) k as ⟨Yms t ps.toList args,[],h⟩with
   | some (.normal,s1)=>match s1.h.get l with
    | some (.obj (.loop .ready p1 t1 ps1 as1 bd1 d1))=>match Q4d E C (some l) k bd {s1 with h:=s1.h.set l (some (.obj (.loop .busy p1 t1 ps1 as1 bd1 d1)))} with
     | some (e,s2)=>match Zi6 e,s2.h.get l with
      | some j,some (.obj (.loop _ _ t2 ps2 as2 bd2 d2))=>some (.ret (.bool j.isNone),s2.h.set l (some (.obj (.loop (if j.isNone then .ready else .done) j t2 ps2 as2 bd2 d2))))
      | _,_=>none
     | none=>none
    | _=>none
   | _=>none
 | _=>none
def Z86{E:Env2 P}{C:CallF}(hC:CallsLow C){k l:Nat}{args:List Value}{h h1:Heap}{r:AEnd}(hh:Y1p E C k l args h=some (r,h1)):LowOK h h1:=by
 unfold Y1p at hh;split at hh
 ·split at hh
  ·cases hh
  ·split at hh
   ·rename_i hs1;split at hh
    ·rename_i hg1;split at hh
     ·rename_i hs2;split at hh
      ·rename_i hj hg2;cases hh;exact(((Qsk hC _ _ _ _ hs1).trans (LowOK.set _ _ _ (Heap.get_lt hg1))).trans (Qsk hC _ _ _ _ hs2)).trans (LowOK.set _ _ _ (Heap.get_lt hg2))
      ·cases hh
     ·cases hh
    ·cases hh
   ·cases hh
 ·cases hh
def Yh6(rd:Option Nat)(Y β:Ren)(l:Nat):(Qvk rd β).inRound (W8 Y l)=Qvk (some l) Y:=by cases rd <;> rfl
def Yrf{Y:Ren}{e:Exit}{j:Option Code}(hj:Zi6 e=some j){l:Nat}{R:Ending->World->Prop}{a:Act}{w:World}(h:∃ v w',(Instr.endRound l j).run P w=.ok v w'/\R (.returned v) w') :
  roundPost P l R (Qos Y e) a w:=by
 cases e <;> simp only[Zi6,ar,reduceCtorEq]at hj <;> subst hj <;> exact h
def Jb4(E:Env2 P){C:CallF}(hC:CallsSound P E.G C)(hL:CallsLow C)(hm:P.follows .mixedOrders=true){k l:Nat}{args:List Value}{h h1:Heap}{r:AEnd}(hh:Y1p E C k l args h=some (r,h1)) :
  X17 P E.G l args h (fun r' h'=>r'=r/\h'=h1):=by
 intro Y w β rd st pend t ps as bd d fn tmps H hl ha hg ht;unfold Y1p at hh;rw[hg]at hh;cases st with
 | ready =>
  simp only at hh;split at hh
  ·cases hh
  ·split at hh
   ·rename_i s1 hs1;split at hh
    ·rename_i p1 t1 ps1 as1 bd1 d1 hg1;split at hh
     ·rename_i e2 s2 hs2;split at hh
      ·rename_i j st2 pe2 t2 ps2 as2 bd2 d2 hj hg2;cases hh;refine roundIn_of_wpIn (Q0u rd β _) ?_;rw[Yh6 rd Y β l];have S0:SRel E.G Y ⟨Yms t ps.toList args,[],h⟩ {tmps:=tmps,defers:=[]} w:=⟨H,ht,rfl,fun d hd=>by cases hd⟩;refine wpIn_mono (Q8u E hC hL hm as _ _ _ hs1 Y _ w S0 (fun l' hl'=>by cases hl';exact hl)) ?_;rintro e' a1 w1 ⟨Y1,e1,s1',⟨rfl,rfl⟩,rfl,_,x1,T1,S1⟩;have hc1:∀ b,dom Y b->Y1 b=Y b:=fun b hb=>x1 b (Qkr H hb);have hl1:dom Y1 l:=(by simpa[dom,hc1 l hl]using hl);obtain⟨r1,k1,k2,kp,_,_,_,_,_,_,k3⟩:=Xu3 S1.h hl1 hg1;subst kp;obtain⟨H1',T1'⟩:=k3 .busy r1.pending;have er1:W8 Y1 l=W8 Y l:=Qc5 (hc1 l hl);refine⟨_,by rw[<- er1];exact run_beginRound k1 k2,?_⟩;rw[<- er1];have S1':=S1.step (Ext.refl _ _) H1';rw[<- (X1m (rd:=some l) (n:=0) S0 x1 (fun l' hl'=>by cases hl';exact hl)).1];refine wpIn_mono (Q8u E hC hL hm bd _ _ _ hs2 Y1 a1 _ S1' (fun l' hl'=>by cases hl';exact hl1)) ?_;rintro e' a2 w2 ⟨Y2,e2',s2',⟨rfl,rfl⟩,rfl,_,x2,T2,S2⟩;have hn1:h.next<=s1'.h.next:=(Qsk hL _ _ _ _ hs1).next;have hc2:∀ b,dom Y1 b->Y2 b=Y1 b:=fun b hb=>x2 b (Qkr H1' hb);have hl2:dom Y2 l:=(by simpa[dom,hc2 l hl1]using hl1);have er2:W8 Y2 l=W8 Y1 l:=Qc5 (hc2 l hl1);obtain⟨r2,m1,m2,_,_,_,_,_,_,_,m3⟩:=Xu3 S2.h hl2 hg2;obtain⟨H2',T2'⟩:=m3 (if j.isNone then .ready else .done) j;have fin:∃ v w',(Instr.endRound (W8 Y1 l) j).run P w2=.ok v w'/\∃ Y' r h',(r=AEnd.ret (.bool j.isNone)/\h'=s2'.h.set l (some (.obj (.loop (if j.isNone then .ready else .done) j t2 ps2 as2 bd2 d2)))) /\
         Ending.returned v=Qz1 Y' r/\Xy1 (dom Y') r/\Ext h.next Y Y'/\Turn Y h w Y' h' w'/\HRel E.G Y' h' w' :=
        ⟨_,_,by rw[<- er2];exact run_endRound j m1,Y2,_,_,⟨rfl,rfl⟩,by simp[Qz1],trivial,x1.trans x2 hn1,((T1.trans T1').trans T2).trans T2',H2'⟩
       rw[er1]at fin ⊢;exact Yrf hj fin
      ·cases hh
     ·cases hh
    ·cases hh
   ·cases hh
 | _=>cases hh
end
def Ya{P:Program}(E:Env2 P)(t:Tm)(h:Heap):List ResultVar->Option (List Value)
 | []=>some []
 | .tmp i::r=>match t.t.get i,Ya E t h r with
  | some v,some l=>some (v::l)
  | _,_=>none
 | .cell i ty::r=>match t.t.get i with
  | some x=>match Qjm E.toEnv ty x h,Ya E t h r with
   | some v,some l=>some (v::l)
   | _,_=>none
  | none=>none
def Yn{P:Program}(E:Env2 P)(fn:Func)(t:Tm)(h:Heap):Option Value :=
 match Ya E t h fn.results.toList with
 | some [v]=>some v
 | some l=>some (.tuple l.toArray)
 | none=>none
def Xyt(Y:Ren):FrameMode->FrameMode
 | .panicking ch => .panicking (ch.map (Yf9 Y))
 | u=>u
def okM(D:Nat->Prop):FrameMode->Prop
 | .panicking ch => ∀ p ∈ ch,okV D p.v
 | _=>True
abbrev Qwn:=FuncId->List Value->FrameMode->Heap->Option (AEnd × FrameMode × Heap)
def Q1s(P:Program)(G:Bs)(D:Qwn):Prop:=∀ f args u h r u1 h1,D f args u h=some (r,u1,h1) ->
 ∀ Y w,HRel G Y h w->(∀ v ∈ args,okV (dom Y) v)->okM (dom Y) u->CallsDIn Fence.wide 0 P f (args.map (ren Y)).toArray (Xyt Y u) w fun e u' w' =>
  ∃ Y',e=Qz1 Y' r/\u'=Xyt Y' u1/\Xy1 (dom Y') r/\okM (dom Y') u1/\Ext h.next Y Y'/\Turn Y h w Y' h1 w'/\HRel G Y' h1 w'
def Xy3(D:Qwn):Prop:=∀ f args u h r u1 h1,D f args u h=some (r,u1,h1)->LowOK h h1
def X2{P:Program}(E:Env2 P)(D:Qwn)(fn:Func)(t:Tm):List Deferred->FrameMode->Heap->Option (AEnd × Heap)
 | [],.returning,h=>match Yn E fn t h with
  | some v=>some (.ret v,h)
  | none=>none
 | [],.panicking ch,h=>some (.panic ch,h)
 | [],.run,_=>none
 | d::ds,u,h=>match u,d.target with
  | .run,_=>none
  | _,.collected r=>match h.get r with
   | some (.obj .defs)=>X2 E D fn t ds u (h.set r none)
   | _=>none
  | _,.fn (.func f) cap=>match E.fn.get f with
   | none=>none
   | some _=>match D f (d.args.toList++cap.toList) u h with
    | some (.ret _,u1,h1)=>X2 E D fn t ds (settle u1) h1
    | some (.panic ch,u1,h1)=>X2 E D fn t ds (raised u1 ch) h1
    | none=>none
  | _,_=>none
def Xm(fn:Func)(args:List Value):Tm:=⟨fn.ntmps,putAll 0 args .leaf⟩
 where putAll (i:Nat):List Value->Tr Value->Tr Value
 | [],t=>t
 | v::l,t=>putAll (i+1) l (t.put i (some v))
def Z2n{P:Program}(E:Env2 P)(C:CallF)(D:Qwn)(k:Nat)(f:FuncId)(args:List Value)(h:Heap):Option (AEnd × Heap) :=
 match E.fn.get f with
 | none=>none
 | some fn=>match fn.body,Nat.ble args.length fn.ntmps with
  | some c,true=>match Q4d E C none k c ⟨Xm fn args,[],h⟩with
   | some (.normal,s) | some (.ret,s)=>X2 E D fn s.t s.ds .returning s.h
   | some (.panic ch,s)=>X2 E D fn s.t s.ds (.panicking ch) s.h
   | _=>none
  | _,_=>none
section
variable{P:Program}{G:Bs}{Y:Ren}{h:Heap}{w:World}
def Z0m(E:Env2 P)(H:HRel E.G Y h w){t:Tm}{tmps:Array Value}(ht:TRel Y t tmps):∀ {rs:List ResultVar} {l:List Value},Ya E t h rs=some l ->
  (∀ v ∈ l,okV (dom Y) v)/\((rs.mapM (m:=Sem) fun
   | .tmp t=>pure (tmps.getD t undef)
   | .cell a t=>do loadVar t (<- asAddr (tmps.getD a undef))):Sem (List Value)).run P w=.ok (l.map (ren Y)) w
 | [],l,hl=>by simp only[Ya,ar]at hl;subst hl;simp
 | .tmp i::r,l,hl=>by
  simp only[Ya]at hl;split at hl
  ·rename_i v l' hv hl';cases hl;obtain⟨i1,i2⟩:=Z0m E H ht hl';obtain⟨j1,j2⟩:=ht.vals i v hv;refine⟨by simpa using⟨j1,i1⟩,?_⟩;have : tmps.getD i undef=ren Y v:=by simp[Array.getD_eq_getD_getElem?,j2]
   simp only[dZ,this,pure_bind,aq,i2,ac,aJ,aE]
  ·cases hl
 | .cell i ty::r,l,hl=>by
  simp only[Ya]at hl;split at hl
  ·rename_i x hx;split at hl
   ·rename_i v l' hv hl';cases hl;obtain⟨i1,i2⟩:=Z0m E H ht hl';obtain⟨j1,j2⟩:=ht.vals i x hx;have : tmps.getD i undef=ren Y x:=(by simp[Array.getD_eq_getD_getElem?,j2]);unfold Qjm at hv;split at hv
    ·rename_i a rr hr;simp only[okV]at j1;obtain⟨k1,k2⟩:=X7z (P:=P) H (E.tyok ty rr hr) j1.1 j1.2 hv;refine⟨by simpa using⟨k1,i1⟩,?_⟩;have hA:asAddr (ren Y (.pointer (some a)))=pure (Wc Y a):=by simp[ren,asAddr]
     simp only[dZ,this,hA,pure_bind,aq,k2,i2,ac,aJ,aE]
    ·cases hv
   ·cases hl
  ·cases hl
def Z1p(E:Env2 P)(H:HRel E.G Y h w){t:Tm}{tmps:Array Value}(ht:TRel Y t tmps){fn:Func}{v:Value}(hv:Yn E fn t h=some v):okV (dom Y) v/\(results fn tmps).run P w=.ok (ren Y v) w:=by
 unfold Yn at hv;have key:∀ l,Ya E t h fn.results.toList=some l->(∀ v ∈ l,okV (dom Y) v)/\(results fn tmps).run P w=.ok (if h:(l.map (ren Y)).toArray.size=1 then(l.map (ren Y)).toArray[0]else .tuple (l.map (ren Y)).toArray) w:=by
  intro l hl;obtain⟨i1,i2⟩:=Z0m E H ht hl;refine⟨i1,?_⟩;unfold results;rw[Array.mapM_eq_mapM_toList];simp only[bind_map_left,aq];refine(congrArg (fun r=>Result.andThen r _) i2).trans ?_;simp only[ac,aJ]
 split at hv
 ·rename_i u hl;cases hv;obtain⟨i1,i2⟩:=key _ hl;exact⟨i1 _ (by simp),by rw[i2];simp⟩
 ·rename_i l hne hl;cases hv;obtain⟨i1,i2⟩:=key _ hl;refine⟨by simp only[okV,Q8x];intro x hx;exact i1 x (by simpa using hx),?_⟩;have : ¬ (l.map (ren Y)).toArray.size=1:=by
   intro hs;simp only[dI,aL]at hs;obtain⟨x,rfl⟩:=List.length_eq_one_iff.1 hs;exact hne x rfl
  rw[i2,dif_neg this];simp[ren,Qub]
 ·cases hv
def Zgx:∀ (l:List Value) (i:Nat) (t:Tr Value) (j:Nat),(Xm.putAll i l t).get j=if i<=j/\j < i+l.length then l[j-i]? else t.get j
 | [],i,t,j=>by simp[Xm.putAll];omega
 | v::l,i,t,j=>by
  simp only[Xm.putAll,Zgx l (i+1),Tr.get_put,aS];by_cases h1:i+1<=j/\j < i+1+l.length
  ·rw[if_pos h1,if_pos (by omega),show j-i=(j-(i+1))+1 by omega,List.getElem?_cons_succ]
  ·rw[if_neg h1];by_cases h2:i=j
   ·subst h2;rw[if_pos rfl,if_pos (by omega)];simp
   ·rw[if_neg h2,if_neg (by omega)]
def Y2r{fn:Func}{args:List Value}(hn:args.length<=fn.ntmps)(ha:∀ v ∈ args,okV (dom Y) v) :
  TRel Y (Xm fn args) ((args.map (ren Y)).toArray++Array.replicate (fn.ntmps-(args.map (ren Y)).toArray.size) undef):=by
 refine⟨by simp[Xm];omega,fun i v hv => ?_⟩;simp only[Xm,Zgx,bn,true_and,ba,d7,Tr.get_leaf]at hv;split at hv
 ·rename_i hi;refine⟨ha v (List.mem_of_getElem? hv),?_⟩;rw[Array.getElem?_append_left (by simpa using hi)];simp[hv]
 ·cases hv
def Z6m{D E:Nat->Prop}(h:∀ b,D b->E b){u:FrameMode}(hu:okM D u):okM E u:=by
 cases u <;> simp only[okM]at hu ⊢;exact fun p hp=>okV_mono h _ (hu p hp)
def Zi3{β:Ren}{D:Nat->Prop}(h:∀ b,D b->β b=Y b){u:FrameMode}(hu:okM D u):Xyt β u=Xyt Y u:=by
 cases u <;> simp only[okM,Xyt]at hu ⊢;congr 1;apply bA;intro p hp;simp[Yf9,ren_congr h _ (hu p hp)]
def Z1b(u:FrameMode):Xyt Y (settle u)=settle (Xyt Y u):=by
 cases u with
 | panicking ch =>
  cases ch with
  | nil=>rfl
  | cons p older =>
   obtain⟨v,r,g⟩:=p;cases r with
   | false=>rfl
   | true =>
    simp only[settle,Xyt,aE,Yf9];have : (older.map (Yf9 Y)).dropWhile (fun x => !x.goexit)=(older.dropWhile (fun x => !x.goexit)).map (Yf9 Y):=by
     induction older with
     | nil=>rfl
     | cons q older ih=>simp only[aE,List.dropWhile_cons,Yf9];split <;> simp_all [Yf9]
    have h2:List.dropWhile (fun x => !x.goexit) (List.map (fun p=>({v:=ren Y p.v,recovered:=p.recovered,goexit:=p.goexit}:PanicEntry)) older)=(older.dropWhile (fun x => !x.goexit)).map (Yf9 Y):=this;rw[show(Yf9 Y)=(fun p=>({v:=ren Y p.v,recovered:=p.recovered,goexit:=p.goexit}:PanicEntry))from rfl]at *;rw[h2];cases h3:older.dropWhile (fun x => !x.goexit)with
    | nil=>rfl
    | cons _ _=>rfl
 | _=>rfl
def Z7b{D:Nat->Prop}{u:FrameMode}(hu:okM D u):okM D (settle u):=by
 cases u with
 | panicking ch =>
  cases ch with
  | nil=>exact hu
  | cons p older =>
   obtain⟨v,r,g⟩:=p;cases r with
   | false=>exact hu
   | true =>
    simp only[settle];split
    ·trivial
    ·exact fun q hq=>hu q (aN _ (List.dropWhile_sublist _ |>.subset hq))
 | _=>exact hu
def Z0f(u:FrameMode)(ch:List PanicEntry):Xyt Y (raised u ch)=raised (Xyt Y u) (ch.map (Yf9 Y)):=by
 cases u <;> simp[raised,Xyt]
def Z72{D:Nat->Prop}{u:FrameMode}{ch:List PanicEntry}(hu:okM D u)(hc:∀ p ∈ ch,okV D p.v):okM D (raised u ch):=by
 cases u <;> simp only[raised,okM]at hu ⊢
 ·exact hc
 ·exact hc
 ·intro p hp;rcases al.1 hp with h | h
  ·exact hc p h
  ·exact hu p h
end
section
variable{P:Program}{G:Bs}{Y:Ren}{h:Heap}{w:World}
def Xzm(E:Env2 P){D:Qwn}(hD:Q1s P E.G D){fn:Func}{t:Tm}:∀ (ds:List Deferred) (u:FrameMode) (h:Heap) (Y:Ren) (w:World) (tmps:Array Value) (r:AEnd) (h1:Heap),
  X2 E D fn t ds u h=some (r,h1)->HRel E.G Y h w->TRel Y t tmps->(∀ d ∈ ds,Yes (dom Y) d)->okM (dom Y) u->∀ {R:Ending->World->Prop},
  (∀ Y' w',Ext h.next Y Y'->Turn Y h w Y' h1 w'->HRel E.G Y' h1 w'->Xy1 (dom Y') r->R (Qz1 Y' r) w') ->
  LeavesInM Fence.wide 0 P fn tmps R (ds.map (Qxs Y)) (Xyt Y u) w
 | [],u,h,Y,w,tmps,r,h1,hl,H,T,_,hu,R,hR=>by
  cases u with
  | run=>simp[X2]at hl
  | returning =>
   simp only[X2]at hl;split at hl
   ·rename_i v hv;cases hl;obtain⟨i1,i2⟩:=Z1p E H T hv;exact⟨ren Y v,i2,hR Y w (Ext.refl _ _) (Turn.refl _ _ _) H i1⟩
   ·cases hl
  | panicking ch =>
   simp only[X2,ar,bG]at hl;obtain⟨rfl,rfl⟩:=hl;exact hR Y w (Ext.refl _ _) (Turn.refl _ _ _) H hu
 | d::ds,u,h,Y,w,tmps,r,h1,hl,H,T,hds,hu,R,hR=>by
  obtain⟨tg,dargs⟩:=d;simp only[X2]at hl;split at hl
  ·cases hl
  ·rename_i r0 hne;split at hl
   ·rename_i hg;have hod:=hds _ bo;have hune:Xyt Y u ≠ .run:=by
     cases u <;> simp[Xyt]at hne ⊢
    obtain⟨p,hp⟩:=az.1 hod.1;obtain⟨f0,o,f1,f2⟩:=H.fits _ p _ hp hg;have hlt:=H.blk_lt hp hg rfl;have e:W8 Y r0=p.blk:=(by simp[W8,hp]);obtain⟨H1,T1⟩:=H.upd hp (by rw[Q05 hg];rfl) (x:=.obj .any) rfl (o:=.deferred none) ⟨f0,_,Qtz hlt,trivial⟩;have hk:=H1.kill (b:=r0) (show r0 < h.next from Heap.get_lt hg);rw[Z06]at hk;simp only[aE,Qxs];refine⟨hune,.inl ⟨_,_,rfl,run_takeDeferred (by rw[e,f1,f2]),?_⟩⟩;rw[e];exact Xzm E hD ds _ _ Y _ tmps r h1 hl hk.1 T (fun d hd=>hds d (aN _ hd)) hu
     fun Y'' w'' p1 p2 p3 p4=>hR Y'' w'' p1 ((T1.trans hk.2).trans p2) p3 p4
   ·cases hl
  ·rename_i f cap hne;split at hl
   ·cases hl
   ·rename_i F hF;have hod:=hds _ bo;simp only[Yes,okV,Q8x]at hod;have hargs:∀ v ∈ dargs.toList++cap.toList,okV (dom Y) v:=by
     intro v hv;rcases al.1 hv with hv | hv
     ·exact hod.2 v (by simpa using hv)
     ·exact hod.1.2 v (by simpa using hv)
    have hinv:=Y4i E hF (renA Y cap) (renA Y dargs) w;have hae:((dargs.toList++cap.toList).map (ren Y)).toArray=renA Y dargs++renA Y cap:=by
     simp[Qub]
    have hune:Xyt Y u ≠ .run:=by
     cases u <;> simp[Xyt]at hne ⊢
    simp only[aE,Qxs,Ykn];refine⟨hune,.inr ⟨by simp[Fence.wide],_,_,f,_,rfl,hinv,fun _ _=>trivial,?_⟩⟩;rw[<- hae];split at hl
    ·rename_i v u1 h2 hd;refine(hD _ _ _ _ _ _ _ hd Y w H hargs hu).mono ?_;rintro e um w' ⟨Y',rfl,rfl,q1,q2,q3,q4,q5⟩;simp only[Qz1];have hdd:∀ b,dom Y b->Y' b=Y b:=fun b hb=>q3 b (Qkr H hb);have hmap:ds.map (Qxs Y)=ds.map (Qxs Y'):=bA fun d hd=>(Q23 hdd (hds d (aN _ hd))).symm;rw[hmap,<- Z1b];exact Xzm E hD ds _ _ Y' w' tmps r h1 hl q5 (T.ext H q3) (fun d hd=>Xct (fun b hb=>by simpa[dom,hdd b hb]using hb) (hds d (aN _ hd))) (Z7b q2)
      fun Y'' w'' p1 p2 p3 p4=>hR Y'' w'' (q3.trans p1 q4.next) (q4.trans p2) p3 p4
    ·rename_i ch u1 h2 hd;refine(hD _ _ _ _ _ _ _ hd Y w H hargs hu).mono ?_;rintro e um w' ⟨Y',rfl,rfl,q1,q2,q3,q4,q5⟩;simp only[Qz1];have hdd:∀ b,dom Y b->Y' b=Y b:=fun b hb=>q3 b (Qkr H hb);have hmap:ds.map (Qxs Y)=ds.map (Qxs Y'):=bA fun d hd=>(Q23 hdd (hds d (aN _ hd))).symm;rw[hmap,<- Z0f];exact Xzm E hD ds _ _ Y' w' tmps r h1 hl q5 (T.ext H q3) (fun d hd=>Xct (fun b hb=>by simpa[dom,hdd b hb]using hb) (hds d (aN _ hd))) (Z72 q2 q1)
      fun Y'' w'' p1 p2 p3 p4=>hR Y'' w'' (q3.trans p1 q4.next) (q4.trans p2) p3 p4
    ·cases hl
  ·cases hl
def Xmm{E:Env2 P}{D:Qwn}(hD:Xy3 D){fn:Func}{t:Tm}:∀ (ds:List Deferred) (u:FrameMode) (h:Heap) (r:AEnd) (h1:Heap),
  X2 E D fn t ds u h=some (r,h1)->LowOK h h1
 | [],u,h,r,h1,hl=>by
  cases u with
  | run=>simp[X2]at hl
  | returning=>simp only[X2]at hl;split at hl <;> cases hl;exact LowOK.refl _
  | panicking ch=>simp only[X2,ar,bG]at hl;rw[<- hl.2];exact LowOK.refl _
 | d::ds,u,h,r,h1,hl=>by
  simp only[X2]at hl;split at hl
  ·cases hl
  ·split at hl
   ·rename_i hg;exact(LowOK.set _ _ _ (Heap.get_lt hg)).trans (Xmm hD ds _ _ _ _ hl)
   ·cases hl
  ·split at hl
   ·cases hl
   ·split at hl
    ·rename_i hd;exact(hD _ _ _ _ _ _ _ hd).trans (Xmm hD ds _ _ _ _ hl)
    ·rename_i hd;exact(hD _ _ _ _ _ _ _ hd).trans (Xmm hD ds _ _ _ _ hl)
    ·cases hl
  ·cases hl
def Jh6(E:Env2 P){C:CallF}(hC:CallsSound P E.G C)(hL:CallsLow C)(hm:P.follows .mixedOrders=true){D:Qwn}(hD:Q1s P E.G D){k:Nat}  {f:FuncId}{args:List Value}{h:Heap}{r:AEnd}{h':Heap}(hb:Z2n E C D k f args h=some (r,h')) :
  CallOK P E.G f args h (fun r1 h1=>r1=r/\h1=h'):=by
 intro Y w H ha;unfold Z2n at hb;split at hb
 ·cases hb
 ·rename_i fn hfn;obtain⟨g1,g2,g3⟩:=E.fnok _ _ hfn;split at hb
  ·rename_i c hbody hle;have hle':args.length<=fn.ntmps:=by simpa using hle
   have S:SRel E.G Y ⟨Xm fn args,[],h⟩ {tmps:=(args.map (ren Y)).toArray++Array.replicate (fn.ntmps-(args.map (ren Y)).toArray.size) undef,defers:=[]} w :=
    ⟨H,Y2r hle' ha,rfl,fun d hd=>by cases hd⟩
   have fin:∀ e s,Q4d E C none k c ⟨Xm fn args,[],h⟩=some (e,s)->(∀ a' w' Y',Ext h.next Y Y'->Turn Y h w Y' s.h w'->SRel E.G Y' s a' w'->Q24 (dom Y') e ->
     bodyPostM Fence.wide 0 P fn (fun e w' => ∃ Y' r1 h1,(r1=r/\h1=h')/\e=Qz1 Y' r1/\Xy1 (dom Y') r1/\Ext h.next Y Y'/\Turn Y h w Y' h1 w'/\HRel E.G Y' h1 w') (Qos Y' e) a' w') ->
     CallsIn Fence.wide 0 P f (args.map (ren Y)).toArray w (fun e w' => ∃ Y' r1 h1,(r1=r/\h1=h')/\e=Qz1 Y' r1/\Xy1 (dom Y') r1/\Ext h.next Y Y'/\Turn Y h w Y' h1 w'/\HRel E.G Y' h1 w'):=by
    intro e s hex hp;refine callsIn_of_wp_marks g1 hbody trivial ?_;refine wpIn_mono (Q8u E hC hL hm c _ _ _ hex Y _ w S (fun l hl=>by cases hl)) ?_;rintro e' a' w' ⟨Y',e1,s1,⟨rfl,rfl⟩,rfl,q1,q2,q3,q4⟩;exact hp a' w' Y' q2 q3 q4 q1
   have lv:∀ (s:St) (u:FrameMode),X2 E D fn s.t s.ds u s.h=some (r,h')->∀ a' w' Y',Ext h.next Y Y'->Turn Y h w Y' s.h w'->SRel E.G Y' s a' w'->okM (dom Y') u ->
     LeavesInM Fence.wide 0 P fn a'.tmps (fun e w' => ∃ Y' r1 h1,(r1=r/\h1=h')/\e=Qz1 Y' r1/\Xy1 (dom Y') r1/\Ext h.next Y Y'/\Turn Y h w Y' h1 w'/\HRel E.G Y' h1 w') a'.defers (Xyt Y' u) w':=by
    intro s u hl a' w' Y' q2 q3 q4 hu;rw[q4.ds];exact Xzm E hD s.ds u s.h Y' w' a'.tmps r h' hl q4.h q4.t q4.okd hu fun Y'' w'' p1 p2 p3 p4=>⟨Y'',r,h',⟨rfl,rfl⟩,rfl,p4,q2.trans p1 q3.next,q3.trans p2,p3⟩
   split at hb
   ·rename_i s hex;refine fin _ s hex fun a' w' Y' q2 q3 q4 q1 => ?_;exact lv s .returning hb a' w' Y' q2 q3 q4 trivial
   ·rename_i s hex;refine fin _ s hex fun a' w' Y' q2 q3 q4 q1 => ?_;exact lv s .returning hb a' w' Y' q2 q3 q4 trivial
   ·rename_i ch s hex;refine fin _ s hex fun a' w' Y' q2 q3 q4 q1 => ?_;exact lv s (.panicking ch) hb a' w' Y' q2 q3 q4 q1
   ·cases hb
  ·cases hb
def Je0{E:Env2 P}{C:CallF}(hL:CallsLow C){D:Qwn}(hD:Xy3 D){k:Nat}  {f:FuncId}{args:List Value}{h:Heap}{r:AEnd}{h':Heap}(hb:Z2n E C D k f args h=some (r,h')):LowOK h h':=by
 unfold Z2n at hb;split at hb
 ·cases hb
 ·split at hb
  ·split at hb <;> first
    | (rename_i hex;exact(Qsk hL _ _ _ _ hex).trans (Xmm hD _ _ _ _ _ hb))
    | cases hb
  ·cases hb
end
def Zxn(o:Oper):Bool:=match o.op with
 | .call c=>(match c.callee with | .builtin .recover=>true | _=>false) && c.args.isEmpty
 | _=>false
def Ja7(u:FrameMode):Value × FrameMode:=match u with
 | .panicking ({v,recovered:=false,goexit:=false}::older)=>(v,.panicking ({v,recovered:=true}::older))
 | u=>(.nilIface,u)
def Zzm{P:Program}(E:Env2 P)(ops:List Oper):List Oper->FrameMode->St->Option (Exit × FrameMode × St)
 | [],u,s=>some (.normal,u,s)
 | o::r,u,s =>
  match Qg ops s.t o,Qoy s o.dst with
  | some true,true=>match Zxn o with
   | true=>Zzm E ops r (Ja7 u).2 (s.put o.dst (Ja7 u).1 s.h)
   | false=>match Ys o,aop E s.t s.h o with
    | true,some (.val v h)=>Zzm E ops r u (s.put o.dst v h)
    | true,some (.skip h)=>Zzm E ops r u (s.put o.dst Qt h)
    | true,some (.panic v h)=>some (.panic [{v,recovered:=false}],u,{s with h:=h})
    | _,_=>none
  | some false,true=>Zzm E ops r u (s.put o.dst Qt s.h)
  | _,_=>none
def Y5z:List Oper->Bool
 | []=>false
 | o::r=>Zxn o || Y5z r
def Q4j{P:Program}(E:Env2 P)(C:CallF)(k:Nat):Code->FrameMode->St->Option (Exit × FrameMode × St)
 | .seq x y,u,s=>match Q4j E C k x u s with
  | some (.normal,u',s')=>Q4j E C k y u' s'
  | r=>r
 | .cond c x y,u,s=>match aev E.G s.t c with
  | some (.bool true)=>Q4j E C k x u s
  | some (.bool false)=>Q4j E C k y u s
  | _=>none
 | .region id ops false,u,s=>match Y5z ops.toList with
  | true=>Zzm E ops.toList ops.toList u s
  | false=>match Q4d E C none k (.region id ops false) s with
   | some (e,s')=>some (e,u,s')
   | none=>none
 | c,u,s=>match Q4d E C none k c s with
  | some (e,s')=>some (e,u,s')
  | none=>none
def Xue{P:Program}(E:Env2 P)(C:CallF)(k:Nat):Qwn:=fun f args u h =>
 match E.fn.get f with
 | none=>none
 | some fn=>match fn.body,Nat.ble args.length fn.ntmps with
  | some c,true=>match Q4j E C k c u ⟨Xm fn args,[],h⟩with
   | some (.normal,u',⟨t,[],h'⟩) | some (.ret,u',⟨t,[],h'⟩)=>match Yn E fn t h' with
    | some v=>some (.ret v,u',h')
    | none=>none
   | some (.panic ch,u',⟨_,[],h'⟩)=>some (.panic ch,u',h')
   | _=>none
  | _,_=>none
section
variable{P:Program}{G:Bs}{Y:Ren}{h:Heap}{w:World}{s:St}{a:Act}
def CWD(P:Program)(G:Bs)(n:Nat)(c:Code)(u:FrameMode)(s:St)(Q:Exit->FrameMode->St->Prop):Prop :=
 ∀ Y a w c₀ cs,SRel G Y s a w->okM (dom Y) u->c₀.mode=Xyt Y u->c.wpSIn Fence.wide 0 P (fun e' a' cs' w' => ∃ Y' e u' s',Q e u' s'/\e'=Qos Y' e/\Q24 (dom Y') e/\okM (dom Y') u'/\cs' = {c₀ with mode:=Xyt Y' u' }::cs/\Ext n Y Y'/\Turn Y s.h w Y' s'.h w'/\SRel G Y' s' a' w') a (c₀::cs) w
def Jf5{n:Nat}{c:Code}{u:FrameMode}{Q:Exit->St->Prop}(hn:n=s.h.next)(h:CW P G none n c s Q):CWD P G n c u s (fun e u' s'=>Q e s'/\u'=u):=by
 subst hn;intro Y a w c₀ cs S hu hm;refine wpSIn_of_wpIn rfl (wpIn_mono (h Y a w S (fun l hl=>by cases hl)) ?_);rintro e' a' w' ⟨Y',e,s',q,rfl,q1,q2,q3,q4⟩;have hd:∀ b,dom Y b->Y' b=Y b:=fun b hb=>q2 b (Qkr S.h hb);refine⟨Y',e,u,s',⟨q,rfl⟩,rfl,q1,Z6m (fun b hb=>by simpa[dom,hd b hb]using hb) hu,?_,q2,q3,q4⟩;rw[Zi3 hd hu,<- hm]
def CWD.mono{n m:Nat}{c:Code}{u:FrameMode}{Q Q':Exit->FrameMode->St->Prop}(hc:CWD P G n c u s Q)(hmn:m<=n)(hq:∀ e u' s',Q e u' s'->Q' e u' s'):CWD P G m c u s Q':=by
 intro Y a w c₀ cs S hu hm b k h1 h2 h3 h4;obtain⟨e,a',cs',w',l,⟨Y',e1,u1,s1,q,q1,q2,q3,q4,q5,q6⟩,arr⟩:=hc Y a w c₀ cs S hu hm b k h1 h2 h3 h4;exact⟨e,a',cs',w',l,⟨Y',e1,u1,s1,hq _ _ _ q,q1,q2,q3,q4,q5.mono hmn,q6⟩,arr⟩
def Ynk{F:Fence}{n:Nat}{c:Code}{Q Q':Exit->Act->List Frame->World->Prop}{cs:List Frame}(hc:c.wpSIn F n P Q a cs w)(hq:∀ e a cs w,Q e a cs w->Q' e a cs w):c.wpSIn F n P Q' a cs w:=by
 intro b k h1 h2 h3 h4;obtain⟨e,a',cs',w',l,q,arr⟩:=hc b k h1 h2 h3 h4;exact⟨e,a',cs',w',l,hq _ _ _ _ q,arr⟩
def Jlp{x y:Code}{u:FrameMode}{Q:Exit->FrameMode->St->Prop}(h:CWD P G s.h.next x u s (fun e u' s'=>s.h.next<=s'.h.next/\(e=.normal->CWD P G s'.h.next y u' s' Q)/\(e ≠ .normal->Q e u' s'))) :
  CWD P G s.h.next (.seq x y) u s Q:=by
 intro Y a w c₀ cs S hu hm;refine wpSIn_seq (Ynk (h Y a w c₀ cs S hu hm) ?_);rintro e' a' cs' w' ⟨Y',e,u',s',⟨hn,hq1,hq2⟩,rfl,hoe,hou,rfl,hext,hturn,S'⟩;by_cases hne:e=.normal
 ·subst hne;show y.wpSIn _ _ _ _ _ _ _;refine Ynk (hq1 rfl Y' a' w' _ cs S' hou rfl) ?_;rintro e'' a'' cs'' w'' ⟨Y'',e2,u'',s'',g1,g2,g3,g4,g5,g6,g7,g8⟩;exact⟨Y'',e2,u'',s'',g1,g2,g3,g4,g5,hext.trans g6 hn,hturn.trans g7,g8⟩
 ·have : ∃ Y'_1 e_1 u'_1 s'_1,Q e_1 u'_1 s'_1/\Qos Y' e=Qos Y'_1 e_1/\Q24 (dom Y'_1) e_1/\okM (dom Y'_1) u'_1/\{c₀ with mode:=Xyt Y' u' }::cs = {c₀ with mode:=Xyt Y'_1 u'_1}::cs/\Ext s.h.next Y Y'_1/\Turn Y s.h w Y'_1 s'_1.h w'/\SRel G Y'_1 s'_1 a' w' :=
   ⟨Y',e,u',s',hq2 hne,rfl,hoe,hou,rfl,hext,hturn,S'⟩
  cases e <;> first
   | exact absurd rfl hne
   | exact this
def Z51{c:Operand}{x y:Code}{u:FrameMode}{Q:Exit->FrameMode->St->Prop}{b:Bool}(hc:aev G s.t c=some (.bool b))(h:CWD P G s.h.next (if b then x else y) u s Q):CWD P G s.h.next (.cond c x y) u s Q:=by
 intro Y a w c₀ cs S hu hm;exact wpSIn_cond (by rw[(Xvk S.h S.t hc).2,ren_bool]) (h Y a w c₀ cs S hu hm)
def Jmt{u:FrameMode}(hu:okM (dom Y) u){c₀:Frame}(cs:List Frame)(hm:c₀.mode=Xyt Y u) :
  okV (dom Y) (Ja7 u).1/\okM (dom Y) (Ja7 u).2 /\
  (recoverD (c₀::cs)=some (ren Y (Ja7 u).1,{c₀ with mode:=Xyt Y (Ja7 u).2}::cs)∨(recoverD (c₀::cs)=none/\(Ja7 u).1=.nilIface/\(Ja7 u).2=u)):=by
 unfold Ja7;split
 ·rename_i v older;simp only[okM]at hu;have hv:=hu {v:=v,recovered:=false} bo;refine⟨hv,fun p hp => ?_,.inl ?_⟩
  ·rcases ap.1 hp with rfl | h
   ·exact hv
   ·exact hu p (aN _ h)
  ·simp[recoverD,hm,Xyt,Yf9]
 ·rename_i hne;refine⟨by simp[okV],hu,.inr ⟨?_,rfl,rfl⟩⟩;simp only[recoverD,hm];cases u with
  | panicking ch =>
   cases ch with
   | nil=>simp[Xyt]
   | cons p older =>
    obtain⟨v,r,g⟩:=p;cases r <;> cases g <;> simp[Xyt,Yf9];exact hne _ _ rfl
  | _=>simp[Xyt]
def Jak{o:Oper}(hr:Zxn o=true)(a:Act)(w:World):(execOp a.eval o).run P w=.ok .recover w:=by
 unfold Zxn at hr;split at hr
 ·rename_i c hop;simp only[ao]at hr;obtain⟨h1,h2⟩:=hr;split at h1
  ·rename_i hb;have : c.args = #[]:=by simpa using h2
   simp[execOp,hop,resolve,hb,invoke,builtin,this]
  ·cases h1
 ·cases hr
def Yqc(E:Env2 P){ops:Array Oper}{Q:Exit->Act->List Frame->World->Prop}:∀ (l:List Oper) (i:Nat) (u:FrameMode) (s:St) (Y:Ren) (a:Act) (w:World) (c₀:Frame) (cs:List Frame) (e:Exit) (u1:FrameMode) (s1:St),
  ops.toList.drop i=l->Zzm E ops.toList l u s=some (e,u1,s1)->SRel E.G Y s a w->okM (dom Y) u->c₀.mode=Xyt Y u ->
  (∀ Y' a' w',Ext s.h.next Y Y'->Turn Y s.h w Y' s1.h w'->SRel E.G Y' s1 a' w'->Q24 (dom Y') e->okM (dom Y') u1->Q (Qos Y' e) a' ({c₀ with mode:=Xyt Y' u1}::cs) w') ->
  wpOpsSIn Fence.wide 0 P ops Q (List.range' i l.length) a (c₀::cs) w
 | [],i,u,s,Y,a,w,c₀,cs,e,u1,s1,_,h,S,hu,hm,hQ=>by
  simp only[Zzm,ar,bG]at h;obtain⟨rfl,rfl,rfl⟩:=h;have:=hQ Y a w (Ext.refl _ _) (Turn.refl _ _ _) S trivial hu;rw[<- hm]at this;exact this
 | o::r,i,u,s,Y,a,w,c₀,cs,e,u1,s1,hdrop,h,S,hu,hm,hQ=>by
  have ho:ops[i]? = some o:=by
   have:=congrArg (fun l=>l[0]?) hdrop;simpa[List.getElem?_drop]using this
  have hdrop':ops.toList.drop (i+1)=r:=by
   have:=congrArg List.tail hdrop;simpa[dY]using this
  simp only[aS,df,wpOpsSIn,ho];refine⟨fun _ _=>trivial,?_⟩;simp only[Zzm]at h;split at h
  ·rename_i hw hdst;rw[if_pos (Q3h (G:=E.G) S.t hw)];split at h
   ·rename_i hrec;rw[Jak hrec a w];obtain⟨r1,r2,r3⟩:=Jmt (Y:=Y) hu cs hm;have S':=S.put (d:=o.dst) hdst r1;have hh:(s.put o.dst (Ja7 u).1 s.h).h=s.h:=Qyz _ _ _ _;rcases r3 with r3 | ⟨r3,r4,r5⟩
    ·simp only[r3];exact Yqc E (Q:=Q) r (i+1) _ _ Y _ w _ cs e u1 s1 hdrop' h S' r2 rfl (by rw[hh];exact hQ)
    ·simp only[r3];have:=Yqc E (Q:=Q) r (i+1) _ _ Y _ w c₀ cs e u1 s1 hdrop' h S' r2 (by rw[r5];exact hm) (by rw[hh];exact hQ);rw[r4]at this;simpa[ren]using this
   ·rename_i hrec;split at h
    ·rename_i v h2 hnd hr;obtain⟨Y',w',q1,q2,q3,q4,q5⟩:=Q00 E S.h S.t hr;rw[q1];have S1:=S.step q3 q4;have S2:=S1.put (d:=o.dst) (v:=v) (by cases hd:o.dst <;> simp only[hd,Qoy]at hdst ⊢;exact hdst) q2;have hd:∀ b,dom Y b->Y' b=Y b:=fun b hb=>q3 b (Qkr S.h hb);have hh:(s.put o.dst v h2).h=h2:=Qyz _ _ _ _;refine Yqc E (Q:=Q) r (i+1) _ _ Y' _ w' c₀ cs e u1 s1 hdrop' h (by rw[eO];exact S2) (Z6m (fun b hb=>by simpa[dom,hd b hb]using hb) hu) (by rw[hm,Zi3 hd hu]) ?_;rw[hh];exact fun Y'' a'' w'' g1 g2 g3 g4 g5=>hQ Y'' a'' w'' (q3.trans g1 q5.next) (q5.trans g2) g3 g4 g5
    ·rename_i h2 hnd hr;obtain⟨w',q1,q2,q3⟩:=Q00 E S.h S.t hr;rw[q1];have S1:=S.step (Ext.refl _ _) q2;have S2:=S1.putU (d:=o.dst) (by cases hd:o.dst <;> simp only[hd,Qoy]at hdst ⊢;exact hdst);have hh:(s.put o.dst Qt h2).h=h2:=Qyz _ _ _ _;refine Yqc E (Q:=Q) r (i+1) _ _ Y _ w' c₀ cs e u1 s1 hdrop' h (by rw[eO];exact S2) hu hm ?_;rw[hh];exact fun Y'' a'' w'' g1 g2 g3 g4 g5=>hQ Y'' a'' w'' (Ext.trans (Ext.refl _ _) g1 q3.next) (q3.trans g2) g3 g4 g5
    ·rename_i v h2 hnd hr;obtain⟨rfl,q1,q2⟩:=Q00 E S.h S.t hr;rw[q1];cases h;have:=hQ Y a w (Ext.refl _ _) (Turn.refl _ _ _) S (by simpa[Q24]using q2) hu;rw[<- hm]at this;exact this
    ·cases h
  ·rename_i hw hdst;rw[if_neg (by rw[Q3h (G:=E.G) S.t hw];simp)];have hh:(s.put o.dst Qt s.h).h=s.h:=Qyz _ _ _ _;exact Yqc E (Q:=Q) r (i+1) _ _ Y _ w c₀ cs e u1 s1 hdrop' h (S.putU hdst) hu hm (by rw[hh];exact hQ)
  ·cases h
def Ygh{E:Env2 P}{ops:List Oper}:∀ (l:List Oper) (u:FrameMode) (s:St) (e:Exit) (u1:FrameMode) (s1:St),Zzm E ops l u s=some (e,u1,s1)->LowOK s.h s1.h
 | [],u,s,e,u1,s1,h=>by simp only[Zzm,ar,bG]at h;rw[<- h.2.2];exact LowOK.refl _
 | o::r,u,s,e,u1,s1,h=>by
  simp only[Zzm]at h;split at h
  ·split at h
   ·have:=Ygh r _ _ _ _ _ h;rwa [Qyz]at this
   ·split at h
    ·rename_i hr;have:=Ygh r _ _ _ _ _ h;rw[Qyz]at this;exact LowOK.trans (Qxw hr) this
    ·rename_i hr;have:=Ygh r _ _ _ _ _ h;rw[Qyz]at this;exact LowOK.trans (Qxw hr) this
    ·rename_i hr;cases h;exact Qxw hr
    ·cases h
  ·have:=Ygh r _ _ _ _ _ h;rwa [Qyz]at this
  ·cases h
def Xy0{E:Env2 P}{C:CallF}(hL:CallsLow C){k:Nat}:∀ (c:Code) (u:FrameMode) (s:St) (e:Exit) (u1:FrameMode) (s1:St),Q4j E C k c u s=some (e,u1,s1)->LowOK s.h s1.h:=by
 have base:∀ (c:Code) (u:FrameMode) (s:St) (e:Exit) (u1:FrameMode) (s1:St),(match Q4d E C none k c s with | some (e,s')=>some (e,u,s') | none=>none)=some (e,u1,s1)->LowOK s.h s1.h:=by
  intro c u s e u1 s1 h;split at h
  ·rename_i hx;cases h;exact Qsk hL _ _ _ _ hx
  ·cases h
 intro c;induction c with
 | seq x y ihx ihy =>
  intro u s e u1 s1 h;simp only[Q4j]at h;split at h
  ·rename_i hx;exact(ihx _ _ _ _ _ hx).trans (ihy _ _ _ _ _ h)
  ·exact ihx _ _ _ _ _ h
 | cond c x y ihx ihy =>
  intro u s e u1 s1 h;simp only[Q4j]at h;split at h
  ·exact ihx _ _ _ _ _ h
  ·exact ihy _ _ _ _ _ h
  ·cases h
 | region id ops d =>
  intro u s e u1 s1 h;cases d with
  | true=>simp only[Q4j]at h;exact base _ _ _ _ _ _ h
  | false =>
   simp only[Q4j]at h;split at h
   ·exact Ygh _ _ _ _ _ _ h
   ·exact base _ _ _ _ _ _ h
 | skip=>exact base Code.skip
 | block id c _=>exact base (Code.block id c)
 | loop c _=>exact base (Code.loop c)
 | rangeFunc f ps x y _ _=>exact base (Code.rangeFunc f ps x y)
 | exit id=>exact base (Code.exit id)
 | scope c _=>exact base (Code.scope c)
 | label l=>exact base (Code.label l)
 | goto l=>exact base (Code.goto l)
 | ret=>exact base Code.ret
 | refuse y=>exact base (Code.refuse y)
def Jht(E:Env2 P){C:CallF}(hC:CallsSound P E.G C)(hL:CallsLow C)(hm:P.follows .mixedOrders=true){k:Nat}:∀ (c:Code) (u:FrameMode) (s:St) (e:Exit) (u1:FrameMode) (s1:St),Q4j E C k c u s=some (e,u1,s1) ->
  CWD P E.G s.h.next c u s (fun e' u' s'=>e'=e/\u'=u1/\s'=s1):=by
 have base:∀ (c:Code) (u:FrameMode) (s:St) (e:Exit) (u1:FrameMode) (s1:St),(match Q4d E C none k c s with | some (e,s')=>some (e,u,s') | none=>none)=some (e,u1,s1)->CWD P E.G s.h.next c u s (fun e' u' s'=>e'=e/\u'=u1/\s'=s1):=by
  intro c u s e u1 s1 h;split at h
  ·rename_i hx;cases h;refine(Jf5 rfl (Q8u E hC hL hm c _ _ _ hx)).mono (ab _) ?_;rintro e' u' s' ⟨⟨rfl,rfl⟩,rfl⟩;exact⟨rfl,rfl,rfl⟩
  ·cases h
 intro c;induction c with
 | seq x y ihx ihy =>
  intro u s e u1 s1 h;simp only[Q4j]at h;refine Jlp ?_;split at h
  ·rename_i hx;refine(ihx _ _ _ _ _ hx).mono (ab _) ?_;rintro e' u' s' ⟨rfl,rfl,rfl⟩;exact⟨(Xy0 hL x _ _ _ _ _ hx).next,fun _=>ihy _ _ _ _ _ h,fun hne=>absurd rfl hne⟩
  ·rename_i hne;refine(ihx _ _ _ _ _ h).mono (ab _) ?_;rintro e' u' s' ⟨rfl,rfl,rfl⟩;refine⟨(Xy0 hL x _ _ _ _ _ h).next,fun he => ?_,fun _=>⟨rfl,rfl,rfl⟩⟩;subst he;exact absurd h (hne _ _)
 | cond c x y ihx ihy =>
  intro u s e u1 s1 h;simp only[Q4j]at h;split at h
  ·rename_i hc;exact Z51 hc (ihx _ _ _ _ _ h)
  ·rename_i hc;exact Z51 hc (ihy _ _ _ _ _ h)
  ·cases h
 | region id ops d =>
  intro u s e u1 s1 h;cases d with
  | true=>simp only[Q4j]at h;exact base _ _ _ _ _ _ h
  | false =>
   simp only[Q4j]at h;split at h
   ·intro Y a w c₀ cs S hu hm';have:=Yqc E (ops:=ops) ops.toList 0 u s Y a w c₀ cs e u1 s1 rfl h S hu hm'
     (Q:=fun e' a' cs' w' => ∃ Y' e_1 u' s',(e_1=e/\u'=u1/\s'=s1)/\e'=Qos Y' e_1/\Q24 (dom Y') e_1/\okM (dom Y') u'/\cs' = {c₀ with mode:=Xyt Y' u' }::cs/\Ext s.h.next Y Y'/\Turn Y s.h w Y' s'.h w'/\SRel E.G Y' s' a' w')
     (fun Y' a' w' h1 h2 h3 h4 h5=>⟨Y',e,u1,s1,⟨rfl,rfl,rfl⟩,rfl,h4,h5,rfl,h1,h2,h3⟩)
    rw[dA,<- cU]at this;exact wpSIn_region this
   ·exact base _ _ _ _ _ _ h
 | _=>intro u s e u1 s1 h;simp only[Q4j]at h;exact base _ _ _ _ _ _ h
def Zsy(E:Env2 P){C:CallF}(hC:CallsSound P E.G C)(hL:CallsLow C)(hm:P.follows .mixedOrders=true){k:Nat}:Q1s P E.G (Xue E C k):=by
 intro f args u h r u1 h1 hb Y w H ha hu;unfold Xue at hb;split at hb
 ·cases hb
 ·rename_i fn hfn;obtain⟨g1,g2,g3⟩:=E.fnok _ _ hfn;split at hb
  ·rename_i c hbody hle;have hle':args.length<=fn.ntmps:=by simpa using hle
   have S:SRel E.G Y ⟨Xm fn args,[],h⟩ {tmps:=(args.map (ren Y)).toArray++Array.replicate (fn.ntmps-(args.map (ren Y)).toArray.size) undef,defers:=[]} w :=
    ⟨H,Y2r hle' ha,rfl,fun d hd=>by cases hd⟩
   have fin:∀ e u' s,Q4j E C k c u ⟨Xm fn args,[],h⟩=some (e,u',s)->(∀ a' w' Y' c₀ cs,Ext h.next Y Y'->Turn Y h w Y' s.h w'->SRel E.G Y' s a' w'->Q24 (dom Y') e->okM (dom Y') u' ->
     bodyPostS P fn c₀ cs (fun e um w' => ∃ Y',e=Qz1 Y' r/\um=Xyt Y' u1/\Xy1 (dom Y') r/\okM (dom Y') u1/\Ext h.next Y Y'/\Turn Y h w Y' h1 w'/\HRel E.G Y' h1 w') (Qos Y' e) a' ({c₀ with mode:=Xyt Y' u' }::cs) w') ->
     CallsDIn Fence.wide 0 P f (args.map (ren Y)).toArray (Xyt Y u) w (fun e um w' => ∃ Y',e=Qz1 Y' r/\um=Xyt Y' u1/\Xy1 (dom Y') r/\okM (dom Y') u1/\Ext h.next Y Y'/\Turn Y h w Y' h1 w'/\HRel E.G Y' h1 w'):=by
    intro e u' s hex hp;refine callsDIn_of_wpSIn g1 hbody trivial fun c₀ cs hc₀ => ?_;refine Ynk (Jht E hC hL hm c _ _ _ _ _ hex Y _ w c₀ cs S hu hc₀) ?_;rintro e' a' cs' w' ⟨Y',e1,u2,s1,⟨rfl,rfl,rfl⟩,rfl,q1,q2,rfl,q3,q4,q5⟩;exact hp a' w' Y' c₀ cs q3 q4 q5 q1 q2
   split at hb
   ·rename_i u' t h' hex;split at hb
    ·rename_i v hv;cases hb;refine fin _ _ _ hex fun a' w' Y' c₀ cs q3 q4 q5 q1 q2 => ?_;obtain⟨i1,i2⟩:=Z1p E q5.h q5.t hv;exact⟨q5.ds,_,rfl,_,i2,Y',rfl,rfl,i1,q2,q3,q4,q5.h⟩
    ·cases hb
   ·rename_i u' t h' hex;split at hb
    ·rename_i v hv;cases hb;refine fin _ _ _ hex fun a' w' Y' c₀ cs q3 q4 q5 q1 q2 => ?_;obtain⟨i1,i2⟩:=Z1p E q5.h q5.t hv;exact⟨q5.ds,_,rfl,_,i2,Y',rfl,rfl,i1,q2,q3,q4,q5.h⟩
    ·cases hb
   ·rename_i ch u' t h' hex;cases hb;refine fin _ _ _ hex fun a' w' Y' c₀ cs q3 q4 q5 q1 q2 => ?_;exact⟨q5.ds,_,rfl,Y',rfl,rfl,q1,q2,q3,q4,q5.h⟩
   ·cases hb
  ·cases hb
def Zhj{E:Env2 P}{C:CallF}(hL:CallsLow C){k:Nat}:Xy3 (Xue E C k):=by
 intro f args u h r u1 h1 hb;unfold Xue at hb;split at hb
 ·cases hb
 ·split at hb
  ·split at hb
   ·rename_i hex;split at hb
    ·cases hb;exact Xy0 hL _ _ _ _ _ _ hex
    ·cases hb
   ·rename_i hex;split at hb
    ·cases hb;exact Xy0 hL _ _ _ _ _ _ hex
    ·cases hb
   ·rename_i hex;cases hb;exact Xy0 hL _ _ _ _ _ _ hex
   ·cases hb
  ·cases hb
end
abbrev Xhm:=FuncId->List Value->Heap->Option (AEnd × Heap)
def Qst(P:Program)(G:Bs)(X:Xhm):Prop:=∀ f args h r h',X f args h=some (r,h')->CallOK P G f args h (fun r1 h1=>r1=r/\h1=h')
def Q0y(X:Xhm):Prop:=∀ f args h r h',X f args h=some (r,h')->LowOK h h'
def Y9t{P:Program}(E:Env2 P)(X:Xhm)(k:Nat):Nat->CallF
 | 0=>⟨X,fun _ _ _=>none⟩
 | n+1=>⟨fun f args h=>match X f args h with
   | some r=>some r
   | none=>Z2n E (Y9t E X k n) (Xue E (Y9t E X k n) k) k f args h,fun l args h=>Y1p E (Y9t E X k n) k l args h⟩
section
variable{P:Program}
def Y2d(E:Env2 P){X:Xhm}(hL:Q0y X)(k:Nat):∀ n,CallsLow (Y9t E X k n)
 | 0=>⟨hL,fun _ _ _ _ _ h=>by cases h⟩
 | n+1=>by
  have ih:=Y2d E hL k n;refine⟨fun f args h r h' hc => ?_,fun l args h r h' hc=>Z86 ih hc⟩;simp only[Y9t]at hc;split at hc
  ·rename_i hx;cases hc;exact hL _ _ _ _ _ hx
  ·exact Je0 ih (Zhj ih) hc
def Zlj(E:Env2 P){X:Xhm}(hX:Qst P E.G X)(hL:Q0y X)(hm:P.follows .mixedOrders=true)(k:Nat):∀ n,CallsSound P E.G (Y9t E X k n)
 | 0=>⟨hX,fun _ _ _ _ _ h=>by cases h⟩
 | n+1=>by
  have ih:=Zlj E hX hL hm k n;have il:=Y2d E hL k n;refine⟨fun f args h r h' hc => ?_,fun l args h r h' hc=>Jb4 E ih il hm hc⟩;simp only[Y9t]at hc;split at hc
  ·rename_i hx;cases hc;exact hX _ _ _ _ _ hx
  ·exact Jh6 E ih il hm (Zsy E ih il hm) hc
def Jjk:Xhm:=fun _ _ _=>none
def Z6b(G:Bs):Qst P G Jjk:=fun _ _ _ _ _ h=>by cases h
def Y12:Q0y Jjk:=fun _ _ _ _ _ h=>by cases h
end
end Go.Ab
