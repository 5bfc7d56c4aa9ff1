import Derived.Test.YtijagoebdgohnaaGreatDoorAbC
import Derived.RangeFuncIn
import Derived.RecoverIn
set_option linter.all false
noncomputable section
namespace Go.Ab
section
variable{P:Program}{G:Bs}{Y:Ren}{h:Heap}{w:World}
def Yxp(E:Env2 P){f:FuncId}{F:Func}(hF:E.fn.get f=some F)(cap args:Array Value)(w:World):(invoke (.fn (.func f) cap) args).run P w=.ok (.enter f (args++cap)) w:=by
 obtain⟨g1,g2,g3⟩:=E.fnok _ _ hF;have hbody:F.body.isNone=false:=by cases hb:F.body <;> simp[hb]at g3 ⊢
 simp only[ar,aQ,ai,invoke,callFunc,run_program,g1,g2,aL,if_false,hbody]
def Xsl(H:HRel G Y h w){l:Nat}(hl:dom Y l){st:LoopState}{pend:Option Code}{t:Tm}{ps:Array Tmp}{as bd:Code}{d:Nat}(hg:h.get l=some (.obj (.loop st pend t ps as bd d))) :
  ∃ r:Loop,w.heap[Uo Y l]? = some (.loop r)/\r.state=st/\r.pending=pend/\r.params=ps/\r.assign=as/\r.body=bd/\TRel Y t r.tmps/\dom Y d/\r.defers=Uo Y d /\
   ∀ st' pend',HRel G Y (h.set l (some (.obj (.loop st' pend' t ps as bd d)))) (w.putObj (Uo Y l) (.loop {r with state:=st',pending:=pend' })) /\
    Turn Y h w Y (h.set l (some (.obj (.loop st' pend' t ps as bd d)))) (w.putObj (Uo Y l) (.loop {r with state:=st',pending:=pend' })):=by
 obtain⟨p,hp⟩:=aN.1 hl;obtain⟨f0,o,f1,hd,fn,tmps,rfl,ht⟩:=H.fits l p _ hp hg;have e:Uo Y l=p.blk:=by simp[Uo,hp]
 rw[e];refine⟨_,f1,rfl,rfl,rfl,rfl,rfl,ht,hd,rfl,fun st' pend' => ?_⟩;have hlt:=H.blk_lt hp hg rfl;exact H.upd hp (by rw[Qy3 hg];rfl) (x:=.obj (.loop st' pend' t ps as bd d)) rfl ⟨f0,_,Qs8 hlt,hd,fn,tmps,rfl,ht⟩
def Y9u:Exit->Option (Option Code)
 | .normal=>some none
 | .ret=>some (some .ret)
 | .exit id=>some (some (.exit id))
 | _=>none
def Xfn(t:Tm)(ds:List Deferred)(l:Nat):Option (AEnd × Heap)->Option (Exit × St)
 | some (.ret _,h)=>match h.get l with
  | some (.obj (.loop .busy _ _ _ _ _ _))=>none
  | some (.obj (.loop _ none _ _ _ _ _))=>some (.normal,⟨t,ds,h.set l none⟩)
  | some (.obj (.loop _ (some .ret) _ _ _ _ _))=>some (.ret,⟨t,ds,h.set l none⟩)
  | some (.obj (.loop _ (some (.exit id)) _ _ _ _ _))=>some (.exit id,⟨t,ds,h.set l none⟩)
  | _=>none
 | some (.panic ch,h)=>some (.panic ch,⟨t,ds,h⟩)
 | none=>none
def Zz3{P:Program}(E:Env2 P)(C:CallF)(rd:Option Nat)(g:Operand)(ps:Array Tmp)(as bd:Code)(s:St):Option (Exit × St) :=
 match aev E.G s.t g with
 | some (.func (.func f) first captured)=>match E.fn.get f with
  | none=>none
  | some _=>match rd with
   | none=>Xfn s.t ({target:=.collected s.h.next,args:=#[]}::s.ds) (s.h.next+1)
     (C.fn f (first.toList ++ [.func (.yield (s.h.next+1)) #[] #[]]++captured.toList) ((s.h.push (.obj .defs)).push (.obj (.loop .ready none s.t ps as bd s.h.next))))
   | some l0=>match s.h.get l0 with
    | some (.obj (.loop _ _ _ _ _ _ d))=>Xfn s.t s.ds s.h.next
      (C.fn f (first.toList ++ [.func (.yield s.h.next) #[] #[]]++captured.toList) (s.h.push (.obj (.loop .ready none s.t ps as bd d))))
    | _=>none
 | _=>none
def Yyb{t:Tm}{ds:List Deferred}{l:Nat}{r:AEnd}{h:Heap}{e:Exit}{s1:St}(hh:Xfn t ds l (some (r,h))=some (e,s1)):LowOK h s1.h:=by
 cases r with
 | ret v =>
  unfold Xfn at hh;split at hh
  ·rename_i hq;cases hq;split at hh <;> first
    | cases hh;done
    | (cases hh;exact LowOK.set _ _ _ (Heap.get_lt (by assumption)))
  ·rename_i hq;cases hq
  ·cases hh
 | panic ch =>
  unfold Xfn at hh;cases hh;exact LowOK.refl _
def Z3z{E:Env2 P}{C:CallF}(hC:CallsLow C){rd:Option Nat}{g:Operand}{ps:Array Tmp}{as bd:Code}{s s1:St}{e:Exit}(hh:Zz3 E C rd g ps as bd s=some (e,s1)):LowOK s.h s1.h:=by
 unfold Zz3 at hh;split at hh
 ·split at hh
  ·cases hh
  ·split at hh
   ·cases hc:C.fn _ _ _ with
    | none=>rw[hc]at hh;simp[Xfn]at hh
    | some x =>
     obtain⟨r,h2⟩:=x;rw[hc]at hh;exact(((LowOK.push _ _).trans (LowOK.push _ _)).trans (hC.fn _ _ _ _ _ hc)).trans (Yyb hh)
   ·split at hh
    ·cases hc:C.fn _ _ _ with
     | none=>rw[hc]at hh;simp[Xfn]at hh
     | some x =>
      obtain⟨r,h2⟩:=x;rw[hc]at hh;exact((LowOK.push _ _).trans (hC.fn _ _ _ _ _ hc)).trans (Yyb hh)
    ·cases hh
 ·cases hh
def Zv8{a:Act}{w3:World}{Y3:Ren}{t:Tm}{ds:List Deferred}{l:Nat}{r:AEnd}{h3:Heap}{e:Exit}{s1:St}{F:Fence}{n:Nat}{Q:Exit->Act->World->Prop}
  (hh:Xfn t ds l (some (r,h3))=some (e,s1)) (hl:dom Y3 l) (hr:Xx6 (dom Y3) r) (S:SRel G Y3 ⟨t,ds,h3⟩ a w3)
  (hQ:∀ w',Turn Y3 h3 w3 Y3 s1.h w'->SRel G Y3 s1 a w'->Q04 (dom Y3) e->Q (Qp4 Y3 e) a w') :
  rangePost F n P (Uo Y3 l) Q a (Qww Y3 r) w3:=by
 cases r with
 | panic ch =>
  unfold Xfn at hh;cases hh;exact hQ w3 (Turn.refl _ _ _) S hr
 | ret v =>
  unfold Xfn at hh;split at hh
  ·rename_i hq;cases hq;have key:∀ {st pend t' ps as bd d},h3.get l=some (.obj (.loop st pend t' ps as bd d))->st ≠ .busy->∃ w4,(Instr.endLoop (Uo Y3 l)).run P w3=.ok pend w4/\HRel G Y3 (h3.set l none) w4/\Turn Y3 h3 w3 Y3 (h3.set l none) w4:=by
    intro st pend t' ps as bd d hg hst;obtain⟨r,r1,r2,r3,_,_,_,_,_,_,r4⟩:=Xsl S.h hl hg;obtain⟨H4,T4⟩:=r4 .exhausted pend;have hlt:=Heap.get_lt hg;have hk:=H4.kill (b:=l) hlt;rw[Zqv]at hk;subst r3;exact⟨_,run_endLoop r1 (by rw[r2];exact hst),hk.1,T4.trans hk.2⟩
   have fin:∀ {w4:World},HRel G Y3 (h3.set l none) w4->SRel G Y3 ⟨t,ds,h3.set l none⟩ a w4:=fun H4=>S.step (Ext.refl _ _) H4;split at hh
   ·cases hh
   ·rename_i hb hg;cases hh;obtain⟨w4,e1,e2,e3⟩:=key hg hb;exact⟨none,w4,e1,hQ w4 e3 (fin e2) trivial⟩
   ·rename_i hb hg;cases hh;obtain⟨w4,e1,e2,e3⟩:=key hg hb;exact⟨_,w4,e1,wpIn_ret (hQ w4 e3 (fin e2) trivial)⟩
   ·rename_i hb hg;cases hh;obtain⟨w4,e1,e2,e3⟩:=key hg hb;exact⟨_,w4,e1,wpIn_exit (hQ w4 e3 (fin e2) trivial)⟩
   ·cases hh
  ·rename_i hq;cases hq
  ·cases hh
def Y9j(w:World)(o:Obj):(w.alloc o).heap.size=w.heap.size+1:=Array.size_push _
def Zg0(H:HRel G Y h w){x:AObj}{o:Obj}(hf:FitObj (Ren.add Y h.next ⟨w.heap.size,0,0,0,none⟩) o x) :
  ∃ Y',HRel G Y' (h.push (.obj x)) (w.alloc o)/\Turn Y h w Y' (h.push (.obj x)) (w.alloc o)/\dom Y' h.next/\Uo Y' h.next=w.heap.size/\Ext h.next Y Y' :=
 have h1:=H.push (x:=.obj x) rfl (p:=⟨w.heap.size,0,0,0,none⟩) rfl (o:=o) (w':=w.alloc o) rfl ⟨rfl,o,World.alloc_heap_new _ _,hf⟩
 ⟨_,h1.1,h1.2,by show(Ren.add _ _ _ _).isSome=true;rw[dR];rfl,by unfold Uo;rw[dR],dS _ _ _⟩
def Yfb(H:HRel G Y h w){t:Tm}{tmps:Array Value}{ps:Array Tmp}{as bd:Code}{d:Nat}(ht:TRel Y t tmps)(hd:dom Y d)(fn:FuncId) :
  ∃ Y',HRel G Y' (h.push (.obj (.loop .ready none t ps as bd d))) (w.alloc (.loop {state:=.ready,pending:=none,fn,tmps,params:=ps,assign:=as,body:=bd,defers:=Uo Y d})) /\
   Turn Y h w Y' (h.push (.obj (.loop .ready none t ps as bd d))) (w.alloc (.loop {state:=.ready,pending:=none,fn,tmps,params:=ps,assign:=as,body:=bd,defers:=Uo Y d})) /\
   dom Y' h.next/\Uo Y' h.next=w.heap.size/\Ext h.next Y Y':=by
 have hc:∀ b,dom Y b->Ren.add Y h.next ⟨w.heap.size,0,0,0,none⟩ b=Y b:=H.add_dom _;exact Zg0 H ⟨by simpa[dom,hc d hd]using hd,fn,tmps,by rw[Qbr (hc d hd)],ht.keep hc⟩
def Zop{Y2:Ren}{first captured:Array Value}{l k:Nat}(g1:(∀ v ∈ first,okV (dom Y) v)/\∀ v ∈ captured,okV (dom Y) v)(hc:∀ b,dom Y b->Y2 b=Y b)(hl:dom Y2 l)(hk:Uo Y2 l=k) :
  first.map (ren Y) ++ #[Value.func (.yield k) #[] #[]]++captured.map (ren Y)=((first.toList ++ [Value.func (.yield l) #[] #[]]++captured.toList).map (ren Y2)).toArray /\
  ∀ v ∈ first.toList ++ [Value.func (.yield l) #[] #[]]++captured.toList,okV (dom Y2) v:=by
 have hd:∀ b,dom Y b->dom Y2 b:=fun b hb=>by simpa[dom,hc b hb]using hb
 constructor
 ·have e1:∀ A:Array Value,(∀ v ∈ A,okV (dom Y) v)->A.map (ren Y)=A.map (ren Y2):=fun A hA=>by
   apply dG;intro v hv;exact(ren_congr hc v (hA v hv)).symm
  rw[e1 _ g1.1,e1 _ g1.2,<- hk];apply bU;simp[ren,Yg8,Qsk]
 ·intro v hv;simp only[ac,dF,aw]at hv;rcases hv with(hv | rfl) | hv
  ·exact okV_mono hd v (g1.1 v hv)
  ·simp only[okV,okA,okL];exact⟨hl,trivial,trivial⟩
  ·exact okV_mono hd v (g1.2 v hv)
def Jbw(E:Env2 P){C:CallF}(hC:CallsSound P E.G C)(hL:CallsLow C){rd:Option Nat}{g:Operand}{ps:Array Tmp}{as bd:Code}{s s1:St}{e:Exit}(hh:Zz3 E C rd g ps as bd s=some (e,s1)) :
  CW P E.G rd s.h.next (.rangeFunc g ps as bd) s (fun e' s'=>e'=e/\s'=s1):=by
 intro Y a w S hl;unfold Zz3 at hh;split at hh
 ·rename_i f first captured hg
  obtain⟨g1,g2⟩:=Xmb S.h S.t hg;split at hh
  ·cases hh
  ·rename_i F hF;obtain⟨q1,q2,q3⟩:=E.fnok _ _ hF;have hbody:F.body.isNone=false:=by cases hb:F.body <;> simp[hb]at q3 ⊢
   have g3:a.eval g=.func (.func f) (first.map (ren Y)) (captured.map (ren Y)):=by rw[g2];simp[ren,Yg8,Qsk]
   simp only[okV,Q6u]at g1;have hinv:∀ (args:Array Value) (w:World),(invoke (.fn (.func f) (captured.map (ren Y))) args).run P w=.ok (.enter f (args++captured.map (ren Y))) w:=fun args w=>Yxp E hF _ _ w;have go:∀ (Y2:Ren) (w2:World) (h2:Heap) (l:Nat) (ds:List Deferred) (mark:List Deferred),Ext s.h.next Y Y2->s.h.next<=h2.next->HRel E.G Y2 h2 w2->Turn Y s.h w Y2 h2 w2->dom Y2 l ->
     (mark++a.defers=ds.map (Qvs Y2))->(∀ d ∈ ds,Yc9 (dom Y2) d) ->
     Xfn s.t ds l (C.fn f (first.toList ++ [.func (.yield l) #[] #[]]++captured.toList) h2)=some (e,s1) ->
     CallsIn (Qt4 rd Y) 0 P f (first.map (ren Y) ++ #[Value.func (.yield (Uo Y2 l)) #[] #[]]++captured.map (ren Y)) w2 (rangePost (Qt4 rd Y) 0 P (Uo Y2 l)
      (fun e' a' w' => ∃ Y' e0 s',(e0=e/\s'=s1)/\e'=Qp4 Y' e0/\Q04 (dom Y') e0/\Ext s.h.next Y Y'/\Turn Y s.h w Y' s'.h w'/\SRel E.G Y' s' a' w') {a with defers:=mark++a.defers}):=by
    intro Y2 w2 h2 l ds mark he hn H2 T2 hl2 hds hok haft;have hcongr:∀ b,dom Y b->Y2 b=Y b:=fun b hb=>he b (Ql2 S.h hb);obtain⟨a1,a2⟩:=Zop g1 hcongr hl2 rfl;rw[a1];cases hc:C.fn f (first.toList ++ [.func (.yield l) #[] #[]]++captured.toList) h2 with
    | none=>rw[hc]at haft;simp[Xfn]at haft
    | some x =>
     obtain⟨r,h3⟩:=x;rw[hc]at haft;refine Xdh ((hC.fn _ _ _ _ _ hc Y2 w2 H2 a2).mono ?_);rintro e' w3 ⟨Y3,r',h3',⟨rfl,rfl⟩,rfl,k1,k2,k3,k4⟩;have hc3:∀ b,dom Y2 b->Y3 b=Y2 b:=fun b hb=>k2 b (Ql2 H2 hb);have hl3:dom Y3 l:=(by simpa[dom,hc3 l hl2]using hl2);have er:Uo Y2 l=Uo Y3 l:=(Qbr (hc3 l hl2)).symm;have S3:SRel E.G Y3 ⟨s.t,ds,h3'⟩ {a with defers:=mark++a.defers} w3:=by
      refine⟨k4,(S.t.keep hcongr).keep hc3,?_,fun d hd=>Xae (fun b hb=>by simpa[dom,hc3 b hb]using hb) (hok d hd)⟩;show mark++a.defers=_;rw[hds];apply bM;intro d hd;exact(Q03 hc3 (hok d hd)).symm
     rw[er];refine Zv8 haft hl3 k1 S3 fun w' T' S' hx => ?_;exact⟨Y3,e,s1,⟨rfl,rfl⟩,rfl,hx,he.trans k2 hn,(T2.trans k3).trans T',S'⟩
   split at hh
   ·
    refine wpIn_rangeFunc fun fn _ => ?_;obtain⟨Y1,H1,T1,d1,b1,x1⟩:=Zg0 S.h (x:=.defs) (o:=.deferred (some [])) rfl;have S1:=S.step x1 H1;obtain⟨Y2,H2,T2,d2,b2,x2⟩:=Yfb (ps:=ps) (as:=as) (bd:=bd) H1 S1.t d1 fn;have hn1:(s.h.push (.obj .defs)).next=s.h.next+1:=rfl;have x12:Ext s.h.next Y Y2:=x1.trans x2 (by omega);have hb2:Uo Y2 s.h.next=w.heap.size:=by rw[Qbr (x2 _ (by omega)),b1]
    have hd2:dom Y2 s.h.next:=by have:=x2 s.h.next (by omega);simpa[dom,this]using d1
    rw[Y9j]at b2;rw[b1]at H2 T2;refine⟨w.heap.size+1,[{target:=.collected w.heap.size,args:=#[]}],(w.alloc (.deferred (some []))).alloc (.loop {state:=.ready,pending:=none,fn:=fn,tmps:=a.tmps,params:=ps,assign:=as,body:=bd,defers:=w.heap.size}),⟨.fn (.func f) (captured.map (ren Y)),first.map (ren Y) ++ #[.func (.yield (w.heap.size+1)) #[] #[]]⟩,(w.alloc (.deferred (some []))).alloc (.loop {state:=.ready,pending:=none,fn:=fn,tmps:=a.tmps,params:=ps,assign:=as,body:=bd,defers:=w.heap.size}),f,_,(w.alloc (.deferred (some []))).alloc (.loop {state:=.ready,pending:=none,fn:=fn,tmps:=a.tmps,params:=ps,assign:=as,body:=bd,defers:=w.heap.size}),?_,?_,?_,hinv _ _,by rw[Qqf];simp,?_⟩
    ·rw[Q49];exact run_enterLoop_outer fn a.tmps ps as bd
    ·show(Deferred.ofValue (a.eval g) _).run P _=_;rw[g3];simp[Deferred.ofValue,rangeCall,Act.eval]
    ·exact fun f' _=>Qw5 none Y f'
    ·have:=go Y2 _ _ (s.h.next+1) ({target:=.collected s.h.next,args:=#[]}::s.ds) [{target:=.collected w.heap.size,args:=#[]}] x12 (by show s.h.next<=s.h.next+1+1;omega) H2 (T1.trans T2) d2 ?_ ?_ hh
     ·rw[<- hn1,b2]at this;exact this
     ·have S2:=S.step x12 H2;simp only[aR,Qvs,hb2,renA,renL];rw[<- S2.ds];rfl
     ·intro d hd;rcases ax.1 hd with rfl | hd
      ·exact⟨hd2,by simp[okA,okL]⟩
      ·exact(S.step x12 H2).okd d hd
   ·
    rename_i l0;split at hh
    ·rename_i st0 pend0 t0 ps0 as0 bd0 d0 hg0;refine wpIn_rangeFunc fun fn _ => ?_;have hl0:=hl l0 rfl;obtain⟨r0,r1,_,_,_,_,_,_,hd0,r2,_⟩:=Xsl S.h hl0 hg0;obtain⟨Y2,H2,T2,d2,b2,x2⟩:=Yfb (ps:=ps) (as:=as) (bd:=bd) S.h S.t hd0 fn;have S2:=S.step x2 H2;refine⟨w.heap.size,[],w.alloc (.loop {state:=.ready,pending:=none,fn:=fn,tmps:=a.tmps,params:=ps,assign:=as,body:=bd,defers:=Uo Y d0}),⟨.fn (.func f) (captured.map (ren Y)),first.map (ren Y) ++ #[.func (.yield w.heap.size) #[] #[]]⟩,w.alloc (.loop {state:=.ready,pending:=none,fn:=fn,tmps:=a.tmps,params:=ps,assign:=as,body:=bd,defers:=Uo Y d0}),f,_,w.alloc (.loop {state:=.ready,pending:=none,fn:=fn,tmps:=a.tmps,params:=ps,assign:=as,body:=bd,defers:=Uo Y d0}),?_,?_,?_,hinv _ _,by rw[Qqf];simp,?_⟩
     ·rw[Q49];unfold Instr.enterLoop;simp only[aK,ar,run_getLoop r1,Result.andThen,aQ,run_newObj_alloc,r2]
     ·show(Deferred.ofValue (a.eval g) _).run P _=_;rw[g3];simp[Deferred.ofValue,rangeCall,Act.eval]
     ·exact fun f' _=>Qw5 _ Y f'
     ·have:=go Y2 _ _ s.h.next s.ds [] x2 (by show s.h.next<=s.h.next+1;omega) H2 T2 d2 (by simpa using S2.ds) S2.okd hh;rw[b2]at this;exact this
    ·cases hh
 ·cases hh
end
def Xqf(body:St->Option (Exit × St)):Nat->St->Option (Exit × St)
 | 0,_=>none
 | k+1,s=>match body s with
  | some (.normal,s')=>Xqf body k s'
  | r=>r
def Q0z{P:Program}(E:Env2 P)(C:CallF)(rd:Option Nat)(k:Nat):Code->St->Option (Exit × St)
 | .skip,s=>some (.normal,s)
 | .label _,s=>some (.normal,s)
 | .ret,s=>some (.ret,s)
 | .exit id,s=>some (.exit id,s)
 | .seq x y,s=>match Q0z E C rd k x s with
  | some (.normal,s')=>Q0z E C rd k y s'
  | r=>r
 | .cond c x y,s=>match aev E.G s.t c with
  | some (.bool true)=>Q0z E C rd k x s
  | some (.bool false)=>Q0z E C rd k y s
  | _=>none
 | .block id c,s=>match Q0z E C rd k c s with
  | some (.exit id',s')=>match Nat.beq id' id with
   | true=>some (.normal,s')
   | false=>some (.exit id',s')
  | r=>r
 | .loop c,s=>Xqf (Q0z E C rd k c) k s
 | .region _ ops true,s=>match Xkx E C ops.toList s with
  | some s'=>some (.normal,s')
  | none=>none
 | .region _ ops false,s=>X1u E C rd ops.toList ops.toList s
 | .rangeFunc g ps as bd,s=>Zz3 E C rd g ps as bd s
 | _,_=>none
section
variable{P:Program}
def Yes{E:Env2 P}{C:CallF}(hC:CallsLow C){rd:Option Nat}{ops:List Oper}:∀ (l:List Oper) (s s1:St) (e:Exit),X1u E C rd ops l s=some (e,s1)->LowOK s.h s1.h
 | [],s,s1,e,h=>by simp only[X1u,av,bN]at h;rw[<- h.2];exact LowOK.refl _
 | o::r,s,s1,e,h=>by
  simp only[X1u]at h;split at h
  ·split at h
   ·rename_i s' hst;exact(Znk hC hst).trans (Yes hC r _ _ _ h)
   ·rename_i hst;cases h;exact Znk hC hst
   ·cases h
  ·split at h
   ·have:=Yes hC r _ _ _ h;rwa [Qwu]at this
   ·cases h
  ·cases h
def Zdq{E:Env2 P}{C:CallF}(hC:CallsLow C){ops:List Oper}{B:List Nat}:∀ (l:List Oper) (i:Nat) (s s1:St) (R:List (Option LRec)),Y8o E C ops B l i s=some (s1,R)->LowOK s.h s1.h
 | [],i,s,s1,R,h=>by simp only[Y8o,av,bN]at h;rw[<- h.1];exact LowOK.refl _
 | o::r,i,s,s1,R,h=>by
  simp only[Y8o]at h;split at h
  ·cases h
  ·split at h
   ·obtain⟨R',h',_⟩:=Yji h;have:=Zdq hC r _ _ _ _ h';rwa [Qwu]at this
   ·split at h
    ·rename_i v h1 hv;split at h
     ·obtain⟨R',h',_⟩:=Yji h;have h2:=Zdq hC r _ _ _ _ h';rw[Qwu]at h2;have h3:=X0h hC hv;refine LowOK.trans (b:=Xxo s.h h1) ⟨h3.next,Nat.min_le_left _ _,fun b hb hl => ?_⟩ h2;have:=h3.same b hb (az hl (Nat.min_le_right _ _));exact this
     ·cases h
    ·cases h
   ·cases h
def Yx5{E:Env2 P}{C:CallF}(hC:CallsLow C){ops:List Oper}{s s1:St}(h:Xkx E C ops s=some s1):LowOK s.h s1.h:=by
 unfold Xkx at h;split at h
 ·split at h
  ·split at h
   ·rename_i hR;split at h
    ·cases h;exact Zdq hC _ _ _ _ _ hR
    ·cases h
   ·cases h
  ·cases h
 ·cases h
def Zor{body:St->Option (Exit × St)}(hb:∀ s e s1,body s=some (e,s1)->LowOK s.h s1.h):∀ k s e s1,Xqf body k s=some (e,s1)->LowOK s.h s1.h
 | 0,_,_,_,h=>by simp[Xqf]at h
 | k+1,s,e,s1,h=>by
  simp only[Xqf]at h;split at h
  ·rename_i s' hs;exact(hb _ _ _ hs).trans (Zor hb k _ _ _ h)
  ·exact hb _ _ _ h
def Qqw{E:Env2 P}{C:CallF}(hC:CallsLow C){rd:Option Nat}{k:Nat}:∀ (c:Code) (s:St) (e:Exit) (s1:St),Q0z E C rd k c s=some (e,s1)->LowOK s.h s1.h
 | .skip,s,e,s1,h | .label _,s,e,s1,h | .ret,s,e,s1,h | .exit _,s,e,s1,h=>by
  simp only[Q0z,av,bN]at h;rw[<- h.2];exact LowOK.refl _
 | .seq x y,s,e,s1,h=>by
  simp only[Q0z]at h;split at h
  ·rename_i s' hs;exact(Qqw hC x _ _ _ hs).trans (Qqw hC y _ _ _ h)
  ·exact Qqw hC x _ _ _ h
 | .cond c x y,s,e,s1,h=>by
  simp only[Q0z]at h;split at h
  ·exact Qqw hC x _ _ _ h
  ·exact Qqw hC y _ _ _ h
  ·cases h
 | .block id c,s,e,s1,h=>by
  simp only[Q0z]at h;split at h
  ·rename_i id' s' hs;split at h <;> (cases h;exact Qqw hC c _ _ _ hs)
  ·exact Qqw hC c _ _ _ h
 | .loop c,s,e,s1,h=>by
  simp only[Q0z]at h;exact Zor (Qqw hC c) k _ _ _ h
 | .region _ ops true,s,e,s1,h=>by
  simp only[Q0z]at h;split at h
  ·rename_i s' hs;cases h;exact Yx5 hC hs
  ·cases h
 | .region _ ops false,s,e,s1,h=>by
  simp only[Q0z]at h;exact Yes hC _ _ _ _ h
 | .rangeFunc ..,s,e,s1,h=>by
  simp only[Q0z]at h;exact Z3z hC h
 | .scope _,_,_,_,h | .goto _,_,_,_,h | .refuse _,_,_,_,h=>by simp[Q0z]at h
def Z6c{G:Bs}{rd:Option Nat}{c:Code}{body:St->Option (Exit × St)}(Zzv:∀ s e s1,body s=some (e,s1)->LowOK s.h s1.h)(hb:∀ s e s1,body s=some (e,s1)->CW P G rd s.h.next c s (fun e' s'=>e'=e/\s'=s1))
  {k:Nat} {s:St} {e:Exit} {s1:St} (h:Xqf body k s=some (e,s1)):CW P G rd s.h.next (.loop c) s (fun e' s'=>e'=e/\s'=s1):=by
 intro Y0 a0 w0 S0 hl0;refine Z2r (n:=s.h.next) (fun k s'=>Xqf body k s'=some (e,s1)/\s.h.next<=s'.h.next) ⟨h,ae _⟩ (fun l hl=>Ql2 S0.h (hl0 l hl)) (ae _) (fun k s' hI _ => ?_) Y0 a0 w0 S0 hl0;obtain⟨hk,hn⟩:=hI;cases k with
 | zero=>simp[Xqf]at hk
 | succ k =>
  simp only[Xqf]at hk;split at hk
  ·rename_i s2 hs;refine(hb _ _ _ hs).mono hn ?_;rintro e' s'' ⟨rfl,rfl⟩;have:=(Zzv _ _ _ hs).next;exact⟨by omega,fun _=>⟨k,bV _,hk,by omega⟩,fun hne=>absurd rfl hne⟩
  ·rename_i hne;refine(hb _ _ _ hk).mono hn ?_;rintro e' s'' ⟨rfl,rfl⟩;have:=(Zzv _ _ _ hk).next;refine⟨by omega,fun he => ?_,fun _=>⟨rfl,rfl⟩⟩;subst he;exact absurd hk (hne _)
def Q6r(E:Env2 P){C:CallF}(hC:CallsSound P E.G C)(hL:CallsLow C)(hm:P.follows .mixedOrders=true){rd:Option Nat}{k:Nat}:∀ (c:Code) (s:St) (e:Exit) (s1:St),Q0z E C rd k c s=some (e,s1)->CW P E.G rd s.h.next c s (fun e' s'=>e'=e/\s'=s1)
 | .skip,s,e,s1,h=>by
  simp only[Q0z,av,bN]at h;exact Z19 ⟨h.1,h.2⟩
 | .label _,s,e,s1,h=>by
  simp only[Q0z,av,bN]at h;exact Zwt ⟨h.1,h.2⟩
 | .ret,s,e,s1,h=>by
  simp only[Q0z,av,bN]at h;exact Z9x ⟨h.1,h.2⟩
 | .exit _,s,e,s1,h=>by
  simp only[Q0z,av,bN]at h;exact Z5d ⟨h.1,h.2⟩
 | .seq x y,s,e,s1,h=>by
  simp only[Q0z]at h;refine Ja5 ?_;split at h
  ·rename_i s' hs;refine(Q6r E hC hL hm x _ _ _ hs).mono (ae _) ?_;rintro e' s'' ⟨rfl,rfl⟩;exact⟨(Qqw hL x _ _ _ hs).next,fun _=>Q6r E hC hL hm y _ _ _ h,fun hne=>absurd rfl hne⟩
  ·rename_i hne;refine(Q6r E hC hL hm x _ _ _ h).mono (ae _) ?_;rintro e' s'' ⟨rfl,rfl⟩;refine⟨(Qqw hL x _ _ _ h).next,fun he => ?_,fun _=>⟨rfl,rfl⟩⟩;subst he;exact absurd h (hne _)
 | .cond c x y,s,e,s1,h=>by
  simp only[Q0z]at h;split at h
  ·rename_i hc;exact Zua hc (Q6r E hC hL hm x _ _ _ h)
  ·rename_i hc;exact Zua hc (Q6r E hC hL hm y _ _ _ h)
  ·cases h
 | .block id c,s,e,s1,h=>by
  simp only[Q0z]at h;refine Zwg ?_;split at h
  ·rename_i id' s' hs;refine(Q6r E hC hL hm c _ _ _ hs).mono (ae _) ?_;rintro e' s'' ⟨rfl,rfl⟩;simp only;split at h
   ·rename_i hb;rw[if_pos (aY hb)];cases h;exact⟨rfl,rfl⟩
   ·rename_i hb;rw[if_neg (d7 hb)];cases h;exact⟨rfl,rfl⟩
  ·rename_i hne;refine(Q6r E hC hL hm c _ _ _ h).mono (ae _) ?_;rintro e' s'' ⟨rfl,rfl⟩;cases e' with
   | exit id'=>exact absurd h (hne _ _)
   | _=>exact⟨rfl,rfl⟩
 | .loop c,s,e,s1,h=>by
  simp only[Q0z]at h;exact Z6c (Qqw hL c) (Q6r E hC hL hm c) h
 | .region _ ops true,s,e,s1,h=>by
  simp only[Q0z]at h;split at h
  ·rename_i s' hs;cases h;exact Qy8 E hC hL hm hs ⟨rfl,rfl⟩
  ·cases h
 | .region _ ops false,s,e,s1,h=>by
  simp only[Q0z]at h;exact Z5m E hC h ⟨rfl,rfl⟩
 | .rangeFunc ..,s,e,s1,h=>by
  simp only[Q0z]at h;exact Jbw E hC hL h
 | .scope _,_,_,_,h | .goto _,_,_,_,h | .refuse _,_,_,_,h=>by simp[Q0z]at h
def Yv2{P:Program}(E:Env2 P)(C:CallF)(k:Nat)(l:Nat)(args:List Value)(h:Heap):Option (AEnd × Heap) :=
 match h.get l with
 | some (.obj (.loop .ready _ t ps as bd _))=>match Zug t.size ps.toList args with
  | false=>none
  | true=>match Q0z E C (some l) k as ⟨Ydg t ps.toList args,[],h⟩with
   | some (.normal,s1)=>match s1.h.get l with
    | some (.obj (.loop .ready p1 t1 ps1 as1 bd1 d1))=>match Q0z E C (some l) k bd {s1 with h:=s1.h.set l (some (.obj (.loop .busy p1 t1 ps1 as1 bd1 d1)))} with
     | some (e,s2)=>match Y9u e,s2.h.get l with
      | some j,some (.obj (.loop _ _ t2 ps2 as2 bd2 d2))=>some (.ret (.bool j.isNone),s2.h.set l (some (.obj (.loop (if j.isNone then .ready else .done) j t2 ps2 as2 bd2 d2))))
      | _,_=>none
     | none=>none
    | _=>none
   | _=>none
 | _=>none
def Zy8{E:Env2 P}{C:CallF}(hC:CallsLow C){k l:Nat}{args:List Value}{h h1:Heap}{r:AEnd}(hh:Yv2 E C k l args h=some (r,h1)):LowOK h h1:=by
 unfold Yv2 at hh;split at hh
 ·split at hh
  ·cases hh
  ·split at hh
   ·rename_i hs1;split at hh
    ·rename_i hg1;split at hh
     ·rename_i hs2;split at hh
      ·rename_i hj hg2;cases hh;exact(((Qqw hC _ _ _ _ hs1).trans (LowOK.set _ _ _ (Heap.get_lt hg1))).trans (Qqw hC _ _ _ _ hs2)).trans (LowOK.set _ _ _ (Heap.get_lt hg2))
      ·cases hh
     ·cases hh
    ·cases hh
   ·cases hh
 ·cases hh
def Ydy(rd:Option Nat)(Y β:Ren)(l:Nat):(Qt4 rd β).inRound (Uo Y l)=Qt4 (some l) Y:=by cases rd <;> rfl
def Ylb{Y:Ren}{e:Exit}{j:Option Code}(hj:Y9u e=some j){l:Nat}{R:Ending->World->Prop}{a:Act}{w:World}(h:∃ v w',(Instr.endRound l j).run P w=.ok v w'/\R (.returned v) w') :
  roundPost P l R (Qp4 Y e) a w:=by
 cases e <;> simp only[Y9u,av,reduceCtorEq]at hj <;> subst hj <;> exact h
def Z0q(E:Env2 P){C:CallF}(hC:CallsSound P E.G C)(hL:CallsLow C)(hm:P.follows .mixedOrders=true){k l:Nat}{args:List Value}{h h1:Heap}{r:AEnd}(hh:Yv2 E C k l args h=some (r,h1)) :
  Xrb P E.G l args h (fun r' h'=>r'=r/\h'=h1):=by
 intro Y w β rd st pend t ps as bd d fn tmps H hl ha hg ht;unfold Yv2 at hh;rw[hg]at hh;cases st with
 | ready =>
  simp only at hh;split at hh
  ·cases hh
  ·split at hh
   ·rename_i s1 hs1;split at hh
    ·rename_i p1 t1 ps1 as1 bd1 d1 hg1;split at hh
     ·rename_i e2 s2 hs2;split at hh
      ·rename_i j st2 pe2 t2 ps2 as2 bd2 d2 hj hg2;cases hh;refine roundIn_of_wpIn (Qw5 rd β _) ?_;rw[Ydy rd Y β l];have S0:SRel E.G Y ⟨Ydg t ps.toList args,[],h⟩ {tmps:=tmps,defers:=[]} w:=⟨H,ht,rfl,fun d hd=>by cases hd⟩;refine wpIn_mono (Q6r E hC hL hm as _ _ _ hs1 Y _ w S0 (fun l' hl'=>by cases hl';exact hl)) ?_;rintro e' a1 w1 ⟨Y1,e1,s1',⟨rfl,rfl⟩,rfl,_,x1,T1,S1⟩;have hc1:∀ b,dom Y b->Y1 b=Y b:=fun b hb=>x1 b (Ql2 H hb);have hl1:dom Y1 l:=(by simpa[dom,hc1 l hl]using hl);obtain⟨r1,k1,k2,kp,_,_,_,_,_,_,k3⟩:=Xsl S1.h hl1 hg1;subst kp;obtain⟨H1',T1'⟩:=k3 .busy r1.pending;have er1:Uo Y1 l=Uo Y l:=Qbr (hc1 l hl);refine⟨_,by rw[<- er1];exact run_beginRound k1 k2,?_⟩;rw[<- er1];have S1':=S1.step (Ext.refl _ _) H1';rw[<- (X0y (rd:=some l) (n:=0) S0 x1 (fun l' hl'=>by cases hl';exact hl)).1];refine wpIn_mono (Q6r E hC hL hm bd _ _ _ hs2 Y1 a1 _ S1' (fun l' hl'=>by cases hl';exact hl1)) ?_;rintro e' a2 w2 ⟨Y2,e2',s2',⟨rfl,rfl⟩,rfl,_,x2,T2,S2⟩;have hn1:h.next<=s1'.h.next:=(Qqw hL _ _ _ _ hs1).next;have hc2:∀ b,dom Y1 b->Y2 b=Y1 b:=fun b hb=>x2 b (Ql2 H1' hb);have hl2:dom Y2 l:=(by simpa[dom,hc2 l hl1]using hl1);have er2:Uo Y2 l=Uo Y1 l:=Qbr (hc2 l hl1);obtain⟨r2,m1,m2,_,_,_,_,_,_,_,m3⟩:=Xsl S2.h hl2 hg2;obtain⟨H2',T2'⟩:=m3 (if j.isNone then .ready else .done) j;have fin:∃ v w',(Instr.endRound (Uo Y1 l) j).run P w2=.ok v w'/\∃ Y' r h',(r=AEnd.ret (.bool j.isNone)/\h'=s2'.h.set l (some (.obj (.loop (if j.isNone then .ready else .done) j t2 ps2 as2 bd2 d2)))) /\
         Ending.returned v=Qww Y' r/\Xx6 (dom Y') r/\Ext h.next Y Y'/\Turn Y h w Y' h' w'/\HRel E.G Y' h' w' :=
        ⟨_,_,by rw[<- er2];exact run_endRound j m1,Y2,_,_,⟨rfl,rfl⟩,by simp[Qww],trivial,x1.trans x2 hn1,((T1.trans T1').trans T2).trans T2',H2'⟩
       rw[er1]at fin ⊢;exact Ylb hj fin
      ·cases hh
     ·cases hh
    ·cases hh
   ·cases hh
 | _=>cases hh
end
def Yk{P:Program}(E:Env2 P)(t:Tm)(h:Heap):List ResultVar->Option (List Value)
 | []=>some []
 | .tmp i::r=>match t.t.get i,Yk E t h r with
  | some v,some l=>some (v::l)
  | _,_=>none
 | .cell i ty::r=>match t.t.get i with
  | some x=>match Qk3 E.toEnv ty x h,Yk E t h r with
   | some v,some l=>some (v::l)
   | _,_=>none
  | none=>none
def Z5{P:Program}(E:Env2 P)(fn:Func)(t:Tm)(h:Heap):Option Value :=
 match Yk E t h fn.results.toList with
 | some [v]=>some v
 | some l=>some (.tuple l.toArray)
 | none=>none
def Xy1(Y:Ren):FrameMode->FrameMode
 | .panicking ch => .panicking (ch.map (Ycj Y))
 | u=>u
def okM(D:Nat->Prop):FrameMode->Prop
 | .panicking ch => ∀ p ∈ ch,okV D p.v
 | _=>True
abbrev Qup:=FuncId->List Value->FrameMode->Heap->Option (AEnd × FrameMode × Heap)
def Qzu(P:Program)(G:Bs)(D:Qup):Prop:=∀ f args u h r u1 h1,D f args u h=some (r,u1,h1) ->
 ∀ Y w,HRel G Y h w->(∀ v ∈ args,okV (dom Y) v)->okM (dom Y) u->CallsDIn Fence.wide 0 P f (args.map (ren Y)).toArray (Xy1 Y u) w fun e u' w' =>
  ∃ Y',e=Qww Y' r/\u'=Xy1 Y' u1/\Xx6 (dom Y') r/\okM (dom Y') u1/\Ext h.next Y Y'/\Turn Y h w Y' h1 w'/\HRel G Y' h1 w'
def Xx7(D:Qup):Prop:=∀ f args u h r u1 h1,D f args u h=some (r,u1,h1)->LowOK h h1
def Xb{P:Program}(E:Env2 P)(D:Qup)(fn:Func)(t:Tm):List Deferred->FrameMode->Heap->Option (AEnd × Heap)
 | [],.returning,h=>match Z5 E fn t h with
  | some v=>some (.ret v,h)
  | none=>none
 | [],.panicking ch,h=>some (.panic ch,h)
 | [],.run,_=>none
 | d::ds,u,h=>match u,d.target with
  | .run,_=>none
  | _,.collected r=>match h.get r with
   | some (.obj .defs)=>Xb E D fn t ds u (h.set r none)
   | _=>none
  | _,.fn (.func f) cap=>match E.fn.get f with
   | none=>none
   | some _=>match D f (d.args.toList++cap.toList) u h with
    | some (.ret _,u1,h1)=>Xb E D fn t ds (settle u1) h1
    | some (.panic ch,u1,h1)=>Xb E D fn t ds (raised u1 ch) h1
    | none=>none
  | _,_=>none
def Xo(fn:Func)(args:List Value):Tm:=⟨fn.ntmps,putAll 0 args .leaf⟩
 where putAll (i:Nat):List Value->Tr Value->Tr Value
 | [],t=>t
 | v::l,t=>putAll (i+1) l (t.put i (some v))
def Zt9{P:Program}(E:Env2 P)(C:CallF)(D:Qup)(k:Nat)(f:FuncId)(args:List Value)(h:Heap):Option (AEnd × Heap) :=
 match E.fn.get f with
 | none=>none
 | some fn=>match fn.body,Nat.ble args.length fn.ntmps with
  | some c,true=>match Q0z E C none k c ⟨Xo fn args,[],h⟩with
   | some (.normal,s) | some (.ret,s)=>Xb E D fn s.t s.ds .returning s.h
   | some (.panic ch,s)=>Xb E D fn s.t s.ds (.panicking ch) s.h
   | _=>none
  | _,_=>none
section
variable{P:Program}{G:Bs}{Y:Ren}{h:Heap}{w:World}
def Zra(E:Env2 P)(H:HRel E.G Y h w){t:Tm}{tmps:Array Value}(ht:TRel Y t tmps):∀ {rs:List ResultVar} {l:List Value},Yk E t h rs=some l ->
  (∀ v ∈ l,okV (dom Y) v)/\((rs.mapM (m:=Sem) fun
   | .tmp t=>pure (tmps.getD t undef)
   | .cell a t=>do loadVar t (<- asAddr (tmps.getD a undef))):Sem (List Value)).run P w=.ok (l.map (ren Y)) w
 | [],l,hl=>by simp only[Yk,av]at hl;subst hl;simp
 | .tmp i::r,l,hl=>by
  simp only[Yk]at hl;split at hl
  ·rename_i v l' hv hl';cases hl;obtain⟨i1,i2⟩:=Zra E H ht hl';obtain⟨j1,j2⟩:=ht.vals i v hv;refine⟨by simpa using⟨j1,i1⟩,?_⟩;have : tmps.getD i undef=ren Y v:=by simp[bB,j2]
   simp only[List.mapM_cons,this,pure_bind,ar,i2,ai,aQ,aR]
  ·cases hl
 | .cell i ty::r,l,hl=>by
  simp only[Yk]at hl;split at hl
  ·rename_i x hx;split at hl
   ·rename_i v l' hv hl';cases hl;obtain⟨i1,i2⟩:=Zra E H ht hl';obtain⟨j1,j2⟩:=ht.vals i x hx;have : tmps.getD i undef=ren Y x:=(by simp[bB,j2]);unfold Qk3 at hv;split at hv
    ·rename_i a rr hr;simp only[okV]at j1;obtain⟨k1,k2⟩:=X7g (P:=P) H (E.tyok ty rr hr) j1.1 j1.2 hv;refine⟨by simpa using⟨k1,i1⟩,?_⟩;have hA:asAddr (ren Y (.pointer (some a)))=pure (Uu Y a):=by simp[ren,asAddr]
     simp only[List.mapM_cons,this,hA,pure_bind,ar,k2,i2,ai,aQ,aR]
    ·cases hv
   ·cases hl
  ·cases hl
def Zsb(E:Env2 P)(H:HRel E.G Y h w){t:Tm}{tmps:Array Value}(ht:TRel Y t tmps){fn:Func}{v:Value}(hv:Z5 E fn t h=some v):okV (dom Y) v/\(results fn tmps).run P w=.ok (ren Y v) w:=by
 unfold Z5 at hv;have key:∀ l,Yk E t h fn.results.toList=some l->(∀ v ∈ l,okV (dom Y) v)/\(results fn tmps).run P w=.ok (if h:(l.map (ren Y)).toArray.size=1 then(l.map (ren Y)).toArray[0]else .tuple (l.map (ren Y)).toArray) w:=by
  intro l hl;obtain⟨i1,i2⟩:=Zra E H ht hl;refine⟨i1,?_⟩;unfold results;rw[Array.mapM_eq_mapM_toList];simp only[bind_map_left,ar];refine(congrArg (fun r=>Result.andThen r _) i2).trans ?_;simp only[ai,aQ]
 split at hv
 ·rename_i u hl;cases hv;obtain⟨i1,i2⟩:=key _ hl;exact⟨i1 _ (by simp),by rw[i2];simp⟩
 ·rename_i l hne hl;cases hv;obtain⟨i1,i2⟩:=key _ hl;refine⟨by simp only[okV,Q6u];intro x hx;exact i1 x (by simpa using hx),?_⟩;have : ¬ (l.map (ren Y)).toArray.size=1:=by
   intro hs;simp only[List.size_toArray,aT]at hs;obtain⟨x,rfl⟩:=List.length_eq_one_iff.1 hs;exact hne x rfl
  rw[i2,dif_neg this];simp[ren,Qsk]
 ·cases hv
def Y8g:∀ (l:List Value) (i:Nat) (t:Tr Value) (j:Nat),(Xo.putAll i l t).get j=if i<=j/\j < i+l.length then l[j-i]? else t.get j
 | [],i,t,j=>by simp[Xo.putAll];omega
 | v::l,i,t,j=>by
  simp only[Xo.putAll,Y8g l (i+1),Tr.get_put,bH];by_cases h1:i+1<=j/\j < i+1+l.length
  ·rw[if_pos h1,if_pos (by omega),show j-i=(j-(i+1))+1 by omega,bY]
  ·rw[if_neg h1];by_cases h2:i=j
   ·subst h2;rw[if_pos rfl,if_pos (by omega)];simp
   ·rw[if_neg h2,if_neg (by omega)]
def Yvx{fn:Func}{args:List Value}(hn:args.length<=fn.ntmps)(ha:∀ v ∈ args,okV (dom Y) v) :
  TRel Y (Xo fn args) ((args.map (ren Y)).toArray++Array.replicate (fn.ntmps-(args.map (ren Y)).toArray.size) undef):=by
 refine⟨by simp[Xo];omega,fun i v hv => ?_⟩;simp only[Xo,Y8g,bz,true_and,bO,dq,Tr.get_leaf]at hv;split at hv
 ·rename_i hi;refine⟨ha v (ak hv),?_⟩;rw[cP (by simpa using hi)];simp[hv]
 ·cases hv
def Zwu{D E:Nat->Prop}(h:∀ b,D b->E b){u:FrameMode}(hu:okM D u):okM E u:=by
 cases u <;> simp only[okM]at hu ⊢;exact fun p hp=>okV_mono h _ (hu p hp)
def Y9r{β:Ren}{D:Nat->Prop}(h:∀ b,D b->β b=Y b){u:FrameMode}(hu:okM D u):Xy1 β u=Xy1 Y u:=by
 cases u <;> simp only[okM,Xy1]at hu ⊢;congr 1;apply bM;intro p hp;simp[Ycj,ren_congr h _ (hu p hp)]
def Zrz(u:FrameMode):Xy1 Y (settle u)=settle (Xy1 Y u):=by
 cases u with
 | panicking ch =>
  cases ch with
  | nil=>rfl
  | cons p older =>
   obtain⟨v,r,g⟩:=p;cases r with
   | false=>rfl
   | true =>
    simp only[settle,Xy1,aR,Ycj];have : (older.map (Ycj Y)).dropWhile (fun x => !x.goexit)=(older.dropWhile (fun x => !x.goexit)).map (Ycj Y):=by
     induction older with
     | nil=>rfl
     | cons q older ih=>simp only[aR,List.dropWhile_cons,Ycj];split <;> simp_all [Ycj]
    have h2:List.dropWhile (fun x => !x.goexit) (List.map (fun p=>({v:=ren Y p.v,recovered:=p.recovered,goexit:=p.goexit}:PanicEntry)) older)=(older.dropWhile (fun x => !x.goexit)).map (Ycj Y):=this;rw[show(Ycj Y)=(fun p=>({v:=ren Y p.v,recovered:=p.recovered,goexit:=p.goexit}:PanicEntry))from rfl]at *;rw[h2];cases h3:older.dropWhile (fun x => !x.goexit)with
    | nil=>rfl
    | cons _ _=>rfl
 | _=>rfl
def Zxi{D:Nat->Prop}{u:FrameMode}(hu:okM D u):okM D (settle u):=by
 cases u with
 | panicking ch =>
  cases ch with
  | nil=>exact hu
  | cons p older =>
   obtain⟨v,r,g⟩:=p;cases r with
   | false=>exact hu
   | true =>
    simp only[settle];split
    ·trivial
    ·exact fun q hq=>hu q (bb _ (List.dropWhile_sublist _ |>.subset hq))
 | _=>exact hu
def Zr4(u:FrameMode)(ch:List PanicEntry):Xy1 Y (raised u ch)=raised (Xy1 Y u) (ch.map (Ycj Y)):=by
 cases u <;> simp[raised,Xy1]
def Zxb{D:Nat->Prop}{u:FrameMode}{ch:List PanicEntry}(hu:okM D u)(hc:∀ p ∈ ch,okV D p.v):okM D (raised u ch):=by
 cases u <;> simp only[raised,okM]at hu ⊢
 ·exact hc
 ·exact hc
 ·intro p hp;rcases ac.1 hp with h | h
  ·exact hc p h
  ·exact hu p h
end
section
variable{P:Program}{G:Bs}{Y:Ren}{h:Heap}{w:World}
def Xyv(E:Env2 P){D:Qup}(hD:Qzu P E.G D){fn:Func}{t:Tm}:∀ (ds:List Deferred) (u:FrameMode) (h:Heap) (Y:Ren) (w:World) (tmps:Array Value) (r:AEnd) (h1:Heap),
  Xb E D fn t ds u h=some (r,h1)->HRel E.G Y h w->TRel Y t tmps->(∀ d ∈ ds,Yc9 (dom Y) d)->okM (dom Y) u->∀ {R:Ending->World->Prop},
  (∀ Y' w',Ext h.next Y Y'->Turn Y h w Y' h1 w'->HRel E.G Y' h1 w'->Xx6 (dom Y') r->R (Qww Y' r) w') ->
  LeavesInM Fence.wide 0 P fn tmps R (ds.map (Qvs Y)) (Xy1 Y u) w
 | [],u,h,Y,w,tmps,r,h1,hl,H,T,_,hu,R,hR=>by
  cases u with
  | run=>simp[Xb]at hl
  | returning =>
   simp only[Xb]at hl;split at hl
   ·rename_i v hv;cases hl;obtain⟨i1,i2⟩:=Zsb E H T hv;exact⟨ren Y v,i2,hR Y w (Ext.refl _ _) (Turn.refl _ _ _) H i1⟩
   ·cases hl
  | panicking ch =>
   simp only[Xb,av,bN]at hl;obtain⟨rfl,rfl⟩:=hl;exact hR Y w (Ext.refl _ _) (Turn.refl _ _ _) H hu
 | d::ds,u,h,Y,w,tmps,r,h1,hl,H,T,hds,hu,R,hR=>by
  obtain⟨tg,dargs⟩:=d;simp only[Xb]at hl;split at hl
  ·cases hl
  ·rename_i r0 hne;split at hl
   ·rename_i hg;have hod:=hds _ bR;have hune:Xy1 Y u ≠ .run:=by
     cases u <;> simp[Xy1]at hne ⊢
    obtain⟨p,hp⟩:=aN.1 hod.1;obtain⟨f0,o,f1,f2⟩:=H.fits _ p _ hp hg;have hlt:=H.blk_lt hp hg rfl;have e:Uo Y r0=p.blk:=(by simp[Uo,hp]);obtain⟨H1,T1⟩:=H.upd hp (by rw[Qy3 hg];rfl) (x:=.obj .any) rfl (o:=.deferred none) ⟨f0,_,Qs8 hlt,trivial⟩;have hk:=H1.kill (b:=r0) (show r0 < h.next from Heap.get_lt hg);rw[Zqv]at hk;simp only[aR,Qvs];refine⟨hune,.inl ⟨_,_,rfl,run_takeDeferred (by rw[e,f1,f2]),?_⟩⟩;rw[e];exact Xyv E hD ds _ _ Y _ tmps r h1 hl hk.1 T (fun d hd=>hds d (bb _ hd)) hu
     fun Y'' w'' p1 p2 p3 p4=>hR Y'' w'' p1 ((T1.trans hk.2).trans p2) p3 p4
   ·cases hl
  ·rename_i f cap hne;split at hl
   ·cases hl
   ·rename_i F hF;have hod:=hds _ bR;simp only[Yc9,okV,Q6u]at hod;have hargs:∀ v ∈ dargs.toList++cap.toList,okV (dom Y) v:=by
     intro v hv;rcases ac.1 hv with hv | hv
     ·exact hod.2 v (by simpa using hv)
     ·exact hod.1.2 v (by simpa using hv)
    have hinv:=Yxp E hF (renA Y cap) (renA Y dargs) w;have hae:((dargs.toList++cap.toList).map (ren Y)).toArray=renA Y dargs++renA Y cap:=by
     simp[Qsk]
    have hune:Xy1 Y u ≠ .run:=by
     cases u <;> simp[Xy1]at hne ⊢
    simp only[aR,Qvs,Yg8];refine⟨hune,.inr ⟨by simp[Fence.wide],_,_,f,_,rfl,hinv,fun _ _=>trivial,?_⟩⟩;rw[<- hae];split at hl
    ·rename_i v u1 h2 hd;refine(hD _ _ _ _ _ _ _ hd Y w H hargs hu).mono ?_;rintro e um w' ⟨Y',rfl,rfl,q1,q2,q3,q4,q5⟩;simp only[Qww];have hdd:∀ b,dom Y b->Y' b=Y b:=fun b hb=>q3 b (Ql2 H hb);have hmap:ds.map (Qvs Y)=ds.map (Qvs Y'):=bM fun d hd=>(Q03 hdd (hds d (bb _ hd))).symm;rw[hmap,<- Zrz];exact Xyv E hD ds _ _ Y' w' tmps r h1 hl q5 (T.ext H q3) (fun d hd=>Xae (fun b hb=>by simpa[dom,hdd b hb]using hb) (hds d (bb _ hd))) (Zxi q2)
      fun Y'' w'' p1 p2 p3 p4=>hR Y'' w'' (q3.trans p1 q4.next) (q4.trans p2) p3 p4
    ·rename_i ch u1 h2 hd;refine(hD _ _ _ _ _ _ _ hd Y w H hargs hu).mono ?_;rintro e um w' ⟨Y',rfl,rfl,q1,q2,q3,q4,q5⟩;simp only[Qww];have hdd:∀ b,dom Y b->Y' b=Y b:=fun b hb=>q3 b (Ql2 H hb);have hmap:ds.map (Qvs Y)=ds.map (Qvs Y'):=bM fun d hd=>(Q03 hdd (hds d (bb _ hd))).symm;rw[hmap,<- Zr4];exact Xyv E hD ds _ _ Y' w' tmps r h1 hl q5 (T.ext H q3) (fun d hd=>Xae (fun b hb=>by simpa[dom,hdd b hb]using hb) (hds d (bb _ hd))) (Zxb q2 q1)
      fun Y'' w'' p1 p2 p3 p4=>hR Y'' w'' (q3.trans p1 q4.next) (q4.trans p2) p3 p4
    ·cases hl
  ·cases hl
def Xk3{E:Env2 P}{D:Qup}(hD:Xx7 D){fn:Func}{t:Tm}:∀ (ds:List Deferred) (u:FrameMode) (h:Heap) (r:AEnd) (h1:Heap),
  Xb E D fn t ds u h=some (r,h1)->LowOK h h1
 | [],u,h,r,h1,hl=>by
  cases u with
  | run=>simp[Xb]at hl
  | returning=>simp only[Xb]at hl;split at hl <;> cases hl;exact LowOK.refl _
  | panicking ch=>simp only[Xb,av,bN]at hl;rw[<- hl.2];exact LowOK.refl _
 | d::ds,u,h,r,h1,hl=>by
  simp only[Xb]at hl;split at hl
  ·cases hl
  ·split at hl
   ·rename_i hg;exact(LowOK.set _ _ _ (Heap.get_lt hg)).trans (Xk3 hD ds _ _ _ _ hl)
   ·cases hl
  ·split at hl
   ·cases hl
   ·split at hl
    ·rename_i hd;exact(hD _ _ _ _ _ _ _ hd).trans (Xk3 hD ds _ _ _ _ hl)
    ·rename_i hd;exact(hD _ _ _ _ _ _ _ hd).trans (Xk3 hD ds _ _ _ _ hl)
    ·cases hl
  ·cases hl
def Z6t(E:Env2 P){C:CallF}(hC:CallsSound P E.G C)(hL:CallsLow C)(hm:P.follows .mixedOrders=true){D:Qup}(hD:Qzu P E.G D){k:Nat}  {f:FuncId}{args:List Value}{h:Heap}{r:AEnd}{h':Heap}(hb:Zt9 E C D k f args h=some (r,h')) :
  CallOK P E.G f args h (fun r1 h1=>r1=r/\h1=h'):=by
 intro Y w H ha;unfold Zt9 at hb;split at hb
 ·cases hb
 ·rename_i fn hfn;obtain⟨g1,g2,g3⟩:=E.fnok _ _ hfn;split at hb
  ·rename_i c hbody hle;have hle':args.length<=fn.ntmps:=by simpa using hle
   have S:SRel E.G Y ⟨Xo fn args,[],h⟩ {tmps:=(args.map (ren Y)).toArray++Array.replicate (fn.ntmps-(args.map (ren Y)).toArray.size) undef,defers:=[]} w :=
    ⟨H,Yvx hle' ha,rfl,fun d hd=>by cases hd⟩
   have fin:∀ e s,Q0z E C none k c ⟨Xo fn args,[],h⟩=some (e,s)->(∀ a' w' Y',Ext h.next Y Y'->Turn Y h w Y' s.h w'->SRel E.G Y' s a' w'->Q04 (dom Y') e ->
     bodyPostM Fence.wide 0 P fn (fun e w' => ∃ Y' r1 h1,(r1=r/\h1=h')/\e=Qww Y' r1/\Xx6 (dom Y') r1/\Ext h.next Y Y'/\Turn Y h w Y' h1 w'/\HRel E.G Y' h1 w') (Qp4 Y' e) a' w') ->
     CallsIn Fence.wide 0 P f (args.map (ren Y)).toArray w (fun e w' => ∃ Y' r1 h1,(r1=r/\h1=h')/\e=Qww Y' r1/\Xx6 (dom Y') r1/\Ext h.next Y Y'/\Turn Y h w Y' h1 w'/\HRel E.G Y' h1 w'):=by
    intro e s hex hp;refine callsIn_of_wp_marks g1 hbody trivial ?_;refine wpIn_mono (Q6r E hC hL hm c _ _ _ hex Y _ w S (fun l hl=>by cases hl)) ?_;rintro e' a' w' ⟨Y',e1,s1,⟨rfl,rfl⟩,rfl,q1,q2,q3,q4⟩;exact hp a' w' Y' q2 q3 q4 q1
   have lv:∀ (s:St) (u:FrameMode),Xb E D fn s.t s.ds u s.h=some (r,h')->∀ a' w' Y',Ext h.next Y Y'->Turn Y h w Y' s.h w'->SRel E.G Y' s a' w'->okM (dom Y') u ->
     LeavesInM Fence.wide 0 P fn a'.tmps (fun e w' => ∃ Y' r1 h1,(r1=r/\h1=h')/\e=Qww Y' r1/\Xx6 (dom Y') r1/\Ext h.next Y Y'/\Turn Y h w Y' h1 w'/\HRel E.G Y' h1 w') a'.defers (Xy1 Y' u) w':=by
    intro s u hl a' w' Y' q2 q3 q4 hu;rw[q4.ds];exact Xyv E hD s.ds u s.h Y' w' a'.tmps r h' hl q4.h q4.t q4.okd hu fun Y'' w'' p1 p2 p3 p4=>⟨Y'',r,h',⟨rfl,rfl⟩,rfl,p4,q2.trans p1 q3.next,q3.trans p2,p3⟩
   split at hb
   ·rename_i s hex;refine fin _ s hex fun a' w' Y' q2 q3 q4 q1 => ?_;exact lv s .returning hb a' w' Y' q2 q3 q4 trivial
   ·rename_i s hex;refine fin _ s hex fun a' w' Y' q2 q3 q4 q1 => ?_;exact lv s .returning hb a' w' Y' q2 q3 q4 trivial
   ·rename_i ch s hex;refine fin _ s hex fun a' w' Y' q2 q3 q4 q1 => ?_;exact lv s (.panicking ch) hb a' w' Y' q2 q3 q4 q1
   ·cases hb
  ·cases hb
def Z3g{E:Env2 P}{C:CallF}(hL:CallsLow C){D:Qup}(hD:Xx7 D){k:Nat}  {f:FuncId}{args:List Value}{h:Heap}{r:AEnd}{h':Heap}(hb:Zt9 E C D k f args h=some (r,h')):LowOK h h':=by
 unfold Zt9 at hb;split at hb
 ·cases hb
 ·split at hb
  ·split at hb <;> first
    | (rename_i hex;exact(Qqw hL _ _ _ _ hex).trans (Xk3 hD _ _ _ _ _ hb))
    | cases hb
  ·cases hb
end
def Zog(o:Oper):Bool:=match o.op with
 | .call c=>(match c.callee with | .builtin .recover=>true | _=>false) && c.args.isEmpty
 | _=>false
def Zzw(u:FrameMode):Value × FrameMode:=match u with
 | .panicking ({v,recovered:=false,goexit:=false}::older)=>(v,.panicking ({v,recovered:=true}::older))
 | u=>(.nilIface,u)
def Zqg{P:Program}(E:Env2 P)(ops:List Oper):List Oper->FrameMode->St->Option (Exit × FrameMode × St)
 | [],u,s=>some (.normal,u,s)
 | o::r,u,s =>
  match Qe ops s.t o,Qm7 s o.dst with
  | some true,true=>match Zog o with
   | true=>Zqg E ops r (Zzw u).2 (s.put o.dst (Zzw u).1 s.h)
   | false=>match Zc o,aop E s.t s.h o with
    | true,some (.val v h)=>Zqg E ops r u (s.put o.dst v h)
    | true,some (.skip h)=>Zqg E ops r u (s.put o.dst Qr h)
    | true,some (.panic v h)=>some (.panic [{v,recovered:=false}],u,{s with h:=h})
    | _,_=>none
  | some false,true=>Zqg E ops r u (s.put o.dst Qr s.h)
  | _,_=>none
def Yz5:List Oper->Bool
 | []=>false
 | o::r=>Zog o || Yz5 r
def Q2d{P:Program}(E:Env2 P)(C:CallF)(k:Nat):Code->FrameMode->St->Option (Exit × FrameMode × St)
 | .seq x y,u,s=>match Q2d E C k x u s with
  | some (.normal,u',s')=>Q2d E C k y u' s'
  | r=>r
 | .cond c x y,u,s=>match aev E.G s.t c with
  | some (.bool true)=>Q2d E C k x u s
  | some (.bool false)=>Q2d E C k y u s
  | _=>none
 | .region id ops false,u,s=>match Yz5 ops.toList with
  | true=>Zqg E ops.toList ops.toList u s
  | false=>match Q0z E C none k (.region id ops false) s with
   | some (e,s')=>some (e,u,s')
   | none=>none
 | c,u,s=>match Q0z E C none k c s with
  | some (e,s')=>some (e,u,s')
  | none=>none
def Xt0{P:Program}(E:Env2 P)(C:CallF)(k:Nat):Qup:=fun f args u h =>
 match E.fn.get f with
 | none=>none
 | some fn=>match fn.body,Nat.ble args.length fn.ntmps with
  | some c,true=>match Q2d E C k c u ⟨Xo fn args,[],h⟩with
   | some (.normal,u',⟨t,[],h'⟩) | some (.ret,u',⟨t,[],h'⟩)=>match Z5 E fn t h' with
    | some v=>some (.ret v,u',h')
    | none=>none
   | some (.panic ch,u',⟨_,[],h'⟩)=>some (.panic ch,u',h')
   | _=>none
  | _,_=>none
section
variable{P:Program}{G:Bs}{Y:Ren}{h:Heap}{w:World}{s:St}{a:Act}
def CWD(P:Program)(G:Bs)(n:Nat)(c:Code)(u:FrameMode)(s:St)(Q:Exit->FrameMode->St->Prop):Prop :=
 ∀ Y a w c₀ cs,SRel G Y s a w->okM (dom Y) u->c₀.mode=Xy1 Y u->c.wpSIn Fence.wide 0 P (fun e' a' cs' w' => ∃ Y' e u' s',Q e u' s'/\e'=Qp4 Y' e/\Q04 (dom Y') e/\okM (dom Y') u'/\cs' = {c₀ with mode:=Xy1 Y' u' }::cs/\Ext n Y Y'/\Turn Y s.h w Y' s'.h w'/\SRel G Y' s' a' w') a (c₀::cs) w
def Z4m{n:Nat}{c:Code}{u:FrameMode}{Q:Exit->St->Prop}(hn:n=s.h.next)(h:CW P G none n c s Q):CWD P G n c u s (fun e u' s'=>Q e s'/\u'=u):=by
 subst hn;intro Y a w c₀ cs S hu hm;refine wpSIn_of_wpIn rfl (wpIn_mono (h Y a w S (fun l hl=>by cases hl)) ?_);rintro e' a' w' ⟨Y',e,s',q,rfl,q1,q2,q3,q4⟩;have hd:∀ b,dom Y b->Y' b=Y b:=fun b hb=>q2 b (Ql2 S.h hb);refine⟨Y',e,u,s',⟨q,rfl⟩,rfl,q1,Zwu (fun b hb=>by simpa[dom,hd b hb]using hb) hu,?_,q2,q3,q4⟩;rw[Y9r hd hu,<- hm]
def CWD.mono{n m:Nat}{c:Code}{u:FrameMode}{Q Q':Exit->FrameMode->St->Prop}(hc:CWD P G n c u s Q)(hmn:m<=n)(hq:∀ e u' s',Q e u' s'->Q' e u' s'):CWD P G m c u s Q':=by
 intro Y a w c₀ cs S hu hm b k h1 h2 h3 h4;obtain⟨e,a',cs',w',l,⟨Y',e1,u1,s1,q,q1,q2,q3,q4,q5,q6⟩,arr⟩:=hc Y a w c₀ cs S hu hm b k h1 h2 h3 h4;exact⟨e,a',cs',w',l,⟨Y',e1,u1,s1,hq _ _ _ q,q1,q2,q3,q4,q5.mono hmn,q6⟩,arr⟩
def Yif{F:Fence}{n:Nat}{c:Code}{Q Q':Exit->Act->List Frame->World->Prop}{cs:List Frame}(hc:c.wpSIn F n P Q a cs w)(hq:∀ e a cs w,Q e a cs w->Q' e a cs w):c.wpSIn F n P Q' a cs w:=by
 intro b k h1 h2 h3 h4;obtain⟨e,a',cs',w',l,q,arr⟩:=hc b k h1 h2 h3 h4;exact⟨e,a',cs',w',l,hq _ _ _ _ q,arr⟩
def Jb9{x y:Code}{u:FrameMode}{Q:Exit->FrameMode->St->Prop}(h:CWD P G s.h.next x u s (fun e u' s'=>s.h.next<=s'.h.next/\(e=.normal->CWD P G s'.h.next y u' s' Q)/\(e ≠ .normal->Q e u' s'))) :
  CWD P G s.h.next (.seq x y) u s Q:=by
 intro Y a w c₀ cs S hu hm;refine wpSIn_seq (Yif (h Y a w c₀ cs S hu hm) ?_);rintro e' a' cs' w' ⟨Y',e,u',s',⟨hn,hq1,hq2⟩,rfl,hoe,hou,rfl,hext,hturn,S'⟩;by_cases hne:e=.normal
 ·subst hne;show y.wpSIn _ _ _ _ _ _ _;refine Yif (hq1 rfl Y' a' w' _ cs S' hou rfl) ?_;rintro e'' a'' cs'' w'' ⟨Y'',e2,u'',s'',g1,g2,g3,g4,g5,g6,g7,g8⟩;exact⟨Y'',e2,u'',s'',g1,g2,g3,g4,g5,hext.trans g6 hn,hturn.trans g7,g8⟩
 ·have : ∃ Y'_1 e_1 u'_1 s'_1,Q e_1 u'_1 s'_1/\Qp4 Y' e=Qp4 Y'_1 e_1/\Q04 (dom Y'_1) e_1/\okM (dom Y'_1) u'_1/\{c₀ with mode:=Xy1 Y' u' }::cs = {c₀ with mode:=Xy1 Y'_1 u'_1}::cs/\Ext s.h.next Y Y'_1/\Turn Y s.h w Y'_1 s'_1.h w'/\SRel G Y'_1 s'_1 a' w' :=
   ⟨Y',e,u',s',hq2 hne,rfl,hoe,hou,rfl,hext,hturn,S'⟩
  cases e <;> first
   | exact absurd rfl hne
   | exact this
def Zv9{c:Operand}{x y:Code}{u:FrameMode}{Q:Exit->FrameMode->St->Prop}{b:Bool}(hc:aev G s.t c=some (.bool b))(h:CWD P G s.h.next (if b then x else y) u s Q):CWD P G s.h.next (.cond c x y) u s Q:=by
 intro Y a w c₀ cs S hu hm;exact wpSIn_cond (by rw[(Xmb S.h S.t hc).2,ren_bool]) (h Y a w c₀ cs S hu hm)
def Jce{u:FrameMode}(hu:okM (dom Y) u){c₀:Frame}(cs:List Frame)(hm:c₀.mode=Xy1 Y u) :
  okV (dom Y) (Zzw u).1/\okM (dom Y) (Zzw u).2 /\
  (recoverD (c₀::cs)=some (ren Y (Zzw u).1,{c₀ with mode:=Xy1 Y (Zzw u).2}::cs)∨(recoverD (c₀::cs)=none/\(Zzw u).1=.nilIface/\(Zzw u).2=u)):=by
 unfold Zzw;split
 ·rename_i v older;simp only[okM]at hu;have hv:=hu {v:=v,recovered:=false} bR;refine⟨hv,fun p hp => ?_,.inl ?_⟩
  ·rcases ax.1 hp with rfl | h
   ·exact hv
   ·exact hu p (bb _ h)
  ·simp[recoverD,hm,Xy1,Ycj]
 ·rename_i hne;refine⟨by simp[okV],hu,.inr ⟨?_,rfl,rfl⟩⟩;simp only[recoverD,hm];cases u with
  | panicking ch =>
   cases ch with
   | nil=>simp[Xy1]
   | cons p older =>
    obtain⟨v,r,g⟩:=p;cases r <;> cases g <;> simp[Xy1,Ycj];exact hne _ _ rfl
  | _=>simp[Xy1]
def Z08{o:Oper}(hr:Zog o=true)(a:Act)(w:World):(execOp a.eval o).run P w=.ok .recover w:=by
 unfold Zog at hr;split at hr
 ·rename_i c hop;simp only[aq]at hr;obtain⟨h1,h2⟩:=hr;split at h1
  ·rename_i hb;have : c.args = #[]:=by simpa using h2
   simp[execOp,hop,resolve,hb,invoke,builtin,this]
  ·cases h1
 ·cases hr
def Yki(E:Env2 P){ops:Array Oper}{Q:Exit->Act->List Frame->World->Prop}:∀ (l:List Oper) (i:Nat) (u:FrameMode) (s:St) (Y:Ren) (a:Act) (w:World) (c₀:Frame) (cs:List Frame) (e:Exit) (u1:FrameMode) (s1:St),
  ops.toList.drop i=l->Zqg E ops.toList l u s=some (e,u1,s1)->SRel E.G Y s a w->okM (dom Y) u->c₀.mode=Xy1 Y u ->
  (∀ Y' a' w',Ext s.h.next Y Y'->Turn Y s.h w Y' s1.h w'->SRel E.G Y' s1 a' w'->Q04 (dom Y') e->okM (dom Y') u1->Q (Qp4 Y' e) a' ({c₀ with mode:=Xy1 Y' u1}::cs) w') ->
  wpOpsSIn Fence.wide 0 P ops Q (List.range' i l.length) a (c₀::cs) w
 | [],i,u,s,Y,a,w,c₀,cs,e,u1,s1,_,h,S,hu,hm,hQ=>by
  simp only[Zqg,av,bN]at h;obtain⟨rfl,rfl,rfl⟩:=h;have:=hQ Y a w (Ext.refl _ _) (Turn.refl _ _ _) S trivial hu;rw[<- hm]at this;exact this
 | o::r,i,u,s,Y,a,w,c₀,cs,e,u1,s1,hdrop,h,S,hu,hm,hQ=>by
  have ho:ops[i]? = some o:=by
   have:=congrArg (fun l=>l[0]?) hdrop;simpa[cN]using this
  have hdrop':ops.toList.drop (i+1)=r:=by
   have:=congrArg List.tail hdrop;simpa[List.tail_drop]using this
  simp only[bH,List.range'_succ,wpOpsSIn,ho];refine⟨fun _ _=>trivial,?_⟩;simp only[Zqg]at h;split at h
  ·rename_i hw hdst;rw[if_pos (Qt3 (G:=E.G) S.t hw)];split at h
   ·rename_i hrec;rw[Z08 hrec a w];obtain⟨r1,r2,r3⟩:=Jce (Y:=Y) hu cs hm;have S':=S.put (d:=o.dst) hdst r1;have hh:(s.put o.dst (Zzw u).1 s.h).h=s.h:=Qwu _ _ _ _;rcases r3 with r3 | ⟨r3,r4,r5⟩
    ·simp only[r3];exact Yki E (Q:=Q) r (i+1) _ _ Y _ w _ cs e u1 s1 hdrop' h S' r2 rfl (by rw[hh];exact hQ)
    ·simp only[r3];have:=Yki E (Q:=Q) r (i+1) _ _ Y _ w c₀ cs e u1 s1 hdrop' h S' r2 (by rw[r5];exact hm) (by rw[hh];exact hQ);rw[r4]at this;simpa[ren]using this
   ·rename_i hrec;split at h
    ·rename_i v h2 hnd hr;obtain⟨Y',w',q1,q2,q3,q4,q5⟩:=Qxy E S.h S.t hr;rw[q1];have S1:=S.step q3 q4;have S2:=S1.put (d:=o.dst) (v:=v) (by cases hd:o.dst <;> simp only[hd,Qm7]at hdst ⊢;exact hdst) q2;have hd:∀ b,dom Y b->Y' b=Y b:=fun b hb=>q3 b (Ql2 S.h hb);have hh:(s.put o.dst v h2).h=h2:=Qwu _ _ _ _;refine Yki E (Q:=Q) r (i+1) _ _ Y' _ w' c₀ cs e u1 s1 hdrop' h (by rw[dW];exact S2) (Zwu (fun b hb=>by simpa[dom,hd b hb]using hb) hu) (by rw[hm,Y9r hd hu]) ?_;rw[hh];exact fun Y'' a'' w'' g1 g2 g3 g4 g5=>hQ Y'' a'' w'' (q3.trans g1 q5.next) (q5.trans g2) g3 g4 g5
    ·rename_i h2 hnd hr;obtain⟨w',q1,q2,q3⟩:=Qxy E S.h S.t hr;rw[q1];have S1:=S.step (Ext.refl _ _) q2;have S2:=S1.putU (d:=o.dst) (by cases hd:o.dst <;> simp only[hd,Qm7]at hdst ⊢;exact hdst);have hh:(s.put o.dst Qr h2).h=h2:=Qwu _ _ _ _;refine Yki E (Q:=Q) r (i+1) _ _ Y _ w' c₀ cs e u1 s1 hdrop' h (by rw[dW];exact S2) hu hm ?_;rw[hh];exact fun Y'' a'' w'' g1 g2 g3 g4 g5=>hQ Y'' a'' w'' (Ext.trans (Ext.refl _ _) g1 q3.next) (q3.trans g2) g3 g4 g5
    ·rename_i v h2 hnd hr;obtain⟨rfl,q1,q2⟩:=Qxy E S.h S.t hr;rw[q1];cases h;have:=hQ Y a w (Ext.refl _ _) (Turn.refl _ _ _) S (by simpa[Q04]using q2) hu;rw[<- hm]at this;exact this
    ·cases h
  ·rename_i hw hdst;rw[if_neg (by rw[Qt3 (G:=E.G) S.t hw];simp)];have hh:(s.put o.dst Qr s.h).h=s.h:=Qwu _ _ _ _;exact Yki E (Q:=Q) r (i+1) _ _ Y _ w c₀ cs e u1 s1 hdrop' h (S.putU hdst) hu hm (by rw[hh];exact hQ)
  ·cases h
def Ydi{E:Env2 P}{ops:List Oper}:∀ (l:List Oper) (u:FrameMode) (s:St) (e:Exit) (u1:FrameMode) (s1:St),Zqg E ops l u s=some (e,u1,s1)->LowOK s.h s1.h
 | [],u,s,e,u1,s1,h=>by simp only[Zqg,av,bN]at h;rw[<- h.2.2];exact LowOK.refl _
 | o::r,u,s,e,u1,s1,h=>by
  simp only[Zqg]at h;split at h
  ·split at h
   ·have:=Ydi r _ _ _ _ _ h;rwa [Qwu]at this
   ·split at h
    ·rename_i hr;have:=Ydi r _ _ _ _ _ h;rw[Qwu]at this;exact LowOK.trans (Qvw hr) this
    ·rename_i hr;have:=Ydi r _ _ _ _ _ h;rw[Qwu]at this;exact LowOK.trans (Qvw hr) this
    ·rename_i hr;cases h;exact Qvw hr
    ·cases h
  ·have:=Ydi r _ _ _ _ _ h;rwa [Qwu]at this
  ·cases h
def Xx5{E:Env2 P}{C:CallF}(hL:CallsLow C){k:Nat}:∀ (c:Code) (u:FrameMode) (s:St) (e:Exit) (u1:FrameMode) (s1:St),Q2d E C k c u s=some (e,u1,s1)->LowOK s.h s1.h:=by
 have base:∀ (c:Code) (u:FrameMode) (s:St) (e:Exit) (u1:FrameMode) (s1:St),(match Q0z E C none k c s with | some (e,s')=>some (e,u,s') | none=>none)=some (e,u1,s1)->LowOK s.h s1.h:=by
  intro c u s e u1 s1 h;split at h
  ·rename_i hx;cases h;exact Qqw hL _ _ _ _ hx
  ·cases h
 intro c;induction c with
 | seq x y ihx ihy =>
  intro u s e u1 s1 h;simp only[Q2d]at h;split at h
  ·rename_i hx;exact(ihx _ _ _ _ _ hx).trans (ihy _ _ _ _ _ h)
  ·exact ihx _ _ _ _ _ h
 | cond c x y ihx ihy =>
  intro u s e u1 s1 h;simp only[Q2d]at h;split at h
  ·exact ihx _ _ _ _ _ h
  ·exact ihy _ _ _ _ _ h
  ·cases h
 | region id ops d =>
  intro u s e u1 s1 h;cases d with
  | true=>simp only[Q2d]at h;exact base _ _ _ _ _ _ h
  | false =>
   simp only[Q2d]at h;split at h
   ·exact Ydi _ _ _ _ _ _ h
   ·exact base _ _ _ _ _ _ h
 | skip=>exact base Code.skip
 | block id c _=>exact base (Code.block id c)
 | loop c _=>exact base (Code.loop c)
 | rangeFunc f ps x y _ _=>exact base (Code.rangeFunc f ps x y)
 | exit id=>exact base (Code.exit id)
 | scope c _=>exact base (Code.scope c)
 | label l=>exact base (Code.label l)
 | goto l=>exact base (Code.goto l)
 | ret=>exact base Code.ret
 | refuse y=>exact base (Code.refuse y)
def Z7e(E:Env2 P){C:CallF}(hC:CallsSound P E.G C)(hL:CallsLow C)(hm:P.follows .mixedOrders=true){k:Nat}:∀ (c:Code) (u:FrameMode) (s:St) (e:Exit) (u1:FrameMode) (s1:St),Q2d E C k c u s=some (e,u1,s1) ->
  CWD P E.G s.h.next c u s (fun e' u' s'=>e'=e/\u'=u1/\s'=s1):=by
 have base:∀ (c:Code) (u:FrameMode) (s:St) (e:Exit) (u1:FrameMode) (s1:St),(match Q0z E C none k c s with | some (e,s')=>some (e,u,s') | none=>none)=some (e,u1,s1)->CWD P E.G s.h.next c u s (fun e' u' s'=>e'=e/\u'=u1/\s'=s1):=by
  intro c u s e u1 s1 h;split at h
  ·rename_i hx;cases h;refine(Z4m rfl (Q6r E hC hL hm c _ _ _ hx)).mono (ae _) ?_;rintro e' u' s' ⟨⟨rfl,rfl⟩,rfl⟩;exact⟨rfl,rfl,rfl⟩
  ·cases h
 intro c;induction c with
 | seq x y ihx ihy =>
  intro u s e u1 s1 h;simp only[Q2d]at h;refine Jb9 ?_;split at h
  ·rename_i hx;refine(ihx _ _ _ _ _ hx).mono (ae _) ?_;rintro e' u' s' ⟨rfl,rfl,rfl⟩;exact⟨(Xx5 hL x _ _ _ _ _ hx).next,fun _=>ihy _ _ _ _ _ h,fun hne=>absurd rfl hne⟩
  ·rename_i hne;refine(ihx _ _ _ _ _ h).mono (ae _) ?_;rintro e' u' s' ⟨rfl,rfl,rfl⟩;refine⟨(Xx5 hL x _ _ _ _ _ h).next,fun he => ?_,fun _=>⟨rfl,rfl,rfl⟩⟩;subst he;exact absurd h (hne _ _)
 | cond c x y ihx ihy =>
  intro u s e u1 s1 h;simp only[Q2d]at h;split at h
  ·rename_i hc;exact Zv9 hc (ihx _ _ _ _ _ h)
  ·rename_i hc;exact Zv9 hc (ihy _ _ _ _ _ h)
  ·cases h
 | region id ops d =>
  intro u s e u1 s1 h;cases d with
  | true=>simp only[Q2d]at h;exact base _ _ _ _ _ _ h
  | false =>
   simp only[Q2d]at h;split at h
   ·intro Y a w c₀ cs S hu hm';have:=Yki E (ops:=ops) ops.toList 0 u s Y a w c₀ cs e u1 s1 rfl h S hu hm'
     (Q:=fun e' a' cs' w' => ∃ Y' e_1 u' s',(e_1=e/\u'=u1/\s'=s1)/\e'=Qp4 Y' e_1/\Q04 (dom Y') e_1/\okM (dom Y') u'/\cs' = {c₀ with mode:=Xy1 Y' u' }::cs/\Ext s.h.next Y Y'/\Turn Y s.h w Y' s'.h w'/\SRel E.G Y' s' a' w')
     (fun Y' a' w' h1 h2 h3 h4 h5=>⟨Y',e,u1,s1,⟨rfl,rfl,rfl⟩,rfl,h4,h5,rfl,h1,h2,h3⟩)
    rw[Array.length_toList,<- dE]at this;exact wpSIn_region this
   ·exact base _ _ _ _ _ _ h
 | _=>intro u s e u1 s1 h;simp only[Q2d]at h;exact base _ _ _ _ _ _ h
def Zjz(E:Env2 P){C:CallF}(hC:CallsSound P E.G C)(hL:CallsLow C)(hm:P.follows .mixedOrders=true){k:Nat}:Qzu P E.G (Xt0 E C k):=by
 intro f args u h r u1 h1 hb Y w H ha hu;unfold Xt0 at hb;split at hb
 ·cases hb
 ·rename_i fn hfn;obtain⟨g1,g2,g3⟩:=E.fnok _ _ hfn;split at hb
  ·rename_i c hbody hle;have hle':args.length<=fn.ntmps:=by simpa using hle
   have S:SRel E.G Y ⟨Xo fn args,[],h⟩ {tmps:=(args.map (ren Y)).toArray++Array.replicate (fn.ntmps-(args.map (ren Y)).toArray.size) undef,defers:=[]} w :=
    ⟨H,Yvx hle' ha,rfl,fun d hd=>by cases hd⟩
   have fin:∀ e u' s,Q2d E C k c u ⟨Xo fn args,[],h⟩=some (e,u',s)->(∀ a' w' Y' c₀ cs,Ext h.next Y Y'->Turn Y h w Y' s.h w'->SRel E.G Y' s a' w'->Q04 (dom Y') e->okM (dom Y') u' ->
     bodyPostS P fn c₀ cs (fun e um w' => ∃ Y',e=Qww Y' r/\um=Xy1 Y' u1/\Xx6 (dom Y') r/\okM (dom Y') u1/\Ext h.next Y Y'/\Turn Y h w Y' h1 w'/\HRel E.G Y' h1 w') (Qp4 Y' e) a' ({c₀ with mode:=Xy1 Y' u' }::cs) w') ->
     CallsDIn Fence.wide 0 P f (args.map (ren Y)).toArray (Xy1 Y u) w (fun e um w' => ∃ Y',e=Qww Y' r/\um=Xy1 Y' u1/\Xx6 (dom Y') r/\okM (dom Y') u1/\Ext h.next Y Y'/\Turn Y h w Y' h1 w'/\HRel E.G Y' h1 w'):=by
    intro e u' s hex hp;refine callsDIn_of_wpSIn g1 hbody trivial fun c₀ cs hc₀ => ?_;refine Yif (Z7e E hC hL hm c _ _ _ _ _ hex Y _ w c₀ cs S hu hc₀) ?_;rintro e' a' cs' w' ⟨Y',e1,u2,s1,⟨rfl,rfl,rfl⟩,rfl,q1,q2,rfl,q3,q4,q5⟩;exact hp a' w' Y' c₀ cs q3 q4 q5 q1 q2
   split at hb
   ·rename_i u' t h' hex;split at hb
    ·rename_i v hv;cases hb;refine fin _ _ _ hex fun a' w' Y' c₀ cs q3 q4 q5 q1 q2 => ?_;obtain⟨i1,i2⟩:=Zsb E q5.h q5.t hv;exact⟨q5.ds,_,rfl,_,i2,Y',rfl,rfl,i1,q2,q3,q4,q5.h⟩
    ·cases hb
   ·rename_i u' t h' hex;split at hb
    ·rename_i v hv;cases hb;refine fin _ _ _ hex fun a' w' Y' c₀ cs q3 q4 q5 q1 q2 => ?_;obtain⟨i1,i2⟩:=Zsb E q5.h q5.t hv;exact⟨q5.ds,_,rfl,_,i2,Y',rfl,rfl,i1,q2,q3,q4,q5.h⟩
    ·cases hb
   ·rename_i ch u' t h' hex;cases hb;refine fin _ _ _ hex fun a' w' Y' c₀ cs q3 q4 q5 q1 q2 => ?_;exact⟨q5.ds,_,rfl,Y',rfl,rfl,q1,q2,q3,q4,q5.h⟩
   ·cases hb
  ·cases hb
def Y94{E:Env2 P}{C:CallF}(hL:CallsLow C){k:Nat}:Xx7 (Xt0 E C k):=by
 intro f args u h r u1 h1 hb;unfold Xt0 at hb;split at hb
 ·cases hb
 ·split at hb
  ·split at hb
   ·rename_i hex;split at hb
    ·cases hb;exact Xx5 hL _ _ _ _ _ _ hex
    ·cases hb
   ·rename_i hex;split at hb
    ·cases hb;exact Xx5 hL _ _ _ _ _ _ hex
    ·cases hb
   ·rename_i hex;cases hb;exact Xx5 hL _ _ _ _ _ _ hex
   ·cases hb
  ·cases hb
end
abbrev Xf8:=FuncId->List Value->Heap->Option (AEnd × Heap)
def Qr8(P:Program)(G:Bs)(X:Xf8):Prop:=∀ f args h r h',X f args h=some (r,h')->CallOK P G f args h (fun r1 h1=>r1=r/\h1=h')
def Qyy(X:Xf8):Prop:=∀ f args h r h',X f args h=some (r,h')->LowOK h h'
def Y2i{P:Program}(E:Env2 P)(X:Xf8)(k:Nat):Nat->CallF
 | 0=>⟨X,fun _ _ _=>none⟩
 | n+1=>⟨fun f args h=>match X f args h with
   | some r=>some r
   | none=>Zt9 E (Y2i E X k n) (Xt0 E (Y2i E X k n) k) k f args h,fun l args h=>Yv2 E (Y2i E X k n) k l args h⟩
section
variable{P:Program}
def Yvl(E:Env2 P){X:Xf8}(hL:Qyy X)(k:Nat):∀ n,CallsLow (Y2i E X k n)
 | 0=>⟨hL,fun _ _ _ _ _ h=>by cases h⟩
 | n+1=>by
  have ih:=Yvl E hL k n;refine⟨fun f args h r h' hc => ?_,fun l args h r h' hc=>Zy8 ih hc⟩;simp only[Y2i]at hc;split at hc
  ·rename_i hx;cases hc;exact hL _ _ _ _ _ hx
  ·exact Z3g ih (Y94 ih) hc
def Zcw(E:Env2 P){X:Xf8}(hX:Qr8 P E.G X)(hL:Qyy X)(hm:P.follows .mixedOrders=true)(k:Nat):∀ n,CallsSound P E.G (Y2i E X k n)
 | 0=>⟨hX,fun _ _ _ _ _ h=>by cases h⟩
 | n+1=>by
  have ih:=Zcw E hX hL hm k n;have il:=Yvl E hL k n;refine⟨fun f args h r h' hc => ?_,fun l args h r h' hc=>Z0q E ih il hm hc⟩;simp only[Y2i]at hc;split at hc
  ·rename_i hx;cases hc;exact hX _ _ _ _ _ hx
  ·exact Z6t E ih il hm (Zjz E ih il hm) hc
def Z95:Xf8:=fun _ _ _=>none
def Zwi(G:Bs):Qr8 P G Z95:=fun _ _ _ _ _ h=>by cases h
def Yuj:Qyy Z95:=fun _ _ _ _ _ h=>by cases h
end
end Go.Ab
