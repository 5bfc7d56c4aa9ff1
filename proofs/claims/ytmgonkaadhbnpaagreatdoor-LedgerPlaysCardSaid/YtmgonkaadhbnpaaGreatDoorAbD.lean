import Derived.Test.YtmgonkaadhbnpaaGreatDoorAbC
import Derived.RangeFuncIn
import Derived.RecoverIn
set_option linter.all false
open List renaming length→L
open Option renaming some→U,none→O
open Bool renaming true→Y,false→J
open Go renaming Value→V
open Go.Value renaming int→I,slice→M
open Go.IntKind renaming i64→X
open Go.Ab.Blk renaming cells→S
noncomputable section
namespace Go.Ab
section
variable{P:Program}{G:Bs}{M_:Ren}{h:N}{w:World}
def Uc7(E:f_ P){f:FuncId}{F:Func}(hF:E.fn.A f=U F)(cap args:Array V)(w:World):(invoke (.fn (.func f) cap) args).run P w=.ok (.enter f (args++cap)) w:=by
 obtain⟨C,T,g3⟩:=E.fnok _ _ hF;have j:F.body.isNone=J:=by simp_all
 simp only[aw,bg,ak,invoke,callFunc,run_program,C,T,az,if_false,j]
def KS(H:c_ G M_ h w){l:Nat}(hl:dom M_ l){st:LoopState}{T:Option Code}{t:Tm}{ps:Array Tmp}{as bd:Code}{d:Nat}(hg:h.A l=U (.obj (.loop st T t ps as bd d))) :
  ∃ r:Loop,w.heap[jD M_ l]? = U (.loop r)/\r.state=st/\r.pending=T/\r.params=ps/\r.assign=as/\r.body=bd/\je M_ t r.tmps/\dom M_ d/\r.defers=jD M_ d /\
   ∀ C j,c_ G M_ (h.set l (U (.obj (.loop C j t ps as bd d)))) (w.putObj (jD M_ l) (.loop {r with state:=C,pending:=j })) /\
    ig M_ h w M_ (h.set l (U (.obj (.loop C j t ps as bd d)))) (w.putObj (jD M_ l) (.loop {r with state:=C,pending:=j })):=by
 obtain⟨p,hp⟩:=bf.1 hl;obtain⟨f0,o,f1,hd,fn,tmps,rfl,ht⟩:=H.fits l p _ hp hg;have e:jD M_ l=p.blk:=by simp[jD,hp]
 rw[e];refine⟨_,f1,rfl,rfl,rfl,rfl,rfl,ht,hd,rfl,fun C j => ?_⟩;have hc:=H.blk_lt hp hg rfl;exact H.upd hp (by rw[wJ hg];rfl) (x:=.obj (.loop C j t ps as bd d)) rfl ⟨f0,_,zH hc,hd,fn,tmps,rfl,ht⟩
def IX:Exit->Option (Option Code)
 | .normal=>U O
 | .ret=>U (U .ret)
 | .exit id=>U (U (.exit id))
 | _=>O
def AK(t:Tm)(ds:List Deferred)(l:Nat):Option (jc × N)->Option (Exit × St)
 | some (.ret _,h)=>match h.A l with
  | some (.obj (.loop .busy _ _ _ _ _ _))=>O
  | some (.obj (.loop _ O _ _ _ _ _))=>U (.normal,⟨t,ds,h.set l O⟩)
  | some (.obj (.loop _ (U .ret) _ _ _ _ _))=>U (.ret,⟨t,ds,h.set l O⟩)
  | some (.obj (.loop _ (U (.exit id)) _ _ _ _ _))=>U (.exit id,⟨t,ds,h.set l O⟩)
  | _=>O
 | some (.panic j,h)=>U (.panic j,⟨t,ds,h⟩)
 | none=>O
def Uvt{t:Tm}{ds:List Deferred}{l:Nat}{r:jc}{h:N}{e:Exit}{j:St}(hh:AK t ds l (U (r,h))=U (e,j)):fm h j.h:=by
 cases r with
 | ret v =>
  unfold AK at hh;split at hh
  ·rename_i C;cases C;split at hh <;> first
    | grind
    | (cases hh;exact fm.set _ _ _ (N.D (by assumption)))
  ·grind
  ·cases hh
 | panic T =>
  unfold AK at hh;cases hh;exact fm.refl _
def Uyb{a:Act}{w3:World}{j:Ren}{t:Tm}{ds:List Deferred}{l:Nat}{r:jc}{h3:N}{e:Exit}{s1:St}{F:Fence}{n:Nat}{Q:Exit->Act->World->Prop}
  (hh:AK t ds l (U (r,h3))=U (e,s1)) (hl:dom j l) (hr:za (dom j) r) (S_:iU G j ⟨t,ds,h3⟩ a w3)
  (hQ:∀ w',ig j h3 w3 j s1.h w'->iU G j s1 a w'->uB (dom j) e->Q (r9 j e) a w') :
  rangePost F n P (jD j l) Q a (vI j r) w3:=by
 cases r with
 | panic ch =>
  unfold AK at hh;cases hh;exact hQ w3 (ig.refl _ _ _) S_ hr
 | ret v =>
  unfold AK at hh;split at hh
  ·rename_i hq;cases hq;have key:∀ {st T t' ps as bd d},h3.A l=U (.obj (.loop st T t' ps as bd d))->st ≠ .busy->∃ C,(Instr.endLoop (jD j l)).run P w3=.ok T C/\c_ G j (h3.set l O) C/\ig j h3 w3 j (h3.set l O) C:=by
    intro st T t' ps as bd d hg h2;obtain⟨r,r1,r2,r3,_,_,_,_,_,_,r4⟩:=KS S_.h hl hg;obtain⟨H4,T4⟩:=r4 .exhausted T;have hx:=N.D hg;have hk:=H4.kill (b:=l) hx;rw[OS]at hk;subst r3;exact⟨_,run_endLoop r1 (by grind),hk.1,T4.trans hk.2⟩
   have hc:∀ {C:World},c_ G j (h3.set l O) C->iU G j ⟨t,ds,h3.set l O⟩ a C:=fun H4=>S_.step (iZ.refl _ _) H4;split at hh
   ·cases hh
   next hb hg=>cases hh;obtain⟨C,e1,e2,e3⟩:=key hg hb;exact⟨O,C,e1,hQ C e3 (hc e2) trivial⟩
   next hb hg=>cases hh;obtain⟨C,e1,e2,e3⟩:=key hg hb;exact⟨_,C,e1,wpIn_ret (hQ C e3 (hc e2) trivial)⟩
   next hb hg=>cases hh;obtain⟨C,e1,e2,e3⟩:=key hg hb;exact⟨_,C,e1,wpIn_exit (hQ C e3 (hc e2) trivial)⟩
   ·cases hh
  ·grind
  ·cases hh
def Uq2(w:World)(o:Obj):(w.alloc o).heap.size=w.heap.size+1:=Array.size_push _
def Unn(H:c_ G M_ h w){x:pV}{o:Obj}(C:kV (Ren.add M_ h.Q ⟨w.heap.size,0,0,0,O⟩) o x) :
  ∃ j,c_ G j (h.push (.obj x)) (w.alloc o)/\ig M_ h w j (h.push (.obj x)) (w.alloc o)/\dom j h.Q/\jD j h.Q=w.heap.size/\iZ h.Q M_ j :=
 have h1:=H.push (x:=.obj x) rfl (p:=⟨w.heap.size,0,0,0,O⟩) rfl (o:=o) (w':=w.alloc o) rfl ⟨rfl,o,World.alloc_heap_new _ _,C⟩
 ⟨_,h1.1,h1.2,by show(Ren.add _ _ _ _).isSome=Y;rw[hU];rfl,by unfold jD;rw[hU],i5 _ _ _⟩
def Ubm(H:c_ G M_ h w){t:Tm}{tmps:Array V}{ps:Array Tmp}{as bd:Code}{d:Nat}(T:je M_ t tmps)(hd:dom M_ d)(fn:FuncId) :
  ∃ j,c_ G j (h.push (.obj (.loop .ready O t ps as bd d))) (w.alloc (.loop {state:=.ready,pending:=O,fn,tmps,params:=ps,assign:=as,body:=bd,defers:=jD M_ d})) /\
   ig M_ h w j (h.push (.obj (.loop .ready O t ps as bd d))) (w.alloc (.loop {state:=.ready,pending:=O,fn,tmps,params:=ps,assign:=as,body:=bd,defers:=jD M_ d})) /\
   dom j h.Q/\jD j h.Q=w.heap.size/\iZ h.Q M_ j:=by
 have C:∀ b,dom M_ b->Ren.add M_ h.Q ⟨w.heap.size,0,0,0,O⟩ b=M_ b:=H.add_dom _;exact Unn H ⟨by grind,fn,tmps,by rw[tU (C d hd)],T.keep C⟩
def Uw3{j:Ren}{first captured:Array V}{l k:Nat}(C:(∀ v ∈ first,d_ (dom M_) v)/\∀ v ∈ captured,d_ (dom M_) v)(hc:∀ b,dom M_ b->j b=M_ b)(hl:dom j l)(hk:jD j l=k) :
  first.map (b_ M_) ++ #[Value.func (.yield k) #[] #[]]++captured.map (b_ M_)=((first.toList ++ [Value.func (.yield l) #[] #[]]++captured.toList).map (b_ j)).toArray /\
  ∀ v ∈ first.toList ++ [Value.func (.yield l) #[] #[]]++captured.toList,d_ (dom j) v:=by
 have hd:∀ b,dom M_ b->dom j b:=fun b hb=>by grind
 constructor
 ·have T:∀ A:Array V,(∀ v ∈ A,d_ (dom M_) v)->A.map (b_ M_)=A.map (b_ j):=fun A hA=>by
   apply dM;intro v hv;exact(iB hc v (hA v hv)).symm
  rw[T _ C.1,T _ C.2,<- hk];apply dj;simp[b_,vC,uo]
 ·intro v hv;simp only[ah,fj,bb]at hv;rcases hv with(hv | rfl) | hv
  ·exact iq hd v (C.1 v hv)
  ·simp only[d_,mH,nr]
   grind
  ·exact iq hd v (C.2 v hv)
end
section
variable{P:Program}
def No{E:f_ P}{C:h_}(hC:iL C){ops:List Oper}{B:List Nat}:∀ (l:List Oper) (i:Nat) (s j:St) (R:List (Option i')),se E C ops B l i s=U (j,R)->fm s.h j.h
 | [],i,s,j,R,h=>by simp only[se,aU,cN]at h;rw[<- h.1];exact fm.refl _
 | o::r,i,s,j,R,h=>by
  simp only[se]at h;split at h
  ·cases h
  ·split at h
   ·obtain⟨R',T,_⟩:=Sg h;have:=No hC r _ _ _ _ T;rwa [qD]at this
   ·split at h
    ·rename_i v h1 hv;split at h
     ·obtain⟨R',T,_⟩:=Sg h;have h2:=No hC r _ _ _ _ T;rw[qD]at h2;have h3:=D_ hC hv;refine fm.trans (b:=xK s.h h1) ⟨h3.Q,Nat.min_le_left _ _,fun b hb hl => ?_⟩ h2;have:=h3.same b hb (aq hl (Nat.min_le_right _ _));exact this
     ·cases h
    ·cases h
   ·cases h
def Uux{E:f_ P}{C:h_}(T:iL C){ops:List Oper}{s j:St}(h:xE E C ops s=U j):fm s.h j.h:=by
 unfold xE at h;split at h
 ·split at h
  ·split at h
   ·rename_i hR;split at h
    ·cases h;exact No T _ _ _ _ _ hR
    ·cases h
   ·cases h
  ·cases h
 ·cases h
def Vw3(rd:Option Nat)(M_ β:Ren)(l:Nat):(mP rd β).inRound (jD M_ l)=mP (U l) M_:=by cases rd <;> rfl
def Uca{M_:Ren}{e:Exit}{j:Option Code}(C:IX e=U j){l:Nat}{R:Ending->World->Prop}{a:Act}{w:World}(h:∃ v w',(Instr.endRound l j).run P w=.ok v w'/\R (.returned v) w') :
  roundPost P l R (r9 M_ e) a w:=by
 cases e <;> simp only[IX,aU,reduceCtorEq]at C <;> subst C <;> exact h
end
def Y6{P:Program}(E:f_ P)(t:Tm)(h:N):List ResultVar->Option (List V)
 | []=>U []
 | .tmp i::r=>match t.t.A i,Y6 E t h r with
  | some v,U l=>U (v::l)
  | _,_=>O
 | .cell i ty::r=>match t.t.A i with
  | some x=>match jL E.tojo ty x h,Y6 E t h r with
   | some v,U l=>U (v::l)
   | _,_=>O
  | none=>O
def Yg{P:Program}(E:f_ P)(fn:Func)(t:Tm)(h:N):Option V :=
 match Y6 E t h fn.results.toList with
 | some [v]=>U v
 | some l=>U (.tuple l.toArray)
 | none=>O
def ns(M_:Ren):FrameMode->FrameMode
 | .panicking j => .panicking (j.map (uj M_))
 | u=>u
def px(D:Nat->Prop):FrameMode->Prop
 | .panicking j => ∀ p ∈ j,d_ D p.v
 | _=>True
abbrev r7:=FuncId->List V->FrameMode->N->Option (jc × FrameMode × N)
def Cp(P:Program)(G:Bs)(D:r7):Prop:=∀ f args u h r C h1,D f args u h=U (r,C,h1) ->
 ∀ M_ w,c_ G M_ h w->(∀ v ∈ args,d_ (dom M_) v)->px (dom M_) u->CallsDIn Fence.wide 0 P f (args.map (b_ M_)).toArray (ns M_ u) w fun e u' T =>
  ∃ j,e=vI j r/\u'=ns j C/\za (dom j) r/\px (dom j) C/\iZ h.Q M_ j/\ig M_ h w j h1 T/\c_ G j h1 T
def G6(D:r7):Prop:=∀ f args u h r j h1,D f args u h=U (r,j,h1)->fm h h1
def Qt{P:Program}(E:f_ P)(D:r7)(fn:Func)(t:Tm):List Deferred->FrameMode->N->Option (jc × N)
 | [],.returning,h=>match Yg E fn t h with
  | some v=>U (.ret v,h)
  | none=>O
 | [],.panicking j,h=>U (.panic j,h)
 | [],.run,_=>O
 | d::ds,u,h=>match u,d.target with
  | .run,_=>O
  | _,.collected r=>match h.A r with
   | some (.obj .defs)=>Qt E D fn t ds u (h.set r O)
   | _=>O
  | _,.fn (.func f) cap=>match E.fn.A f with
   | none=>O
   | some _=>match D f (d.args.toList++cap.toList) u h with
    | some (.ret _,C,h1)=>Qt E D fn t ds (settle C) h1
    | some (.panic j,C,h1)=>Qt E D fn t ds (raised C j) h1
    | none=>O
  | _,_=>O
def Qz(fn:Func)(args:List V):Tm:=⟨fn.ntmps,putAll 0 args .leaf⟩
 where putAll (i:Nat):List V->Tr V->Tr V
 | [],t=>t
 | v::l,t=>putAll (i+1) l (t.put i (U v))
section
variable{P:Program}{G:Bs}{M_:Ren}{h:N}{w:World}
def ON(E:f_ P)(H:c_ E.G M_ h w){t:Tm}{tmps:Array V}(T:je M_ t tmps):∀ {rs:List ResultVar} {l:List V},Y6 E t h rs=U l ->
  (∀ v ∈ l,d_ (dom M_) v)/\((rs.mapM (m:=Sem) fun
   | .tmp t=>pure (tmps.getD t undef)
   | .cell a t=>do loadVar t (<- asAddr (tmps.getD a undef))):Sem (List V)).run P w=.ok (l.map (b_ M_)) w
 | [],l,j=>by simp only[Y6,aU]at j;simp_all
 | .tmp i::r,l,j=>by
  simp only[Y6]at j;split at j
  next v l' hv C=>cases j;obtain⟨i1,i2⟩:=ON E H T C;obtain⟨j1,j2⟩:=T.vals i v hv;simp_all
  ·cases j
 | .cell i ty::r,l,j=>by
  simp only[Y6]at j;split at j
  ·rename_i x hx;split at j
   ·rename_i v l' hv C;cases j;obtain⟨i1,i2⟩:=ON E H T C;obtain⟨j1,j2⟩:=T.vals i x hx;have : tmps.getD i undef=b_ M_ x:=(by simp_all);unfold jL at hv;split at hv
    ·rename_i a rr hr;simp only[d_]at j1;obtain⟨k1,k2⟩:=Tg (P:=P) H (E.K ty rr hr) j1.1 j1.2 hv;refine⟨by grind,?_⟩;have hA:asAddr (b_ M_ (.pointer (U a)))=pure (jS M_ a):=by simp[b_,asAddr]
     simp_all
    ·cases hv
   ·cases j
  ·cases j
def Uta(E:f_ P)(H:c_ E.G M_ h w){t:Tm}{tmps:Array V}(ht:je M_ t tmps){fn:Func}{v:V}(hv:Yg E fn t h=U v):d_ (dom M_) v/\(results fn tmps).run P w=.ok (b_ M_ v) w:=by
 unfold Yg at hv;have key:∀ l,Y6 E t h fn.results.toList=U l->(∀ v ∈ l,d_ (dom M_) v)/\(results fn tmps).run P w=.ok (if h:(l.map (b_ M_)).toArray.size=1 then(l.map (b_ M_)).toArray[0]else .tuple (l.map (b_ M_)).toArray) w:=by
  intro l j;obtain⟨C,T⟩:=ON E H ht j;refine⟨C,?_⟩;unfold results;rw[fU];simp only[bind_map_left,aw];refine(congrArg (fun r=>Result.andThen r _) T).trans ?_;simp
 split at hv
 ·simp_all
 ·rename_i l hc j;cases hv;obtain⟨C,T⟩:=key _ j;refine⟨by simp only[d_,wQ];grind,?_⟩;have : ¬ (l.map (b_ M_)).toArray.size=1:=by
   intro hs;simp only[fw,bo]at hs;obtain⟨x,rfl⟩:=List.length_eq_one_iff.1 hs
   grind
  simp_all
 ·cases hv
def Vpj:∀ (l:List V) (i:Nat) (t:Tr V) (j:Nat),(Qz.putAll i l t).A j=if i<=j/\j < i+L l then l[j-i]? else t.A j
 | [],i,t,j=>by simp[Qz.putAll];omega
 | v::l,i,t,j=>by
  simp only[Qz.putAll,Vpj l (i+1),Tr.H,bI]
  grind
def Ua6{fn:Func}{args:List V}(C:L args<=fn.ntmps)(j:∀ v ∈ args,d_ (dom M_) v) :
  je M_ (Qz fn args) ((args.map (b_ M_)).toArray++Array.replicate (fn.ntmps-(args.map (b_ M_)).toArray.size) undef):=by
 refine⟨by simp[Qz];omega,fun i v hv => ?_⟩;simp only[Qz,Vpj,bw,true_and,bW,dG,Tr.get_leaf]at hv
 grind
def Une{D E:Nat->Prop}(h:∀ b,D b->E b){u:FrameMode}(j:px D u):px E u:=by
 cases u <;> simp only[px]at j ⊢;exact fun p C=>iq h _ (j p C)
def Vqu{β:Ren}{D:Nat->Prop}(h:∀ b,D b->β b=M_ b){u:FrameMode}(j:px D u):ns β u=ns M_ u:=by
 cases u <;> simp only[px,ns]at j ⊢;congr 1;apply bK;intro p C;simp[uj,iB h _ (j p C)]
def Uho(u:FrameMode):ns M_ (settle u)=settle (ns M_ u):=by
 cases u with
 | panicking C =>
  cases C with
  | nil=>rfl
  | cons p j =>
   obtain⟨v,r,g⟩:=p;cases r with
   | false=>rfl
   | true =>
    simp only[settle,ns,aH,uj];have : (j.map (uj M_)).dropWhile (fun x => !x.goexit)=(j.dropWhile (fun x => !x.goexit)).map (uj M_):=by
     induction j with
     | nil=>rfl
     | cons q j ih=>simp only[aH,List.dropWhile_cons,uj];split <;> simp_all [uj]
    have T:List.dropWhile (fun x => !x.goexit) (List.map (fun p=>({v:=b_ M_ p.v,recovered:=p.recovered,goexit:=p.goexit}:PanicEntry)) j)=(j.dropWhile (fun x => !x.goexit)).map (uj M_):=this;rw[show(uj M_)=(fun p=>({v:=b_ M_ p.v,recovered:=p.recovered,goexit:=p.goexit}:PanicEntry))from rfl]at *;rw[T];cases h3:j.dropWhile (fun x => !x.goexit)with
    | nil=>rfl
    | cons _ _=>rfl
 | _=>rfl
def Uoj{D:Nat->Prop}{u:FrameMode}(j:px D u):px D (settle u):=by
 cases u with
 | panicking T =>
  cases T with
  | nil=>exact j
  | cons p C =>
   obtain⟨v,r,g⟩:=p;cases r with
   | false=>exact j
   | true =>
    simp only[settle];split
    ·trivial
    ·exact fun q hq=>j q (aR _ (List.dropWhile_sublist _ |>.subset hq))
 | _=>exact j
def Ugg(u:FrameMode)(j:List PanicEntry):ns M_ (raised u j)=raised (ns M_ u) (j.map (uj M_)):=by
 cases u <;> simp[raised,ns]
def Uo8{D:Nat->Prop}{u:FrameMode}{j:List PanicEntry}(T:px D u)(C:∀ p ∈ j,d_ D p.v):px D (raised u j):=by
 cases u <;> simp only[raised,px]at T ⊢
 ·exact C
 ·exact C
 grind
end
section
variable{P:Program}{G:Bs}{M_:Ren}{h:N}{w:World}
def G3(E:f_ P){D:r7}(hD:Cp P E.G D){fn:Func}{t:Tm}:∀ (ds:List Deferred) (u:FrameMode) (h:N) (M_:Ren) (w:World) (tmps:Array V) (r:jc) (h1:N),
  Qt E D fn t ds u h=U (r,h1)->c_ E.G M_ h w->je M_ t tmps->(∀ d ∈ ds,uR (dom M_) d)->px (dom M_) u->∀ {R:Ending->World->Prop},
  (∀ M' w',iZ h.Q M_ M'->ig M_ h w M' h1 w'->c_ E.G M' h1 w'->za (dom M') r->R (vI M' r) w') ->
  LeavesInM Fence.wide 0 P fn tmps R (ds.map (rn M_)) (ns M_ u) w
 | [],u,h,M_,w,tmps,r,h1,j,H,T,_,hu,R,hR=>by
  cases u with
  | run=>simp[Qt]at j
  | returning =>
   simp only[Qt]at j;split at j
   next v hv=>cases j;obtain⟨i1,i2⟩:=Uta E H T hv;exact⟨b_ M_ v,i2,hR M_ w (iZ.refl _ _) (ig.refl _ _ _) H i1⟩
   ·cases j
  | panicking ch =>
   simp only[Qt,aU,cN]at j;obtain⟨rfl,rfl⟩:=j;exact hR M_ w (iZ.refl _ _) (ig.refl _ _ _) H hu
 | d::ds,u,h,M_,w,tmps,r,h1,j,H,T,hx,hu,R,hR=>by
  obtain⟨tg,C⟩:=d;simp only[Qt]at j;split at j
  ·cases j
  ·rename_i r0 e1;split at j
   ·rename_i hg;have hn:=hx _ bQ;have h3:ns M_ u ≠ .run:=by
     cases u <;> simp[ns]at e1 ⊢
    obtain⟨p,hp⟩:=bf.1 hn.1;obtain⟨f0,o,f1,f2⟩:=H.fits _ p _ hp hg;have h4:=H.blk_lt hp hg rfl;have e:jD M_ r0=p.blk:=(by simp[jD,hp]);obtain⟨H1,T1⟩:=H.upd hp (by rw[wJ hg];rfl) (x:=.obj .any) rfl (o:=.deferred O) ⟨f0,_,zH h4,trivial⟩;have hk:=H1.kill (b:=r0) (show r0 < h.Q from N.D hg);rw[OS]at hk;simp only[aH,rn];refine⟨h3,.inl ⟨_,_,rfl,run_takeDeferred (by rw[e,f1,f2]),?_⟩⟩;rw[e];exact G3 E hD ds _ _ M_ _ tmps r h1 j hk.1 T (fun d hd=>hx d (aR _ hd)) hu
     fun hA hy p1 p2 p3 p4=>hR hA hy p1 ((T1.trans hk.2).trans p2) p3 p4
   ·cases j
  ·rename_i f cap e1;split at j
   ·cases j
   ·rename_i F hF;have hn:=hx _ bQ;simp only[uR,d_,wQ]at hn;have hc:∀ v ∈ C.toList++cap.toList,d_ (dom M_) v:=by
     grind
    have hB:=Uc7 E hF (kn M_ cap) (kn M_ C) w;have a2:((C.toList++cap.toList).map (b_ M_)).toArray=kn M_ C++kn M_ cap:=by
     simp[uo]
    have h3:ns M_ u ≠ .run:=by
     cases u <;> simp[ns]at e1 ⊢
    simp only[aH,rn,vC];refine⟨h3,.inr ⟨by simp[Fence.wide],_,_,f,_,rfl,hB,fun _ _=>trivial,?_⟩⟩;rw[<- a2];split at j
    ·rename_i v u1 h2 hd;refine(hD _ _ _ _ _ _ _ hd M_ w H hc hu).mono ?_;rintro e um w' ⟨M',rfl,rfl,q1,q2,q3,q4,q5⟩;simp only[vI];have ho:∀ b,dom M_ b->M' b=M_ b:=fun b hb=>q3 b (np H hb);have hr:ds.map (rn M_)=ds.map (rn M'):=bK fun d hd=>(Ez ho (hx d (aR _ hd))).symm;rw[hr,<- Uho];exact G3 E hD ds _ _ M' w' tmps r h1 j q5 (T.ext H q3) (fun d hd=>Ev (fun b hb=>by grind) (hx d (aR _ hd))) (Uoj q2)
      fun hA hy p1 p2 p3 p4=>hR hA hy (q3.trans p1 q4.Q) (q4.trans p2) p3 p4
    ·rename_i ch u1 h2 hd;refine(hD _ _ _ _ _ _ _ hd M_ w H hc hu).mono ?_;rintro e um w' ⟨M',rfl,rfl,q1,q2,q3,q4,q5⟩;simp only[vI];have ho:∀ b,dom M_ b->M' b=M_ b:=fun b hb=>q3 b (np H hb);have hr:ds.map (rn M_)=ds.map (rn M'):=bK fun d hd=>(Ez ho (hx d (aR _ hd))).symm;rw[hr,<- Ugg];exact G3 E hD ds _ _ M' w' tmps r h1 j q5 (T.ext H q3) (fun d hd=>Ev (fun b hb=>by grind) (hx d (aR _ hd))) (Uo8 q2 q1)
      fun hA hy p1 p2 p3 p4=>hR hA hy (q3.trans p1 q4.Q) (q4.trans p2) p3 p4
    ·cases j
  ·cases j
def GN{E:f_ P}{D:r7}(C:G6 D){fn:Func}{t:Tm}:∀ (ds:List Deferred) (u:FrameMode) (h:N) (r:jc) (h1:N),
  Qt E D fn t ds u h=U (r,h1)->fm h h1
 | [],u,h,r,h1,j=>by
  cases u with
  | run=>simp[Qt]at j
  | returning=>simp only[Qt]at j;split at j <;> cases j;exact fm.refl _
  | panicking ch=>simp only[Qt,aU,cN]at j;rw[<- j.2];exact fm.refl _
 | d::ds,u,h,r,h1,j=>by
  simp only[Qt]at j;split at j
  ·cases j
  ·split at j
   next T=>exact(fm.set _ _ _ (N.D T)).trans (GN C ds _ _ _ _ j)
   ·cases j
  ·split at j
   ·cases j
   ·split at j
    next hd=>exact(C _ _ _ _ _ _ _ hd).trans (GN C ds _ _ _ _ j)
    next hd=>exact(C _ _ _ _ _ _ _ hd).trans (GN C ds _ _ _ _ j)
    ·cases j
  ·cases j
end
def CQ(o:Oper):Bool:=match o.op with
 | .call c=>(match c.callee with | .builtin .recover=>Y | _=>J) && c.args.isEmpty
 | _=>J
def wY(u:FrameMode):V × FrameMode:=match u with
 | .panicking ({v,recovered:=false,goexit:=false}::j)=>(v,.panicking ({v,recovered:=true}::j))
 | u=>(.nilIface,u)
def tQ{P:Program}(E:f_ P)(ops:List Oper):List Oper->FrameMode->St->Option (Exit × FrameMode × St)
 | [],u,s=>U (.normal,u,s)
 | o::r,u,s =>
  match Qg ops s.t o,lg s o.dst with
  | some Y,Y=>match CQ o with
   | true=>tQ E ops r (wY u).2 (s.put o.dst (wY u).1 s.h)
   | false=>match Ym o,jm E s.t s.h o with
    | true,U (.val v h)=>tQ E ops r u (s.put o.dst v h)
    | true,U (.skip h)=>tQ E ops r u (s.put o.dst Qq h)
    | true,U (.panic v h)=>U (.panic [{v,recovered:=false}],u,{s with h:=h})
    | _,_=>O
  | some J,Y=>tQ E ops r u (s.put o.dst Qq s.h)
  | _,_=>O
def rW{P:Program}(E:f_ P):Code->FrameMode->St->Option (Exit × FrameMode × St)
 | .seq x y,u,s=>match rW E x u s with
  | some (.normal,T,C)=>rW E y T C
  | r=>r
 | .cond c x y,u,s=>match iH E.G s.t c with
  | some (.bool Y)=>rW E x u s
  | some (.bool J)=>rW E y u s
  | _=>O
 | .region _ j J,u,s=>tQ E j.toList j.toList u s
 | .skip,u,s=>U (.normal,u,s)
 | _,_,_=>O
def BR{P:Program}(E:f_ P):r7:=fun f args u h =>
 match E.fn.A f with
 | none=>O
 | some fn=>match fn.body,Nat.ble (L args) fn.ntmps with
  | some c,Y=>match rW E c u ⟨Qz fn args,[],h⟩with
   | some (.normal,C,⟨t,[],j⟩)=>(Yg E fn t j).map fun v=>(.ret v,C,j)
   | _=>O
  | _,_=>O
section
variable{P:Program}{G:Bs}{M_:Ren}{h:N}{w:World}{s:St}{a:Act}
def BW(P:Program)(G:Bs)(n:Nat)(c:Code)(u:FrameMode)(s:St)(Q:Exit->FrameMode->St->Prop):Prop :=
 ∀ M_ a w c₀ cs,iU G M_ s a w->px (dom M_) u->c₀.mode=ns M_ u->c.wpSIn Fence.wide 0 P (fun e' a' C w' => ∃ j e u' T,Q e u' T/\e'=r9 j e/\uB (dom j) e/\px (dom j) u'/\C = {c₀ with mode:=ns j u' }::cs/\iZ n M_ j/\ig M_ s.h w j T.h w'/\iU G j T a' w') a (c₀::cs) w
def Uvz{n:Nat}{c:Code}{u:FrameMode}{Q:Exit->St->Prop}(hn:n=s.h.Q)(h:CW P G O n c s Q):BW P G n c u s (fun e u' j=>Q e j/\u'=u):=by
 subst hn;intro M_ a w hc cs T hu hm;refine wpSIn_of_wpIn rfl (wpIn_mono (h M_ a w T (fun l hl=>by cases hl)) ?_);rintro e' a' w' ⟨C,e,j,q,rfl,q1,q2,q3,q4⟩;have hd:∀ b,dom M_ b->C b=M_ b:=fun b hb=>q2 b (np T.h hb);refine⟨C,e,u,j,⟨q,rfl⟩,rfl,q1,Une (fun b hb=>by grind) hu,?_,q2,q3,q4⟩;rw[Vqu hd hu,<- hm]
def Co{F:Fence}{n:Nat}{c:Code}{Q j:Exit->Act->List Frame->World->Prop}{cs:List Frame}(hc:c.wpSIn F n P Q a cs w)(hq:∀ e a cs w,Q e a cs w->j e a cs w):c.wpSIn F n P j a cs w:=by
 intro b k h1 T h3 h4;obtain⟨e,a',C,w',l,q,arr⟩:=hc b k h1 T h3 h4
 grind
def U4c{x y:Code}{u:FrameMode}{Q:Exit->FrameMode->St->Prop}(h:BW P G s.h.Q x u s (fun e u' s'=>s.h.Q<=s'.h.Q/\(e=.normal->BW P G s'.h.Q y u' s' Q)/\(e ≠ .normal->Q e u' s'))) :
  BW P G s.h.Q (.seq x y) u s Q:=by
 intro M_ a w c₀ cs S_ hu hm;refine wpSIn_seq (Co (h M_ a w c₀ cs S_ hu hm) ?_);rintro e' a' e1 w' ⟨M',e,u',s',⟨hn,hp,hA⟩,rfl,h3,hl,rfl,hx,C,S'⟩;by_cases hk:e=.normal
 ·subst hk;show y.wpSIn _ _ _ _ _ _ _;refine Co (hp rfl M' a' w' _ cs S' hl rfl) ?_;rintro a2 hB hr h4 ⟨hb,e2,ho,hy,g1,g2,g3,g4,g5,g6,g7,g8⟩;exact⟨hb,e2,ho,hy,g1,g2,g3,g4,g5,hx.trans g6 hn,C.trans g7,g8⟩
 ·have : ∃ j h2 hc T,Q h2 hc T/\r9 M' e=r9 j h2/\uB (dom j) h2/\px (dom j) hc/\{c₀ with mode:=ns M' u' }::cs = {c₀ with mode:=ns j hc}::cs/\iZ s.h.Q M_ j/\ig M_ s.h w j T.h w'/\iU G j T a' w' :=
   ⟨M',e,u',s',hA hk,rfl,h3,hl,rfl,hx,C,S'⟩
  cases e <;> first
   | grind
   | exact this
def Ulr{c:Operand}{x y:Code}{u:FrameMode}{Q:Exit->FrameMode->St->Prop}{b:Bool}(T:iH G s.t c=U (.bool b))(h:BW P G s.h.Q (if b then x else y) u s Q):BW P G s.h.Q (.cond c x y) u s Q:=by
 intro M_ a w C cs j hu hm;exact wpSIn_cond (by rw[(vG j.h j.t T).2,nL]) (h M_ a w C cs j hu hm)
def U5g{u:FrameMode}(C:px (dom M_) u){c₀:Frame}(cs:List Frame)(T:c₀.mode=ns M_ u) :
  d_ (dom M_) (wY u).1/\px (dom M_) (wY u).2 /\
  (recoverD (c₀::cs)=U (b_ M_ (wY u).1,{c₀ with mode:=ns M_ (wY u).2}::cs)∨(recoverD (c₀::cs)=O/\(wY u).1=.nilIface/\(wY u).2=u)):=by
 unfold wY;split
 ·rename_i v j;simp only[px]at C;have hv:=C {v:=v,recovered:=false} bQ;refine⟨hv,fun p hp => ?_,.inl ?_⟩
  ·grind
  ·simp[recoverD,T,ns,uj]
 ·rename_i hc;refine⟨by simp[d_],C,.inr ⟨?_,rfl,rfl⟩⟩;simp only[recoverD,T];cases u with
  | panicking ch =>
   cases ch with
   | nil=>simp[ns]
   | cons p j =>
    obtain⟨v,r,g⟩:=p;cases r <;> cases g <;> simp[ns,uj]
    grind
  | _=>simp[ns]
def Urq{o:Oper}(j:CQ o=Y)(a:Act)(w:World):(execOp a.eval o).run P w=.ok .recover w:=by
 unfold CQ at j;split at j
 ·rename_i c C;simp only[ax]at j;obtain⟨h1,h2⟩:=j;split at h1
  ·rename_i T;have : c.args = #[]:=by grind
   simp[execOp,C,resolve,T,invoke,builtin,this]
  ·cases h1
 ·cases j
def DE(E:f_ P){ops:Array Oper}{Q:Exit->Act->List Frame->World->Prop}:∀ (l:List Oper) (i:Nat) (u:FrameMode) (s:St) (M_:Ren) (a:Act) (w:World) (c₀:Frame) (cs:List Frame) (e:Exit) (u1:FrameMode) (s1:St),
  ops.toList.drop i=l->tQ E ops.toList l u s=U (e,u1,s1)->iU E.G M_ s a w->px (dom M_) u->c₀.mode=ns M_ u ->
  (∀ M' a' w',iZ s.h.Q M_ M'->ig M_ s.h w M' s1.h w'->iU E.G M' s1 a' w'->uB (dom M') e->px (dom M') u1->Q (r9 M' e) a' ({c₀ with mode:=ns M' u1}::cs) w') ->
  wpOpsSIn Fence.wide 0 P ops Q (List.range' i (L l)) a (c₀::cs) w
 | [],i,u,s,M_,a,w,c₀,cs,e,u1,s1,_,h,T,hu,hm,hQ=>by
  simp only[tQ,aU,cN]at h;obtain⟨rfl,rfl,rfl⟩:=h;have:=hQ M_ a w (iZ.refl _ _) (ig.refl _ _ _) T trivial hu;rw[<- hm]at this;exact this
 | o::r,i,u,s,M_,a,w,c₀,cs,e,u1,s1,hc,h,T,hu,hm,hQ=>by
  have ho:ops[i]? = U o:=by
   have:=congrArg (fun l=>l[0]?) hc
   grind
  have j:ops.toList.drop (i+1)=r:=by
   have:=congrArg List.tail hc;simpa[List.tail_drop]using this
  simp only[bI,fD,wpOpsSIn,ho];refine⟨fun _ _=>trivial,?_⟩;simp only[tQ]at h;split at h
  ·rename_i hw C;rw[if_pos (xO (G:=E.G) T.t hw)];split at h
   ·rename_i hx;rw[Urq hx a w];obtain⟨r1,r2,r3⟩:=U5g (M_:=M_) hu cs hm;have S':=T.put (d:=o.dst) C r1;have hh:(s.put o.dst (wY u).1 s.h).h=s.h:=qD _ _ _ _;rcases r3 with r3 | ⟨r3,r4,r5⟩
    ·simp only[r3];exact DE E (Q:=Q) r (i+1) _ _ M_ _ w _ cs e u1 s1 j h S' r2 rfl (by grind)
    ·simp only[r3];have:=DE E (Q:=Q) r (i+1) _ _ M_ _ w c₀ cs e u1 s1 j h S' r2 (by grind) (by grind);simp_all
   ·rename_i hx;split at h
    next v h2 hp hr=>obtain⟨M',w',q1,q2,q3,q4,q5⟩:=sR E T.h T.t hr;rw[q1];have S1:=T.step q3 q4;have S2:=S1.put (d:=o.dst) (v:=v) (by cases hd:o.dst <;> simp only[hd,lg]at C ⊢;exact C) q2;have hd:∀ b,dom M_ b->M' b=M_ b:=fun b hb=>q3 b (np T.h hb);have hh:(s.put o.dst v h2).h=h2:=qD _ _ _ _;refine DE E (Q:=Q) r (i+1) _ _ M' _ w' c₀ cs e u1 s1 j h (by rw[ie];exact S2) (Une (fun b hb=>by grind) hu) (by rw[hm,Vqu hd hu]) ?_;rw[hh];exact fun hk hl h3 g1 g2 g3 g4 g5=>hQ hk hl h3 (q3.trans g1 q5.Q) (q5.trans g2) g3 g4 g5
    next h2 hp hr=>obtain⟨w',q1,q2,q3⟩:=sR E T.h T.t hr;rw[q1];have S1:=T.step (iZ.refl _ _) q2;have S2:=S1.putU (d:=o.dst) (by cases hd:o.dst <;> simp only[hd,lg]at C ⊢;exact C);have hh:(s.put o.dst Qq h2).h=h2:=qD _ _ _ _;refine DE E (Q:=Q) r (i+1) _ _ M_ _ w' c₀ cs e u1 s1 j h (by rw[ie];exact S2) hu hm ?_;rw[hh];exact fun hk hl h3 g1 g2 g3 g4 g5=>hQ hk hl h3 (iZ.trans (iZ.refl _ _) g1 q3.Q) (q3.trans g2) g3 g4 g5
    next v h2 hp hr=>obtain⟨rfl,q1,q2⟩:=sR E T.h T.t hr;rw[q1];cases h;have:=hQ M_ a w (iZ.refl _ _) (ig.refl _ _ _) T (by simpa[uB]using q2) hu;rw[<- hm]at this;exact this
    ·cases h
  next hw C=>rw[if_neg (by rw[xO (G:=E.G) T.t hw];simp)];have hh:(s.put o.dst Qq s.h).h=s.h:=qD _ _ _ _;exact DE E (Q:=Q) r (i+1) _ _ M_ _ w c₀ cs e u1 s1 j h (T.putU C) hu hm (by grind)
  ·cases h
def Ej{E:f_ P}{ops:List Oper}:∀ (l:List Oper) (u:FrameMode) (s:St) (e:Exit) (T:FrameMode) (C:St),tQ E ops l u s=U (e,T,C)->fm s.h C.h
 | [],u,s,e,T,C,h=>by simp only[tQ,aU,cN]at h;rw[<- h.2.2];exact fm.refl _
 | o::r,u,s,e,T,C,h=>by
  simp only[tQ]at h;split at h
  ·split at h
   ·have:=Ej r _ _ _ _ _ h;rwa [qD]at this
   ·split at h
    next j=>have:=Ej r _ _ _ _ _ h;rw[qD]at this;exact fm.trans (vO j) this
    next j=>have:=Ej r _ _ _ _ _ h;rw[qD]at this;exact fm.trans (vO j) this
    next j=>cases h;exact vO j
    ·cases h
  ·have:=Ej r _ _ _ _ _ h;rwa [qD]at this
  ·cases h
def RN{E:f_ P}:∀ (c:Code) (u:FrameMode) (s:St) (e:Exit) (u1:FrameMode) (T:St),rW E c u s=U (e,u1,T)->fm s.h T.h:=by
 intro c;induction c with
 | seq x y j C =>
  intro u s e u1 T h;simp only[rW]at h;split at h
  next hx=>exact(j _ _ _ _ _ hx).trans (C _ _ _ _ _ h)
  ·exact j _ _ _ _ _ h
 | cond c x y j C =>
  intro u s e u1 T h;simp only[rW]at h;split at h
  ·grind
  ·exact C _ _ _ _ _ h
  ·cases h
 | region id hc d =>
  intro u s e u1 T h;cases d with
  | true=>cases h
  | false=>exact Ej _ _ _ _ _ _ h
 | skip=>intro u s e u1 T h;cases h;exact fm.refl _
 | _=>intro u s e u1 T h;cases h
def Uz9(E:f_ P):∀ (c:Code) (u:FrameMode) (s:St) (e:Exit) (T:FrameMode) (C:St),rW E c u s=U (e,T,C) ->
  BW P E.G s.h.Q c u s (fun e' u' s'=>e'=e/\u'=T/\s'=C):=by
 intro c;induction c with
 | seq x y hl hp =>
  intro u s e T C h;simp only[rW]at h;refine U4c ?_;split at h
  next hx=>intro M_ a w c₀ cs S_ hu hm;refine Co (hl _ _ _ _ _ hx M_ a w c₀ cs S_ hu hm) ?_;rintro e' a' hk w' ⟨j,e1,u2,s2,⟨rfl,rfl,rfl⟩,q⟩;exact⟨j,_,_,_,⟨(RN x _ _ _ _ _ hx).Q,fun _=>hp _ _ _ _ _ h,fun hr=>absurd rfl hr⟩,q⟩
  next hr=>intro M_ a w c₀ cs S_ hu hm;refine Co (hl _ _ _ _ _ h M_ a w c₀ cs S_ hu hm) ?_;rintro e' a' hk w' ⟨j,e1,u2,s2,⟨rfl,rfl,rfl⟩,q⟩;refine⟨j,_,_,_,⟨(RN x _ _ _ _ _ h).Q,fun he => ?_,fun _=>⟨rfl,rfl,rfl⟩⟩,q⟩;subst he;exact absurd h (hr _ _)
 | cond c x y hl hp =>
  intro u s e T C h;simp only[rW]at h;split at h
  next hc=>exact Ulr hc (hl _ _ _ _ _ h)
  next hc=>exact Ulr hc (hp _ _ _ _ _ h)
  ·cases h
 | region id hA d =>
  intro u s e T C h;cases d with
  | true=>cases h
  | false =>
   intro M_ a w c₀ cs S_ hu hy;have:=DE E (ops:=hA) hA.toList 0 u s M_ a w c₀ cs e T C rfl h S_ hu hy
    (Q:=fun e' a' hk w' => ∃ j hb u' s',(hb=e/\u'=T/\s'=C)/\e'=r9 j hb/\uB (dom j) hb/\px (dom j) u'/\hk = {c₀ with mode:=ns j u' }::cs/\iZ s.h.Q M_ j/\ig M_ s.h w j s'.h w'/\iU E.G j s' a' w')
    (fun j a' w' h1 h2 h3 h4 h5=>⟨j,e,T,C,⟨rfl,rfl,rfl⟩,rfl,h4,h5,rfl,h1,h2,h3⟩)
   rw[hP,<- fg]at this;exact wpSIn_region this
 | skip =>
  intro u s e T C h;cases h;intro M_ a w c₀ cs S_ hu hm;exact Co (Uvz rfl (Uss (Q:=fun e s'=>e=.normal/\s'=s) ⟨rfl,rfl⟩) M_ a w c₀ cs S_ hu hm) fun e' a' hk w' ⟨j,e1,u2,s2,⟨⟨p1,p2⟩,p3⟩,q⟩=>⟨j,e1,u2,s2,⟨p1,p3,p2⟩,q⟩
 | _=>intro u s e T C h;cases h
def Usj(E:f_ P):Cp P E.G (BR E):=by
 intro f args u h r u1 h1 j M_ w H ha hu;unfold BR at j;split at j
 ·cases j
 rename_i fn hk;obtain⟨g1,g2,g3⟩:=E.fnok _ _ hk;split at j
 ·rename_i c C hl;have T:L args<=fn.ntmps:=by simpa using hl
  have S_:iU E.G M_ ⟨Qz fn args,[],h⟩ {tmps:=(args.map (b_ M_)).toArray++Array.replicate (fn.ntmps-(args.map (b_ M_)).toArray.size) undef,defers:=[]} w :=
   ⟨H,Ua6 T ha,rfl,fun d hd=>by cases hd⟩
  split at j
  ·rename_i u' t h' h2;cases hv:Yg E fn t h' with
   | none=>rw[hv]at j;cases j
   | some v =>
    rw[hv]at j;cases j;refine callsDIn_of_wpSIn g1 C trivial fun hx cs hc => ?_;refine Co (Uz9 E c _ _ _ _ _ h2 M_ _ w hx cs S_ hu hc) ?_;rintro e' a' hr w' ⟨M',e1,u2,s1,⟨rfl,rfl,rfl⟩,rfl,q1,q2,rfl,q3,q4,q5⟩;obtain⟨i1,i2⟩:=Uta E q5.h q5.t hv;exact⟨q5.ds,_,rfl,_,i2,M',rfl,rfl,i1,q2,q3,q4,q5.h⟩
  ·cases j
 ·cases j
def Upm{E:f_ P}:G6 (BR E):=by
 intro f args u h r u1 h1 j;unfold BR at j;split at j
 ·cases j
 split at j
 ·split at j
  ·rename_i t T C;cases hv:Yg E _ t T with
   | none=>rw[hv]at j;cases j
   | some v=>rw[hv]at j;cases j;exact RN _ _ _ _ _ _ C
  ·cases j
 ·cases j
end
end Go.Ab
