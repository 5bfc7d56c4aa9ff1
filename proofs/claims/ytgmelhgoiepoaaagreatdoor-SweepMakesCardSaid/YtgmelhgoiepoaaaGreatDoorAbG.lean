import Derived.Test.YtgmelhgoiepoaaaGreatDoorAbF
import Derived.ReadAgain
import Derived.ChangeSlices
set_option linter.all false
noncomputable section
namespace Go.Ab
def bare(o:Oper):Oper:={dst:=o.dst,op:=o.op,type:=0,pos := "",after:=#[],guard:=o.guard}
def Vm:Code->Code
 | .seq a b => .seq (Vm a) (Vm b)
 | .cond c a b => .cond c (Vm a) (Vm b)
 | .block id c => .block id (Vm c)
 | .loop c => .loop (Vm c)
 | .region id ops false => .region 0 (ops.toList.map bare).toArray false
 | c=>c
def Zo9(id:Nat):Code->Option Code
 | .seq a b=>match Zo9 id a with | some c=>some c | none=>Zo9 id b
 | .cond _ a b=>match Zo9 id a with | some c=>some c | none=>Zo9 id b
 | .block _ c=>Zo9 id c
 | .loop c=>Zo9 id c
 | .region i ops d=>if i == id then some (.region i ops d)else none
 | _=>none
def Qnt(id:Nat)(c:Code):Code:=(Zo9 id c).getD .skip
def Qnu:Code->Array Oper
 | .region _ ops _=>ops
 | _ => #[]
section
variable{P:Program}{E:Env2 P}{C:CallF}{rd:Option Nat}
theorem Zxs{A B:Type}(f:A->B):∀ (l:List A) (i:Nat),nth (l.map f) i=(nth l i).map f
 | [],i=>by cases i <;> rfl
 | a::l,0=>rfl
 | a::l,i+1=>by simpa[nth]using Zxs f l i
theorem Q1z(ops:List Oper)(t:Tm)(o:Oper):Qe (ops.map bare) t (bare o)=Qe ops t o:=by
 unfold Qe
 show(match o.guard with | none=>_ | some (j,want)=>_)=_
 cases o.guard with
 | none=>rfl
 | some g =>
  obtain⟨j,want⟩:=g
  simp only[Zxs]
  cases nth ops j with
  | none=>rfl
  | some oj=>rfl
theorem Z03(o:Oper)(s:St):Xve E C rd (bare o) s=Xve E C rd o s:=rfl
theorem Y9w(ops:List Oper):∀ (l:List Oper) (s:St),Xq9 E C rd (ops.map bare) (l.map bare) s=Xq9 E C rd ops l s
 | [],s=>rfl
 | o::r,s=>by
  simp only[List.map_cons,Xq9,Q1z,Z03]
  split
  ·split
   ·exact Y9w ops r _
   ·rfl
   ·rfl
  ·show(if Qgq s o.dst=true then _ else _)=_
   split
   ·exact Y9w ops r _
   ·rfl
  ·rfl
theorem Qb(n i:Nat)(t:Tr Value)(ds:List Deferred)(h:Heap):Qgq ⟨⟨n,t⟩,ds,h⟩ (some i)=decide (i < n):=by
 show Nat.blt i n=_
 by_cases hi:i < n
 ·rw[show Nat.blt i n=true from by simpa using hi];simp[hi]
 ·rw[Bool.eq_false_iff.2 (fun k:Nat.blt i n=true=>hi (by simpa using k))];simp[hi]
theorem Qa(s:St):Qgq s none=true:=rfl
theorem Qr:(0 == Qfn)=false:=by decide
theorem Qk(t:TypeId)(a b:Int):Qbh (binOp .lss t (.int .i64 a) (.int .i64 b))=some (.bool (decide (a < b))):=by kernel_rfl
theorem Qn(t:TypeId)(a b:Int):Qbh (binOp .gtr t (.int .i64 a) (.int .i64 b))=some (.bool (decide (a > b))):=by kernel_rfl
theorem Ql(t:TypeId)(a b:Int):Qbh (binOp .leq t (.int .i64 a) (.int .i64 b))=some (.bool (decide (a<=b))):=by kernel_rfl
theorem Qm(t:TypeId)(a b:Int):Qbh (binOp .geq t (.int .i64 a) (.int .i64 b))=some (.bool (decide (a ≥ b))):=by kernel_rfl
theorem Qi(t:TypeId)(a b:Int):Qbh (binOp .add t (.int .i64 a) (.int .i64 b))=some (.int .i64 (IntKind.i64.wrap (a+b))):=by kernel_rfl
theorem Qj(t:TypeId)(a b:Int):Qbh (binOp .sub t (.int .i64 a) (.int .i64 b))=some (.int .i64 (IntKind.i64.wrap (a-b))):=by kernel_rfl
theorem Qh(t:TypeId)(a b:Int):Qbh (binOp .mul t (.int .i64 a) (.int .i64 b))=some (.int .i64 (IntKind.i64.wrap (a*b))):=by kernel_rfl
end
def i64(z:Int):Value:=.int .i64 z
structure IntTy {P:Program} (E:Env P) (te ts:TypeId) (re rs:TyRec):Prop where
 e:E.ty.get te=some re
 s:E.ty.get ts=some rs
 ed:re.desc=.int .i64
 sd:rs.desc=.slice te
 size:re.size=1
 zero:re.zero=.int .i64 0
 bytes:re.bytes=8
theorem Zyr{l:List Value}{i:Nat}{v:Value}(h:l[i]? = some v):Qyv 1 (l.drop i)=some [v]:=by
 have : l.drop i=v::l.drop (i+1):=by
  rw[List.drop_eq_getElem_cons (List.getElem?_eq_some_iff.1 h).1]
  congr 1
  exact(List.getElem?_eq_some_iff.1 h).2
 rw[this]
 simp[Qyv]
section
variable{P:Program}{E:Env P}{te ts:TypeId}{re rs:TyRec}(T:IntTy E te ts re rs)
include T
end
structure CallP where
 fn:FuncId->List Value->Heap->(AEnd->Heap->Prop)->Prop
 rnd:Nat->List Value->Heap->(AEnd->Heap->Prop)->Prop
 die:Bool
structure CallPSound (P:Program) (G:Bs) (C:CallP):Prop where
 fn:∀ f args h K,C.fn f args h K->CallOK P G f args h K
 rnd:∀ l args h K,C.rnd l args h K->X26 P G l args h K
def Zzi(P:Program)(G:Bs):CallP:=⟨fun f args h K=>CallOK P G f args h K,fun l args h K=>X26 P G l args h K,true⟩
theorem Y35(P:Program)(G:Bs):CallPSound P G (Zzi P G):=⟨fun _ _ _ _ h=>h,fun _ _ _ _ h=>h⟩
def Z9v(d:Option Tmp)(s:St)(K:Exit->St->Prop)(r:AEnd)(h:Heap):Prop:=match r with
 | .ret v=>K .normal (s.put d v h)
 | .panic ch=>K (.panic ch) {s with h:=h}
def Xsd{P:Program}(E:Env2 P)(C:CallP)(x:Operand)(isS:Bool)(d:Option Tmp)(s:St)(K:Exit->St->Prop):Prop:=match aev E.G s.t x with
 | some it=>(∃ y,Qy0 it isS s.h=[y]/\K .normal (s.put d y.1 y.2))∨(C.die=true/\Qy0 it isS s.h ≠ []/\∀ y ∈ Qy0 it isS s.h,K .normal (s.put d y.1 y.2))
 | none=>False
def Qw{P:Program}(E:Env2 P)(C:CallP)(rd:Option Nat)(o:Oper)(s:St)(K:Exit->St->Prop):Prop :=
 if !Qgq s o.dst then False else
 match o.op with
 | .defer c=>match rd with
  | none=>match Ylr E s.t c with
   | some d=>K .normal (({s with ds:=d::s.ds}:St).put o.dst Qo s.h)
   | none=>False
  | some _=>False
 | .next x isS=>Xsd E C x isS o.dst s K
 | _=>match aop E s.t s.h o with
  | some (.val v h)=>K .normal (s.put o.dst v h)
  | some (.skip h)=>K .normal (s.put o.dst Qo h)
  | some (.panic v h)=>K (.panic [{v,recovered:=false}]) {s with h:=h}
  | some (.enter f args h)=>C.fn f args h (Z9v o.dst s K)
  | some (.round l args h)=>C.rnd l args h (Z9v o.dst s K)
  | _=>False
def Zcj(F:St->Prop)(K:Exit->St->Prop)(e:Exit)(s':St):Prop:=match e with
 | .normal=>F s'
 | .panic ch=>K (.panic ch) s'
 | _=>False
def X0n{P:Program}(E:Env2 P)(C:CallP)(rd:Option Nat)(ops:List Oper)(K:Exit->St->Prop):List Oper->St->Prop
 | [],s=>K .normal s
 | o::r,s=>match Qe ops s.t o with
  | some true=>Qw E C rd o s (Zcj (X0n E C rd ops K r) K)
  | some false=>if Qgq s o.dst then X0n E C rd ops K r (s.put o.dst Qo s.h)else False
  | none=>False
theorem Qds{P:Program}(E:Env2 P)(C:CallP)(rd:Option Nat)(ops:List Oper)(K:Exit->St->Prop)(t:Tm)(ds:List Deferred)(h:Heap):X0n E C rd ops K [] ⟨t,ds,h⟩=K .normal ⟨t,ds,h⟩:=rfl
theorem Qbn{P:Program}(E:Env2 P)(C:CallP)(rd:Option Nat)(ops:List Oper)(K:Exit->St->Prop)(o:Oper)(r:List Oper)(t:Tm)(ds:List Deferred)(h:Heap):X0n E C rd ops K (o::r) ⟨t,ds,h⟩ =
 (match Qe ops t o with
  | some true=>Qw E C rd o ⟨t,ds,h⟩ (Zcj (X0n E C rd ops K r) K)
  | some false=>if Qgq ⟨t,ds,h⟩ o.dst then X0n E C rd ops K r (St.put ⟨t,ds,h⟩ o.dst Qo h)else False
  | none=>False):=rfl
theorem V1(F:St->Prop)(K:Exit->St->Prop)(s:St):Zcj F K .normal s=F s:=rfl
theorem U5(F:St->Prop)(K:Exit->St->Prop)(ch:List PanicEntry)(s:St):Zcj F K (.panic ch) s=K (.panic ch) s:=rfl
theorem Qdn(d:Option Tmp)(s:St)(K:Exit->St->Prop)(v:Value)(h:Heap):Z9v d s K (.ret v) h=K .normal (s.put d v h):=rfl
theorem Wz(d:Option Tmp)(s:St)(K:Exit->St->Prop)(ch:List PanicEntry)(h:Heap):Z9v d s K (.panic ch) h=K (.panic ch) {s with h:=h}:=rfl
section
variable{P:Program}{α:Ren}{s:St}{a:Act}{w:World}
theorem Y8x(E:Env2 P){C:CallP}(hC:CallPSound P E.G C){rd:Option Nat}{o:Oper}{K:Exit->St->Prop}(hs:Qw E C rd o s K)(S:SRel E.G α s a w)
  {next:Act->World->Prop} {Q:Exit->Act->World->Prop}
  (hn:∀ α' a' w' s1,K .normal s1->Ext s.h.next α α'->Turn α s.h w α' s1.h w'->SRel E.G α' s1 a' w'->next a' w')
  (hp:∀ α' a' w' s1 ch,K (.panic ch) s1->Ext s.h.next α α'->Turn α s.h w α' s1.h w'->SRel E.G α' s1 a' w'->Qsd (dom α') (.panic ch)->Q (Qjv α' (.panic ch)) a' w') :
  o.wpIn (Qmn rd α) 0 P a w next Q:=by
 refine⟨fun f _=>Qr4 rd α f,?_⟩
 unfold Qw at hs
 split at hs
 ·exact hs.elim
 ·rename_i hdst
  have hdst':Qgq s o.dst=true:=by simpa using hdst
  have hd2:∀ h,Qgq ({s with h:=h}:St) o.dst=true:=fun h=>by cases hd:o.dst <;> simp only[hd,Qgq]at hdst' ⊢;exact hdst'
  have fin:∀ α' w' v h,K .normal (s.put o.dst v h)->Ext s.h.next α α'->Turn α s.h w α' h w'->HRel E.G α' h w'->okV (dom α') v->next (a.put o.dst (ren α' v)) w':=by
   intro α' w' v h hk q2 q3 q4 q1
   have S1:=S.step q2 q4
   refine hn α' _ w' _ hk q2 ?_ ?_
   ·rw[Xgd];exact q3
   ·have:=S1.put (d:=o.dst) (v:=v) (hd2 h) q1
    rw[St.put_h];exact this
  split at hs
  ·rename_i c hop
   split at hs
   ·split at hs
    ·rename_i d hd
     obtain⟨d1,d2⟩:=Zlb E S hd o.type
     have : (o.semAt (Qmn none α).round a.eval).run P w=.ok (.defer (Qoo α d)) w:=by
      rw[Qvd]
      simp[Oper.semAt,execOp,hop,d2]
     rw[this]
     refine hn α _ w _ hs (Ext.refl _ _) ?_ ?_
     ·rw[Xgd];exact Turn.refl _ _ _
     ·have S1:SRel E.G α {s with ds:=d::s.ds} {a with defers:=Qoo α d::a.defers} w :=
       ⟨S.h,S.t,by simp[S.ds],fun x hx=>by rcases List.mem_cons.1 hx with rfl | hx;exact d1;exact S.okd x hx⟩
      exact S1.putU hdst'
    ·exact hs.elim
   ·exact hs.elim
  ·rename_i x isS hop
   have hsem:o.semAt (Qmn rd α).round a.eval=execOp a.eval o:=Oper.semAt_eq _ _ _ (fun c hc=>by rw[hop]at hc;cases hc)
   rw[hsem]
   unfold Xsd at hs
   split at hs
   ·rename_i it hit
    obtain⟨e1,e2⟩:=Q83 S.h S.t hit
    have key:Qy0 it isS s.h ≠ []/\∀ y ∈ Qy0 it isS s.h,K .normal (s.put o.dst y.1 y.2):=by
     rcases hs with⟨y,h1,h2⟩ | ⟨_,h1,h2⟩
     ·rw[h1]
      refine⟨by simp,fun z hz => ?_⟩
      rw[List.mem_singleton]at hz
      subst hz
      exact h2
     ·exact⟨h1,h2⟩
    obtain⟨y,hy,α',w',r1,r2,r3,r4,r5⟩:=Y2x (P:=P) (ty:=o.type) S.h e1 key.1
    have hrun:(execOp a.eval o).run P w=.ok (.value (ren α' y.1)) w':=by
     simp only[execOp,hop,e2]
     simp[r1]
    rw[hrun]
    exact fin α' w' y.1 y.2 (key.2 y hy) r3 r5 r4 r2
   ·exact hs.elim
  ·rename_i hop hop2
   have hsem:o.semAt (Qmn rd α).round a.eval=execOp a.eval o:=Oper.semAt_eq _ _ _ hop
   rw[hsem]
   split at hs
   ·rename_i v h hr
    obtain⟨α',w',r1,r2,r3,r4,r5⟩:=Qqb E S.h S.t hr
    rw[r1]
    exact fin α' w' v h hs r3 r5 r4 r2
   ·rename_i h hr
    obtain⟨w',r1,r2,r3⟩:=Qqb E S.h S.t hr
    rw[r1]
    have:=fin α w' Qo h hs (Ext.refl _ _) r3 r2 (by simp[Qo,okV,okA,okL])
    have e:ren α Qo=undef:=by simp[Qo,undef]
    rw[e]at this
    exact this
   ·rename_i v h hr
    obtain⟨rfl,r1,r2⟩:=Qqb E S.h S.t hr
    rw[r1]
    exact hp α a w _ _ hs (Ext.refl _ _) (Turn.refl _ _ _) S (by simpa[Qsd]using r2)
   ·rename_i f args h hr
    obtain⟨rfl,r1,r2⟩:=Qqb E S.h S.t hr
    rw[r1,Oper.uponIn_enter]
    refine⟨by rw[Qkr];simp,Q2k ?_⟩
    refine(hC.fn _ _ _ _ hs α w S.h r2).mono ?_
    rintro e' w' ⟨α',r,h1,hk,rfl,q1,q2,q3,q4⟩
    cases r with
    | ret v=>exact fin α' w' v h1 hk q2 q3 q4 q1
    | panic ch=>exact hp α' a w' _ ch hk q2 q3 (S.step q2 q4) q1
   ·rename_i l args h hr
    obtain⟨rfl,k1,r2,st,pend,t',ps,asn,bd,d,k2,fn,tmps,k3,r1⟩:=Qqb E S.h S.t hr
    rw[r1,Oper.uponIn_round]
    refine⟨by rw[Qkr];simp,?_⟩
    refine(hC.rnd _ _ _ _ hs α w α rd _ _ _ _ _ _ _ _ _ S.h k1 r2 k2 k3).mono ?_
    rintro e' w' ⟨α',r,h1,hk,rfl,q1,q2,q3,q4⟩
    cases r with
    | ret v=>exact fin α' w' v h1 hk q2 q3 q4 q1
    | panic ch=>exact hp α' a w' _ ch hk q2 q3 (S.step q2 q4) q1
   ·exact hs.elim
theorem Zpf(E:Env2 P){C:CallP}(hC:CallPSound P E.G C){rd:Option Nat}{ops:Array Oper}{Q:Exit->Act->World->Prop}{K:Exit->St->Prop}:∀ (l:List Oper) (i:Nat) (s:St) (α:Ren) (a:Act) (w:World),
  ops.toList.drop i=l->X0n E C rd ops.toList K l s->SRel E.G α s a w->(∀ l,rd=some l->dom α l) ->
  (∀ α' a' w' e s1,K e s1->Ext s.h.next α α'->Turn α s.h w α' s1.h w'->SRel E.G α' s1 a' w'->Qsd (dom α') e->Q (Qjv α' e) a' w') ->
  wpOpsIn (Qmn rd α) 0 P ops Q (List.range' i l.length) a w
 | [],i,s,α,a,w,_,h,S,_,hQ=>hQ α a w .normal s h (Ext.refl _ _) (Turn.refl _ _ _) S trivial
 | o::r,i,s,α,a,w,hdrop,h,S,hl,hQ=>by
  have ho:ops[i]? = some o:=by
   have:=congrArg (fun l=>l[0]?) hdrop
   simpa[List.getElem?_drop]using this
  have hdrop':ops.toList.drop (i+1)=r:=by
   have:=congrArg List.tail hdrop
   simpa[List.tail_drop]using this
  simp only[List.length_cons,List.range'_succ,wpOpsIn,ho]
  simp only[X0n]at h
  split at h
  ·rename_i hw
   rw[if_pos (Qml (G:=E.G) S.t hw)]
   refine Y8x E hC h S (fun α' a' w' s1 hk h1 h2 h3 => ?_) (fun α' a' w' s1 ch hk h1 h2 h3 h4=>hQ α' a' w' _ s1 hk h1 h2 h3 h4)
   obtain⟨f1,f2,_⟩:=Xwi (rd:=rd) (n:=0) S h1 hl
   have:=Zpf E hC (Q:=Q) (K:=K) r (i+1) s1 α' a' w' hdrop' hk h3 f2 (fun α'' a'' w'' e s2 g0 g2 g3 g4 g5=>hQ α'' a'' w'' e s2 g0 (h1.trans g2 h2.next) (h2.trans g3) g4 g5)
   rwa [f1]at this
  ·rename_i hw
   rw[if_neg (by rw[Qml (G:=E.G) S.t hw];simp)]
   refine⟨fun f _=>Qr4 rd α f,?_⟩
   split at h
   ·rename_i hd
    have hh:(s.put o.dst Qo s.h).h=s.h:=Xgd _ _ _ _
    exact Zpf E hC (Q:=Q) (K:=K) r (i+1) _ α _ w hdrop' h (S.putU hd) hl (by rw[hh];exact hQ)
   ·exact h.elim
  ·exact h.elim
theorem Zww(E:Env2 P){C:CallP}(hC:CallPSound P E.G C){rd:Option Nat}{id:Nat}{ops:Array Oper}{K:Exit->St->Prop}(h:X0n E C rd ops.toList K ops.toList s) :
  CW P E.G rd s.h.next (.region id ops false) s K:=by
 intro α a w S hl
 have:=Zpf E hC (ops:=ops) ops.toList 0 s α a w rfl h S hl (Q:=Jet E.G s.h.next α s.h w K) (fun α' a' w' e s1 h0 h2 h3 h4 h5=>⟨α',e,s1,h0,rfl,h5,h2,h3,h4⟩)
 rw[Array.length_toList,<- List.range_eq_range']at this
 exact wpIn_region this
theorem CW.grows{G:Bs}{rd:Option Nat}{n:Nat}{c:Code}{K:Exit->St->Prop}(h:CW P G rd n c s K):CW P G rd n c s (fun e s'=>K e s'/\s.h.next<=s'.h.next):=fun α a w S hl =>
 wpIn_mono (h α a w S hl) fun _ _ _ ⟨α',e,s',h1,h2,h3,h4,h5,h6⟩=>⟨α',e,s',⟨h1,h5.next⟩,h2,h3,h4,h5,h6⟩
theorem Z70{G:Bs}{rd:Option Nat}{x y:Code}{K:Exit->St->Prop}(h:CW P G rd s.h.next x s (fun e s'=>match e with | .normal=>CW P G rd s'.h.next y s' K | e=>K e s')):CW P G rd s.h.next (.seq x y) s K:=by
 refine Z66 (h.grows.mono (Nat.le_refl _) ?_)
 rintro e s' ⟨h1,h2⟩
 refine⟨h2,fun he => ?_,fun hne => ?_⟩
 ·subst he;exact h1
 ·cases e <;> first
   | exact absurd rfl hne
   | exact h1
end
structure LowEq (s s':St):Prop where
 t:s'.t=s.t
 ds:s'.ds=s.ds
 next:s'.h.next=s.h.next
 tr:s'.h.t=s.h.t
theorem LowEq.get{s s':St}(k:LowEq s s')(b:Nat):s'.h.get b=s.h.get b:=by unfold Heap.get;rw[k.next,k.tr]
section
variable{P:Program}{E:Env2 P}{C:CallF}{G:Bs}{α:Ren}{a:Act}{w:World}
def Qtl{P:Program}(E:Env2 P)(o:Oper):Bool:=Xo E o || (match o.op with | .load .. => true | _=>false)
def Q4s{P:Program}(E:Env2 P):List Oper->Bool
 | []=>true
 | o::l=>Qtl E o && Q4s E l
def Zrl:List (Option LRec)->Bool
 | []=>true
 | some (.wr _ _)::_=>false
 | _::l=>Zrl l
theorem Q7p{R0:List (Option LRec)}{B0:List Nat}:∀ {R:List (Option LRec)} {Bs:List Nat} {i:Nat},Zrl R=true->Xh E R0 B0 R Bs i=true
 | [],_,_,_=>rfl
 | some (.wr _ _)::_,_,_,h=>by simp[Zrl]at h
 | none::l,[],_,_=>rfl
 | none::l,_::_,_,h=>Q7p (R:=l) (by simpa[Zrl]using h)
 | some (.ld _ _)::l,[],_,_=>rfl
 | some (.ld _ _)::l,_::_,_,h=>Q7p (R:=l) (by simpa[Zrl]using h)
theorem SRel.low{s:St}(S:SRel G α s a w){s':St}(k:LowEq s s'):SRel G α s' a w:=by
 refine⟨S.h.sub k.next (fun b x hx=>by rw[<- k.get];exact hx),by rw[k.t];exact S.t,by rw[k.ds];exact S.ds,by rw[k.ds];exact S.okd⟩
theorem Yba{o:Oper}(hf:Qtl E o=true){t:Tm}{h h':Heap}(hg:∀ b,h'.get b=h.get b){r:Res}(hr:aop E t h o=some r) :
  ∃ v,r=.val v h/\aop E t h' o=some (.val v h')/\(Xo E o=true∨Xe o=true)/\(!Xe o || (loadAt E t o).isSome)=true:=by
 unfold Qtl at hf
 rw[Bool.or_eq_true]at hf
 rcases hf with hf | hf
 ·have hnl:Xe o=false:=by
   unfold Xo at hf
   unfold Xe
   split
   ·rename_i hq;simp[hq]at hf
   ·rename_i hq;simp[hq]at hf
   ·rfl
  have key:∃ v,r=.val v h/\aop E t h' o=some (.val v h'):=by
   unfold Xo at hf
   unfold aop at hr ⊢
   split at hf <;> first
    | (cases hf;done)
    | skip
   all_goals
    rename_i hop
    simp only[hop]at hr ⊢
    try simp only[hf]at hr ⊢
    first
    | (obtain⟨u,hu,rfl⟩:=Qbw hr;exact⟨u,rfl,by simp only[g0,hu]⟩)
    | (split at hr <;> first
      | (cases hr;done)
      | (obtain⟨u,hu,rfl⟩:=Qbw hr;refine⟨u,rfl,?_⟩;simp only[g0, *];done))
  obtain⟨v,h1,h2⟩:=key
  exact⟨v,h1,h2,.inl hf,by simp[hnl]⟩
 ·split at hf
  ·rename_i ty x hop
   simp only[aop,hop]at hr ⊢
   cases hx:aev E.G t x with
   | none=>simp[hx]at hr
   | some y =>
    simp only[hx]at hr ⊢
    obtain⟨u,hu,rfl⟩:=Qbw hr
    have hu':Qkm E.toEnv ty y h'=some u:=by
     rw[<- hu]
     simp only[Qkm]
     split
     ·exact Q19 (hg _) _
     ·rfl
    refine⟨u,rfl,by simp only[hu',g0],.inr (by simp[Xe,hop]),?_⟩
    have : (loadAt E t o).isSome=true:=by
     simp only[loadAt,hop,hx]
     cases y <;> simp only[Qkm]at hu <;> try (cases hu;done)
     rename_i p
     cases p with
     | none=>simp at hu
     | some p=>rfl
    simp[this]
  ·cases hf
theorem Xqj{ops:List Oper}{B:List Nat}:∀ (l:List Oper) (i:Nat) (s s1 sx:St),Q4s E l=true->Xq9 E C none ops l s=some (.normal,s1)->LowEq s sx->∃ sy R,Y3e E C ops B l i sx=some (sy,R)/\LowEq s1 sy/\Zrl R=true
 | [],i,s,s1,sx,_,h,k=>by
  simp only[Xq9,Option.some.injEq,Prod.mk.injEq,true_and]at h
  subst h
  exact⟨sx,[],rfl,k,rfl⟩
 | o::r,i,s,s1,sx,hro,h,k=>by
  simp only[Q4s,Bool.and_eq_true]at hro
  obtain⟨hr1,hr2⟩:=hro
  have hdst:Qgq sx o.dst=Qgq s o.dst:=by cases o.dst <;> simp[Qgq,k.t]
  have hput:∀ (v:Value) (h h':Heap),h'.next=h.next->h'.t=h.t->LowEq (s.put o.dst v h) (sx.put o.dst v h'):=fun v h h' e1 e2=>by
   cases o.dst with
   | none=>exact⟨k.t,k.ds,e1,e2⟩
   | some d=>exact⟨by simp[St.put,k.t],k.ds,e1,e2⟩
  have hnd:Xw o=true:=by
   unfold Qtl Xo at hr1
   unfold Xw
   split
   ·rename_i c hop;simp[hop]at hr1
   ·rfl
  simp only[Xq9]at h
  have hw:Qe ops sx.t o=Qe ops s.t o:=by rw[k.t]
  split at h
  ·rename_i hwt
   split at h
   ·rename_i s' hst
    unfold Xve at hst
    split at hst
    ·cases hst
    ·rename_i hd
     have hd':Qgq s o.dst=true:=by simpa using hd
     have main:∃ v,s'=s.put o.dst v s.h/\Qmi E C o sx.t (Ul sx.h)=some (v,Ul sx.h)/\(Xo E o=true∨Xe o=true)/\(!Xe o || (loadAt E sx.t o).isSome)=true:=by
      have hop:∀ c,o.op ≠ .defer c:=fun c hc=>by simp[Xw,hc]at hnd
      split at hst
      ·rename_i c hc;exact absurd hc (hop c)
      ·cases hr:aop E s.t s.h o with
       | none=>simp[hr]at hst
       | some res =>
        obtain⟨v,rfl,h2,h3,h4⟩:=Yba hr1 (h':=Ul sx.h) (fun b=>k.get b) hr
        simp only[hr,Option.some.injEq,Prod.mk.injEq,true_and]at hst
        refine⟨v,hst.symm,?_,h3,by rw[k.t];exact h4⟩
        rw[k.t]
        simp only[Qmi,h2]
     obtain⟨v,rfl,hsv,hkind,hok⟩:=main
     obtain⟨sy,R,hy,ky,hR⟩:=Xqj (B:=B) r (i+1) (s.put o.dst v s.h) s1 (sx.put o.dst v (Xc7 sx.h (Ul sx.h))) hr2 h (hput v _ _ k.next k.tr)
     refine⟨sy,Xpi E sx o (Ul sx.h)::R,?_,ky,?_⟩
     ·simp only[Y3e,hw,hwt,hdst,hd',hnd,hsv]
      have hso:Q0y E ops B i o sx (Ul sx.h)=true:=by
       unfold Q0y
       rw[Bool.and_eq_true]
       exact⟨by rcases hkind with h | h <;> simp[h],hok⟩
      simp[hso,hy,Qab]
     ·unfold Xpi
      rcases hkind with hf | hl
      ·split
       ·simpa[Zrl]using hR
       ·simpa[Zrl,hf]using hR
      ·simp[hl,Zrl,hR]
   ·cases h
   ·cases h
  ·rename_i hwf
   split at h
   ·rename_i hd
    obtain⟨sy,R,hy,ky,hR⟩:=Xqj (B:=B) r (i+1) _ s1 (sx.put o.dst Qo sx.h) hr2 h (hput Qo _ _ k.next k.tr)
    refine⟨sy,none::R,?_,ky,by simpa[Zrl]using hR⟩
    simp[Y3e,hw,hwf,hdst,hd,hnd,hy,Qab]
   ·cases h
  ·cases h
theorem Zsj(E:Env2 P){C:CallF}(hC:CallsSound P E.G C)(hL:CallsLow C)(hm:P.follows .mixedOrders=true){rd:Option Nat}{id:Nat}{ops:Array Oper}{B:List Nat}{K:Exit->St->Prop}{s s1:St}(hB:Qsr ops.toList []=some B)(hp:Ud ops.toList ops.toList B []=true)(hr:Q4s E ops.toList=true)
  (hx:Xq9 E C none ops.toList ops.toList s=some (.normal,s1)) (hk:K .normal s1):CW P E.G rd s.h.next (.region id ops true) s K:=by
 obtain⟨sy,R,h1,h2,h3⟩:=Xqj (B:=B) ops.toList 0 s s1 s hr hx ⟨rfl,rfl,rfl,rfl⟩
 have hd:Q5m E C ops.toList s=some sy:=by
  unfold Q5m
  simp only[hB,hp,if_true,h1,Q7p h3]
 refine fun α a w S hl=>wpIn_mono (Qqh E hC hL hm hd (Q:=fun e s'=>e=.normal/\s'=sy) ⟨rfl,rfl⟩ α a w S hl) ?_
 rintro e' a' w' ⟨α',e,s',⟨rfl,rfl⟩,h4,h5,h6,h7,h8⟩
 have k2:LowEq s' s1:=⟨h2.t.symm,h2.ds.symm,h2.next.symm,h2.tr.symm⟩
 refine⟨α',.normal,s1,hk,h4,h5,h6,?_,h8.low k2⟩
 have hown:∀ b,s1.h.own b=s'.h.own b:=fun b=>Qhs (k2.get b)
 exact⟨h7.size,h7.same,fun b p hb ho=>h7.owns b p hb (by rw[<- hown];exact ho),h7.tape,h7.os,h7.output,by rw[k2.next];exact h7.next⟩
end
section
variable{P:Program}{E:Env2 P}{C:CallF}{G:Bs}{α:Ren}{a:Act}{w:World}
def Zku{P:Program}(E:Env2 P)(o:Oper):Bool:=match o.op with
 | .call c=>(match c.callee with | .value (.func f)=>(E.fn.get f).isSome | _=>false)
 | _=>false
def Zpb{P:Program}(E:Env2 P)(o:Oper):Bool:=Qtl E o || Zku E o
def Yl0{P:Program}(E:Env2 P):List Oper->Bool
 | []=>true
 | o::l=>Zpb E o && Yl0 E l
def Z8y(C:CallF):Prop:=(∀ f args h r h',C.fn f args h=some (r,h')->h'=h)/\∀ f args h h1 r,h1.next=h.next->h1.t=h.t->C.fn f args h=some (r,h)->C.fn f args h1=some (r,h1)
theorem Zwu{o:Oper}(hf:Zku E o=true){t:Tm}{h:Heap}{r:Res}(hr:aop E t h o=some r):∃ f args,r=.enter f args h/\∀ h',aop E t h' o=some (.enter f args h'):=by
 unfold Zku at hf
 split at hf
 ·rename_i c hop
  split at hf
  ·rename_i f hc
   obtain⟨F,hF⟩:=Option.isSome_iff_exists.1 hf
   simp only[aop,hop,hc,aev,Qg]at hr ⊢
   cases ha:evs E.G t c.args.toList with
   | none=>simp[ha]at hr
   | some args =>
    simp only[ha,hF,Option.some.injEq]at hr ⊢
    subst hr
    exact⟨_,_,rfl,fun _=>rfl⟩
  ·cases hf
 ·cases hf
theorem Yey{o:Oper}(hf:Zku E o=true):Xo E o=false/\Xe o=false/\(∀ c,o.op ≠ .defer c):=by
 unfold Zku at hf
 split at hf
 ·rename_i c hop
  exact⟨by simp[Xo,hop],by simp[Xe,hop],by simp[hop]⟩
 ·cases hf
theorem Y51(hS:Z8y C){ops:List Oper}{B:List Nat}:∀ (l:List Oper) (i:Nat) (s s1 sx:St),Yl0 E l=true->Xq9 E C none ops l s=some (.normal,s1)->LowEq s sx->∃ sy R,Y3e E C ops B l i sx=some (sy,R)/\LowEq s1 sy/\Zrl R=true
 | [],i,s,s1,sx,_,h,k=>by
  simp only[Xq9,Option.some.injEq,Prod.mk.injEq,true_and]at h
  subst h
  exact⟨sx,[],rfl,k,rfl⟩
 | o::r,i,s,s1,sx,hro,h,k=>by
  simp only[Yl0,Bool.and_eq_true]at hro
  obtain⟨hr1,hr2⟩:=hro
  have hdst:Qgq sx o.dst=Qgq s o.dst:=by cases o.dst <;> simp[Qgq,k.t]
  have hput:∀ (v:Value) (h h':Heap),h'.next=h.next->h'.t=h.t->LowEq (s.put o.dst v h) (sx.put o.dst v h'):=fun v h h' e1 e2=>by
   cases o.dst with
   | none=>exact⟨k.t,k.ds,e1,e2⟩
   | some d=>exact⟨by simp[St.put,k.t],k.ds,e1,e2⟩
  have hndef:∀ c,o.op ≠ .defer c:=by
   unfold Zpb at hr1
   rw[Bool.or_eq_true]at hr1
   rcases hr1 with hr1 | hr1
   ·intro c hop
    unfold Qtl Xo at hr1
    simp[hop]at hr1
   ·exact(Yey hr1).2.2
  have hnd:Xw o=true:=by
   unfold Xw
   split
   ·rename_i c hop;exact absurd hop (hndef c)
   ·rfl
  simp only[Xq9]at h
  have hw:Qe ops sx.t o=Qe ops s.t o:=by rw[k.t]
  split at h
  ·rename_i hwt
   split at h
   ·rename_i s' hst
    unfold Xve at hst
    split at hst
    ·cases hst
    ·rename_i hd
     have hd':Qgq s o.dst=true:=by simpa using hd
     have main:∃ v,s'=s.put o.dst v s.h/\Qmi E C o sx.t (Ul sx.h)=some (v,Ul sx.h)/\(!Xe o || (loadAt E sx.t o).isSome)=true:=by
      split at hst
      ·rename_i c hc;exact absurd hc (hndef c)
      ·cases hr:aop E s.t s.h o with
       | none=>simp[hr]at hst
       | some res =>
        unfold Zpb at hr1
        rw[Bool.or_eq_true]at hr1
        rcases hr1 with hr1 | hr1
        ·obtain⟨v,rfl,h2,h3,h4⟩:=Yba hr1 (h':=Ul sx.h) (fun b=>k.get b) hr
         simp only[hr,Option.some.injEq,Prod.mk.injEq,true_and]at hst
         refine⟨v,hst.symm,?_,by rw[k.t];exact h4⟩
         rw[k.t]
         simp only[Qmi,h2]
        ·obtain⟨f,args,rfl,h2⟩:=Zwu hr1 hr
         simp only[hr]at hst
         split at hst
         ·rename_i v h' hc
          have hh:=hS.1 _ _ _ _ _ hc
          subst hh
          simp only[Option.some.injEq,Prod.mk.injEq,true_and]at hst
          refine⟨v,hst.symm,?_,by rw[(Yey hr1).2.1];rfl⟩
          rw[k.t]
          have:=hS.2 f args s.h (Ul sx.h) _ k.next k.tr hc
          simp only[Qmi,h2,this]
         ·cases hst
         ·cases hst
     obtain⟨v,rfl,hsv,hok⟩:=main
     obtain⟨sy,R,hy,ky,hR⟩:=Y51 hS (B:=B) r (i+1) (s.put o.dst v s.h) s1 (sx.put o.dst v (Xc7 sx.h (Ul sx.h))) hr2 h (hput v _ _ k.next k.tr)
     refine⟨sy,Xpi E sx o (Ul sx.h)::R,?_,ky,?_⟩
     ·simp only[Y3e,hw,hwt,hdst,hd',hnd,hsv]
      have hso:Q0y E ops B i o sx (Ul sx.h)=true:=by
       unfold Q0y
       rw[Bool.and_eq_true]
       exact⟨by simp[Ul,Nat.ble],hok⟩
      simp[hso,hy,Qab]
     ·unfold Xpi
      split
      ·simpa[Zrl]using hR
      ·split
       ·simpa[Zrl]using hR
       ·have : Nat.ble sx.h.next (Ul sx.h).low=true:=by simp[Ul]
        rw[if_pos this]
        simpa[Zrl]using hR
   ·cases h
   ·cases h
  ·rename_i hwf
   split at h
   ·rename_i hd
    obtain⟨sy,R,hy,ky,hR⟩:=Y51 hS (B:=B) r (i+1) _ s1 (sx.put o.dst Qo sx.h) hr2 h (hput Qo _ _ k.next k.tr)
    refine⟨sy,none::R,?_,ky,by simpa[Zrl]using hR⟩
    simp[Y3e,hw,hwf,hdst,hd,hnd,hy,Qab]
   ·cases h
  ·cases h
theorem Zx1(E:Env2 P){C:CallF}(hC:CallsSound P E.G C)(hL:CallsLow C)(hS:Z8y C)(hm:P.follows .mixedOrders=true){rd:Option Nat}{id:Nat}{ops:Array Oper}{B:List Nat}{K:Exit->St->Prop}{s s1:St}(hB:Qsr ops.toList []=some B)(hp:Ud ops.toList ops.toList B []=true)(hr:Yl0 E ops.toList=true)
  (hx:Xq9 E C none ops.toList ops.toList s=some (.normal,s1)) (hk:K .normal s1):CW P E.G rd s.h.next (.region id ops true) s K:=by
 obtain⟨sy,R,h1,h2,h3⟩:=Y51 hS (B:=B) ops.toList 0 s s1 s hr hx ⟨rfl,rfl,rfl,rfl⟩
 have hd:Q5m E C ops.toList s=some sy:=by
  unfold Q5m
  simp only[hB,hp,if_true,h1,Q7p h3]
 refine fun α a w S hl=>wpIn_mono (Qqh E hC hL hm hd (Q:=fun e s'=>e=.normal/\s'=sy) ⟨rfl,rfl⟩ α a w S hl) ?_
 rintro e' a' w' ⟨α',e,s',⟨rfl,rfl⟩,h4,h5,h6,h7,h8⟩
 have k2:LowEq s' s1:=⟨h2.t.symm,h2.ds.symm,h2.next.symm,h2.tr.symm⟩
 refine⟨α',.normal,s1,hk,h4,h5,h6,?_,h8.low k2⟩
 have hown:∀ b,s1.h.own b=s'.h.own b:=fun b=>Qhs (k2.get b)
 exact⟨h7.size,h7.same,fun b p hb ho=>h7.owns b p hb (by rw[<- hown];exact ho),h7.tape,h7.os,h7.output,by rw[k2.next];exact h7.next⟩
theorem HRel.like{h h1:Heap}(H:HRel G α h w)(hn:h1.next=h.next)(ht:h1.t=h.t):HRel G α h1 w :=
 H.sub hn (fun b x hx=>by unfold Heap.get at hx ⊢;rw[<- hn,<- ht];exact hx)
end
structure Hq (h h':Heap):Prop where
 next:h'.next=h.next
 t:h'.t=h.t
theorem Hq.get{h h':Heap}(q:Hq h h')(b:Nat):h'.get b=h.get b:=by unfold Heap.get;rw[q.next,q.t]
theorem Hq.refl(h:Heap):Hq h h:=⟨rfl,rfl⟩
theorem Hq.push{h h':Heap}(q:Hq h h')(x:Blk):Hq (h.push x) (h'.push x):=⟨by simp[Heap.push,q.next],by simp[Heap.push,q.t,q.next]⟩
theorem Hq.set{h h':Heap}(q:Hq h h')(b:Nat)(x:Option Blk):Hq (h.set b x) (h'.set b x):=⟨q.next,by simp[Heap.set,q.t]⟩
section
variable{P:Program}{E:Env2 P}{G:Bs}
theorem Yow{h h':Heap}(q:Hq h h')(a:Addr)(n:Nat):Ab.cellsAt h' a n=Ab.cellsAt h a n:=by simp only[Ab.cellsAt,q.get]
theorem Yda{h h' h1:Heap}(q:Hq h h'){a:Addr}{l:List Value}(hs:storeAt h a l=some h1):∃ h1',storeAt h' a l=some h1'/\Hq h1 h1':=by
 unfold storeAt at hs ⊢
 rw[q.get]
 split at hs
 ·rename_i sz c hg
  rw[Option.map_eq_some_iff]at hs
  obtain⟨c',h2,rfl⟩:=hs
  rw[hg]at *
  exact⟨_,by simp only[h2,Option.map_some],q.set _ _⟩
 ·cases hs
theorem Zto{E:Env P}{h h':Heap}(q:Hq h h'){t:TypeId}{x:Value}{lo hi mx:Option Value}{h1:Heap}{v:Value}(hv:Qdk E t x lo hi mx h=some (v,h1)):∃ h1',Qdk E t x lo hi mx h'=some (v,h1')/\Hq h1 h1'/\h1'.low=h'.low:=by
 have hcut:∀ {ad:Addr} {sz used l n:Nat},Qdk.aCut ad sz used l n h=some (v,h1)->∃ h1',Qdk.aCut ad sz used l n h'=some (v,h1')/\Hq h1 h1'/\h1'.low=h'.low:=by
  intro ad sz used l n hc
  unfold Qdk.aCut at hc ⊢
  split at hc
  ·rename_i e;rw[if_pos e];cases hc;exact⟨_,rfl,q,rfl⟩
  ·rename_i e
   rw[if_neg e]
   split at hc
   ·rename_i e2;rw[if_pos e2];cases hc;exact⟨_,rfl,q,rfl⟩
   ·rename_i e2
    rw[if_neg e2]
    split at hc
    ·rename_i e3
     rw[if_pos e3]
     cases hc
     exact⟨_,by rw[q.next],q.push _,rfl⟩
    ·cases hc
 have hmap:∀ {o:Option Value},o.map (fun v=>(v,h))=some (v,h1)->∃ h1',o.map (fun v=>(v,h'))=some (v,h1')/\Hq h1 h1'/\h1'.low=h'.low:=by
  intro o ho
  rw[Option.map_eq_some_iff]at ho
  obtain⟨u,e,hq⟩:=ho
  cases hq
  exact⟨h',by rw[e];rfl,q,rfl⟩
 unfold Qdk at hv ⊢
 simp only[q.get]
 have leaf:∀ {X:Option (Value × Heap)} {Y:Option (Value × Heap)},X=Y->(∃ h1',Y=some (v,h1')/\Hq h1 h1'/\h1'.low=h'.low)->∃ h1',X=some (v,h1')/\Hq h1 h1'/\h1'.low=h'.low:=fun e h=>by rw[e];exact h
 repeat' (first | (cases hv;done) | (refine leaf ?_ (hmap hv);simp only[*,if_true,if_false,Bool.false_eq_true];done) | (refine leaf ?_ (hcut hv);simp only[*,if_true,if_false,Bool.false_eq_true];done) | (cases hv;refine⟨h',?_,q,rfl⟩;simp only[*,if_true,if_false,Bool.false_eq_true];done) | split at hv | simp only at hv)
def RQ(X Y:Option (Value × Heap)):Prop:=∀ v h1,X=some (v,h1)->∃ h1',Y=some (v,h1')/\Hq h1 h1'
theorem RQ.none{Y:Option (Value × Heap)}:RQ .none Y:=fun _ _ h=>by cases h
theorem RQ.some{u:Value}{h h':Heap}(q:Hq h h'):RQ (.some (u,h)) (.some (u,h')):=fun _ _ e=>by cases e;exact⟨_,rfl,q⟩
theorem Zzn{E:Env P}{h h':Heap}(q:Hq h h'){t tx:TypeId}{s x:Value}{h1:Heap}{v:Value}(hv:Qi7 E t tx s x h=some (v,h1)):∃ h1',Qi7 E t tx s x h'=some (v,h1')/\Hq h1 h1':=by
 have hnews:∀ (re:TyRec),Xnm E tx re x h'=Xnm E tx re x h:=by
  intro re
  unfold Xnm Zo1
  simp only[Yow q]
 have hst:∀ {a:Addr} {l:List Value} {u:Value},RQ ((storeAt h a l).map (fun h'=>(u,h'))) ((storeAt h' a l).map (fun h'=>(u,h'))):=by
  intro a l u v h1 ho
  rw[Option.map_eq_some_iff]at ho
  obtain⟨h2,e,hq⟩:=ho
  cases hq
  obtain⟨h3,e3,q3⟩:=Yda q e
  exact⟨h3,by rw[e3];rfl,q3⟩
 have hpush:∀ {u:List Value} {n z:Nat},RQ (some (.slice (some ⟨h.next,0,none⟩) n Qfn,h.push (.cells true z u))) (some (.slice (some ⟨h'.next,0,none⟩) n Qfn,h'.push (.cells true z u))):=by
  intro u n z
  rw[q.next]
  exact RQ.some (q.push _)
 have hpush2:∀ {u:List Value} {n z b:Nat},RQ (some (.slice (some ⟨h.next,0,none⟩) n Qfn,(h.set b none).push (.cells true z u))) (some (.slice (some ⟨h'.next,0,none⟩) n Qfn,(h'.set b none).push (.cells true z u))):=by
  intro u n z b
  rw[q.next]
  exact RQ.some ((q.set _ _).push _)
 have main:RQ (Qi7 E t tx s x h) (Qi7 E t tx s x h'):=by
  unfold Qi7
  simp only[q.get,hnews,Yow q]
  repeat' (first | exact RQ.none | exact hst | exact hpush | exact hpush2 | exact RQ.some q | split)
 exact main _ _ hv
theorem Z7p{E:Env P}{h h':Heap}(q:Hq h h'){t:TypeId}{d x:Value}{h1:Heap}{v:Value}(hv:Xns E t d x h=some (v,h1)):∃ h1',Xns E t d x h'=some (v,h1')/\Hq h1 h1':=by
 have hsrc:∀ z n,Zo1 z n x h'=Zo1 z n x h:=by
  intro z n
  unfold Zo1
  simp only[Yow q]
 have hst:∀ {a:Addr} {l:List Value} {u:Value},RQ ((storeAt h a l).map (fun h'=>(u,h'))) ((storeAt h' a l).map (fun h'=>(u,h'))):=by
  intro a l u v h1 ho
  rw[Option.map_eq_some_iff]at ho
  obtain⟨h2,e,hq⟩:=ho
  cases hq
  obtain⟨h3,e3,q3⟩:=Yda q e
  exact⟨h3,by rw[e3];rfl,q3⟩
 have main:RQ (Xns E t d x h) (Xns E t d x h'):=by
  unfold Xns
  simp only[hsrc]
  repeat' (first | exact RQ.none | exact hst | exact RQ.some q | split)
 exact main _ _ hv
theorem Z57{E:Env P}{h h':Heap}(q:Hq h h'){t:TypeId}{a v:Value}{h1:Heap}(hv:Qia E t a v h=some h1):∃ h1',Qia E t a v h'=some h1'/\Hq h1 h1':=by
 unfold Qia at hv ⊢
 split at hv
 ·unfold Yeq at hv ⊢
  split at hv
  ·rename_i e
   rw[if_pos e]
   exact Yda q hv
  ·cases hv
 ·cases hv
theorem Zg0{E:Env P}{h h':Heap}(q:Hq h h'){t:TypeId}{m k x:Value}{h1:Heap}(hv:Qep E t m k x h=some h1):∃ h1',Qep E t m k x h'=some h1'/\Hq h1 h1':=by
 have main:RQ ((Qep E t m k x h).map fun h=>(.bool true,h)) ((Qep E t m k x h').map fun h=>(.bool true,h)):=by
  unfold Qep
  simp only[q.get]
  repeat' (first | exact RQ.none | exact RQ.some (q.set _ _) | split)
 obtain⟨h1',e,q1⟩:=main (.bool true) h1 (by rw[hv];rfl)
 rw[Option.map_eq_some_iff]at e
 obtain⟨h2,e2,e3⟩:=e
 cases e3
 exact⟨_,e2,q1⟩
def Jh{P:Program}(E:Env2 P)(o:Oper):Nat:=if Xo E o || Xe o then 0 else match o.op with
 | .alloc _ | .box _ _ | .buildSlice _ _ _ | .makeSlice _ _ _ | .slice _ _ _ _ _ | .makeMap _ _=>1
 | .store _ _ _ | .mapUpdate _ _ _ _=>2
 | .call c=>match c.callee with
  | .builtin .len | .builtin .max | .builtin .min=>1
  | .builtin .append | .builtin .copy=>2
  | .value _=>3
  | _=>9
 | _=>9
theorem Jaf{o:Oper}(hk:Jh E o=0):Xo E o=true∨Xe o=true:=by
 unfold Jh at hk
 split at hk
 ·rename_i h;simpa using h
 ·split at hk <;> try (cases hk;done)
  split at hk <;> cases hk
theorem Xx9{x:Option (Value × Heap)}{r:Res}(h:gv x=some r):∃ v h1,x=some (v,h1)/\r=.val v h1:=by
 unfold gv at h
 split at h
 ·cases h;exact⟨_,_,rfl,rfl⟩
 ·cases h
theorem Z1a{x:Option Value}{h:Heap}{r:Res}(hr:Ab.g0 h x=some r):∃ v,x=some v/\r=.val v h:=by
 unfold Ab.g0 at hr
 split at hr
 ·cases hr;exact⟨_,rfl,rfl⟩
 ·cases hr
theorem Z5r{x:Option Heap}{r:Res}(hr:gs x=some r):∃ h,x=some h/\r=.skip h:=by
 unfold gs at hr
 split at hr
 ·cases hr;exact⟨_,rfl,rfl⟩
 ·cases hr
theorem Jdd {o : Oper} (hk : Jh E o = 1) {t : Tm} {h h' : Heap} (q : Hq h h') {r : Res} (hr : aop E t h o = some r) : ∃ v h1 h1', r = .val v h1 /\ aop E t h' o = some (.val v h1') /\ Hq h1 h1' /\ h1'.low = h'.low /\ ∀ c, c < h.next -> h1.get c = h.get c := by
  have old : ∀ x : Blk, ∀ c, c < h.next -> (h.push x).get c = h.get c := fun x c hc => by rw [Heap.get_push, if_neg (by omega)]
  unfold Jh at hk
  split at hk
  · cases hk
  · split at hk
    · rename_i ty hop
      simp only [aop,hop] at hr ⊢
      obtain ⟨v, h1, e, rfl⟩ := Xx9 hr
      unfold Vt at e ⊢
      split at e
      · rename_i r hty
        cases e
        exact ⟨_, _, _, rfl, by simp only [hty,gv,q.next], q.push _, rfl, old _⟩
      · cases e
    · rename_i ty x hop
      simp only [aop,hop] at hr ⊢
      cases hx : aev E.G t x with
      | none => simp [hx] at hr
      | some y =>
        simp only [hx] at hr ⊢
        obtain ⟨v, h1, e, rfl⟩ := Xx9 hr
        unfold Zxc at e ⊢
        split at e
        · rename_i hn
          cases e
          exact ⟨_, _, _, rfl, by simp only [hn,if_true,gv,q.next], q.push _, rfl, old _⟩
        · cases e
    · rename_i ty n ps hop
      simp only [aop,hop] at hr ⊢
      cases hx : Qf E.G t ps.toList with
      | none => simp [hx] at hr
      | some y =>
        simp only [hx] at hr ⊢
        obtain ⟨v, h1, e, rfl⟩ := Xx9 hr
        unfold Xc at e ⊢
        split at e
        · cases e
        · split at e
          · split at e
            · split at e
              · rename_i hq
                rw [Option.map_eq_some_iff] at e
                obtain ⟨c, hc, e⟩ := e
                cases e
                exact ⟨_, _, _, rfl, by rw [if_pos hq, hc]; simp only [Option.map_some,gv,q.next], q.push _, rfl, old _⟩
              · cases e
            · cases e
          · cases e
    · rename_i ty n c hop
      simp only [aop,hop] at hr ⊢
      cases hx : aev E.G t n with
      | none => simp [hx] at hr
      | some y =>
        cases hy : aev E.G t c with
        | none => simp [hx,hy] at hr
        | some z =>
          simp only [hx,hy] at hr ⊢
          obtain ⟨v, h1, e, rfl⟩ := Xx9 hr
          unfold Qpd at e ⊢
          split at e
          · split at e
            · split at e
              · split at e
                · rename_i hq
                  cases e
                  exact ⟨_, _, _, rfl, by rw [if_pos hq]; simp only [gv,q.next], q.push _, rfl, old _⟩
                · cases e
              · cases e
            · cases e
          · cases e
    · rename_i ty x lo hi mx hop
      simp only [aop,hop] at hr ⊢
      cases h1 : aev E.G t x with
      | none => simp [h1] at hr
      | some v1 =>
        cases h2 : evO E.G t lo with
        | none => simp [h1,h2] at hr
        | some v2 =>
          cases h3 : evO E.G t hi with
          | none => simp [h1,h2,h3] at hr
          | some v3 =>
            cases h4 : evO E.G t mx with
            | none => simp [h1,h2,h3,h4] at hr
            | some v4 =>
              simp only [h1,h2,h3,h4] at hr ⊢
              obtain ⟨v, g1, e, rfl⟩ := Xx9 hr
              obtain ⟨g1', e1, e2, e3⟩ := Zto q e
              refine ⟨v, g1, g1', rfl, by rw [e1]; rfl, e2, e3, fun c hc => ?_⟩
              obtain ⟨g2, f1, f2, f3⟩ := Zto (E := E.toEnv) (h := h) (h' := { h with low := h.next }) ⟨rfl, rfl⟩ e
              have := (Y39 f1).same c hc (by rw [f3]; exact hc)
              rw [f2.get] at this
              exact this
    · rename_i ty x hop
      simp only [aop,hop] at hr ⊢
      cases h1 : evO E.G t x with
      | none => simp [h1] at hr
      | some v1 =>
        simp only [h1] at hr ⊢
        obtain ⟨v, g1, e, rfl⟩ := Xx9 hr
        unfold Qw1 at e ⊢
        split at e
        · split at e
          · cases e
            exact ⟨_, _, _, rfl, by simp only [gv,q.next], q.push _, rfl, old _⟩
          · cases e
            exact ⟨_, _, _, rfl, by simp only [gv,q.next], q.push _, rfl, old _⟩
          · cases e
        · cases e
    · cases hk
    · cases hk
    · rename_i c hop
      simp only [aop,hop] at hr ⊢
      cases ha : evs E.G t c.args.toList with
      | none => simp [ha] at hr
      | some args =>
        simp only [ha] at hr ⊢
        split at hk <;> first
          | (cases hk; done)
          | (rename_i hc
             simp only [hc,Q5] at hr ⊢
             first
             | (obtain ⟨v, e, rfl⟩ := Z1a hr
                exact ⟨v, h, h', rfl, by simp only [e,Ab.g0], q, rfl, fun _ _ => rfl⟩)
             | (split at hr <;> first
               | contradiction
               | (cases hr; done)
               | (obtain ⟨v, e, rfl⟩ := Z1a hr
                  refine ⟨v, h, h', rfl, ?_, q, rfl, fun _ _ => rfl⟩
                  have e2 : ∀ ty x, Qns E.toEnv ty x h' = Qns E.toEnv ty x h := fun ty x => by unfold Qns; simp only [q.get]
                  simp only [e2,e,Ab.g0])))
    · cases hk
theorem Jbg {o : Oper} (hk : Jh E o = 2) {t : Tm} {h h' : Heap} (q : Hq h h') {r : Res} (hr : aop E t h o = some r) : (∃ v h1 h1', r = .val v h1 /\ aop E t h' o = some (.val v h1') /\ Hq h1 h1') ∨ ∃ h1 h1', r = .skip h1 /\ aop E t h' o = some (.skip h1') /\ Hq h1 h1' := by
  unfold Jh at hk
  split at hk
  · cases hk
  · split at hk <;> try (cases hk; done)
    · rename_i ty a v hop
      right
      simp only [aop,hop] at hr ⊢
      cases hx : aev E.G t a with
      | none => simp [hx] at hr
      | some y =>
        cases hy : aev E.G t v with
        | none => simp [hx,hy] at hr
        | some z =>
          simp only [hx,hy] at hr ⊢
          obtain ⟨h1, e, rfl⟩ := Z5r hr
          obtain ⟨h1', e1, q1⟩ := Z57 q e
          exact ⟨h1, h1', rfl, by rw [e1]; rfl, q1⟩
    · rename_i ty m k x hop
      right
      simp only [aop,hop] at hr ⊢
      cases hx : aev E.G t m with
      | none => simp [hx] at hr
      | some y =>
        cases hy : aev E.G t k with
        | none => simp [hx,hy] at hr
        | some z =>
          cases hz : aev E.G t x with
          | none => simp [hx,hy,hz] at hr
          | some u =>
            simp only [hx,hy,hz] at hr ⊢
            obtain ⟨h1, e, rfl⟩ := Z5r hr
            obtain ⟨h1', e1, q1⟩ := Zg0 q e
            exact ⟨h1, h1', rfl, by rw [e1]; rfl, q1⟩
    · rename_i c hop
      left
      simp only [aop,hop] at hr ⊢
      cases ha : evs E.G t c.args.toList with
      | none => simp [ha] at hr
      | some args =>
        simp only [ha] at hr ⊢
        split at hk <;> try (cases hk; done)
        · rename_i hc
          simp only [hc,Q5] at hr ⊢
          split at hr <;> first
            | contradiction
            | (cases hr; done)
            | (obtain ⟨v, h1, e, rfl⟩ := Xx9 hr
               obtain ⟨h1', e1, q1⟩ := Zzn q e
               exact ⟨v, h1, h1', rfl, by rw [e1]; rfl, q1⟩)
        · rename_i hc
          simp only [hc,Q5] at hr ⊢
          split at hr <;> first
            | contradiction
            | (cases hr; done)
            | (obtain ⟨v, h1, e, rfl⟩ := Xx9 hr
               obtain ⟨h1', e1, q1⟩ := Z7p q e
               exact ⟨v, h1, h1', rfl, by rw [e1]; rfl, q1⟩)
theorem Jdy{o:Oper}(hk:Jh E o=3){t:Tm}{h h1 h':Heap}{f:FuncId}{args:List Value}(hr:aop E t h o=some (.enter f args h1)):h1=h/\aop E t h' o=some (.enter f args h'):=by
 unfold Jh at hk
 split at hk
 ·cases hk
 ·split at hk <;> try (cases hk;done)
  rename_i c hop
  split at hk <;> try (cases hk;done)
  rename_i fo hc
  simp only[aop,hop,hc]at hr ⊢
  cases ha:evs E.G t c.args.toList with
  | none=>simp[ha]at hr
  | some l =>
   simp only[ha]at hr ⊢
   cases hf:aev E.G t fo with
   | none=>simp[hf]at hr
   | some fv =>
    simp only[hf]at hr ⊢
    cases hcal:Qg fv l with
    | none =>
     simp only[hcal]at hr
     unfold Yfb at hr
     split at hr
     ·split at hr
      ·split at hr <;> cases hr
      ·cases hr
     ·cases hr
    | some fl =>
     obtain⟨f2,l2⟩:=fl
     simp only[hcal]at hr ⊢
     cases hF:E.fn.get f2 with
     | none =>
      simp only[hF]at hr
      split at hr
      ·obtain⟨_,_,_,e⟩:=Xx9 hr;cases e
      ·cases hr
     | some F =>
      simp only[hF]at hr ⊢
      cases hr
      exact⟨rfl,rfl⟩
end
structure KE where
 f:FuncId
 args:List Value
 h0:Heap
 v:Value
 h1:Heap
 q:Bool
def Zxd(h:Heap)(l:Nat):Heap:={h with low:=l}
open Classical in
def Q9o:List KE->FuncId->List Value->Heap->Option KE
 | [],_,_,_=>none
 | e::l,f,args,h=>if e.f=f/\e.args=args/\h.next=e.h0.next/\h.t=e.h0.t then some e else Q9o l f args h
theorem Qcb(e:KE)(l:List KE):Q9o (e::l) e.f e.args e.h0=some e:=by simp[Q9o]
theorem Z0(f:FuncId)(args:List Value)(h0:Heap)(v:Value)(h1:Heap)(q:Bool)(l:List KE):Q9o (⟨f,args,h0,v,h1,q⟩::l) f args h0=some ⟨f,args,h0,v,h1,q⟩:=by simp[Q9o]
theorem Qrz{f f':FuncId}{args args':List Value}{h0 h v h1 q}{l:List KE}(hf:f≠f'):Q9o (⟨f,args,h0,v,h1,q⟩::l) f' args' h=Q9o l f' args' h:=by simp[Q9o,hf]
theorem X1n:∀ {l:List KE} {f:FuncId} {args:List Value} {h:Heap} {e:KE},Q9o l f args h=some e->e ∈ l/\e.f=f/\e.args=args/\Hq e.h0 h
 | [],_,_,_,_,h=>by cases h
 | x::l,f,args,h,e,hx=>by
  simp only[Q9o]at hx
  split at hx
  ·rename_i hc
   cases hx
   exact⟨by simp,hc.1,hc.2.1,hc.2.2.1,hc.2.2.2⟩
  ·obtain⟨h1,h2⟩:=X1n hx
   exact⟨by simp[h1],h2⟩
theorem Z6h{l:List KE}{f:FuncId}{args:List Value}{h h':Heap}(q:Hq h h'):Q9o l f args h'=Q9o l f args h:=by
 induction l with
 | nil=>rfl
 | cons x l ih =>
  have e:(x.f=f/\x.args=args/\h'.next=x.h0.next/\h'.t=x.h0.t)↔(x.f=f/\x.args=args/\h.next=x.h0.next/\h.t=x.h0.t):=by rw[q.next,q.t]
  simp only[Q9o,ih]
  by_cases hc:x.f=f/\x.args=args/\h.next=x.h0.next/\h.t=x.h0.t
  ·rw[if_pos hc,if_pos (e.2 hc)]
  ·rw[if_neg hc,if_neg (fun h=>hc (e.1 h))]
def kC(L:List KE):CallF:={fn:=fun f args h=>match Q9o L f args h with | some e=>some (.ret e.v,Zxd e.h1 (if e.q then min h.low h.next else 0)) | none=>none,rnd:=fun _ _ _=>none}
structure KEok (P:Program) (G:Bs) (e:KE):Prop where
 call:CallOK P G e.f e.args e.h0 (fun r h1=>r=.ret e.v/\h1=e.h1)
 next:e.h0.next<=e.h1.next
 old:e.q=true->∀ c,c < e.h0.next->e.h1.get c=e.h0.get c
section
variable{P:Program}{E:Env2 P}{G:Bs}
theorem Hq.own{h h':Heap}(q:Hq h h')(b:Nat):h'.own b=h.own b:=Qhs (q.get b)
theorem Jdg{L:List KE}(hL:∀ e ∈ L,KEok P G e):CallsSound P G (kC L):=by
 refine⟨fun f args h r h' hx => ?_,fun l args h r h' hx=>by cases hx⟩
 simp only[kC]at hx
 split at hx
 ·rename_i e he
  obtain⟨hm,rfl,rfl,q⟩:=X1n he
  cases hx
  intro α w H hok
  refine((hL e hm).call α w (H.like q.next.symm q.t.symm) hok).mono ?_
  rintro e' w' ⟨α',r,h1,⟨rfl,rfl⟩,q1,q2,q3,q4,q5⟩
  refine⟨α',_,_,⟨rfl,rfl⟩,q1,q2,by rw[q.next];exact q3,?_,q5.like rfl rfl⟩
  exact⟨q4.size,fun k hk hne=>q4.same k hk (fun b p hb ho=>hne b p hb (by rw[q.own];exact ho)),fun b p hb ho=>by
   rcases q4.owns b p hb ho with h | ⟨c,q',h1,h2,h3⟩
   ·exact .inl h
   ·exact .inr ⟨c,q',h1,by rw[q.own];exact h2,h3⟩,q4.tape,q4.os,q4.output,by rw[q.next];exact(hL e hm).next⟩
 ·cases hx
theorem Z6c{L:List KE}(hL:∀ e ∈ L,KEok P G e):CallsLow (kC L):=by
 refine⟨fun f args h r h' hx => ?_,fun l args h r h' hx=>by cases hx⟩
 simp only[kC]at hx
 split at hx
 ·rename_i e he
  obtain⟨hm,rfl,rfl,q⟩:=X1n he
  cases hx
  refine⟨by rw[q.next];exact(hL e hm).next,?_,fun b hb hl => ?_⟩
  ·show(if e.q then min h.low h.next else 0)<=h.low
   split
   ·exact Nat.min_le_left _ _
   ·exact Nat.zero_le _
  ·have hl':b < (if e.q then min h.low h.next else 0):=hl
   split at hl'
   ·rename_i hq
    have:=(hL e hm).old hq b (by rw[<- q.next];exact hb)
    show e.h1.get b=h.get b
    rw[this,q.get]
   ·omega
 ·cases hx
def runT{P:Program}(E:Env2 P)(L:List KE)(ops:List Oper)(B:List Nat):List Oper->Nat->St->Option (St × List (Option LRec))
 | [],_,s=>some (s,[])
 | o::r,i,s =>
  if !(Qgq s o.dst && Xw o)then none else
  match Qe ops s.t o with
  | none=>none
  | some false=>Qab none (runT E L ops B r (i+1) (s.put o.dst Qo s.h))
  | some true=>match Jh E o,aop E s.t s.h o with
   | 0,some (.val v h1)=>if !Xe o || (loadAt E s.t o).isSome then Qab (if Xe o then some (.ld s.t o)else none) (runT E L ops B r (i+1) (s.put o.dst v h1))else none
   | 1,some (.val v h1)=>Qab none (runT E L ops B r (i+1) (s.put o.dst v h1))
   | 2,some (.val v h1)=>if Jq E i ((nth B i).getD 0) ops B 0 then Qab (some (.wr s.h h1)) (runT E L ops B r (i+1) (s.put o.dst v h1))else none
   | 2,some (.skip h1)=>if Jq E i ((nth B i).getD 0) ops B 0 then Qab (some (.wr s.h h1)) (runT E L ops B r (i+1) (s.put o.dst Qo h1))else none
   | 3,some (.enter f args h1)=>match Q9o L f args h1 with
    | some e=>if e.q || Jq E i ((nth B i).getD 0) ops B 0 then Qab (if e.q then none else some (.wr s.h e.h1)) (runT E L ops B r (i+1) (s.put o.dst e.v e.h1))else none
    | none=>none
   | _,_=>none
def Jcz:Option LRec->Option LRec->Prop
 | none,none=>True
 | some (.ld t o),some (.ld t' o')=>t=t'/\o=o'
 | some (.wr _ _),none=>True
 | some (.wr h0 h1),some (.wr g0 g1)=>Hq h0 g0/\Hq h1 g1
 | _,_=>False
def Ja0:List (Option LRec)->List (Option LRec)->Prop
 | [],[]=>True
 | x::l,y::r=>Jcz x y/\Ja0 l r
 | _,_=>False
theorem Jae{h h':Heap}(q:Hq h h')(t:Tm)(o:Oper):ldv E t o h'=ldv E t o h:=by
 unfold ldv
 split
 ·split
  ·simp only[Qkm]
   split
   ·exact Q19 (q.get _) _
   ·rfl
  ·rfl
 ·split
  ·rename_i a b _ _
   unfold Qrt
   have : Qyn a h'=Qyn a h:=by
    unfold Qyn
    simp only[q.get]
   simp only[this]
  ·rfl
 ·rfl
theorem Zx5{i bi:Nat}{h0 h1 g0 g1:Heap}(q0:Hq h0 g0)(q1:Hq h1 g1)(R:List (Option LRec)):∀ (Ry:List (Option LRec)) (Bs:List Nat) (k:Nat),Ja0 R Ry->X7 E i bi h0 h1 R Bs k=true->X7 E i bi g0 g1 Ry Bs k=true:=by
 induction R with
 | nil =>
  intro Ry Bs k hr _
  cases Ry with
  | nil=>rfl
  | cons y Ry=>exact hr.elim
 | cons x R ih =>
  intro Ry Bs k hr h
  cases Ry with
  | nil=>exact hr.elim
  | cons y Ry =>
   obtain⟨hx,hr⟩:=hr
   cases Bs with
   | nil=>cases y with
    | none=>rfl
    | some y=>cases y <;> rfl
   | cons b Bs =>
    cases x with
    | none =>
     cases y with
     | none=>exact ih Ry Bs (k+1) hr h
     | some y=>exact hx.elim
    | some x =>
     cases x with
     | ld t o =>
      cases y with
      | none=>exact hx.elim
      | some y =>
       cases y with
       | ld t' o' =>
        obtain⟨rfl,rfl⟩:=hx
        simp only[X7,Bool.and_eq_true]at h ⊢
        rw[Jae q0,Jae q1]
        exact⟨h.1,ih Ry Bs (k+1) hr h.2⟩
       | wr _ _=>exact hx.elim
     | wr a c =>
      cases y with
      | none=>exact ih Ry Bs (k+1) hr h
      | some y =>
       cases y with
       | ld _ _=>exact hx.elim
       | wr _ _=>exact ih Ry Bs (k+1) hr h
theorem Zyz{R0 Ry0:List (Option LRec)}{B0:List Nat}(hr0:Ja0 R0 Ry0)(R:List (Option LRec)):∀ (Ry:List (Option LRec)) (Bs:List Nat) (i:Nat),Ja0 R Ry->Xh E R0 B0 R Bs i=true->Xh E Ry0 B0 Ry Bs i=true:=by
 induction R with
 | nil =>
  intro Ry Bs k hr _
  cases Ry with
  | nil=>rfl
  | cons y Ry=>exact hr.elim
 | cons x R ih =>
  intro Ry Bs k hr h
  cases Ry with
  | nil=>exact hr.elim
  | cons y Ry =>
   obtain⟨hx,hr⟩:=hr
   cases Bs with
   | nil=>cases y with
    | none=>rfl
    | some y=>cases y <;> rfl
   | cons b Bs =>
    cases x with
    | none =>
     cases y with
     | none=>exact ih Ry Bs (k+1) hr h
     | some y=>exact hx.elim
    | some x =>
     cases x with
     | ld t o =>
      cases y with
      | none=>exact hx.elim
      | some y =>
       cases y with
       | ld t' o'=>exact ih Ry Bs (k+1) hr h
       | wr _ _=>exact hx.elim
     | wr a c =>
      simp only[Xh,Bool.and_eq_true]at h
      cases y with
      | none=>exact ih Ry Bs (k+1) hr h.2
      | some y =>
       cases y with
       | ld _ _=>exact hx.elim
       | wr g0 g1 =>
        simp only[Xh,Bool.and_eq_true]
        exact⟨Zx5 hx.1 hx.2 _ _ _ _ hr0 h.1,ih Ry Bs (k+1) hr h.2⟩
theorem Q0k{x:Option LRec}{y:Option (St × List (Option LRec))}{s1:St}{R:List (Option LRec)}(h:Qab x y=some (s1,R)):∃ R',y=some (s1,R')/\R=x::R':=by
 cases y with
 | none=>cases h
 | some y=>cases h;exact⟨_,rfl,rfl⟩
theorem Jdf{o:Oper}(hk:Jh E o=0){t:Tm}{h h':Heap}(q:Hq h h'){v:Value}{h1:Heap}(hr:aop E t h o=some (.val v h1)):h1=h/\aop E t h' o=some (.val v h'):=by
 rcases Jaf hk with hf | hf
 ·obtain⟨u,e,h2, -, -⟩:=Yba (E:=E) (o:=o) (by unfold Qtl;rw[hf];rfl) (h':=h') q.get hr
  cases e
  exact⟨rfl,h2⟩
 ·unfold Xe at hf
  split at hf
  ·rename_i ty a hop
   obtain⟨u,e,h2, -, -⟩:=Yba (E:=E) (o:=o) (by unfold Qtl;simp[hop]) (h':=h') q.get hr
   cases e
   exact⟨rfl,h2⟩
  ·rename_i ty x k ok hop
   simp only[aop,hop]at hr ⊢
   cases hx:aev E.G t x with
   | none=>simp[hx]at hr
   | some y =>
    cases hy:aev E.G t k with
    | none=>simp[hx,hy]at hr
    | some z =>
     simp only[hx,hy]at hr ⊢
     obtain⟨u,e,e2⟩:=Z1a hr
     cases e2
     have : Qrt E.toEnv ty y z ok h'=Qrt E.toEnv ty y z ok h:=by
      unfold Qrt
      have : Qyn y h'=Qyn y h:=by
       unfold Qyn
       simp only[q.get]
      simp only[this]
     rw[this,e]
     exact⟨rfl,rfl⟩
  ·cases hf
theorem Z8s{L:List KE}{ops:List Oper}{B:List Nat}:∀ (l:List Oper) (i:Nat) (s s1 sx:St) (R:List (Option LRec)),runT E L ops B l i s=some (s1,R)->LowEq s sx->∃ sy Ry,Y3e E (kC L) ops B l i sx=some (sy,Ry)/\LowEq s1 sy/\Ja0 R Ry
 | [],i,s,s1,sx,R,h,k=>by
  simp only[runT,Option.some.injEq,Prod.mk.injEq]at h
  obtain⟨rfl,rfl⟩:=h
  exact⟨sx,[],rfl,k,trivial⟩
 | o::r,i,s,s1,sx,R,h,k=>by
  have hdst:Qgq sx o.dst=Qgq s o.dst:=by cases o.dst <;> simp[Qgq,k.t]
  have hput:∀ (v:Value) (h h':Heap),Hq h h'->LowEq (s.put o.dst v h) (sx.put o.dst v h'):=fun v h h' q=>by
   cases o.dst with
   | none=>exact⟨k.t,k.ds,q.next,q.t⟩
   | some d=>exact⟨by simp[St.put,k.t],k.ds,q.next,q.t⟩
  have hw:Qe ops sx.t o=Qe ops s.t o:=by rw[k.t]
  have kq:Hq s.h sx.h:=⟨k.next,k.tr⟩
  have kr:Hq s.h (Ul sx.h):=⟨k.next,k.tr⟩
  simp only[runT]at h
  split at h
  ·cases h
  ·rename_i hd
   have hd':(Qgq sx o.dst && Xw o)=true:=by rw[hdst];simpa using hd
   split at h
   ·cases h
   ·rename_i hwf
    obtain⟨R',h',rfl⟩:=Q0k h
    obtain⟨sy,Ry,e1,e2,e3⟩:=Z8s r (i+1) _ _ (sx.put o.dst Qo sx.h) _ h' (hput Qo _ _ kq)
    exact⟨sy,none::Ry,by simp only[Y3e,hd',Bool.not_true,Bool.false_eq_true,if_false,hw,hwf,e1,Qab],e2,trivial,e3⟩
   ·rename_i hwt
    have go:∀ (v:Value) (h1 h1':Heap) (x:Option LRec),Qmi E (kC L) o sx.t (Ul sx.h)=some (v,h1')->Hq h1 h1'->Q0y E ops B i o sx h1'=true->Jcz x (Xpi E sx o h1')->∀ R',runT E L ops B r (i+1) (s.put o.dst v h1)=some (s1,R') ->
      ∃ sy Ry,Y3e E (kC L) ops B (o::r) i sx=some (sy,Ry)/\LowEq s1 sy/\Ja0 (x::R') Ry:=by
     intro v h1 h1' x f1 f2 f3 f4 R' h'
     obtain⟨sy,Ry,e1,e2,e3⟩:=Z8s r (i+1) _ _ (sx.put o.dst v (Xc7 sx.h h1')) _ h' (hput v _ _ ⟨f2.next,f2.t⟩)
     exact⟨sy,Xpi E sx o h1'::Ry,by simp only[Y3e,hd',Bool.not_true,Bool.false_eq_true,if_false,hw,hwt,f1,f3,if_true,e1,Qab],e2,f4,e3⟩
    split at h
    ·
     rename_i v h1 hk ha
     split at h
     ·rename_i hl
      obtain⟨R',h',rfl⟩:=Q0k h
      obtain⟨rfl,a2⟩:=Jdf hk kr ha
      refine go v s.h (Ul sx.h) _ (by rw[k.t];simp only[Qmi,a2]) kr ?_ ?_ R' h'
      ·unfold Q0y
       rw[Bool.and_eq_true]
       exact⟨by simp[Ul],by rw[k.t];exact hl⟩
      ·unfold Xpi
       split
       ·exact⟨k.t.symm,rfl⟩
       ·rename_i hlo
        rcases Jaf hk with hf | hf
        ·rw[if_pos hf];trivial
        ·exact absurd hf hlo
     ·cases h
    ·
     rename_i v h1 hk ha
     obtain⟨R',h',rfl⟩:=Q0k h
     obtain⟨v2,g1,g1',b1,b2,b3,b4, -⟩:=Jdd hk kr ha
     cases b1
     have hnf:Xo E o=false/\Xe o=false:=by
      unfold Jh at hk
      split at hk
      ·cases hk
      ·rename_i hq;simpa using hq
     have Zxd:Nat.ble sx.h.next g1'.low=true:=by rw[b4];simp[Ul]
     refine go v h1 g1' none (by rw[k.t];simp only[Qmi,b2]) b3 ?_ ?_ R' h'
     ·unfold Q0y
      rw[Bool.and_eq_true]
      exact⟨by simp[Zxd],by simp[hnf.2]⟩
     ·unfold Xpi
      simp[hnf.1,hnf.2,Zxd,Jcz]
    ·
     rename_i v h1 hk ha
     split at h
     ·rename_i hfull
      obtain⟨R',h',rfl⟩:=Q0k h
      have hnf:Xo E o=false/\Xe o=false:=by
       unfold Jh at hk
       split at hk
       ·cases hk
       ·rename_i hq;simpa using hq
      rcases Jbg hk kr ha with⟨v2,g1,g1',b1,b2,b3⟩ | ⟨g1,g1',b1, -, -⟩
      ·cases b1
       refine go v h1 g1' _ (by rw[k.t];simp only[Qmi,b2]) b3 ?_ ?_ R' h'
       ·unfold Q0y
        rw[Bool.and_eq_true]
        exact⟨by simp[hfull],by simp[hnf.2]⟩
       ·unfold Xpi
        simp only[hnf.1,hnf.2,Bool.false_eq_true,if_false]
        split
        ·trivial
        ·exact⟨kq,b3⟩
      ·cases b1
     ·cases h
    ·rename_i h1 hk ha
     split at h
     ·rename_i hfull
      obtain⟨R',h',rfl⟩:=Q0k h
      have hnf:Xo E o=false/\Xe o=false:=by
       unfold Jh at hk
       split at hk
       ·cases hk
       ·rename_i hq;simpa using hq
      rcases Jbg hk kr ha with⟨v2,g1,g1',b1, -, -⟩ | ⟨g1,g1',b1,b2,b3⟩
      ·cases b1
      ·cases b1
       refine go Qo h1 g1' _ (by rw[k.t];simp only[Qmi,b2]) b3 ?_ ?_ R' h'
       ·unfold Q0y
        rw[Bool.and_eq_true]
        exact⟨by simp[hfull],by simp[hnf.2]⟩
       ·unfold Xpi
        simp only[hnf.1,hnf.2,Bool.false_eq_true,if_false]
        split
        ·trivial
        ·exact⟨kq,b3⟩
     ·cases h
    ·
     rename_i f args h1 hk ha
     split at h
     ·rename_i e he
      split at h
      ·rename_i hfull
       obtain⟨R',h',rfl⟩:=Q0k h
       have hnf:Xo E o=false/\Xe o=false:=by
        unfold Jh at hk
        split at hk
        ·cases hk
        ·rename_i hq;simpa using hq
       obtain⟨rfl,b2⟩:=Jdy (h':=Ul sx.h) hk ha
       have he':Q9o L f args (Ul sx.h)=some e:=by rw[Z6h kr];exact he
       refine go e.v e.h1 (Zxd e.h1 (if e.q then min (Ul sx.h).low (Ul sx.h).next else 0)) _ (by rw[k.t];simp only[Qmi,b2,kC,he']) ⟨rfl,rfl⟩ ?_ ?_ R' h'
       ·unfold Q0y
        rw[Bool.and_eq_true]
        refine⟨?_,by simp[hnf.2]⟩
        cases hq:e.q with
        | true=>simp[Ul,Zxd]
        | false=>rw[hq]at hfull;simp at hfull;simp[hfull]
       ·unfold Xpi
        simp only[hnf.1,hnf.2,Bool.false_eq_true,if_false]
        cases hq:e.q with
        | true=>simp[Ul,Zxd,Jcz]
        | false =>
         simp only[Bool.false_eq_true,if_false]
         split
         ·trivial
         ·exact⟨kq,⟨rfl,rfl⟩⟩
      ·cases h
     ·cases h
    ·cases h
theorem Zgd{L:List KE}{ops:List Oper}{B:List Nat}{s s1:St}{R:List (Option LRec)}(hB:Qsr ops []=some B)(hp:Ud ops ops B []=true)(hx:runT E L ops B ops 0 s=some (s1,R))(hc:Xh E R B R B 0=true):∃ sy,Q5m E (kC L) ops s=some sy/\LowEq s1 sy:=by
 obtain⟨sy,Ry,h1,h2,h3⟩:=Z8s ops 0 s s1 s R hx ⟨rfl,rfl,rfl,rfl⟩
 exact⟨sy,by unfold Q5m;simp only[hB,hp,if_true,h1,Zyz h3 _ _ _ _ h3 hc],h2⟩
theorem Z4i(E:Env2 P){L:List KE}(hL:∀ e ∈ L,KEok P E.G e)(hm:P.follows .mixedOrders=true){rd:Option Nat}{id:Nat}{ops:Array Oper}{B:List Nat}{K:Exit->St->Prop}{s s1:St}{R:List (Option LRec)}(hB:Qsr ops.toList []=some B)(hp:Ud ops.toList ops.toList B []=true)
  (hx:runT E L ops.toList B ops.toList 0 s=some (s1,R)) (hc:Xh E R B R B 0=true) (hk:K .normal s1):CW P E.G rd s.h.next (.region id ops true) s K:=by
 obtain⟨sy,hd,h2⟩:=Zgd hB hp hx hc
 refine fun α a w S hl=>wpIn_mono (Qqh E (Jdg hL) (Z6c hL) hm hd (Q:=fun e s'=>e=.normal/\s'=sy) ⟨rfl,rfl⟩ α a w S hl) ?_
 rintro e' a' w' ⟨α',e,s',⟨rfl,rfl⟩,h4,h5,h6,h7,h8⟩
 have k2:LowEq s' s1:=⟨h2.t.symm,h2.ds.symm,h2.next.symm,h2.tr.symm⟩
 refine⟨α',.normal,s1,hk,h4,h5,h6,?_,h8.low k2⟩
 have hown:∀ b,s1.h.own b=s'.h.own b:=fun b=>Qhs (k2.get b)
 exact⟨h7.size,h7.same,fun b p hb ho=>h7.owns b p hb (by rw[<- hown];exact ho),h7.tape,h7.os,h7.output,by rw[k2.next];exact h7.next⟩
theorem Zz3{L:List KE}(hL:∀ e ∈ L,KEok P G e){ops:List Oper}{B:List Nat}{s s1:St}{R:List (Option LRec)}(hB:Qsr ops []=some B)(hp:Ud ops ops B []=true)(hx:runT E L ops B ops 0 s=some (s1,R))(hc:Xh E R B R B 0=true):s.h.next<=s1.h.next:=by
 obtain⟨sy,hd,h2⟩:=Zgd hB hp hx hc
 have:=(Ylo (Z6c hL) hd).next
 rw[h2.next]at this
 exact this
def Y6l:Option LRec->Option LRec
 | some (.ld t o)=>some (.ld t (bare o))
 | x=>x
theorem X43{j bj:Nat}:∀ (l:List Oper) (B:List Nat) (i:Nat),Jq E j bj (l.map bare) B i=Jq E j bj l B i
 | [],_,_=>rfl
 | o::r,[],_=>rfl
 | o::r,b::B,i=>by
  simp only[List.map_cons,Jq,X43 r B]
  rfl
theorem Qt0{x:Option LRec}{y:Option (St × List (Option LRec))}:(Qab x y).map (fun p=>(p.1,p.2.map Y6l))=Qab (Y6l x) (y.map fun p=>(p.1,p.2.map Y6l)):=by
 cases y <;> rfl
theorem Zm5{L:List KE}{ops:List Oper}{B:List Nat}:∀ (l:List Oper) (i:Nat) (s:St),runT E L (ops.map bare) B (l.map bare) i s=(runT E L ops B l i s).map (fun p=>(p.1,p.2.map Y6l))
 | [],i,s=>rfl
 | o::r,i,s=>by
  have e1:Jh E (bare o)=Jh E o:=rfl
  have e2:aop E s.t s.h (bare o)=aop E s.t s.h o:=rfl
  have e3:Xe (bare o)=Xe o:=rfl
  have e4:loadAt E s.t (bare o)=loadAt E s.t o:=rfl
  have e5:(bare o).dst=o.dst:=rfl
  have e6:Xw (bare o)=Xw o:=rfl
  simp only[List.map_cons,runT,Q1z,X43,Zm5 r,e1,e2,e3,e4,e5,e6]
  split
  ·rfl
  ·split
   ·rfl
   ·rw[Qt0];rfl
   ·split <;> first
     | rfl
     | (split <;> first
       | rfl
       | (rw[Qt0];done)
       | (rw[Qt0];rfl)
       | (rw[Qt0];congr 1;split <;> rfl)
       | (split <;> first
         | rfl
         | (rw[Qt0];done)
         | (rw[Qt0];rfl)
         | (rw[Qt0];congr 1;split <;> rfl)))
     | (rw[Qt0];done)
     | (rw[Qt0];rfl)
theorem Xr5{i bi:Nat}{h0 h1:Heap}:∀ (R:List (Option LRec)) (Bs:List Nat) (k:Nat),X7 E i bi h0 h1 (R.map Y6l) Bs k=X7 E i bi h0 h1 R Bs k
 | [],_,_=>rfl
 | x::R,[],_=>by cases x with
  | none=>rfl
  | some x=>cases x <;> rfl
 | x::R,b::Bs,k=>by
  have:=Xr5 R Bs (k+1) (i:=i) (bi:=bi) (h0:=h0) (h1:=h1)
  cases x with
  | none=>exact this
  | some x=>cases x with
   | ld t o=>simp only[List.map_cons,Y6l,X7,this];rfl
   | wr a c=>exact this
theorem X4i{R0:List (Option LRec)}{B0:List Nat}:∀ (R:List (Option LRec)) (Bs:List Nat) (i:Nat),Xh E (R0.map Y6l) B0 (R.map Y6l) Bs i=Xh E R0 B0 R Bs i
 | [],_,_=>rfl
 | x::R,[],_=>by cases x with
  | none=>rfl
  | some x=>cases x <;> rfl
 | x::R,b::Bs,i=>by
  have:=X4i (R0:=R0) (B0:=B0) R Bs (i+1)
  cases x with
  | none=>exact this
  | some x=>cases x with
   | ld t o=>exact this
   | wr a c=>simp only[List.map_cons,Y6l,Xh,this,Xr5]
end
section
variable{P:Program}{E:Env2 P}{C:CallF}{ops ops':Array Oper}{B:List Nat}{σ:Nat->St}
variable{α0 α:Ren}{w0 w:World}{listed:Array Bool}{a:Act}{T:Tm}{p:Nat}
theorem Y36(hsz:ops'.size=ops.size)(haf:∀ i:Nat,(ops'[i]?).map (·.after)=(ops[i]?).map (·.after)):Region.ready .any ops' listed=Region.ready .any ops listed:=by
 unfold Region.ready
 rw[hsz]
 congr 1
 funext j
 have:=haf j
 cases h1:ops'[j]? with
 | none =>
  cases h2:ops[j]? with
  | none=>rfl
  | some o2=>rw[h1,h2]at this;cases this
 | some o1 =>
  cases h2:ops[j]? with
  | none=>rw[h1,h2]at this;cases this
  | some o2 =>
   rw[h1,h2]at this
   simp only[Option.map_some,Option.some.injEq]at this
   simp only[Option.map_some,this]
theorem Z6m{Q:Exit->Act->World->Prop}{β:Ren}{p0:Nat}(hsz:ops'.size=ops.size)(haf:∀ i:Nat,(ops'[i]?).map (·.after)=(ops[i]?).map (·.after))(hds:∀ i:Nat,(ops'[i]?).map (·.dst)=(ops[i]?).map (·.dst))
  (c:Canon E C ops' B σ) (hC:CallsSound P E.G C) (hL:CallsLow C) (hwf:∀ i,i<=ops'.size->∃ α' w' tmps',HRel E.G α' (σ i).h w'/\TRel α' (σ i).t tmps') (hp0:p0 < ops'.size)
  (hsame:∀ (i b:Nat),B[i]? = some b->i≠p0->b.testBit p0=false->ops'[i]? = ops[i]?)
  (hdie:∀ (listed:Array Bool) (α:Ren) (a:Act) (w:World) (T:Tm) (p:Nat),Inv E ops' B σ α0 w0 listed α a w T p->¬ Did listed p0->(∀ o,ops'[p0]? = some o->∀ e ∈ o.after.toList,Region.binds .any e=true->Did listed e.on)->∀ K,wpOpIn (Qmn none β) 0 P ops Q p0 K a w) :
  ∀ (fuel:Nat) (listed:Array Bool) (α:Ren) (a:Act) (w:World) (T:Tm) (p:Nat),listed.size=ops'.size->listed.toList.count false<=fuel->Inv E ops' B σ α0 w0 listed α a w T p->¬ Did listed p0->wpAnyIn (Qmn none β) 0 P .any ops Q fuel listed a w:=by
 have hy:∀ (tmps:Array Value),yielded ops tmps=yielded ops' tmps:=by
  intro tmps
  funext j
  have:=hds j
  unfold yielded
  cases h1:ops'[j]? with
  | none =>
   cases h2:ops[j]? with
   | none=>rfl
   | some o2=>rw[h1,h2]at this;cases this
  | some o1 =>
   cases h2:ops[j]? with
   | none=>rw[h1,h2]at this;cases this
   | some o2 =>
    rw[h1,h2]at this
    simp only[Option.map_some,Option.some.injEq]at this
    simp only[Option.bind_some]
    rw[this]
 intro fuel
 induction fuel with
 | zero =>
  intro listed α a w T p hl hc I hn
  exfalso
  have hil:p0 < listed.toList.length:=by simpa[hl]using hp0
  have hz:listed.toList.count false=0:=by omega
  rw[List.count_eq_zero]at hz
  refine hz ?_
  have : listed.toList[p0]=false:=by
   simp only[Did,Array.getD_eq_getD_getElem?]at hn
   rw[Array.getElem?_eq_getElem (by omega)]at hn
   simpa using hn
  rw[<- this]
  exact List.getElem_mem hil
 | succ fuel ih =>
  intro listed α a w T p hl hc I hn
  refine⟨fun hnil=>absurd (Yev c hl (by rw[Y36 hsz haf];exact hnil) p0 hp0) hn,fun i hi => ?_⟩
  rw[<- Y36 hsz haf]at hi
  obtain⟨o,ho,hni,hr⟩:=Ylw hl hi
  by_cases hip:i=p0
  ·subst hip
   exact hdie listed α a w T p I hn (fun o' ho'=>by rw[ho]at ho';cases ho';exact hr) _
  ·obtain⟨bi,hbi⟩:=Y4h c (Qqm ho)
   have hbt:bi.testBit p0=false:=by
    cases hb:bi.testBit p0 with
    | false=>rfl
    | true=>exact absurd (Xgj c I.down ho hr hbi hb) hn
   have he:=hsame i bi hbi hip hbt
   have hop:∀ K,wpOpIn (Qmn none β) 0 P ops' Q i K a w->wpOpIn (Qmn none β) 0 P ops Q i K a w:=by
    intro K h
    unfold wpOpIn at h ⊢
    rw[<- he,hy]
    exact h
   refine hop _ (Zt4 c hC hL hwf I ho hni hr hl fun α' a' w' T' p' I'=>ih _ α' a' w' T' p' (by simpa using hl) ?_ I' ?_)
   ·have hil:i < listed.toList.length:=by have:=Qqm ho;simpa[hl]using this
    have : listed.toList[i]=false:=by
     simp only[Did,Array.getD_eq_getD_getElem?]at hni
     rw[Array.getElem?_eq_getElem (by simpa using hil)]at hni
     simpa using hni
    rw[Array.toList_setIfInBounds,List.count_set hil,this]
    have hpos:0 < listed.toList.count false:=by
     rw[List.count_pos_iff,<- this]
     exact List.getElem_mem hil
    rw[if_pos (by rfl),if_neg (by decide)]
    omega
   ·rw[Zsm (by have:=Qqm ho;omega)]
    rintro(h | h)
    ·exact hip h.symm
    ·exact hn h
def Z27(p0:Nat)(f:FuncId)(args:Array Operand)(i b:Nat)(o:Oper):Oper :=
 if i=p0 then {o with op:=.makeFunc (.func f) args #[]} else if b.testBit p0 then {o with op:=.assign (.const (.bool false))} else o
def Y0e(p0:Nat)(f:FuncId)(args:Array Operand):List Oper->List Nat->Nat->List Oper
 | o::l,b::B,i=>Z27 p0 f args i b o::Y0e p0 f args l B (i+1)
 | _,_,_=>[]
def Yox(d0 p0:Nat):List Oper->Nat->Bool
 | [],_=>true
 | o::l,i=>(i == p0 || (match o.dst with | some d=>d != d0 | none=>true)) && Yox d0 p0 l (i+1)
variable{p0 d0:Nat}{f:FuncId}{args:Array Operand}
theorem X1d(i b:Nat)(o:Oper):(Z27 p0 f args i b o).after=o.after/\(Z27 p0 f args i b o).dst=o.dst/\(Z27 p0 f args i b o).guard=o.guard:=by
 unfold Z27
 split
 ·exact⟨rfl,rfl,rfl⟩
 ·split <;> exact⟨rfl,rfl,rfl⟩
theorem Zsx:∀ (l:List Oper) (B:List Nat) (i:Nat),B.length=l.length->(Y0e p0 f args l B i).length=l.length/\∀ k:Nat,(Y0e p0 f args l B i)[k]? = match l[k]?,B[k]? with | some o,some b=>some (Z27 p0 f args (i+k) b o) | _,_=>none
 | [],[],_,_=>⟨rfl,fun k=>by simp[Y0e]⟩
 | [],b::B,_,h=>by simp at h
 | o::l,[],_,h=>by simp at h
 | o::l,b::B,i,h=>by
  obtain⟨h1,h2⟩:=Zsx l B (i+1) (by simpa using h)
  refine⟨by simp[Y0e,h1],fun k => ?_⟩
  cases k with
  | zero=>simp[Y0e]
  | succ k =>
   have:=h2 k
   simp only[Y0e,List.getElem?_cons_succ]
   rw[this,show i+1+k=i+(k+1) by omega]
theorem Ztm:∀ (l:List Oper) (B0 B:List Nat),Qsr l B0=some B->B.length=B0.length+l.length
 | [],B0,B,h=>by simp only[Qsr,Option.some.injEq]at h;simp[h]
 | o::l,B0,B,h=>by
  simp only[Qsr]at h
  split at h
  ·have:=Ztm l _ _ h
   simp only[List.length_append,List.length_cons,List.length_nil]at this ⊢
   omega
  ·cases h
theorem Ztx:∀ (l:List Oper) (Bs:List Nat) (i:Nat) (B0:List Nat),Bs.length=l.length->Qsr (Y0e p0 f args l Bs i) B0=Qsr l B0
 | [],[],_,_,_=>rfl
 | [],b::B,_,_,h=>by simp at h
 | o::l,[],_,_,h=>by simp at h
 | o::l,b::B,i,B0,h=>by
  simp only[Y0e,Qsr,(X1d i b o).1]
  split
  ·exact Ztx l B _ _ (by simpa using h)
  ·rfl
theorem Yhy:∀ (l:List Oper) (i:Nat),Yox d0 p0 l i=true->∀ (k:Nat) (o:Oper),l[k]? = some o->i+k≠p0->o.dst≠some d0
 | [],_,_,k,o,h,_=>by simp at h
 | x::l,i,hd,k,o,h,hne=>by
  simp only[Yox,Bool.and_eq_true,Bool.or_eq_true,beq_iff_eq]at hd
  cases k with
  | zero =>
   simp only[List.getElem?_cons_zero,Option.some.injEq]at h
   subst h
   intro e
   rcases hd.1 with h1 | h1
   ·exact hne (by omega)
   ·rw[e]at h1;simp at h1
  | succ k=>exact Yhy l (i+1) hd.2 k o (by simpa using h) (by omega)
theorem Zsn{l l':List Oper}{t:Tm}{o o':Oper}(hg:o'.guard=o.guard)(hd:∀ i:Nat,(nth l' i).map (·.dst)=(nth l i).map (·.dst)):Qe l' t o'=Qe l t o:=by
 unfold Qe
 rw[hg]
 cases o.guard with
 | none=>rfl
 | some g =>
  obtain⟨j,want⟩:=g
  have:=hd j
  show(match nth l' j with | none=>_ | some oj=>_)=(match nth l j with | none=>_ | some oj=>_)
  cases h1:nth l' j with
  | none =>
   cases h2:nth l j with
   | none=>rfl
   | some o2=>rw[h1,h2]at this;cases this
  | some o1 =>
   cases h2:nth l j with
   | none=>rw[h1,h2]at this;cases this
   | some o2 =>
    rw[h1,h2]at this
    simp only[Option.map_some,Option.some.injEq]at this
    simp only[this]
theorem Y96(c:Canon E C ops' B σ){i:Nat}{o:Oper}(ho:ops'[i]? = some o)(hr:Qtl E o=true):Y9n E ops' σ i:=by
 refine⟨o,ho,?_⟩
 by_cases hf:Xo E o=true
 ·exact .inl hf
 ·simp only[Qtl,Bool.or_eq_true]at hr
  have hl:Xe o=true:=by
   rcases hr with h | h
   ·exact absurd h hf
   ·unfold Xe
    split at h
    ·rename_i hop;rw[hop]
    ·cases h
  obtain⟨_,_,h⟩:=c.step i o ho
  rcases h with⟨h,_⟩ | ⟨_,v,h1,hv,_,hs⟩
  ·exact .inr (.inl h)
  ·simp only[Q0y,Bool.and_eq_true]at hs
   exact .inr (.inr (Xwf hl hs.2))
theorem Ymg:∀ (l:List Oper),Q4s E l=true->∀ (k:Nat) (o:Oper),l[k]? = some o->Qtl E o=true
 | [],_,k,o,h=>by simp at h
 | x::l,hr,k,o,h=>by
  simp only[Q4s,Bool.and_eq_true]at hr
  cases k with
  | zero=>simp only[List.getElem?_cons_zero,Option.some.injEq]at h;subst h;exact hr.1
  | succ k=>exact Ymg l hr.2 k o (by simpa using h)
theorem Zmg{ops:Array Oper}{B:List Nat}{s s1:St}(hB:Qsr ops.toList []=some B)(h:Q5m E C ops.toList s=some s1):∃ σ,Canon E C ops B σ/\σ 0=s/\σ ops.size=s1:=by
 unfold Q5m at h
 simp only[hB]at h
 split at h
 ·rename_i hp
  split at h
  ·rename_i s2 R hR
   split at h
   ·rename_i hx
    cases h
    obtain⟨σ,e1,e2,e3,e4⟩:=Xoo _ _ _ _ _ hR
    have hbef:BefOk ops.toList B:=by
     have:=Yem ops.toList [] [] B hB ⟨rfl,fun j o h=>by simp at h,fun j o b h=>by simp at h⟩
     simpa using this
    refine⟨σ,⟨hbef,fun j i oj oi b hj hi hb hij => ?_,fun i o ho => ?_,R,hx,fun k o ho => ?_⟩,e1,by simpa using e2⟩
    ·have:=Xba hp j oj b (by simpa using hj) hb i oi (by simpa using hij) (by simpa using hi)
     exact this
    ·have:=e3 i o (by simpa using ho)
     simpa using this
    ·have:=e4 k o (by simpa using ho)
     simpa using this
   ·cases h
  ·cases h
 ·cases h
theorem Jbf(E:Env2 P){D0:CallF}(hD:CallsSound P E.G D0)(hL:CallsLow D0)(hm:P.follows .mixedOrders=true){id:Nat}{ops:Array Oper}{B:List Nat}{s s1:St}{K:Exit->St->Prop}{o:Oper}{c:Call}{l:List Value}{ch:List PanicEntry}{h':Heap}
  (hB:Qsr ops.toList []=some B) (hp:Ud (Y0e p0 f args ops.toList B 0) (Y0e p0 f args ops.toList B 0) B []=true) (ho:ops.toList[p0]? = some o) (hop:o.op=.call c) (hc1:c.callee=.value (.func f)) (hc2:c.args=args) (hod:o.dst=some d0) (hdo:Yox d0 p0 ops.toList 0=true)
  (hr:Q4s E (Y0e p0 f args ops.toList B 0)=true) (hx:Xq9 E D0 none (Y0e p0 f args ops.toList B 0) (Y0e p0 f args ops.toList B 0) s=some (.normal,s1)) (hv:s1.t.t.get d0=some (.func (.func f) ⟨l⟩ #[])) (hfn:(E.fn.get f).isSome=true)
  (hcall:CallOK P E.G f l s.h (fun r h1=>r=.panic ch/\h1=h')) (hk:∀ T:Tm,T.size=s.t.size->K (.panic ch) ⟨T,s.ds,h'⟩):CW P E.G none s.h.next (.region id ops true) s K:=by
 have hBl:B.length=ops.toList.length:=by simpa using Ztm _ _ _ hB
 obtain⟨hlen,hget⟩:=Zsx (p0:=p0) (f:=f) (args:=args) ops.toList B 0 hBl
 obtain⟨ops',hops'⟩:∃ ops':Array Oper,ops'.toList=Y0e p0 f args ops.toList B 0:=⟨(Y0e p0 f args ops.toList B 0).toArray,rfl⟩
 rw[<- hops']at hp hr hx hlen
 have hB':Qsr ops'.toList []=some B:=by rw[hops',Ztx _ _ _ _ hBl,hB]
 have hgA:∀ k:Nat,ops'[k]? = match ops[k]?,B[k]? with | some o,some b=>some (Z27 p0 f args k b o) | _,_=>none:=by
  intro k
  have:=hget k
  rw[<- hops']at this
  simpa using this
 have hsz:ops'.size=ops.size:=by simpa using hlen
 have hBk:∀ (k:Nat),k < ops.size->∃ b,B[k]? = some b:=fun k hk=>⟨B[k]'(by rw[hBl];simpa using hk),List.getElem?_eq_getElem _⟩
 have hmap:∀ {A:Type} (g:Oper->A),(∀ k b o,g (Z27 p0 f args k b o)=g o)->∀ i:Nat,(ops'[i]?).map g=(ops[i]?).map g:=by
  intro A g hg i
  rw[hgA i]
  cases h1:ops[i]? with
  | none=>simp
  | some o1 =>
   obtain⟨b,hb⟩:=hBk i (Qqm h1)
   simp[hb,hg]
 have haf:=hmap (·.after) fun k b o=>(X1d k b o).1
 have hds:=hmap (·.dst) fun k b o=>(X1d k b o).2.1
 obtain⟨sy,R,h1,h2,h3⟩:=Xqj (B:=B) ops'.toList 0 s s1 s hr hx ⟨rfl,rfl,rfl,rfl⟩
 have hd:Q5m E D0 ops'.toList s=some sy:=by
  unfold Q5m
  simp only[hB',hp,if_true,h1,Q7p h3]
 obtain⟨σ,cn,e0,e1⟩:=Zmg hB' hd
 have hfree:∀ j,j < ops'.size->Y9n E ops' σ j:=fun j hj=>Y96 cn (by simp[hj]) (Ymg _ hr j ops'[j] (by simp[hj]))
 have hpos:p0 < ops.size:=Qqm (by simpa using ho)
 obtain⟨b0,hb0⟩:=hBk p0 hpos
 have ho2:ops[p0]? = some o:=by simpa using ho
 have ho':ops'[p0]? = some {o with op:=.makeFunc (.func f) args #[]}:=by
  rw[hgA p0,ho2]
  simp[hb0,Z27]
 have hp0':p0 < ops'.size:=by omega
 have keep:∀ k,p0+1+k<=ops'.size->(σ (p0+1+k)).t.t.get d0=(σ (p0+1)).t.t.get d0:=by
  intro k
  induction k with
  | zero=>intro _;rfl
  | succ k ih =>
   intro hk'
   have hlt:p0+1+k < ops'.size:=by omega
   have hne:(ops'[p0+1+k]'hlt).dst≠some d0:=by
    have h9:=hds (p0+1+k)
    have hlt2:p0+1+k < ops.size:=by omega
    rw[Array.getElem?_eq_getElem hlt,Array.getElem?_eq_getElem hlt2]at h9
    simp only[Option.map_some,Option.some.injEq]at h9
    rw[h9]
    exact Yhy _ 0 hdo (p0+1+k) _ (by simp[hlt2]) (by omega)
   obtain⟨_,_,h⟩:=cn.step (p0+1+k) (ops'[p0+1+k]'hlt) (by simp[hlt])
   rw[show p0+1+(k+1)=p0+1+k+1 by omega]
   rcases h with⟨_,h⟩ | ⟨_,v',h',_,h,_⟩ <;> (rw[h,Zr2 _ _ _ _ _ hne];exact ih (by omega))
 have hvp:(σ (p0+1)).t.t.get d0=some (.func (.func f) ⟨l⟩ #[]):=by
  have:=keep (ops'.size-(p0+1)) (by omega)
  rw[show p0+1+(ops'.size-(p0+1))=ops'.size by omega,e1]at this
  rw[<- this,show sy.t=s1.t from h2.t]
  exact hv
 obtain⟨hdst,_,hst⟩:=cn.step p0 _ ho'
 have hst':Qe ops'.toList (σ p0).t {o with op:=.makeFunc (.func f) args #[]}=some true/\evs E.G (σ p0).t args.toList=some l:=by
  rcases hst with⟨_,h⟩ | ⟨hw,v',h9,hv',h,_⟩
  ·rw[h]at hvp
   simp only[hod]at hvp
   rw[Xde]at hvp
   simp[Qo]at hvp
  ·refine⟨hw,?_⟩
   rw[h]at hvp
   simp only[hod]at hvp
   rw[Xde]at hvp
   simp only[Option.some.injEq]at hvp
   subst hvp
   simp only[Qmi,aop]at hv'
   cases he:evs E.G (σ p0).t args.toList with
   | none=>simp[he]at hv'
   | some x =>
    simp only[he,evs,g0,Xxt]at hv'
    simp at hv'
    rw[<- hv'.1]
 intro α a w S _
 refine wpIn_region_any hm ?_
 have H':HRel E.G α s.h {w with drawn:=w.drawn+1}:=S.h.same rfl
 have S':SRel E.G α s a {w with drawn:=w.drawn+1}:=⟨H',S.t,S.ds,S.okd⟩
 subst e0
 refine Z6m (B:=B) (σ:=σ) (ops':=ops') (E:=E) (C:=D0) (α0:=α) (w0:={w with drawn:=w.drawn+1}) (p0:=p0) hsz haf hds cn hD hL (cn.wf hD H' S.t) hp0' ?_ ?_ _ _ _ _ _ _ 0 (by simp[hsz]) (by simp[hsz]) (by rw[<- hsz];exact Zhi cn rfl S') ?_
 ·intro i b hb hne hbt
  rw[hgA i]
  cases h7:ops[i]? with
  | none=>simp
  | some oi=>simp[hb,Z27,hne,hbt]
 ·intro listed α1 a1 w1 T p I hn hafter K0
  have hp:p=0:=by
   rcases I.last with h | ⟨j,h3,h4,_⟩
   ·exact h
   ·exact absurd (hfree j (I.small j h3)) h4
  subst hp
  have hlook:=I.looks cn ho' hn (fun e he hbd=>hafter _ ho' e he hbd)
  obtain⟨hl1,hl2⟩:=Ze9 (ops:=ops'.toList) (o:={o with op:=.makeFunc (.func f) args #[]}) (G:=E.G) hlook
  have hw:Qe ops.toList T o=some true:=by
   rw[<- Zsn (l:=ops.toList) (l':=ops'.toList) (o:=o) (o':={o with op:=.makeFunc (.func f) args #[]}) rfl ?_]
   ·exact hl2.trans hst'.1
   ·intro i
    have:=hds i
    simpa[Q49]using this
  have hev:evs E.G T args.toList=some l:=by
   rw[Xfp (t':=(σ p0).t) fun x hx=>hl1 x (by simpa[Op.operands]using hx)]
   exact hst'.2
  unfold wpOpIn
  rw[ho2]
  simp only
  rw[if_pos (Qml (G:=E.G) I.t hw)]
  have S1:SRel E.G α1 ⟨T,(σ 0).ds,(σ 0).h⟩ a1 w1:=⟨I.h,I.t,I.ds,I.okd⟩
  have hstep:Qw E (Zzi P E.G) none o ⟨T,(σ 0).ds,(σ 0).h⟩ (fun e s'=>e=.panic ch/\s'=⟨T,(σ 0).ds,h'⟩):=by
   obtain⟨fn,hfn⟩:=Option.isSome_iff_exists.1 hfn
   have hd9:Qgq ⟨T,(σ 0).ds,(σ 0).h⟩ o.dst=true:=by
    have h8:Qgq (σ p0) o.dst=true:=hdst
    rw[hod]at h8 ⊢
    simp only[Qgq]at h8 ⊢
    rw[I.ts,<- cn.size (i:=p0) (by omega)]
    exact h8
   have ha:aop E T (σ 0).h o=some (.enter f l (σ 0).h):=by
    simp only[aop,hop,hc2,hev,hc1,aev,Qg,hfn]
    simp
   simp only[Qw,hd9,hop,ha]
   exact hcall.mono fun r h1 ⟨q1,q2⟩=>by subst q1 q2;exact⟨rfl,rfl⟩
  refine Y8x E (Y35 _ _) hstep S1 (fun _ _ _ _ h=>by cases h.1) ?_
  rintro α2 a2 w2 s2 ch2 ⟨q1,q2⟩ q3 q4 q5 q6
  cases q1
  subst q2
  refine⟨α2,.panic ch,⟨T,(σ 0).ds,h'⟩,hk T (by rw[I.ts]),rfl,q6,I.ext.trans q3 (Nat.le_refl _),?_,q5⟩
  exact(Turn.drawn _ _ _ _).trans (I.turn.trans q4)
 ·intro hj
  simp only[Did,Array.getD_eq_getD_getElem?,Array.getElem?_replicate]at hj
  split at hj <;> simp at hj
end
section
variable{P:Program}{E:Env2 P}{C:CallP}{ops:Array Oper}
def takes(o:Oper):Bool:=match o.op with
 | .move _ | .assign _ | .fieldAddr .. | .indexAddr .. => true
 | _=>false
theorem Z0g{α:Ren}{h:Heap}{w:World}(H:HRel E.G α h w){t:Tm}{a:Act}(ht:TRel α t a.tmps){o:Oper}(hf:takes o=true){v:Value}{h1:Heap}(hr:aop E t h o=some (.val v h1)) :
  okV (dom α) v/\h1=h/\∀ w',(execOp a.eval o).run P w'=.ok (.value (ren α v)) w':=by
 have ev:∀ {x:Operand} {v:Value},aev E.G t x=some v->okV (dom α) v/\a.eval x=ren α v:=fun hx=>Q83 H ht hx
 unfold takes at hf
 unfold aop at hr
 split at hf
 ·rename_i x hop
  simp only[hop]at hr
  obtain⟨u,hu,e⟩:=Qbw hr
  cases e
  exact⟨(ev hu).1,rfl,fun w'=>by simp only[execOp,hop,(ev hu).2];rfl⟩
 ·rename_i x hop
  simp only[hop]at hr
  obtain⟨u,hu,e⟩:=Qbw hr
  cases e
  exact⟨(ev hu).1,rfl,fun w'=>by simp only[execOp,hop,(ev hu).2];rfl⟩
 ·rename_i s x f hop
  simp only[hop]at hr
  split at hr
  ·rename_i v0 h0
   obtain⟨u,hu,e⟩:=Qbw hr
   cases e
   clear hr
   have hx:=(ev h0).1
   unfold Vb at hu
   split at hu
   ·rename_i a r hr
    simp only[okV]at hx
    split at hu
    ·rename_i fs hd
     split at hu
     ·rename_i fd hfd
      split at hu
      ·rename_i rf hrf
       split at hu
       ·cases hu
       ·rename_i hsz
        cases hu
        rw[Q49]at hfd
        have hfd':fs[f]? = some fd:=by simpa using hfd
        refine⟨by simp only[okV,Qoj];exact⟨hx.1,Qw8 _ _ hx.2⟩,rfl,fun w' => ?_⟩
        have hne:¬ rf.size=0:=by simpa using hsz
        simp only[execOp,hop,(ev h0).2]
        simp only[Instr.fieldAt,Sem.run_bind,run_underlying (E.tyok s r hr).1,hd,Result.andThen_ok,hfd',ren,Option.map_some,Instr.sureAddr,Sem.run_pure,fieldPlace,
         Vj (E.tyok _ rf hrf),hne,if_false]
        rw[Qku α a hx.1 hx.2]
      ·cases hu
     ·cases hu
    ·cases hu
   ·cases hu
  ·cases hr
 ·rename_i ty x ix hop
  simp only[hop]at hr
  split at hr
  ·rename_i v0 v1 h0 h1
   obtain⟨u,hu,e⟩:=Qbw hr
   cases e
   clear hr
   have hx:=(ev h0).1
   unfold Xq at hu
   split at hu
   ·rename_i r k i hr
    split at hu
    ·rename_i n e a hd
     split at hu
     ·rename_i re hre
      split at hu
      ·rename_i hc
       cases hu
       simp only[okV]at hx
       refine⟨by simp only[okV,Qoj];exact⟨hx.1,Qw8 _ _ hx.2⟩,rfl,fun w' => ?_⟩
       simp only[execOp,hop,(ev h0).2,(ev h1).2]
       simp only[Instr.indexAt,ren,asIntOf,Sem.run_bind,Sem.run_pure,Result.andThen_ok,run_underlying (E.tyok ty r hr).1,hd,Option.map_some,Instr.sureAddr,
        Sem.run_ite,hc,and_self,if_true,Vj (E.tyok _ re hre)]
       rw[Qku α a hx.1 hx.2]
      ·cases hu
     ·cases hu
    ·rename_i e a n c hd
     split at hu
     ·rename_i re hre
      split at hu
      ·rename_i hc
       cases hu
       simp only[okV]at hx
       refine⟨by simp only[okV,Qoj];exact⟨hx.1,Qw8 _ _ hx.2⟩,rfl,fun w' => ?_⟩
       simp only[execOp,hop,(ev h0).2,(ev h1).2]
       simp only[Instr.indexAt,ren,asIntOf,Sem.run_bind,Sem.run_pure,Result.andThen_ok,run_underlying (E.tyok ty r hr).1,hd,Option.map_some,
        Sem.run_ite,hc,and_self,if_true,Vj (E.tyok _ re hre)]
       rw[Qku α a hx.1 hx.2]
      ·cases hu
     ·cases hu
    ·cases hu
   ·cases hu
  ·cases hr
 ·cases hf
def Z1x(E:Env2 P)(C:CallP)(l:List Oper)(F:St->Prop)(i:Nat)(s:St):Prop:=match nth l i with
 | none=>False
 | some o=>match Qe l s.t o with
  | some true=>Qw E C none o s (Zcj F (fun _ _=>False))
  | some false=>Qgq s o.dst=true/\F (s.put o.dst Qo s.h)
  | none=>False
def Zvu(E:Env2 P)(C:CallP)(ops:Array Oper)(l:List Oper)(K:St->Prop):Nat->Array Bool->St->Prop
 | 0,listed,s=>Region.ready .any ops listed=[]/\K s
 | n+1,listed,s=>(Region.ready .any ops listed=[]/\K s) ∨
  (∃ i o v,nth l i=some o/\takes o=true/\Region.noSelect ops=true/\Region.free .any ops listed i=true/\(Region.ready .any ops listed).contains i=true/\Qe l s.t o=some true/\aop E s.t s.h o=some (.val v s.h)/\Qgq s o.dst=true/\Zvu E C ops l K n (listed.setIfInBounds i true) (s.put o.dst v s.h)) ∨
  (∃ rs,Region.ready .any ops listed=rs/\rs ≠ []/\∀ i ∈ rs,Z1x E C l (Zvu E C ops l K n (listed.setIfInBounds i true)) i s)
theorem Zui{i:Nat}{o:Oper}(h:nth (ops.toList.map bare) i=some o):∃ o',ops[i]? = some o'/\o=bare o':=by
 rw[Q49,List.getElem?_map,Option.map_eq_some_iff]at h
 obtain⟨o',h1,rfl⟩:=h
 exact⟨o',by simpa using h1,rfl⟩
theorem Ybf(E:Env2 P)(hC:CallPSound P E.G C){K:St->Prop}:∀ (n:Nat) (listed:Array Bool) (s:St) (α:Ren) (a:Act) (w:World),
  Zvu E C ops (ops.toList.map bare) K n listed s->SRel E.G α s a w->∀ (Q:Exit->Act->World->Prop),(∀ c a w,¬ Q (.panic c) a w) ->
  (∀ α' a' w' s1,K s1->Ext s.h.next α α'->Turn α s.h w α' s1.h w'->SRel E.G α' s1 a' w'->Q .normal a' w') ->
  wpAnyIn (Qmn none α) 0 P .any ops Q n listed a w
 | 0,listed,s,α,a,w,h,S,Q,hp,hQ=>by
  obtain⟨h1,h2⟩:=h
  exact⟨h1,hQ α a w s h2 (Ext.refl _ _) (Turn.refl _ _ _) S⟩
 | n+1,listed,s,α,a,w,h,S,Q,hp,hQ=>by
  rcases h with⟨h1,h2⟩ | ⟨i,o,v,h1,h2,h0,h3,h4,h5,h6,h7,h8⟩ | ⟨rs,h1,h2,h3⟩
  ·exact wpAnyIn_done h1 (hQ α a w s h2 (Ext.refl _ _) (Turn.refl _ _ _) S) _
  ·obtain⟨o',ho,rfl⟩:=Zui h1
   have hr:aop E s.t s.h o'=some (.val v s.h):=h6
   have hf:takes o'=true:=h2
   obtain⟨r1, -,r2⟩:=Z0g S.h S.t hf hr
   have hnc:∀ w,o'.about P w a.eval=none:=fun w=>by
    unfold takes at hf
    unfold Oper.about
    split at hf <;> first
     | (cases hf;done)
     | (rename_i hop;simp[hop])
   have hd:Qgq s o'.dst=true:=h7
   have hw:Qe ops.toList s.t o'=some true:=by rw[<- Q1z];exact h5
   refine wpAnyIn_take (v:=ren α v) rfl ho h0 h3 h4 (fun c a w hq=>absurd hq (hp c _ w)) ⟨.inl ⟨Qml (G:=E.G) S.t hw,r2⟩,hnc⟩ ?_
   have S1:SRel E.G α (s.put o'.dst v s.h) (a.put o'.dst (ren α v)) w:=S.put hd r1
   have hh:(s.put (bare o').dst v s.h).h=s.h:=Xgd _ _ _ _
   exact Ybf E hC n _ _ α _ w h8 S1 Q hp (fun α' a' w' s1 q1 q2 q3 q4=>hQ α' a' w' s1 q1 (by rw[hh]at q2;exact q2) (by rw[hh]at q3;exact q3) q4)
  ·refine wpAnyIn_all h1 h2 fun i hi => ?_
   have hone:=h3 i hi
   unfold Z1x at hone
   split at hone
   ·exact hone.elim
   ·rename_i o ho
    obtain⟨o',ho',rfl⟩:=Zui ho
    unfold wpOpIn
    simp only[ho']
    rw[Q1z]at hone
    split at hone
    ·rename_i hw
     rw[if_pos (Qml (G:=E.G) S.t hw)]
     have hst:Qw E C none o' s (Zcj (Zvu E C ops (ops.toList.map bare) K n (listed.setIfInBounds i true)) (fun _ _=>False)):=hone
     refine Y8x E hC hst S (fun α' a' w' s1 hk q2 q3 q4 => ?_) (fun α' a' w' s1 ch hk _ _ _ _=>hk.elim)
     have:=Ybf E hC n (listed.setIfInBounds i true) s1 α' a' w' hk q4 Q hp (fun α'' a'' w'' s2 r1 r2 r3 r4=>hQ α'' a'' w'' s2 r1 (q2.trans r2 q3.next) (q3.trans r3) r4)
     exact this
    ·rename_i hw
     rw[if_neg (by rw[Qml (G:=E.G) S.t hw];simp)]
     refine⟨fun f _=>Qr4 none α f,?_⟩
     obtain⟨hd,h4⟩:=hone
     have hh:(s.put (bare o').dst Qo s.h).h=s.h:=Xgd _ _ _ _
     exact Ybf E hC n _ _ α _ w h4 (S.putU hd) Q hp (fun α' a' w' s1 q1 q2 q3 q4=>hQ α' a' w' s1 q1 (by rw[hh]at q2;exact q2) (by rw[hh]at q3;exact q3) q4)
    ·exact hone.elim
theorem Z9g(E:Env2 P)(hC:CallPSound P E.G C)(hm:P.follows .mixedOrders=true){id:Nat}{K:Exit->St->Prop}{s:St}(h:Zvu E C ops (ops.toList.map bare) (K .normal) ops.size (Array.replicate ops.size false) s) :
  CW P E.G none s.h.next (.region id ops true) s K:=by
 intro α a w S _
 refine wpIn_mono (Q:=fun e' a' w' => ∃ α' s',e'=.normal/\K .normal s'/\Ext s.h.next α α'/\Turn α s.h w α' s'.h w'/\SRel E.G α' s' a' w') ?_ ?_
 ·refine wpIn_region_any hm ?_
  have H':HRel E.G α s.h {w with drawn:=w.drawn+1}:=S.h.same rfl
  have S':SRel E.G α s a {w with drawn:=w.drawn+1}:=⟨H',S.t,S.ds,S.okd⟩
  refine Ybf E hC _ _ s α a _ h S' _ (fun c a w ⟨_,_,e,_⟩=>by cases e) fun α' a' w' s1 k1 k2 k3 k4=>⟨α',s1,rfl,k1,k2,(Turn.drawn _ _ _ _).trans k3,k4⟩
 ·rintro e' a' w' ⟨α',s',rfl,k1,k2,k3,k4⟩
  exact⟨α',.normal,s',k1,rfl,trivial,k2,k3,k4⟩
end
def Z24(t:Tm)(ds:List Deferred)(l:Nat)(K:Exit->St->Prop)(r:AEnd)(h:Heap):Prop:=match Q3q t ds l (some (r,h))with
 | some (e,s1)=>K e s1
 | none=>False
def Zv3{P:Program}(E:Env2 P)(C:CallP)(rd:Option Nat)(g:Operand)(ps:Array Tmp)(asn bd:Code)(s:St)(K:Exit->St->Prop):Prop :=
 match aev E.G s.t g with
 | some (.func (.func f) first captured)=>match E.fn.get f with
  | none=>False
  | some _=>match rd with
   | none=>C.fn f (first.toList ++ [.func (.yield (s.h.next+1)) #[] #[]]++captured.toList) ((s.h.push (.obj .defs)).push (.obj (.loop .ready none s.t ps asn bd s.h.next)))
     (Z24 s.t ({target:=.collected s.h.next,args:=#[]}::s.ds) (s.h.next+1) K)
   | some l0=>match s.h.get l0 with
    | some (.obj (.loop _ _ _ _ _ _ d))=>C.fn f (first.toList ++ [.func (.yield s.h.next) #[] #[]]++captured.toList) (s.h.push (.obj (.loop .ready none s.t ps asn bd d))) (Z24 s.t s.ds s.h.next K)
    | _=>False
 | _=>False
def Xmi(F:St->Prop)(K:Exit->St->Prop)(e:Exit)(s:St):Prop:=match e with
 | .normal=>F s
 | e=>K e s
def Q2r(id:Nat)(K:Exit->St->Prop)(e:Exit)(s:St):Prop:=match e with
 | .exit id'=>if id'=id then K .normal s else K (.exit id') s
 | e=>K e s
theorem V5(F:St->Prop)(K:Exit->St->Prop)(s:St):Xmi F K .normal s=F s:=rfl
theorem Qba(F:St->Prop)(K:Exit->St->Prop)(s:St):Xmi F K .ret s=K .ret s:=rfl
theorem Qa0(F:St->Prop)(K:Exit->St->Prop)(id:Nat)(s:St):Xmi F K (.exit id) s=K (.exit id) s:=rfl
theorem U4(F:St->Prop)(K:Exit->St->Prop)(ch:List PanicEntry)(s:St):Xmi F K (.panic ch) s=K (.panic ch) s:=rfl
theorem J9(id:Nat)(K:Exit->St->Prop)(s:St):Q2r id K .normal s=K .normal s:=rfl
theorem Wx(id:Nat)(K:Exit->St->Prop)(s:St):Q2r id K .ret s=K .ret s:=rfl
theorem V0(id:Nat)(K:Exit->St->Prop)(ch:List PanicEntry)(s:St):Q2r id K (.panic ch) s=K (.panic ch) s:=rfl
theorem U6(id id':Nat)(K:Exit->St->Prop)(s:St):Q2r id K (.exit id') s=if id'=id then K .normal s else K (.exit id') s:=rfl
def Z3h(body:St->(Exit->St->Prop)->Prop)(s:St)(K:Exit->St->Prop):Prop :=
 ∃ (I:Nat->St->Prop) (k:Nat),I k s/\∀ k s',I k s'->s.h.next<=s'.h.next->body s' (Xmi (fun s'' => ∃ k',k' < k/\I k' s'') K)
def Wy{P:Program}(E:Env2 P)(C:CallP)(D0:CallF)(rd:Option Nat):Code->St->(Exit->St->Prop)->Prop
 | .skip,s,K=>K .normal s
 | .label _,s,K=>K .normal s
 | .ret,s,K=>K .ret s
 | .exit id,s,K=>K (.exit id) s
 | .seq x y,s,K=>Wy E C D0 rd x s (Xmi (fun s'=>Wy E C D0 rd y s' K) K)
 | .cond c x y,s,K => ∃ b,aev E.G s.t c=some (.bool b)/\(b=true->Wy E C D0 rd x s K)/\(b=false->Wy E C D0 rd y s K)
 | .block id c,s,K=>Wy E C D0 rd c s (Q2r id K)
 | .loop c,s,K=>(∀ l,rd=some l->l < s.h.next)/\Z3h (Wy E C D0 rd c) s K
 | .region _ ops true,s,K=>(∃ s',Q5m E D0 ops.toList s=some s'/\K .normal s')∨(∃ B s1,Qsr ops.toList []=some B/\Ud ops.toList ops.toList B []=true/\Q4s E ops.toList=true/\Xq9 E D0 none ops.toList ops.toList s=some (.normal,s1)/\K .normal s1) ∨
  (∃ B s1 D1,CallsSound P E.G D1/\CallsLow D1/\Z8y D1/\Qsr ops.toList []=some B/\Ud ops.toList ops.toList B []=true/\Yl0 E ops.toList=true/\Xq9 E D1 none ops.toList ops.toList s=some (.normal,s1)/\K .normal s1) ∨
  (∃ B s1 R L,(∀ e ∈ L,KEok P E.G e)/\Qsr ops.toList []=some B/\Ud ops.toList ops.toList B []=true/\runT E L ops.toList B ops.toList 0 s=some (s1,R)/\Xh E R B R B 0=true/\K .normal s1) ∨
  (C.die=true/\rd=none/\(Zvu E C ops (ops.toList.map bare) (K .normal) ops.size (Array.replicate ops.size false) s ∨ ∃ (B:List Nat) (p0 d0 f:Nat) (args:Array Operand) (o:Oper) (c:Call) (l:List Value) (s1:St) (ch:List PanicEntry) (h':Heap),Qsr ops.toList []=some B/\Ud (Y0e p0 f args ops.toList B 0) (Y0e p0 f args ops.toList B 0) B []=true/\ops.toList[p0]? = some o/\o.op=.call c/\c.callee=.value (.func f)/\c.args=args /\
   o.dst=some d0/\Yox d0 p0 ops.toList 0=true/\Q4s E (Y0e p0 f args ops.toList B 0)=true/\Xq9 E D0 none (Y0e p0 f args ops.toList B 0) (Y0e p0 f args ops.toList B 0) s=some (.normal,s1)/\s1.t.t.get d0=some (.func (.func f) ⟨l⟩ #[])/\(E.fn.get f).isSome=true /\
   C.fn f l s.h (fun r h1=>r=.panic ch/\h1=h')/\∀ T:Tm,T.size=s.t.size->K (.panic ch) ⟨T,s.ds,h'⟩))
 | .region _ ops false,s,K=>X0n E C rd ops.toList K ops.toList s
 | .rangeFunc g ps asn bd,s,K=>Zv3 E C rd g ps asn bd s K
 | _,_,_=>False
def Jd4{P:Program}(E:Env2 P)(C:CallP)(D0:CallF)(rd:Option Nat)(y:Code)(K:Exit->St->Prop)(s:St):Prop:=Wy E C D0 rd y s K
section
variable{P:Program}{E:Env2 P}{C:CallP}{rd:Option Nat}{α:Ren}{s:St}{h:Heap}{w:World}
theorem Z2l(E:Env2 P){C:CallP}(hC:CallPSound P E.G C){rd:Option Nat}{g:Operand}{ps:Array Tmp}{asn bd:Code}{K:Exit->St->Prop}(hh:Zv3 E C rd g ps asn bd s K) :
  CW P E.G rd s.h.next (.rangeFunc g ps asn bd) s K:=by
 intro α a w S hl
 unfold Zv3 at hh
 split at hh
 ·rename_i f first captured hg
  obtain⟨g1,g2⟩:=Q83 S.h S.t hg
  split at hh
  ·exact hh.elim
  ·rename_i F hF
   obtain⟨q1,q2,q3⟩:=E.fnok _ _ hF
   have hbody:F.body.isNone=false:=by cases hb:F.body <;> simp[hb]at q3 ⊢
   have g3:a.eval g=.func (.func f) (first.map (ren α)) (captured.map (ren α)):=by rw[g2];simp[ren,Xw8,Qm4]
   simp only[okV,Qxx]at g1
   have hinv:∀ (args:Array Value) (w:World),(invoke (.fn (.func f) (captured.map (ren α))) args).run P w=.ok (.enter f (args++captured.map (ren α))) w:=fun args w=>Ym7 E hF _ _ w
   have go:∀ (α2:Ren) (w2:World) (h2:Heap) (l:Nat) (ds:List Deferred) (mark:List Deferred),Ext s.h.next α α2->s.h.next<=h2.next->HRel E.G α2 h2 w2->Turn α s.h w α2 h2 w2->dom α2 l ->
     (mark++a.defers=ds.map (Qoo α2))->(∀ d ∈ ds,Xqi (dom α2) d) ->
     C.fn f (first.toList ++ [.func (.yield l) #[] #[]]++captured.toList) h2 (Z24 s.t ds l K) ->
     CallsIn (Qmn rd α) 0 P f (first.map (ren α) ++ #[Value.func (.yield (Vh α2 l)) #[] #[]]++captured.map (ren α)) w2 (rangePost (Qmn rd α) 0 P (Vh α2 l)
      (fun e' a' w' => ∃ α' e0 s',K e0 s'/\e'=Qjv α' e0/\Qsd (dom α') e0/\Ext s.h.next α α'/\Turn α s.h w α' s'.h w'/\SRel E.G α' s' a' w') {a with defers:=mark++a.defers}):=by
    intro α2 w2 h2 l ds mark he hn H2 T2 hl2 hds hok haft
    have hcongr:∀ b,dom α b->α2 b=α b:=fun b hb=>he b (Qhb S.h hb)
    obtain⟨a1,a2⟩:=Zlt g1 hcongr hl2 rfl
    rw[a1]
    refine Q2k ((hC.fn _ _ _ _ haft α2 w2 H2 a2).mono ?_)
    rintro e' w3 ⟨α3,r,h3,hk,rfl,k1,k2,k3,k4⟩
    unfold Z24 at hk
    split at hk
    ·rename_i e0 s1 haf
     have hc3:∀ b,dom α2 b->α3 b=α2 b:=fun b hb=>k2 b (Qhb H2 hb)
     have hl3:dom α3 l:=by simpa[dom,hc3 l hl2]using hl2
     have er:Vh α2 l=Vh α3 l:=(Qbu (hc3 l hl2)).symm
     have S3:SRel E.G α3 ⟨s.t,ds,h3⟩ {a with defers:=mark++a.defers} w3:=by
      refine⟨k4,(S.t.keep hcongr).keep hc3,?_,fun d hd=>Q0j (fun b hb=>by simpa[dom,hc3 b hb]using hb) (hok d hd)⟩
      show mark++a.defers=_
      rw[hds]
      apply List.map_congr_left
      intro d hd
      exact(Qsc hc3 (hok d hd)).symm
     rw[er]
     refine Zt0 haf hl3 k1 S3 fun w' T' S' hx => ?_
     exact⟨α3,e0,s1,hk,rfl,hx,he.trans k2 hn,(T2.trans k3).trans T',S'⟩
    ·exact hk.elim
   split at hh
   ·refine wpIn_rangeFunc fun fn _ => ?_
    obtain⟨α1,H1,T1,d1,b1,x1⟩:=Zca S.h (x:=.defs) (o:=.deferred (some [])) rfl
    have S1:=S.step x1 H1
    obtain⟨α2,H2,T2,d2,b2,x2⟩:=Xuu (ps:=ps) («as» := asn) (bd:=bd) H1 S1.t d1 fn
    have hn1:(s.h.push (.obj .defs)).next=s.h.next+1:=rfl
    have x12:Ext s.h.next α α2:=x1.trans x2 (by omega)
    have hb2:Vh α2 s.h.next=w.heap.size:=by rw[Qbu (x2 _ (by omega)),b1]
    have hd2:dom α2 s.h.next:=by have:=x2 s.h.next (by omega);simpa[dom,this]using d1
    rw[Y44]at b2
    rw[b1]at H2 T2
    refine⟨w.heap.size+1,[{target:=.collected w.heap.size,args:=#[]}],(w.alloc (.deferred (some []))).alloc (.loop {state:=.ready,pending:=none,fn:=fn,tmps:=a.tmps,params:=ps,assign:=asn,body:=bd,defers:=w.heap.size}),⟨.fn (.func f) (captured.map (ren α)),first.map (ren α) ++ #[.func (.yield (w.heap.size+1)) #[] #[]]⟩,(w.alloc (.deferred (some []))).alloc (.loop {state:=.ready,pending:=none,fn:=fn,tmps:=a.tmps,params:=ps,assign:=asn,body:=bd,defers:=w.heap.size}),f,_,(w.alloc (.deferred (some []))).alloc (.loop {state:=.ready,pending:=none,fn:=fn,tmps:=a.tmps,params:=ps,assign:=asn,body:=bd,defers:=w.heap.size}),?_,?_,?_,hinv _ _,by rw[Qkr];simp,?_⟩
    ·rw[Qvd]
     exact run_enterLoop_outer fn a.tmps ps asn bd
    ·show(Deferred.ofValue (a.eval g) _).run P _=_
     rw[g3];simp[Deferred.ofValue,rangeCall,Act.eval]
    ·exact fun f' _=>Qr4 none α f'
    ·have:=go α2 _ _ (s.h.next+1) ({target:=.collected s.h.next,args:=#[]}::s.ds) [{target:=.collected w.heap.size,args:=#[]}] x12 (by show s.h.next<=s.h.next+1+1;omega) H2 (T1.trans T2) d2 ?_ ?_ hh
     ·rw[<- hn1,b2]at this
      exact this
     ·have S2:=S.step x12 H2
      simp only[List.map_cons,Qoo,hb2,renA,renL]
      rw[<- S2.ds]
      rfl
     ·intro d hd
      rcases List.mem_cons.1 hd with rfl | hd
      ·exact⟨hd2,by simp[okA,okL]⟩
      ·exact(S.step x12 H2).okd d hd
   ·rename_i l0
    split at hh
    ·rename_i st0 pend0 t0 ps0 as0 bd0 d0 hg0
     refine wpIn_rangeFunc fun fn _ => ?_
     have hl0:=hl l0 rfl
     obtain⟨r0,r1,_,_,_,_,_,_,hd0,r2,_⟩:=Xxa S.h hl0 hg0
     obtain⟨α2,H2,T2,d2,b2,x2⟩:=Xuu (ps:=ps) («as» := asn) (bd:=bd) S.h S.t hd0 fn
     have S2:=S.step x2 H2
     refine⟨w.heap.size,[],w.alloc (.loop {state:=.ready,pending:=none,fn:=fn,tmps:=a.tmps,params:=ps,assign:=asn,body:=bd,defers:=Vh α d0}),⟨.fn (.func f) (captured.map (ren α)),first.map (ren α) ++ #[.func (.yield w.heap.size) #[] #[]]⟩,w.alloc (.loop {state:=.ready,pending:=none,fn:=fn,tmps:=a.tmps,params:=ps,assign:=asn,body:=bd,defers:=Vh α d0}),f,_,w.alloc (.loop {state:=.ready,pending:=none,fn:=fn,tmps:=a.tmps,params:=ps,assign:=asn,body:=bd,defers:=Vh α d0}),?_,?_,?_,hinv _ _,by rw[Qkr];simp,?_⟩
     ·rw[Qvd]
      unfold Instr.enterLoop
      simp only[Option.map_some,Sem.run_bind,run_getLoop r1,Result.andThen,Sem.run_pure,run_newObj_alloc,r2]
     ·show(Deferred.ofValue (a.eval g) _).run P _=_
      rw[g3];simp[Deferred.ofValue,rangeCall,Act.eval]
     ·exact fun f' _=>Qr4 _ α f'
     ·have:=go α2 _ _ s.h.next s.ds [] x2 (by show s.h.next<=s.h.next+1;omega) H2 T2 d2 (by simpa using S2.ds) S2.okd hh
      rw[b2]at this
      exact this
    ·exact hh.elim
 ·exact hh.elim
theorem Q9i(E:Env2 P){C:CallP}(hC:CallPSound P E.G C){D0:CallF}(hD:CallsSound P E.G D0)(hL:CallsLow D0)(hm:P.follows .mixedOrders=true){rd:Option Nat}:∀ (c:Code) (s:St) (K:Exit->St->Prop),Wy E C D0 rd c s K->CW P E.G rd s.h.next c s K
 | .skip,s,K,h=>Zym h
 | .label _,s,K,h=>Zuf h
 | .ret,s,K,h=>Z5y h
 | .exit _,s,K,h=>Z1t h
 | .seq x y,s,K,h=>by
  simp only[Wy]at h
  refine Z70 ((Q9i E hC hD hL hm x _ _ h).mono (Nat.le_refl _) ?_)
  intro e s' hk
  cases e with
  | normal=>exact Q9i E hC hD hL hm y _ _ hk
  | _=>exact hk
 | .cond c x y,s,K,h=>by
  simp only[Wy]at h
  obtain⟨b,h1,h2,h3⟩:=h
  refine Zsb h1 ?_
  cases b with
  | true=>exact Q9i E hC hD hL hm x _ _ (h2 rfl)
  | false=>exact Q9i E hC hD hL hm y _ _ (h3 rfl)
 | .block id c,s,K,h=>by
  simp only[Wy]at h
  refine Zu4 ((Q9i E hC hD hL hm c _ _ h).mono (Nat.le_refl _) ?_)
  intro e s' hk
  cases e <;> exact hk
 | .loop c,s,K,h=>by
  simp only[Wy,Z3h]at h
  obtain⟨hrd,I,k,hI,hr⟩:=h
  refine Zzq (n:=s.h.next) (fun k s'=>I k s'/\s.h.next<=s'.h.next) ⟨hI,Nat.le_refl _⟩ hrd (Nat.le_refl _) ?_
  rintro k s' ⟨h1,h2⟩ _
  refine((Q9i E hC hD hL hm c s' _ (hr k s' h1 h2)).grows).mono h2 ?_
  rintro e s'' ⟨h3,h4⟩
  refine⟨Nat.le_trans h2 h4,fun he => ?_,fun hne => ?_⟩
  ·subst he
   obtain⟨k',h5,h6⟩:=h3
   exact⟨k',h5,h6,Nat.le_trans h2 h4⟩
  ·cases e <;> first
    | exact absurd rfl hne
    | exact h3
 | .region _ ops true,s,K,h=>by
  simp only[Wy]at h
  rcases h with⟨s',h1,h2⟩ | ⟨B,s1,h1,h2,h3,h4,h5⟩ | ⟨B,s1,D1,d1,d2,d3,h1,h2,h3,h4,h5⟩ | ⟨B,s1,R,L,d1,h1,h2,h3,h4,h5⟩ | ⟨_,h0,h1 | ⟨B,p0,d0,f,args,o,c,l,s1,ch,h',k1,k2,k3,k4,k5,k6,k7,k8,k9,k10,k11,k12,k13,k14⟩⟩
  ·exact Qqh E hD hL hm h1 h2
  ·exact Zsj E hD hL hm h1 h2 h3 h4 h5
  ·exact Zx1 E d1 d2 d3 hm h1 h2 h3 h4 h5
  ·exact Z4i E d1 hm h1 h2 h3 h4 h5
  ·subst h0;exact Z9g E hC hm h1
  ·subst h0;exact Jbf E hD hL hm k1 k2 k3 k4 k5 k6 k7 k8 k9 k10 k11 k12 (hC.fn _ _ _ _ k13) k14
 | .region _ ops false,s,K,h=>by
  simp only[Wy]at h;exact Zww E hC h
 | .rangeFunc ..,s,K,h=>by
  simp only[Wy]at h;exact Z2l E hC h
 | .scope ..,_,_,h | .goto ..,_,_,h | .refuse ..,_,_,h=>by simp[Wy]at h
theorem Qfx{D0:CallF}(y:Code)(K:Exit->St->Prop)(t:Tm)(ds:List Deferred)(h:Heap):Jd4 E C D0 rd y K ⟨t,ds,h⟩=Wy E C D0 rd y ⟨t,ds,h⟩ K:=rfl
theorem Qlj{D0:CallF}(s:St)(K:Exit->St->Prop):Wy E C D0 rd .skip s K=K .normal s:=rfl
theorem Qv2{D0:CallF}(s:St)(K:Exit->St->Prop):Wy E C D0 rd .ret s K=K .ret s:=rfl
theorem Qlg{D0:CallF}(id:Nat)(s:St)(K:Exit->St->Prop):Wy E C D0 rd (.exit id) s K=K (.exit id) s:=rfl
theorem Z5z{D0:CallF}{c:Operand}{x y:Code}{s:St}{K:Exit->St->Prop}{b:Bool}(h:aev E.G s.t c=some (.bool b))(hk:Wy E C D0 rd (if b then x else y) s K):Wy E C D0 rd (.cond c x y) s K:=by
 refine⟨b,h,fun hb => ?_,fun hb => ?_⟩
 ·rw[hb]at hk;exact hk
 ·rw[hb]at hk;exact hk
theorem Qbo{D0:CallF}{c:Code}{s:St}{K:Exit->St->Prop}(I:Nat->St->Prop)(k:Nat)(hI:I k s)(hr:∀ k s',I k s'->s.h.next<=s'.h.next->Wy E C D0 none c s' (Xmi (fun s'' => ∃ k',k' < k/\I k' s'') K)):Wy E C D0 none (.loop c) s K :=
 ⟨fun _ h=>(by cases h),I,k,hI,hr⟩
theorem Z84{D0:CallF}{c:Operand}{x y:Code}{s:St}{K:Exit->St->Prop}(h:aev E.G s.t c=some (.bool true))(hk:Wy E C D0 rd x s K):Wy E C D0 rd (.cond c x y) s K:=Z5z (b:=true) h hk
theorem Z6j{D0:CallF}{c:Operand}{x y:Code}{s:St}{K:Exit->St->Prop}(h:aev E.G s.t c=some (.bool false))(hk:Wy E C D0 rd y s K):Wy E C D0 rd (.cond c x y) s K:=Z5z (b:=false) h hk
theorem Jaw{D0:CallF}{c:Operand}{x y:Code}{s:St}{K:Exit->St->Prop}(h:aev E.G s.t c=some (.bool true)):Wy E C D0 rd (.cond c x y) s K=Wy E C D0 rd x s K:=by
 refine propext ⟨fun hk => ?_,fun hk=>Z84 h hk⟩
 simp only[Wy]at hk
 obtain⟨q,h1,h2, -⟩:=hk
 rw[h]at h1
 cases h1
 exact h2 rfl
theorem Jcf{D0:CallF}{c:Operand}{x y:Code}{s:St}{K:Exit->St->Prop}(h:aev E.G s.t c=some (.bool false)):Wy E C D0 rd (.cond c x y) s K=Wy E C D0 rd y s K:=by
 refine propext ⟨fun hk => ?_,fun hk=>Z6j h hk⟩
 simp only[Wy]at hk
 obtain⟨q,h1, -,h2⟩:=hk
 rw[h]at h1
 cases h1
 exact h2 rfl
theorem Z64{D0:CallF}{id:Nat}{ops:Array Oper}{l:List Oper}{B:List Nat}{s s1:St}{K:Exit->St->Prop}(hl:ops.toList.map bare=l)(hB:Qsr ops.toList []=some B)(hp:Ud ops.toList ops.toList B []=true)(hr:Q4s E ops.toList=true)
  (hx:Xq9 E D0 none l l s=some (.normal,s1)) (hk:K .normal s1):Wy E C D0 rd (.region id ops true) s K:=by
 subst hl
 rw[Y9w]at hx
 exact .inr (.inl ⟨B,s1,hB,hp,hr,hx,hk⟩)
theorem Qfq{D0:CallF}{id:Nat}{ops:Array Oper}{l:List Oper}{B:List Nat}{s s1:St}{R:List (Option LRec)}{K:Exit->St->Prop}(L:List KE)(hL:∀ e ∈ L,KEok P E.G e)(hl:ops.toList.map bare=l)(hB:Qsr ops.toList []=some B)(hp:Ud ops.toList ops.toList B []=true)
  (hx:runT E L l B l 0 s=some (s1,R)) (hc:Xh E R B R B 0=true) (hk:K .normal s1):Wy E C D0 rd (.region id ops true) s K:=by
 subst hl
 rw[Zm5,Option.map_eq_some_iff]at hx
 obtain⟨⟨s2,R2⟩,h1,h2⟩:=hx
 cases h2
 rw[X4i]at hc
 exact .inr (.inr (.inr (.inl ⟨B,s2,R2,L,hL,hB,hp,h1,hc,hk⟩)))
theorem Zex(ops:List Oper):∀ (l:List Oper) (s:St) (K:Exit->St->Prop),X0n E C rd (ops.map bare) K (l.map bare) s=X0n E C rd ops K l s
 | [],s,K=>rfl
 | o::r,s,K=>by
  have hs:∀ K',Qw E C rd (bare o) s K'=Qw E C rd o s K':=fun _=>rfl
  simp only[List.map_cons,X0n,Q1z,hs]
  have hk:X0n E C rd (ops.map bare) K (r.map bare)=X0n E C rd ops K r:=by
   funext s';exact Zex ops r s' K
  rw[hk]
  split
  ·rfl
  ·show(if Qgq s o.dst=true then _ else _)=_
   rw[show(s.put (bare o).dst Qo s.h)=s.put o.dst Qo s.h from rfl]
  ·rfl
theorem Qud{D0:CallF}:∀ (c:Code) (s:St) (K:Exit->St->Prop),Wy E C D0 rd (Vm c) s K=Wy E C D0 rd c s K
 | .seq x y,s,K=>by
  simp only[Vm,Wy,Qud x]
  have : (fun s'=>Wy E C D0 rd (Vm y) s' K)=(fun s'=>Wy E C D0 rd y s' K):=by funext s';exact Qud y s' K
  rw[this]
 | .cond c x y,s,K=>by simp only[Vm,Wy,Qud x,Qud y]
 | .block id c,s,K=>by simp only[Vm,Wy,Qud c]
 | .loop c,s,K=>by
  have : Wy E C D0 rd (Vm c)=Wy E C D0 rd c:=by funext s K;exact Qud c s K
  simp only[Vm,Wy,this]
 | .region id ops false,s,K=>by
  simp only[Vm,Wy]
  exact Zex ops.toList ops.toList s K
 | .region id ops true,s,K=>rfl
 | .skip,s,K=>rfl
 | .label _,s,K=>rfl
 | .ret,s,K=>rfl
 | .exit _,s,K=>rfl
 | .rangeFunc ..,s,K=>rfl
 | .scope ..,s,K=>rfl
 | .goto ..,s,K=>rfl
 | .refuse ..,s,K=>rfl
def Q7d{P:Program}(E:Env2 P)(D:Qnw)(fn:Func)(K:AEnd->Heap->Prop)(u:FrameMode)(s:St):Prop:=match Qq E D fn s.t s.ds u s.h with
 | some (r,h')=>K r h'
 | none=>False
def Y3k{P:Program}(E:Env2 P)(D:Qnw)(fn:Func)(K:AEnd->Heap->Prop)(e:Exit)(s:St):Prop:=match e with
 | .normal=>Q7d E D fn K .returning s
 | .ret=>Q7d E D fn K .returning s
 | .panic ch=>Q7d E D fn K (.panicking ch) s
 | _=>False
theorem Zqo(E:Env2 P){D:Qnw}(hD:Qs1 P E.G D){f:FuncId}{args:List Value}{h:Heap}{fn:Func}{c:Code}{K:AEnd->Heap->Prop}(hfn:E.fn.get f=some fn)(hbody:fn.body=some c)(hle:Nat.ble args.length fn.ntmps=true)
  (hcw:CW P E.G none h.next c ⟨Qv fn args,[],h⟩ (fun e s=>Y3k E D fn K e s)):CallOK P E.G f args h K:=by
 intro α w H ha
 obtain⟨g1,g2,g3⟩:=E.fnok _ _ hfn
 have hle':args.length<=fn.ntmps:=by simpa using hle
 have S:SRel E.G α ⟨Qv fn args,[],h⟩ {tmps:=(args.map (ren α)).toArray++Array.replicate (fn.ntmps-(args.map (ren α)).toArray.size) undef,defers:=[]} w :=
  ⟨H,Yj7 hle' ha,rfl,fun d hd=>by cases hd⟩
 have lv:∀ (s:St) (u:FrameMode),Q7d E D fn K u s->∀ a' w' α',Ext h.next α α'->Turn α h w α' s.h w'->SRel E.G α' s a' w'->okM (dom α') u ->
   LeavesInM Fence.wide 0 P fn a'.tmps (fun e w' => ∃ α' r1 h1,K r1 h1/\e=Qtr α' r1/\Xqv (dom α') r1/\Ext h.next α α'/\Turn α h w α' h1 w'/\HRel E.G α' h1 w') a'.defers (Xch α' u) w':=by
  intro s u hl a' w' α' q2 q3 q4 hu
  unfold Q7d at hl
  split at hl
  case h_2=>exact hl.elim
  ·rename_i r h' hlv
   rw[q4.ds]
   exact Xdd E hD s.ds u s.h α' w' a'.tmps r h' hlv q4.h q4.t q4.okd hu fun α'' w'' p1 p2 p3 p4=>⟨α'',r,h',hl,rfl,p4,q2.trans p1 q3.next,q3.trans p2,p3⟩
 refine callsIn_of_wp_marks g1 hbody trivial ?_
 refine wpIn_mono (hcw α _ w S (fun l hl=>by cases hl)) ?_
 rintro e' a' w' ⟨α',e1,s1,hk,rfl,q1,q2,q3,q4⟩
 cases e1 with
 | normal=>exact lv s1 .returning hk a' w' α' q2 q3 q4 trivial
 | ret=>exact lv s1 .returning hk a' w' α' q2 q3 q4 trivial
 | panic ch=>exact lv s1 (.panicking ch) hk a' w' α' q2 q3 q4 q1
 | _=>exact hk.elim
theorem U2(E:Env2 P)(D:Qnw)(fn:Func)(K:AEnd->Heap->Prop)(s:St):Y3k E D fn K .normal s=Q7d E D fn K .returning s:=rfl
theorem Qdm(E:Env2 P)(D:Qnw)(fn:Func)(K:AEnd->Heap->Prop)(s:St):Y3k E D fn K .ret s=Q7d E D fn K .returning s:=rfl
theorem Q4(E:Env2 P)(D:Qnw)(fn:Func)(K:AEnd->Heap->Prop)(u:FrameMode)(t:Tm)(ds:List Deferred)(h:Heap):Q7d E D fn K u ⟨t,ds,h⟩=(match Qq E D fn t ds u h with
 | some (r,h')=>K r h'
 | none=>False):=rfl
theorem Z5n(E:Env2 P){C:CallP}(hC:CallPSound P E.G C){D0:CallF}(hD0:CallsSound P E.G D0)(hL:CallsLow D0)(hm:P.follows .mixedOrders=true){D:Qnw}(hD:Qs1 P E.G D){f n:Nat}{args:List Value}{h:Heap}{fn:Func}{c cb:Code}{K:AEnd->Heap->Prop}
  (hfn:E.fn.get f=some fn) (hb:fn.body=some c) (hn:fn.ntmps=n) (hc:Vm c=cb) (hle:Nat.ble args.length n=true) (hx:Wy E C D0 none cb ⟨⟨n,Qv.putAll 0 args .leaf⟩,[],h⟩ (Y3k E D fn K)):CallOK P E.G f args h K:=by
 subst hn hc
 rw[Qud]at hx
 exact Zqo E hD hfn hb hle (Q9i E hC hD0 hL hm c _ _ hx)
end
section
variable{P:Program}{E:Env2 P}
end
def FnK(P:Program)(G:Bs)(f:FuncId)(args:List Value)(h:Heap)(K:AEnd->Heap->Prop):Prop :=
 ∃ r h',CallOK P G f args h (fun r1 h1=>r1=r/\h1=h')/\h.next<=h'.next/\K r h'
def RndK(P:Program)(G:Bs)(l:Nat)(args:List Value)(h:Heap)(K:AEnd->Heap->Prop):Prop :=
 ∃ r h',X26 P G l args h (fun r1 h1=>r1=r/\h1=h')/\h.next<=h'.next/\K r h'
theorem FnK.ok{P:Program}{G:Bs}{f:FuncId}{args:List Value}{h:Heap}{K:AEnd->Heap->Prop}(hc:FnK P G f args h K):CallOK P G f args h K:=by
 obtain⟨r,h',h1,_,h2⟩:=hc
 exact h1.mono fun r1 h1 ⟨e1,e2⟩=>by subst e1;subst e2;exact h2
theorem FnK.mono{P:Program}{G:Bs}{f:FuncId}{args:List Value}{h:Heap}{K K':AEnd->Heap->Prop}(hc:FnK P G f args h K)(hk:∀ r h',K r h'->K' r h'):FnK P G f args h K':=by
 obtain⟨r,h',h1,h2,h3⟩:=hc
 exact⟨r,h',h1,h2,hk _ _ h3⟩
theorem RndK.mono{P:Program}{G:Bs}{l:Nat}{args:List Value}{h:Heap}{K K':AEnd->Heap->Prop}(hc:RndK P G l args h K)(hk:∀ r h',K r h'->K' r h'):RndK P G l args h K':=by
 obtain⟨r,h',h1,h2,h3⟩:=hc
 exact⟨r,h',h1,h2,hk _ _ h3⟩
def Qm5(P:Program)(G:Bs):CallP:=⟨FnK P G,RndK P G,false⟩
theorem Zwr(P:Program)(G:Bs):CallPSound P G (Qm5 P G) :=
 ⟨fun _ _ _ _ h=>h.ok,fun l args h K ⟨r,h',h1,_,h2⟩=>fun α w β rd st pend t ps asn bd d fn tmps a1 a2 a3 a4 a5=>by
  refine(h1 α w β rd st pend t ps asn bd d fn tmps a1 a2 a3 a4 a5).mono ?_
  rintro e w' ⟨α',r1,h3,⟨rfl,rfl⟩,q⟩
  exact⟨α',_,_,h2,q⟩⟩
section
variable{P:Program}{E:Env2 P}{G:Bs}{rd:Option Nat}
def Is(e:Exit)(s':St):Exit->St->Prop:=fun e1 s1=>e1=e/\s1=s'
theorem Q9f(s:St)(d:Option Tmp)(v:Value)(h:Heap):(s.put d v h).h=h:=Xgd _ _ _ _
structure Fun1 (B:St->(Exit->St->Prop)->Prop):Prop where
 mono:∀ s K K',B s K->(∀ e s',K e s'->K' e s')->B s K'
 one:∀ s K,B s K->∃ e s',B s (Is e s')/\s.h.next<=s'.h.next/\K e s'
theorem Z7w(o:Oper):Fun1 (fun s K=>Qw E (Qm5 P G) rd o s K):=by
 refine⟨fun s K K' h hk => ?_,fun s K h => ?_⟩
 ·unfold Qw at h ⊢
  split at h
  ·exact h.elim
  ·rename_i hd
   rw[if_neg hd]
   split at h
   ·rename_i c hop
    split at h
    ·split at h
     ·exact hk _ _ h
     ·exact h.elim
    ·exact h.elim
   ·rename_i x isS hop
    unfold Xsd at h ⊢
    split at h
    ·rcases h with⟨y,h1,h2⟩ | ⟨h0,_⟩
     ·exact .inl ⟨y,h1,hk _ _ h2⟩
     ·cases h0
    ·exact h.elim
   ·rename_i hop
    split at h
    ·exact hk _ _ h
    ·exact hk _ _ h
    ·exact hk _ _ h
    ·exact h.mono fun r h' hq=>by cases r <;> exact hk _ _ hq
    ·exact h.mono fun r h' hq=>by cases r <;> exact hk _ _ hq
    ·exact h.elim
 ·unfold Qw at h ⊢
  split at h
  ·exact h.elim
  ·rename_i hd
   simp only[hd,if_false,Bool.false_eq_true]
   split at h
   ·rename_i c hop
    split at h
    ·split at h
     ·rename_i d hd2
      exact⟨_,_,⟨rfl,rfl⟩,by rw[Q9f];exact Nat.le_refl _,h⟩
     ·exact h.elim
    ·exact h.elim
   ·rename_i x isS hop
    unfold Xsd at h ⊢
    split at h
    ·rcases h with⟨y,h1,h2⟩ | ⟨h0,_⟩
     ·refine⟨_,_,.inl ⟨y,h1,rfl,rfl⟩,?_,h2⟩
      rw[Q9f]
      exact(Ycy (by rw[h1];simp)).next
     ·cases h0
    ·exact h.elim
   ·rename_i hop
    split at h
    ·rename_i v h1 hr
     refine⟨_,_,⟨rfl,rfl⟩,?_,h⟩
     ·rw[Q9f];exact(Qor hr).next
    ·rename_i h1 hr
     refine⟨_,_,⟨rfl,rfl⟩,?_,h⟩
     ·rw[Q9f];exact(Qor hr).next
    ·rename_i v h1 hr
     refine⟨_,_,⟨rfl,rfl⟩,?_,h⟩
     ·exact(Qor hr).next
    ·rename_i f args h1 hr
     obtain⟨r,h',c1,c2,c3⟩:=h
     have hn:s.h.next<=h'.next:=Nat.le_trans (Qor hr).next c2
     cases r with
     | ret v =>
      refine⟨.normal,s.put o.dst v h',?_,by rw[Q9f];exact hn,c3⟩
      exact⟨_,_,c1,c2,rfl,rfl⟩
     | panic ch =>
      refine⟨.panic ch,{s with h:=h' },?_,hn,c3⟩
      exact⟨_,_,c1,c2,rfl,rfl⟩
    ·rename_i l args h1 hr
     obtain⟨r,h',c1,c2,c3⟩:=h
     have hn:s.h.next<=h'.next:=Nat.le_trans (Qor hr).next c2
     cases r with
     | ret v =>
      refine⟨.normal,s.put o.dst v h',?_,by rw[Q9f];exact hn,c3⟩
      exact⟨_,_,c1,c2,rfl,rfl⟩
     | panic ch =>
      refine⟨.panic ch,{s with h:=h' },?_,hn,c3⟩
      exact⟨_,_,c1,c2,rfl,rfl⟩
    ·exact h.elim
theorem Z6g(ops:List Oper):∀ l,Fun1 (fun s K=>X0n E (Qm5 P G) rd ops K l s)
 | []=>⟨fun s K K' h hk=>hk _ _ h,fun s K h=>⟨.normal,s,⟨rfl,rfl⟩,Nat.le_refl _,h⟩⟩
 | o::r=>by
  have ih:=Z6g ops r
  have st:=Z7w (P:=P) (E:=E) (G:=G) (rd:=rd) o
  refine⟨fun s K K' h hk => ?_,fun s K h => ?_⟩
  ·simp only[X0n]at h ⊢
   split at h
   ·rename_i hw
    refine st.mono _ _ _ h fun e s' hn => ?_
    cases e <;> first
     | exact ih.mono _ _ _ hn hk
     | exact hk _ _ hn
     | exact hn
   ·rename_i hw
    split at h
    ·rename_i hd
     rw[if_pos hd]
     exact ih.mono _ _ _ h hk
    ·exact h.elim
   ·exact h.elim
  ·simp only[X0n]at h
   split at h
   ·rename_i hw
    obtain⟨e,s1,h1,h2,h3⟩:=st.one _ _ h
    cases e with
    | normal =>
     obtain⟨e2,s2,g1,g2,g3⟩:=ih.one _ _ h3
     refine⟨e2,s2,?_,Nat.le_trans h2 g2,g3⟩
     simp only[X0n,hw]
     refine st.mono _ _ _ h1 ?_
     rintro e' s' ⟨rfl,rfl⟩
     exact g1
    | panic ch =>
     refine⟨.panic ch,s1,?_,h2,h3⟩
     simp only[X0n,hw]
     refine st.mono _ _ _ h1 ?_
     rintro e' s' ⟨rfl,rfl⟩
     exact⟨rfl,rfl⟩
    | _=>exact h3.elim
   ·rename_i hw
    split at h
    ·rename_i hd
     obtain⟨e2,s2,g1,g2,g3⟩:=ih.one _ _ h
     rw[Q9f]at g2
     refine⟨e2,s2,?_,g2,g3⟩
     simp only[X0n,hw,if_pos hd]
     exact g1
    ·exact h.elim
   ·exact h.elim
theorem Z7y{g:Operand}{ps:Array Tmp}{asn bd:Code}:Fun1 (fun s K=>Zv3 E (Qm5 P G) rd g ps asn bd s K):=by
 have aft:∀ {t:Tm} {ds:List Deferred} {l:Nat} {K:Exit->St->Prop} {r:AEnd} {h:Heap},Z24 t ds l K r h->∃ e s1,Z24 t ds l (Is e s1) r h/\h.next<=s1.h.next/\K e s1:=by
  intro t ds l K r h hk
  unfold Z24 at hk ⊢
  split at hk
  ·rename_i e s1 haf
   exact⟨e,s1,⟨rfl,rfl⟩,(Yn3 haf).next,hk⟩
  ·exact hk.elim
 have aftm:∀ {t:Tm} {ds:List Deferred} {l:Nat} {K K':Exit->St->Prop} {r:AEnd} {h:Heap},Z24 t ds l K r h->(∀ e s',K e s'->K' e s')->Z24 t ds l K' r h:=by
  intro t ds l K K' r h hk hm
  unfold Z24 at hk ⊢
  split at hk
  ·exact hm _ _ hk
  ·exact hk.elim
 refine⟨fun s K K' h hk => ?_,fun s K h => ?_⟩
 ·unfold Zv3 at h ⊢
  split at h
  ·split at h
   ·exact h.elim
   ·split at h
    ·exact h.mono fun r h' hq=>aftm hq hk
    ·split at h
     ·exact h.mono fun r h' hq=>aftm hq hk
     ·exact h.elim
  ·exact h.elim
 ·unfold Zv3 at h ⊢
  split at h
  ·split at h
   ·exact h.elim
   ·split at h
    ·obtain⟨r,h',c1,c2,c3⟩:=h
     obtain⟨e,s1,a1,a2,a3⟩:=aft c3
     exact⟨e,s1,⟨r,h',c1,c2,a1⟩,Nat.le_trans (Nat.le_trans (show s.h.next<=s.h.next+1+1 by omega) c2) a2,a3⟩
    ·split at h
     ·obtain⟨r,h',c1,c2,c3⟩:=h
      obtain⟨e,s1,a1,a2,a3⟩:=aft c3
      exact⟨e,s1,⟨r,h',c1,c2,a1⟩,Nat.le_trans (Nat.le_trans (show s.h.next<=s.h.next+1 by omega) c2) a2,a3⟩
     ·exact h.elim
  ·exact h.elim
theorem Z98{body:St->(Exit->St->Prop)->Prop}(hb:Fun1 body):Fun1 (Z3h body):=by
 have thenm:∀ {F F':St->Prop} {K K':Exit->St->Prop} {e:Exit} {s:St},Xmi F K e s->(F s->F' s)->(K e s->K' e s)->Xmi F' K' e s:=by
  intro F F' K K' e s h h1 h2
  cases e <;> first
   | exact h1 h
   | exact h2 h
 refine⟨fun s K K' ⟨I,k,hI,hr⟩ hk=>⟨I,k,hI,fun k s' h1 h2=>hb.mono _ _ _ (hr k s' h1 h2) fun e s2 h=>thenm h id (hk _ _)⟩,fun s K ⟨I,k,hI,hr⟩ => ?_⟩
 have main:∀ k st,I k st->s.h.next<=st.h.next->∃ e s',Z3h body st (Is e s')/\st.h.next<=s'.h.next/\K e s':=by
  intro k
  induction k using Nat.strongRecOn with
  | ind k ih =>
   intro st hst hn
   obtain⟨e1,s1,h1,h2,h3⟩:=hb.one _ _ (hr k st hst hn)
   by_cases he:e1=.normal
   ·subst he
    obtain⟨k',hk',hI'⟩:=h3
    obtain⟨e,s',⟨J,m,hJ,hstep⟩,g2,g3⟩:=ih k' hk' s1 hI' (Nat.le_trans hn h2)
    refine⟨e,s',⟨fun j x=>(j=m+1/\x=st)∨(J j x/\s1.h.next<=x.h.next),m+1,.inl ⟨rfl,rfl⟩,?_⟩,Nat.le_trans h2 g2,g3⟩
    rintro j x (⟨rfl,rfl⟩ | ⟨hj,hx⟩) _
    ·refine hb.mono _ _ _ h1 ?_
     rintro e2 s2 ⟨rfl,rfl⟩
     exact⟨m,Nat.lt_succ_self _,.inr ⟨hJ,Nat.le_refl _⟩⟩
    ·obtain⟨e2,s2,b1,b2,b3⟩:=hb.one _ _ (hstep j x hj hx)
     refine hb.mono _ _ _ b1 ?_
     rintro e3 s3 ⟨rfl,rfl⟩
     exact thenm b3 (fun⟨j',q1,q2⟩=>⟨j',q1,.inr ⟨q2,Nat.le_trans hx b2⟩⟩) id
   ·have hK:K e1 s1:=by cases e1 <;> first | exact absurd rfl he | exact h3
    refine⟨e1,s1,⟨fun j x=>x=st,0,rfl,?_⟩,h2,hK⟩
    rintro j x rfl _
    refine hb.mono _ _ _ h1 ?_
    rintro e2 s2 ⟨rfl,rfl⟩
    cases e2 <;> first
     | exact absurd rfl he
     | exact⟨rfl,rfl⟩
 exact main k s hI (Nat.le_refl _)
theorem Xbi {D0 : CallF} (hL : CallsLow D0) (rd : Option Nat) : ∀ c : Code, Fun1 (fun s K => Wy E (Qm5 P G) D0 rd c s K)
  | .skip => ⟨fun s K K' h hk => hk _ _ h, fun s K h => ⟨_, s, ⟨rfl, rfl⟩, Nat.le_refl _, h⟩⟩
  | .label _ => ⟨fun s K K' h hk => hk _ _ h, fun s K h => ⟨_, s, ⟨rfl, rfl⟩, Nat.le_refl _, h⟩⟩
  | .ret => ⟨fun s K K' h hk => hk _ _ h, fun s K h => ⟨_, s, ⟨rfl, rfl⟩, Nat.le_refl _, h⟩⟩
  | .exit _ => ⟨fun s K K' h hk => hk _ _ h, fun s K h => ⟨_, s, ⟨rfl, rfl⟩, Nat.le_refl _, h⟩⟩
  | .seq x y => by
    have hx := Xbi hL rd x
    have hy := Xbi hL rd y
    refine ⟨fun s K K' h hk => ?_, fun s K h => ?_⟩
    · simp only [Wy] at h ⊢
      refine hx.mono _ _ _ h fun e s' q => ?_
      cases e <;> first
        | exact hy.mono _ _ _ q hk
        | exact hk _ _ q
    · simp only [Wy] at h ⊢
      obtain ⟨e, s1, h1, h2, h3⟩ := hx.one _ _ h
      by_cases he : e = .normal
      · subst he
        obtain ⟨e2, s2, g1, g2, g3⟩ := hy.one _ _ h3
        refine ⟨e2, s2, hx.mono _ _ _ h1 ?_, Nat.le_trans h2 g2, g3⟩
        rintro e' s' ⟨rfl, rfl⟩
        exact g1
      · have hK : K e s1 := by cases e <;> first | exact absurd rfl he | exact h3
        refine ⟨e, s1, hx.mono _ _ _ h1 ?_, h2, hK⟩
        rintro e' s' ⟨rfl, rfl⟩
        cases e' <;> first
          | exact absurd rfl he
          | exact ⟨rfl, rfl⟩
  | .cond c x y => by
    have hx := Xbi hL rd x
    have hy := Xbi hL rd y
    refine ⟨fun s K K' h hk => ?_, fun s K h => ?_⟩
    · simp only [Wy] at h ⊢
      obtain ⟨q, h1, h2, h3⟩ := h
      exact ⟨q, h1, fun e => hx.mono _ _ _ (h2 e) hk, fun e => hy.mono _ _ _ (h3 e) hk⟩
    · simp only [Wy] at h ⊢
      obtain ⟨q, h1, h2, h3⟩ := h
      cases q with
      | true =>
        obtain ⟨e, s1, g1, g2, g3⟩ := hx.one _ _ (h2 rfl)
        exact ⟨e, s1, ⟨true, h1, fun _ => g1, fun q => by cases q⟩, g2, g3⟩
      | false =>
        obtain ⟨e, s1, g1, g2, g3⟩ := hy.one _ _ (h3 rfl)
        exact ⟨e, s1, ⟨false, h1, fun q => (by cases q), fun _ => g1⟩, g2, g3⟩
  | .block id c => by
    have hc := Xbi hL rd c
    refine ⟨fun s K K' h hk => ?_, fun s K h => ?_⟩
    · simp only [Wy] at h ⊢
      refine hc.mono _ _ _ h fun e s' q => ?_
      cases e <;> first
        | exact hk _ _ q
        | (simp only [Q2r] at q ⊢
           split at q
           · rename_i hq; rw [if_pos hq]; exact hk _ _ q
           · rename_i hq; rw [if_neg hq]; exact hk _ _ q)
    · simp only [Wy] at h ⊢
      obtain ⟨e, s1, h1, h2, h3⟩ := hc.one _ _ h
      have : ∃ e2, Q2r id K e s1 = K e2 s1 /\ Q2r id (Is e2 s1) e s1 := by
        cases e <;> first
          | exact ⟨_, rfl, rfl, rfl⟩
          | (simp only [Q2r]
             split
             · exact ⟨_, rfl, rfl, rfl⟩
             · exact ⟨_, rfl, rfl, rfl⟩)
      obtain ⟨e2, q1, q2⟩ := this
      rw [q1] at h3
      refine ⟨e2, s1, hc.mono _ _ _ h1 ?_, h2, h3⟩
      rintro e' s' ⟨rfl, rfl⟩
      exact q2
  | .loop c => by
    have hl := Z98 (Xbi hL rd c)
    refine ⟨fun s K K' h hk => ?_, fun s K h => ?_⟩
    · simp only [Wy] at h ⊢
      exact ⟨h.1, hl.mono _ _ _ h.2 hk⟩
    · simp only [Wy] at h ⊢
      obtain ⟨e, s1, h1, h2, h3⟩ := hl.one _ _ h.2
      exact ⟨e, s1, ⟨h.1, h1⟩, h2, h3⟩
  | .region _ ops true => by
    refine ⟨fun s K K' h hk => ?_, fun s K h => ?_⟩
    · simp only [Wy] at h ⊢
      rcases h with ⟨s', h1, h2⟩ | ⟨B, s1, h1, h2, h3, h4, h5⟩ | ⟨B, s1, D1, d1, d2, d3, h1, h2, h3, h4, h5⟩ | ⟨B, s1, R, L, d1, h1, h2, h3, h4, h5⟩ | ⟨h1, _⟩
      · exact .inl ⟨s', h1, hk _ _ h2⟩
      · exact .inr (.inl ⟨B, s1, h1, h2, h3, h4, hk _ _ h5⟩)
      · exact .inr (.inr (.inl ⟨B, s1, D1, d1, d2, d3, h1, h2, h3, h4, hk _ _ h5⟩))
      · exact .inr (.inr (.inr (.inl ⟨B, s1, R, L, d1, h1, h2, h3, h4, hk _ _ h5⟩)))
      · cases h1
    · simp only [Wy] at h ⊢
      rcases h with ⟨s', h1, h2⟩ | ⟨B, s1, h1, h2, h3, h4, h5⟩ | ⟨B, s1, D1, d1, d2, d3, h1, h2, h3, h4, h5⟩ | ⟨B, s1, R, L, d1, h1, h2, h3, h4, h5⟩ | ⟨h1, _⟩
      · exact ⟨_, _, .inl ⟨s', h1, rfl, rfl⟩, (Ylo hL h1).next, h2⟩
      · exact ⟨_, _, .inr (.inl ⟨B, s1, h1, h2, h3, h4, rfl, rfl⟩), (Xtw hL _ _ _ _ h4).next, h5⟩
      · exact ⟨_, _, .inr (.inr (.inl ⟨B, s1, D1, d1, d2, d3, h1, h2, h3, h4, rfl, rfl⟩)), (Xtw d2 _ _ _ _ h4).next, h5⟩
      · exact ⟨_, _, .inr (.inr (.inr (.inl ⟨B, s1, R, L, d1, h1, h2, h3, h4, rfl, rfl⟩))), Zz3 d1 h1 h2 h3 h4, h5⟩
      · cases h1
  | .region _ ops false => by
    have := Z6g (P := P) (E := E) (G := G) (rd := rd) ops.toList ops.toList
    exact ⟨fun s K K' h hk => by simp only [Wy] at h ⊢; exact this.mono _ _ _ h hk, fun s K h => by simp only [Wy] at h ⊢; exact this.one _ _ h⟩
  | .rangeFunc g ps asn bd => by
    have := Z7y (P := P) (E := E) (G := G) (rd := rd) (g := g) (ps := ps) (asn := asn) (bd := bd)
    exact ⟨fun s K K' h hk => by simp only [Wy] at h ⊢; exact this.mono _ _ _ h hk, fun s K h => by simp only [Wy] at h ⊢; exact this.one _ _ h⟩
  | .scope .. | .goto .. | .refuse .. => ⟨fun s K K' h _ => by simp [Wy] at h, fun s K h => by simp [Wy] at h⟩
theorem Zr(E:Env2 P){D0:CallF}(hD0:CallsSound P E.G D0)(hL:CallsLow D0)(hm:P.follows .mixedOrders=true){D:Qnw}(hD:Qs1 P E.G D)(hDL:Xbq D){f n:Nat}{args:List Value}{h:Heap}{fn:Func}{c cb:Code}{K:AEnd->Heap->Prop}
  (hfn:E.fn.get f=some fn) (hb:fn.body=some c) (hn:fn.ntmps=n) (hc:Vm c=cb) (hle:Nat.ble args.length n=true) (hx:Wy E (Qm5 P E.G) D0 none cb ⟨⟨n,Qv.putAll 0 args .leaf⟩,[],h⟩ (Y3k E D fn K)):FnK P E.G f args h K:=by
 obtain⟨e,s',h1,h2,h3⟩:=(Xbi (E:=E) (G:=E.G) hL none cb).one _ _ hx
 have lv:∀ u,Q7d E D fn K u s'->∃ r h',Q7d E D fn (fun r1 h1=>r1=r/\h1=h') u s'/\s'.h.next<=h'.next/\K r h':=by
  intro u hu
  unfold Q7d at hu ⊢
  split at hu
  ·rename_i r h' hl
   exact⟨r,h',⟨rfl,rfl⟩,(Q6w hDL _ _ _ _ _ hl).next,hu⟩
  ·exact hu.elim
 have : ∃ r h',Y3k E D fn (fun r1 h1=>r1=r/\h1=h') e s'/\s'.h.next<=h'.next/\K r h':=by
  cases e <;> first
   | exact lv _ h3
   | exact h3.elim
 obtain⟨r,h',q1,q2,q3⟩:=this
 refine⟨r,h',Z5n E (Zwr _ _) hD0 hL hm hD hfn hb hn hc hle ((Xbi (E:=E) (G:=E.G) hL none cb).mono _ _ _ h1 ?_),Nat.le_trans h2 q2,q3⟩
 rintro e1 s1 ⟨rfl,rfl⟩
 exact q1
end
theorem Qdt(h:Heap)(x:Blk):(h.push x).next=h.next+1:=Eq.trans rfl rfl
theorem Z41(h:Heap)(b:Nat)(x:Option Blk):(h.set b x).next=h.next:=Eq.trans rfl rfl
section
variable{P:Program}{E:Env P}{t:TypeId}{r:TyRec}
structure OneTy (E:Env P) (t:TypeId) (r:TyRec):Prop where
 e:E.ty.get t=some r
 d:Qfe r.desc=false
 size:r.size=1
variable(T:OneTy E t r)
include T
omit T in
theorem Y3x:∀ (l:List Value) (i:Nat) (v:Value),i < l.length->Qlv l i [v]=some (l.set i v)
 | x::l,0,v,_=>by simp[Qlv,over]
 | x::l,i+1,v,h=>by
  have:=Y3x l i v (by simpa using h)
  simp[Qlv,this]
 | [],_,_,h=>by simp at h
omit T in
omit T in
theorem Zyn{f:FuncId}{first captured:List Value}:Xxt (.func f) first captured=some (.func (.func f) first.toArray captured.toArray):=rfl
end
theorem Q6q{a b:Nat}(h:a<=b):Nat.ble a b=true:=by rw[Nat.ble_eq];exact h
theorem Qss:∀ {n:Nat} {l:List Value},n<=l.length->Qyv n l=some (l.take n)
 | 0,l,_=>by simp[Qyv]
 | n+1,v::l,h=>by simp[Qyv,Qss (n:=n) (l:=l) (by simpa using h)]
 | n+1,[],h=>by simp at h
theorem Z0h:∀ {c l:List Value},l.length<=c.length->over c l=some (l++c.drop l.length)
 | c,[],_=>by cases c <;> simp[over]
 | x::c,v::l,h=>by simp[over,Z0h (c:=c) (l:=l) (by simpa using h)]
 | [],v::l,h=>by simp at h
theorem Qtg:∀ {c:List Value} {o:Nat} {l:List Value},o+l.length<=c.length->Qlv c o l=some (c.take o++l++c.drop (o+l.length))
 | c,0,l,h=>by simp[Qlv,Z0h (c:=c) (l:=l) (by omega)]
 | x::c,o+1,l,h=>by
  have e:o+1+l.length=(o+l.length)+1:=by omega
  simp[Qlv,Qtg (c:=c) (o:=o) (l:=l) (by simp at h;omega),e]
 | [],o+1,l,h=>by simp at h
theorem Qp(x:Bool):aUn .not (.bool x)=some (.bool (!x)):=by cases x <;> kernel_rfl
theorem Z2m(a c:Int):X1w false [.int .i64 a,.int .i64 c]=some (.int .i64 (if c < a then c else a)):=by kernel_rfl
def Yp(h:Heap)(bk o:Nat):Option Value:=match h.get bk with | some (.cells _ _ c)=>c[o]? | _=>none
def U8(h:Heap)(bk o z:Nat):Option Value:=match h.get bk with | some (.cells _ _ c)=>(Qyv z (c.drop o)).map fun l => .agg ⟨l⟩ | _=>none
def Jl(h:Heap)(bk o:Nat)(l:List Value):Option Heap:=match h.get bk with | some (.cells true sz c)=>(Qlv c o l).map fun c'=>h.set bk (some (.cells true sz c')) | _=>none
def Zdv:Value->Bool
 | .agg _=>false
 | .tuple _=>false
 | _=>true
theorem Xgp{v:Value}(h:Zdv v=true):Qkh v=true/\v.cells = #[v]:=by
 cases v <;> first
  | exact⟨rfl,rfl⟩
  | simp[Zdv]at h
theorem Xm{h:Heap}{bk o z:Nat}{ow:Bool}{c:List Value}(hg:h.get bk=some (.cells ow z c)):Yp h bk o=c[o]? := by simp[Yp,hg]
theorem Yq{h:Heap}{bk o z k:Nat}{ow:Bool}{c:List Value}(hg:h.get bk=some (.cells ow z c))(hl:o+k<=c.length):U8 h bk o k=some (.agg ⟨(c.drop o).take k⟩):=by
 simp only[U8,hg]
 rw[Qss (by rw[List.length_drop];omega)]
 rfl
theorem Zx{h:Heap}{bk o z:Nat}{c l:List Value}(hg:h.get bk=some (.cells true z c))(hl:o+l.length<=c.length):Jl h bk o l=some (h.set bk (some (.cells true z (c.take o++l++c.drop (o+l.length))))):=by
 simp only[Jl,hg,Qtg hl]
 rfl
theorem Qhe{h:Heap}{bk o z:Nat}{c:List Value}{v:Value}(hg:h.get bk=some (.cells true z c))(hl:o < c.length):Jl h bk o [v]=some (h.set bk (some (.cells true z (c.set o v)))):=by
 simp only[Jl,hg,Y3x c o v hl]
 rfl
section
variable{P:Program}{E:Env P}
theorem Xai{t:TypeId}{r:TyRec}(he:E.ty.get t=some r)(hd:Qfe r.desc=false){h:Heap}{bk o:Nat}:Qkm E t (.pointer (some ⟨bk,o,none⟩)) h=Yp h bk o:=by
 simp only[Qkm,he,Zhp,hd,Bool.false_eq_true,if_false,Ab.cellsAt,Yp]
 cases h.get bk with
 | none=>rfl
 | some x =>
  cases x with
  | cells ow z c =>
   show(match Qyv 1 (c.drop o)with | some [v]=>some v | _=>none)=c[o]?
   rcases Nat.lt_or_ge o c.length with hl | hl
   ·rw[Zyr (List.getElem?_eq_getElem hl),List.getElem?_eq_getElem hl]
   ·rw[List.getElem?_eq_none hl,List.drop_eq_nil_of_le hl];rfl
  | _=>rfl
theorem Xld{t:TypeId}{r:TyRec}{z:Nat}(he:E.ty.get t=some r)(hd:Qfe r.desc=true)(hz:r.size=z){h:Heap}{bk o:Nat}:Qkm E t (.pointer (some ⟨bk,o,none⟩)) h=U8 h bk o z:=by
 simp only[Qkm,he,Zhp,hd,if_true,Ab.cellsAt,U8,hz]
 cases h.get bk with
 | none=>rfl
 | some x=>cases x <;> rfl
theorem Xtu{t:TypeId}{r:TyRec}(he:E.ty.get t=some r)(hz:r.size=1){h:Heap}{bk o:Nat}{v:Value}(hv:Zdv v=true):Qia E t (.pointer (some ⟨bk,o,none⟩)) v h=Jl h bk o [v]:=by
 obtain⟨h1,h2⟩:=Xgp hv
 simp only[Qia,he,Yeq,h1,h2,hz,storeAt,Jl]
 rfl
theorem Xss{t:TypeId}{r:TyRec}(he:E.ty.get t=some r){h:Heap}{bk o:Nat}{l:List Value}(hl:l.length=r.size):Qia E t (.pointer (some ⟨bk,o,none⟩)) (.agg ⟨l⟩) h=Jl h bk o l:=by
 have h1:(Value.agg ⟨l⟩).cells=⟨l⟩:=rfl
 have h2:(Qkh (.agg ⟨l⟩) && (Value.agg ⟨l⟩).cells.size == r.size)=true:=by
  rw[h1];simp[Qkh,hl]
 simp only[Qia,he,Yeq]
 rw[if_pos h2]
 rfl
structure SlTy (E:Env P) (te ts:TypeId) (re rs:TyRec):Prop where
 e:E.ty.get te=some re
 s:E.ty.get ts=some rs
 d:rs.desc=.slice te
structure ArTy (E:Env P) (n:Nat) (te ts:TypeId) (re rs:TyRec):Prop where
 e:E.ty.get te=some re
 s:E.ty.get ts=some rs
 d:rs.desc=.array n te
theorem Qi5{te ts:TypeId}{re rs:TyRec}{z:Nat}(T:SlTy E te ts re rs)(hz:re.size=z){bk o n c:Nat}{k:IntKind}{i:Int}(h:0<=i/\i < n):Xq E ts (.slice (some ⟨bk,o,none⟩) n c) (.int k i)=some (.pointer (some ⟨bk,o+i.toNat*z,none⟩)):=by
 simp only[Xq,T.s,T.d,T.e,hz,if_pos h,Qm2]
theorem Xv2{n:Nat}{te ts:TypeId}{re rs:TyRec}{z:Nat}(T:ArTy E n te ts re rs)(hz:re.size=z){bk o:Nat}{k:IntKind}{i:Int}(h:0<=i/\i < n):Xq E ts (.pointer (some ⟨bk,o,none⟩)) (.int k i)=some (.pointer (some ⟨bk,o+i.toNat*z,none⟩)):=by
 simp only[Xq,T.s,T.d,T.e,hz,if_pos h,Qm2]
end
def Uw:Value->Option Nat
 | .slice (some a) _ _=>some a.block
 | .pointer (some a)=>some a.block
 | .map (some b)=>some b
 | _=>none
def Sl(h:Heap)(z:Nat)(v:Value)(n:Nat)(xs:List Value):Prop :=
 (∃ c,v=.slice none 0 c/\c < Qfn/\n=0/\xs=[]) ∨ ∃ bk o c ow z' pre post,v=.slice (some ⟨bk,o,none⟩) n c/\h.get bk=some (.cells ow z' (pre++xs++post))/\pre.length=o/\xs.length=n*z/\n<=c/\c<=Qfn/\(c=Qfn->z'=z/\o % z=0/\(ow=true∨n=0/\pre++xs++post=[]))
def Own(h:Heap)(n0 z:Nat)(v:Value)(n:Nat)(xs:List Value):Prop :=
 (v=.slice none 0 0/\n=0/\xs=[]) ∨ ∃ bk c z' rest,v=.slice (some ⟨bk,0,none⟩) n c/\n0<=bk/\h.get bk=some (.cells true z' (xs++rest))/\xs.length=n*z/\n<=c/\c<=Qfn/\(c=Qfn/\z'=z∨c≠Qfn/\(xs++rest).length=c*z)
theorem Own.sl{h:Heap}{n0 z n:Nat}{v:Value}{xs:List Value}(o:Own h n0 z v n xs):Sl h z v n xs:=by
 rcases o with⟨rfl,rfl,rfl⟩ | ⟨bk,c,z',rest,rfl,h1,h2,h3,h4,h5,h6⟩
 ·exact .inl ⟨0,rfl,by simp[Qfn],rfl,rfl⟩
 ·refine .inr ⟨bk,0,c,true,z',[],rest,rfl,by simpa using h2,rfl,h3,h4,h5,fun hc => ?_⟩
  rcases h6 with⟨_,h7⟩ | ⟨h7,_⟩
  ·exact⟨h7,Nat.zero_mod _,.inl rfl⟩
  ·exact absurd hc h7
theorem Own.len{h:Heap}{n0 z n:Nat}{v:Value}{xs:List Value}(o:Own h n0 z v n xs):xs.length=n*z:=by
 rcases o with⟨rfl,rfl,rfl⟩ | ⟨bk,c,z',rest,rfl,h1,h2,h3,h4⟩
 ·simp
 ·exact h3
theorem Sl.len{h:Heap}{z n:Nat}{v:Value}{xs:List Value}(o:Sl h z v n xs):xs.length=n*z:=by
 rcases o with⟨c,rfl,_,rfl,rfl⟩ | ⟨bk,o,c,ow,z',pre,post,rfl,h1,h2,h3,h4⟩
 ·simp
 ·exact h3
theorem Own.one{h:Heap}{n0 z n:Nat}{v:Value}{xs:List Value}(o:Own h n0 z v n xs):Zdv v=true:=by
 rcases o with⟨rfl,rfl,rfl⟩ | ⟨bk,c,z',rest,rfl,h1,h2,h3,h4⟩ <;> rfl
theorem Sl.one{h:Heap}{z n:Nat}{v:Value}{xs:List Value}(o:Sl h z v n xs):Zdv v=true:=by
 rcases o with⟨c,rfl,_,rfl,rfl⟩ | ⟨bk,o,c,ow,z',pre,post,rfl,h1,h2,h3⟩ <;> rfl
theorem Own.keep{h h':Heap}{n0 z n:Nat}{v:Value}{xs:List Value}(o:Own h n0 z v n xs)(hk:∀ c,Uw v=some c->c < h.next->h'.get c=h.get c):Own h' n0 z v n xs:=by
 rcases o with⟨rfl,rfl,rfl⟩ | ⟨bk,c,z',rest,rfl,h1,h2,h3,h4⟩
 ·exact .inl ⟨rfl,rfl,rfl⟩
 ·exact .inr ⟨bk,c,z',rest,rfl,h1,by rw[hk bk rfl (Heap.get_lt h2)];exact h2,h3,h4⟩
theorem Sl.keep{h h':Heap}{z n:Nat}{v:Value}{xs:List Value}(o:Sl h z v n xs)(hk:∀ c,Uw v=some c->c < h.next->h'.get c=h.get c):Sl h' z v n xs:=by
 rcases o with⟨c,rfl,h0,rfl,rfl⟩ | ⟨bk,o,c,ow,z',pre,post,rfl,h1,h2,h3⟩
 ·exact .inl ⟨c,rfl,h0,rfl,rfl⟩
 ·exact .inr ⟨bk,o,c,ow,z',pre,post,rfl,by rw[hk bk rfl (Heap.get_lt h1)];exact h1,h2,h3⟩
theorem Own.low{h:Heap}{n0 n1 z n:Nat}{v:Value}{xs:List Value}(o:Own h n0 z v n xs)(hn:n1<=n0):Own h n1 z v n xs:=by
 rcases o with⟨rfl,rfl,rfl⟩ | ⟨bk,c,z',rest,rfl,h1,h2,h3,h4⟩
 ·exact .inl ⟨rfl,rfl,rfl⟩
 ·exact .inr ⟨bk,c,z',rest,rfl,by omega,h2,h3,h4⟩
theorem Own.from{h:Heap}{n0 z n:Nat}{v:Value}{xs:List Value}(o:Own h n0 z v n xs){c:Nat}(hc:Uw v=some c):n0<=c/\c < h.next:=by
 rcases o with⟨rfl,rfl,rfl⟩ | ⟨bk,c',z',rest,rfl,h1,h2,h3,h4⟩
 ·cases hc
 ·cases hc;exact⟨h1,Heap.get_lt h2⟩
theorem Own.nil{h:Heap}{n0 z:Nat}:Own h n0 z (.slice none 0 0) 0 []:=.inl ⟨rfl,rfl,rfl⟩
theorem Sl.nil{h:Heap}{z:Nat}:Sl h z (.slice none 0 0) 0 []:=.inl ⟨0,rfl,by simp[Qfn],rfl,rfl⟩
theorem Own.new{h:Heap}{n0 z n c z':Nat}{xs:List Value}{bk:Nat}(hb:n0<=bk)(hg:h.get bk=some (.cells true z' xs))(hx:xs.length=n*z)(hn:n < Qfn)(hc:c=Qfn/\z'=z∨c=n):Own h n0 z (.slice (some ⟨bk,0,none⟩) n c) n xs:=by
 refine .inr ⟨bk,c,z',[],rfl,hb,by simpa using hg,hx,?_,?_,?_⟩
 ·rcases hc with⟨rfl,_⟩ | rfl <;> omega
 ·rcases hc with⟨rfl,_⟩ | rfl <;> omega
 ·rcases hc with h | rfl
  ·exact .inl h
  ·exact .inr ⟨by omega,by simpa using hx⟩
theorem Sl.blk{h:Heap}{z n:Nat}{v:Value}{xs:List Value}(o:Sl h z v n xs){c:Nat}(hc:Uw v=some c):c < h.next:=by
 rcases o with⟨k,rfl,_,rfl,rfl⟩ | ⟨bk,o,k,ow,z',pre,post,rfl,h1,h2,h3⟩
 ·cases hc
 ·cases hc;exact Heap.get_lt h1
def Fr(S:Nat->Prop)(h h':Heap):Prop:=h.next<=h'.next/\∀ c,c < h.next->¬ S c->h'.get c=h.get c
def Old(h h':Heap):Prop:=h.next<=h'.next/\∀ c,c < h.next->h'.get c=h.get c
theorem Old.refl(h:Heap):Old h h:=⟨Nat.le_refl _,fun _ _=>rfl⟩
theorem Old.trans{h h' h'':Heap}(a:Old h h')(b:Old h' h''):Old h h'':=⟨Nat.le_trans a.1 b.1,fun c hc=>by rw[b.2 c (Nat.lt_of_lt_of_le hc a.1),a.2 c hc]⟩
theorem Old.push(h:Heap)(x:Blk):Old h (h.push x):=⟨Nat.le_succ _,fun c hc=>by rw[Heap.get_push,if_neg (by omega)]⟩
theorem Old.push' {h h':Heap}(a:Old h h')(x:Blk):Old h (h'.push x):=a.trans (Old.push _ _)
theorem Old.set{h h':Heap}(a:Old h h'){b:Nat}(x:Option Blk)(h0:h.next<=b)(h1:b < h'.next):Old h (h'.set b x):=⟨a.1,fun c hc=>by rw[Heap.get_set _ _ _ _ h1,if_neg (by omega),a.2 c hc]⟩
theorem Old.get{h h':Heap}(a:Old h h'){c:Nat}{x:Blk}(hc:h.get c=some x):h'.get c=some x:=by rw[a.2 c (Heap.get_lt hc),hc]
theorem Sl.old{h h':Heap}{z n:Nat}{v:Value}{xs:List Value}(o:Sl h z v n xs)(a:Old h h'):Sl h' z v n xs:=o.keep fun c _ hc=>a.2 c hc
def Beyond(v:Value)(h h':Heap):Prop:=h.next<=h'.next/\∀ c,c < h.next->Uw v≠some c->h'.get c=h.get c
theorem Beyond.old{h h0 h':Heap}{n z:Nat}{v:Value}{xs:List Value}(a:Old h h0)(o:Own h0 h.next z v n xs)(b:Beyond v h0 h'):Old h h' :=
 ⟨Nat.le_trans a.1 b.1,fun c hc=>by
  rw[b.2 c (Nat.lt_of_lt_of_le hc a.1) (fun e=>by have:=(o.from e).1;omega),a.2 c hc]⟩
def by8(n:Nat):Value:=.int .u8 (n:Int)
theorem Ju{z:Int}(h0 : -9223372036854775808<=z)(h1:z<=9223372036854775807):IntKind.i64.wrap z=z:=by
 have : IntKind.i64.wrap z=(if z % 18446744073709551616 ≥ 9223372036854775808 then z % 18446744073709551616-18446744073709551616 else z % 18446744073709551616):=by
  simp[IntKind.wrap,IntKind.bits,IntKind.signed]
 rw[this]
 split <;> omega
theorem wS{i:Nat}(h:i < 4611686018427387904):IntKind.i64.wrap ((i:Int)+1)=((i+1:Nat):Int):=by rw[Ju (by omega) (by omega)];omega
theorem Z7n{n:Nat}(h:n < 256):IntKind.u8.wrap (n:Int)=n:=by
 show((n:Int) % (2 ^ 8:Int))=n
 omega
section
variable{P:Program}{E:Env P}{te ts:TypeId}{re rs:TyRec}(T:SlTy E te ts re rs)
include T
theorem Q93{tx:TypeId}{h:Heap}{n0 z n m:Nat}{v x:Value}{xs ys:List Value}(hz:re.size=z)(hz1:1<=z)(o:Own h n0 z v n xs)(h0:n0<=h.next)(hn:Xnm E tx re x h=some (m,ys))(hm:ys.length=m*z)
  (hb1:(n+m)*re.bytes<=140737488355328) (hb2:n+m<=140737488355328) :
  ∃ v' h',Qi7 E ts tx v x h=some (v',h')/\Own h' n0 z v' (n+m) (xs++ys)/\Beyond v h h'/\∀ c,Uw v'=some c->Uw v=some c∨c=h.next:=by
 have q1:Nat.ble 1 re.size=true:=by rw[hz];exact Q6q hz1
 have q2:(ys.length != m*re.size)=false:=by rw[hz,hm];simp
 have q3:(Nat.ble ((n+m)*re.bytes) 140737488355328 && Nat.ble (n+m) 140737488355328)=true:=by rw[Bool.and_eq_true];exact⟨Q6q hb1,Q6q hb2⟩
 have oO:∀ k:Nat,k<=140737488355328->k≠Qfn:=fun k hk=>by unfold Qfn;omega
 have pushed:∀ olds:List Value,olds.length=n*z->olds=xs->∀ h1:Heap,Beyond v h h1->h1.next=h.next->Own (h1.push (.cells true re.size (olds++ys))) n0 z (.slice (some ⟨h1.next,0,none⟩) (n+m) Qfn) (n+m) (xs++ys)/\Beyond v h (h1.push (.cells true re.size (olds++ys))):=by
  rintro olds hl rfl h1 hb hnx
  refine⟨Own.new (by omega) (by rw[Heap.get_push,if_pos rfl,hz]) (by rw[List.length_append,hl,hm,Nat.add_mul]) (by unfold Qfn;omega) (.inl ⟨rfl,rfl⟩),?_,fun c hc hne => ?_⟩
  ·show h.next<=h1.next+1;omega
  ·rw[Heap.get_push,if_neg (by omega),hb.2 c hc hne]
 have inplace:∀ (bk c z':Nat) (rest:List Value),v=.slice (some ⟨bk,0,none⟩) n c->n0<=bk->h.get bk=some (.cells true z' (xs++rest))->xs.length=n*z->c<=Qfn->n+m<=c->(c=Qfn/\z'=z∨c≠Qfn/\(xs++rest).length=c*z)->ys.length<=rest.length ->
   storeAt h ⟨bk,n*z,none⟩ ys=some (h.set bk (some (.cells true z' (xs++ys++rest.drop ys.length))))/\Own (h.set bk (some (.cells true z' (xs++ys++rest.drop ys.length)))) n0 z (.slice (some ⟨bk,0,none⟩) (n+m) c) (n+m) (xs++ys)/\Beyond v h (h.set bk (some (.cells true z' (xs++ys++rest.drop ys.length)))):=by
  intro bk c z' rest hv hb hg hx hc0 hnm hc hr
  refine⟨?_,?_,Nat.le_refl _,fun k hk hne => ?_⟩
  ·simp only[storeAt,hg]
   rw[Qtg (by rw[List.length_append,hx];omega),<- hx]
   simp[List.drop_append,List.drop_eq_nil_of_le (show xs.length<=xs.length+ys.length by omega)]
  ·refine .inr ⟨bk,c,z',rest.drop ys.length,rfl,hb,by rw[Heap.get_set _ _ _ _ (Heap.get_lt hg),if_pos rfl],by rw[List.length_append,hx,hm,Nat.add_mul],hnm,hc0,?_⟩
   rcases hc with h1 | ⟨h1,h2⟩
   ·exact .inl h1
   ·refine .inr ⟨h1,?_⟩
    rw[<- h2]
    simp only[List.length_append,List.length_drop]
    omega
  ·subst hv
   rw[Heap.get_set _ _ _ _ (Heap.get_lt hg),if_neg (fun e=>hne (by rw[<- e];rfl))]
 have hrefl:Beyond v h h:=⟨Nat.le_refl _,fun _ _ _=>rfl⟩
 rcases o with⟨rfl,rfl,rfl⟩ | ⟨bk,c,z',rest,rfl,hb,hg,hx,hnc,hcO,hc⟩
 ·have e0:((0:Nat) != Qfn)=true:=by decide
  simp only[Qi7,T.s,T.d,T.e,q1,Bool.not_true,hn,q2,e0,Bool.true_and,q3]
  cases ys with
  | nil =>
   have : m=0:=by
    cases m with
    | zero=>rfl
    | succ m=>simp at hm;rw[Nat.add_mul]at hm;omega
   subst this
   exact⟨_,_,rfl,Own.nil,hrefl,fun c hc=>by cases hc⟩
  | cons y ys =>
   have hm0:m≠0:=by rintro rfl;simp at hm
   have e1:Nat.ble (0+m) 0=false:=by rw[Bool.eq_false_iff];intro h;rw[Nat.ble_eq]at h;omega
   simp only[e1]
   obtain⟨p1,p2⟩:=pushed [] (by simp) rfl h hrefl rfl
   exact⟨_,_,rfl,p1,p2,fun c hc => .inr (by cases hc;rfl)⟩
 ·simp only[Qi7,T.s,T.d,T.e,q1,Bool.not_true,hn,q2,q3]
  rcases hc with⟨rfl,rfl⟩ | ⟨hc1,hc2⟩
  ·have e0:(Qfn != Qfn)=false:=by simp
   have e3:(z' == re.size && 0 % z' == 0)=true:=by simp[hz]
   have e4:((0:Nat) == 0)=true:=rfl
   simp only[e0,Bool.false_and,Bool.false_eq_true,if_false,hg,e3,Bool.not_true,Nat.zero_add,e4,if_true]
   by_cases hroom:(n+m)*z'<=(xs++rest).length
   ·have e5:Nat.ble ((n+m)*z') (xs++rest).length=true:=Q6q hroom
    have hr:ys.length<=rest.length:=by rw[List.length_append,hx,Nat.add_mul]at hroom;omega
    simp only[e5]
    obtain⟨p1,p2,p3⟩:=inplace bk Qfn z' rest rfl hb hg hx (Nat.le_refl _) (by unfold Qfn;omega) (.inl ⟨rfl,rfl⟩) hr
    cases ys with
    | nil =>
     refine⟨_,_,rfl,?_,hrefl,fun c hc => .inl (by cases hc;rfl)⟩
     have hm0:m=0:=by
      cases m with
      | zero=>rfl
      | succ m=>simp at hm;rw[Nat.add_mul]at hm;omega
     subst hm0
     exact .inr ⟨bk,Qfn,z',rest,rfl,hb,by simpa using hg,by simpa using hx,hnc,hcO,.inl ⟨rfl,rfl⟩⟩
    | cons y ys =>
     have ea:(⟨bk,0,none⟩:Addr).add (n*z')=⟨bk,n*z',none⟩:=by rw[Qm2,Nat.zero_add]
     refine⟨_,_,?_,p2,p3,fun c hc => .inl (by cases hc;rfl)⟩
     simp only[ea,p1]
     rfl
   ·have e5:Nat.ble ((n+m)*z') (xs++rest).length=false:=by rw[Bool.eq_false_iff];intro h;rw[Nat.ble_eq]at h;omega
    have e6:Qyv (n*z') (xs++rest)=some xs:=by
     rw[Qss (by rw[List.length_append,hx];omega),<- hx];simp
    simp only[e5,Bool.false_eq_true,if_false,e6]
    obtain⟨p1,p2⟩:=pushed xs hx rfl (h.set bk none) ⟨Nat.le_refl _,fun c hc hne=>by rw[Heap.get_set _ _ _ _ (Heap.get_lt hg),if_neg (fun e=>hne (by rw[<- e];rfl))]⟩ rfl
    rw[hz]at p1 p2
    exact⟨_,_,rfl,p1,p2,fun c hc => .inr (by cases hc;rfl)⟩
  ·have e0:(c != Qfn)=true:=by simpa using hc1
   simp only[e0,Bool.true_and]
   by_cases hroom:n+m<=c
   ·have e5:Nat.ble (n+m) c=true:=Q6q hroom
    have hr:ys.length<=rest.length:=by
     have : (n+m)*z<=c*z:=Nat.mul_le_mul_right _ hroom
     rw[<- hc2,List.length_append,hx,Nat.add_mul]at this;omega
    simp only[e5]
    obtain⟨p1,p2,p3⟩:=inplace bk c z' rest rfl hb hg hx hcO hroom (.inr ⟨hc1,hc2⟩) hr
    cases ys with
    | nil =>
     refine⟨_,_,rfl,?_,hrefl,fun c hc => .inl (by cases hc;rfl)⟩
     have hm0:m=0:=by
      cases m with
      | zero=>rfl
      | succ m=>simp at hm;rw[Nat.add_mul]at hm;omega
     subst hm0
     exact .inr ⟨bk,c,z',rest,rfl,hb,by simpa using hg,by simpa using hx,hnc,hcO,.inr ⟨hc1,by simpa using hc2⟩⟩
    | cons y ys =>
     have ea:(⟨bk,0,none⟩:Addr).add (n*re.size)=⟨bk,n*z,none⟩:=by rw[Qm2,Nat.zero_add,hz]
     refine⟨_,_,?_,p2,p3,fun c hc => .inl (by cases hc;rfl)⟩
     simp only[ea,p1]
     rfl
   ·have e5:Nat.ble (n+m) c=false:=by rw[Bool.eq_false_iff];intro h;rw[Nat.ble_eq]at h;omega
    have e6:Ab.cellsAt h ⟨bk,0,none⟩ (n*re.size)=some xs:=by
     simp only[Ab.cellsAt,hg,hz,List.drop_zero]
     rw[Qss (by rw[List.length_append,hx];omega),<- hx];simp
    simp only[e5,Bool.false_eq_true,if_false,e6]
    obtain⟨p1,p2⟩:=pushed xs hx rfl h hrefl rfl
    exact⟨_,_,rfl,p1,p2,fun c hc => .inr (by cases hc;rfl)⟩
theorem Qp5{tx:TypeId}{h:Heap}{n0 z n m:Nat}{v x:Value}{xs ys:List Value}(hz:re.size=z)(hz1:1<=z)(o:Own h n0 z v n xs)(h0:n0<=h.next)(hn:Xnm E tx re x h=some (m,ys))(hm:ys.length=m*z)
  (hb1:(n+m)*re.bytes<=140737488355328) (hb2:n+m<=140737488355328) :
  ∃ v' h',Qi7 E ts tx v x h=some (v',h')/\Own h' n0 z v' (n+m) (xs++ys)/\Beyond v h h':=by
 obtain⟨v',h',k1,k2,k3, -⟩:=Q93 T hz hz1 o h0 hn hm hb1 hb2
 exact⟨v',h',k1,k2,k3⟩
theorem Q56{h:Heap}{z n:Nat}{x:Value}{ys:List Value}(hz:re.size=z)(s:Sl h z x n ys):Xnm E ts re x h=some (n,ys):=by
 rcases s with⟨c,rfl,_,rfl,rfl⟩ | ⟨bk,o,c,ow,z',pre,post,rfl,h1,h2,h3, -⟩
 ·simp[Xnm,T.s,T.d,Xk4,Zo1]
 ·have : Qyv (n*re.size) ((pre++ys++post).drop o)=some ys:=by
   rw[hz,<- h2,List.append_assoc,List.drop_left,Qss (by rw[List.length_append,h3];omega),<- h3];simp
  simp[Xnm,T.s,T.d,Xk4,Zo1,Ab.cellsAt,h1,this,-List.append_assoc]
theorem Xih{h:Heap}{z n:Nat}{v:Value}{xs:List Value}(hz:re.size=z)(s:Sl h z v n xs){k:IntKind}{i:Int}(h0:0<=i)(h1:i < n) :
  ∃ bk o,Uw v=some bk/\Xq E ts v (.int k i)=some (.pointer (some ⟨bk,o,none⟩))/\(∀ j,j < z->Yp h bk (o+j)=xs[i.toNat*z+j]?)/\U8 h bk o z=some (.agg ⟨(xs.drop (i.toNat*z)).take z⟩):=by
 rcases s with⟨c,rfl,_,rfl,rfl⟩ | ⟨bk,o,c,ow,z',pre,post,rfl,g1,g2,g3, -⟩
 ·omega
 ·have hi:i.toNat*z+z<=n*z:=by
   have : (i.toNat+1)*z<=n*z:=Nat.mul_le_mul_right _ (by omega)
   rw[Nat.add_mul]at this;omega
  refine⟨bk,o+i.toNat*z,rfl,Qi5 T hz ⟨h0,h1⟩,fun j hj => ?_,?_⟩
  ·rw[Xm g1,List.append_assoc,List.getElem?_append_right (by omega),List.getElem?_append_left (by omega)]
   congr 1;omega
  ·rw[Yq g1 (by simp only[List.length_append];omega)]
   congr 3
   rw[<- g2,List.append_assoc,List.drop_append,List.drop_eq_nil_of_le (by omega),List.nil_append,List.drop_append_of_le_length (by omega),List.take_append_of_le_length (by rw[List.length_drop];omega)]
   congr 2;omega
theorem Zt6{h:Heap}{z n l hh:Nat}{v:Value}{xs:List Value}{lo hi:Option Value}(hz:re.size=z)(hz1:1<=z)(s:Sl h z v n xs)(hlo:Qfd lo 0 hh=some l)(hhi:∀ room,n<=room->Qfd hi n room=some hh)(hl:l<=hh)(hn:hh<=n) :
  ∃ v' h',Qdk E ts v lo hi none h=some (v',h')/\Sl h' z v' (hh-l) ((xs.drop (l*z)).take ((hh-l)*z))/\Old h h'/\(Uw v'=Uw v/\h'=h∨Uw v'=some h.next/\hh=l)/\(l=0->h'=h/\∃ a c,v=.slice a n c/\v'=.slice a hh c):=by
 have ml:(hh-l)*z=hh*z-l*z:=Nat.sub_mul _ _ _
 have hnz:hh*z<=n*z:=Nat.mul_le_mul_right _ hn
 have hlz:l*z<=hh*z:=Nat.mul_le_mul_right _ hl
 have e00:(hi.isNone && (none:Option Value).isSome)=false:=by simp
 rcases s with⟨c,rfl,h0,rfl,rfl⟩ | ⟨bk,o,c,ow,z',pre,post,rfl,h1,h2,h3,h4,h5,h6⟩
 ·have : hh=0:=by omega
  subst this
  have : l=0:=by omega
  subst this
  have e0:(c != Qfn)=true:=by simp;omega
  have e1:(c-0 == Qfn)=false:=by simp;omega
  have e2:Qfd (none:Option Value) c c=some c:=rfl
  refine⟨.slice none 0 c,h,?_,.inl ⟨c,rfl,h0,rfl,by simp⟩,Old.refl _,.inl ⟨rfl,rfl⟩,fun _=>⟨rfl,none,c,rfl,rfl⟩⟩
  simp only[Qdk,e00,Bool.false_eq_true,if_false,T.s,T.d,T.e,e0,if_true,e2,hhi c (Nat.zero_le _),hlo,Z93,e1]
  simp
 ·have hx:(xs.drop (l*z)).take ((hh-l)*z)=((xs.drop (l*z)).take ((hh-l)*z)):=rfl
  have split3:∀ k,k=l*z->pre++xs++post=(pre++xs.take k)++(xs.drop k).take ((hh-l)*z)++((xs.drop k).drop ((hh-l)*z)++post):=by
   intro k _
   have a1:xs=xs.take k++((xs.drop k).take ((hh-l)*z)++(xs.drop k).drop ((hh-l)*z)):=by rw[List.take_append_drop,List.take_append_drop]
   conv=>lhs;rw[a1]
   simp only[List.append_assoc]
  have lenm:((xs.drop (l*z)).take ((hh-l)*z)).length=(hh-l)*z:=by rw[List.length_take,List.length_drop,h3];omega
  by_cases hc:c=Qfn
  ·subst hc
   obtain⟨rfl,g1,g2⟩:=h6 rfl
   have e0:(Qfn != Qfn)=false:=by simp
   have e1:(z' == re.size && o % z' == 0 && Nat.ble 1 z')=true:=by simp[hz,g1,Q6q hz1]
   have stay:l=0->Sl h z' (.slice (some ⟨bk,o,none⟩) hh Qfn) (hh-l) ((xs.drop (l*z')).take ((hh-l)*z')):=by
    rintro rfl
    refine .inr ⟨bk,o,Qfn,ow,z',pre,xs.drop (hh*z')++post,rfl,?_,h2,lenm,by omega,Nat.le_refl _,fun _=>⟨rfl,g1,?_⟩⟩
    ·rw[h1,split3 0 (by simp)];simp
    ·rcases g2 with g | ⟨ga,gb⟩
     ·exact .inl g
     ·refine .inr ⟨by omega,?_⟩
      have : xs.length=0:=by rw[h3,ga];simp
      have hxs:xs=[]:=List.eq_nil_of_length_eq_zero this
      subst hxs
      simpa using gb
   cases ow with
   | false =>
    rcases g2 with g | ⟨ga,gb⟩
    ·cases g
    ·subst ga
     have : hh=0:=by omega
     subst this
     have : l=0:=by omega
     subst this
     rw[gb]at h1
     simp only[Qdk,e00,Bool.false_eq_true,if_false,T.s,T.d,T.e,e0,h1,e1,if_true,hhi 0 (Nat.le_refl _),hlo,beq_self_eq_true]
     exact⟨_,h,rfl,stay rfl,Old.refl _,.inl ⟨rfl,rfl⟩,fun _=>⟨rfl,_,_,rfl,rfl⟩⟩
   | true =>
    have hroom:n<=((pre++xs++post).length-o) / z':=by
     rw[Nat.le_div_iff_mul_le (by omega)]
     simp only[List.length_append];omega
    have key:∃ v' h',Qdk E ts (.slice (some ⟨bk,o,none⟩) n Qfn) lo hi none h=Qdk.aCut ⟨bk,o,none⟩ z' (pre++xs++post).length l hh h/\Qdk.aCut ⟨bk,o,none⟩ z' (pre++xs++post).length l hh h=some (v',h')/\Sl h' z' v' (hh-l) ((xs.drop (l*z')).take ((hh-l)*z'))/\Old h h'/\(Uw v'=some bk/\h'=h∨Uw v'=some h.next/\hh=l)/\(l=0->h'=h/\v'=.slice (some ⟨bk,o,none⟩) hh Qfn):=by
     have q1:Qdk E ts (.slice (some ⟨bk,o,none⟩) n Qfn) lo hi none h=Qdk.aCut ⟨bk,o,none⟩ z' (pre++xs++post).length l hh h:=by
      simp only[Qdk,e00,Bool.false_eq_true,if_false,T.s,T.d,T.e,e0,h1,e1,if_true]
      cases hi with
      | none =>
       have : hh=n:=by have:=hhi n (Nat.le_refl _);simp[Qfd]at this;omega
       subst this
       simp only[hlo]
      | some hv=>simp only[hhi _ hroom,hlo]
     by_cases hl0:l=0
     ·subst hl0
      exact⟨.slice (some ⟨bk,o,none⟩) hh Qfn,h,q1,by simp[Qdk.aCut],stay rfl,Old.refl _,.inl ⟨rfl,rfl⟩,fun _=>⟨rfl,rfl⟩⟩
     ·have hl0':(l == 0)=false:=by simpa using hl0
      by_cases hb:o+l*z' < (pre++xs++post).length
      ·have hb':Nat.blt (o+l*z') (pre++xs++post).length=true:=by rw[Nat.blt_eq];exact hb
       refine⟨.slice (some ⟨bk,o+l*z',none⟩) (hh-l) Qfn,h,q1,by simp only[Qdk.aCut,hl0',Bool.false_eq_true,if_false,hb',if_true,Qm2],?_,Old.refl _,.inl ⟨rfl,rfl⟩,fun e=>absurd e hl0⟩
       refine .inr ⟨bk,o+l*z',Qfn,true,z',pre++xs.take (l*z'),(xs.drop (l*z')).drop ((hh-l)*z')++post,rfl,?_,?_,lenm,by omega,Nat.le_refl _,fun _=>⟨rfl,?_,.inl rfl⟩⟩
       ·rw[h1,split3 _ rfl]
       ·rw[List.length_append,List.length_take,h2];omega
       ·rw[Nat.add_mul_mod_self_right];exact g1
      ·have hb':Nat.blt (o+l*z') (pre++xs++post).length=false:=by rw[Bool.eq_false_iff];intro h;rw[Nat.blt_eq]at h;omega
       have hlen:(pre++xs++post).length ≥ o+hh*z':=by simp only[List.length_append];omega
       have hle:hh<=l:=by
        rcases Nat.lt_or_ge l hh with hlt | hge
        ·have : (l+1)*z'<=hh*z':=Nat.mul_le_mul_right _ hlt
         rw[Nat.add_mul]at this;omega
        ·exact hge
       have e9:hh=l:=by omega
       subst e9
       refine⟨.slice (some ⟨h.next,0,none⟩) 0 Qfn,h.push (.cells false z' []),q1,by simp only[Qdk.aCut,hl0',Bool.false_eq_true,if_false,hb',Q6q hle,if_true],?_,Old.push _ _,.inr ⟨rfl,rfl⟩,fun e=>absurd e hl0⟩
       refine .inr ⟨h.next,0,Qfn,false,z',[],[],?_,?_,rfl,by simp,by omega,Nat.le_refl _,fun _=>⟨rfl,Nat.zero_mod _,.inr ⟨by omega,by simp⟩⟩⟩
       ·simp
       ·rw[Heap.get_push,if_pos rfl];simp
    obtain⟨v',h',k1,k2,k3,k4,k5,k6⟩:=key
    exact⟨v',h',by rw[k1,k2],k3,k4,k5,fun e=>⟨(k6 e).1,_,_,rfl,(k6 e).2⟩⟩
  ·have e0:(c != Qfn)=true:=by simpa using hc
   have e1:(c-l == Qfn)=false:=by simp;omega
   have e2:Qfd (none:Option Value) c c=some c:=rfl
   refine⟨.slice (if c=l then some ⟨bk,o,none⟩else(some ⟨bk,o,none⟩:Option Addr).map (·.add (l*re.size))) (hh-l) (c-l),h,?_,?_,Old.refl _,.inl ⟨?_,rfl⟩,?_⟩
   ·simp only[Qdk,e00,Bool.false_eq_true,if_false,T.s,T.d,T.e,e0,if_true,e2,hhi c h4,hlo,Z93,e1]
    rfl
   ·by_cases hcl:c=l
    ·have : hh-l=0:=by omega
     rw[if_pos hcl,this]
     refine .inr ⟨bk,o,c-l,ow,z',pre,xs++post,rfl,by simpa using h1,h2,by simp,by omega,by omega,fun hq => ?_⟩
     unfold Qfn at hq;omega
    ·rw[if_neg hcl]
     simp only[Option.map_some,Qm2,hz]
     refine .inr ⟨bk,o+l*z,c-l,ow,z',pre++xs.take (l*z),(xs.drop (l*z)).drop ((hh-l)*z)++post,rfl,?_,?_,lenm,by omega,by omega,fun hq => ?_⟩
     ·rw[h1,split3 _ rfl]
     ·rw[List.length_append,List.length_take,h2];omega
     ·exfalso;omega
   ·split <;> simp[Uw,Qm2]
   ·rintro rfl
    refine⟨rfl,some ⟨bk,o,none⟩,c,rfl,?_⟩
    split <;> simp[Qm2]
omit T in
theorem Xdz{d n:Nat}{k:IntKind}{i:Int}(h0:0<=i)(h1:i<=n):Qfd (some (.int k i)) d n=some i.toNat:=by simp[Qfd,h0,h1]
theorem Z0l{h:Heap}{z n:Nat}{v:Value}{xs:List Value}{k:IntKind}{i:Int}(hz:re.size=z)(hz1:1<=z)(s:Sl h z v n xs)(h0:0<=i)(h1:i<=n) :
  ∃ v' h',Qdk E ts v (some (.int k i)) none none h=some (v',h')/\Sl h' z v' (n-i.toNat) (xs.drop (i.toNat*z))/\Old h h'/\(Uw v'=Uw v/\h'=h∨Uw v'=some h.next/\n=i.toNat):=by
 obtain⟨v',h',k1,k2,k3,k4, -⟩:=Zt6 T (lo:=some (.int k i)) (hi:=none) (l:=i.toNat) (hh:=n) hz hz1 s (Xdz h0 h1) (fun _ _=>rfl) (by omega) (Nat.le_refl _)
 refine⟨v',h',k1,?_,k3,k4⟩
 rwa [List.take_of_length_le (by rw[List.length_drop,s.len,Nat.sub_mul];omega)]at k2
theorem Jda{h:Heap}{z n:Nat}{v:Value}{xs:List Value}{k:IntKind}{i:Int}(hz:re.size=z)(hz1:1<=z)(s:Sl h z v n xs)(h0:0<=i)(h1:i<=n) :
  ∃ v',Qdk E ts v none (some (.int k i)) none h=some (v',h)/\Sl h z v' i.toNat (xs.take (i.toNat*z))/\Uw v'=Uw v:=by
 obtain⟨v',h',k1,k2,k3,k4,k5⟩:=Zt6 T (lo:=none) (hi:=some (.int k i)) (l:=0) (hh:=i.toNat) hz hz1 s rfl (fun room hr=>Xdz h0 (by omega)) (by omega) (by omega)
 obtain⟨rfl,a,c,rfl,rfl⟩:=k5 rfl
 refine⟨_,k1,by simpa using k2,?_⟩
 cases a <;> rfl
theorem Z9b{h:Heap}{z n:Nat}{v:Value}{xs:List Value}{k k2:IntKind}{i j:Int}(hz:re.size=z)(hz1:1<=z)(s:Sl h z v n xs)(h0:0<=i)(h1:i<=j)(h2:j<=n) :
  ∃ v' h',Qdk E ts v (some (.int k i)) (some (.int k2 j)) none h=some (v',h')/\Sl h' z v' (j.toNat-i.toNat) ((xs.drop (i.toNat*z)).take ((j.toNat-i.toNat)*z))/\Old h h'/\(Uw v'=Uw v/\h'=h∨Uw v'=some h.next/\j.toNat=i.toNat):=by
 obtain⟨v',h',q1,q2,q3,q4, -⟩:=Zt6 T (lo:=some (.int k i)) (hi:=some (.int k2 j)) (l:=i.toNat) (hh:=j.toNat) hz hz1 s (Xdz h0 (by omega)) (fun room hr=>Xdz (by omega) (by omega)) (by omega) (by omega)
 exact⟨v',h',q1,q2,q3,q4⟩
theorem Z62{h:Heap}{n0 z n:Nat}{v:Value}{xs:List Value}{k:IntKind}{i:Int}(hz:re.size=z)(hz1:1<=z)(s:Own h n0 z v n xs)(h0:0<=i)(h1:i<=n) :
  ∃ v',Qdk E ts v none (some (.int k i)) none h=some (v',h)/\Own h n0 z v' i.toNat (xs.take (i.toNat*z))/\Uw v'=Uw v:=by
 obtain⟨v',h',k1,k2,k3,k4,k5⟩:=Zt6 T (lo:=none) (hi:=some (.int k i)) (l:=0) (hh:=i.toNat) hz hz1 s.sl rfl (fun room hr=>Xdz h0 (by omega)) (by omega) (by omega)
 obtain⟨rfl,a,c,rfl,rfl⟩:=k5 rfl
 refine⟨_,k1,?_,by cases a <;> rfl⟩
 rcases s with⟨e,rfl,rfl⟩ | ⟨bk,c',z',rest,e,g1,g2,g3,g4,g5,g6⟩
 ·cases e
  have : i.toNat=0:=by omega
  rw[this]
  exact .inl ⟨rfl,rfl,by simp⟩
 ·cases e
  have hi:i.toNat*z<=n*z:=Nat.mul_le_mul_right _ (by omega)
  refine .inr ⟨bk,c,z',xs.drop (i.toNat*z)++rest,rfl,g1,?_,?_,by omega,g5,?_⟩
  ·rw[g2];rw[<- List.append_assoc,List.take_append_drop]
  ·rw[List.length_take,g3];omega
  ·rcases g6 with h | ⟨h,h'⟩
   ·exact .inl h
   ·exact .inr ⟨h,by rw[<- List.append_assoc,List.take_append_drop];exact h'⟩
omit T in
theorem Zwm{c l:List Value}(h:l.length=c.length):Qlv c 0 l=some l:=by
 rw[Qtg (by omega)]
 simp[h]
theorem Qu6{z:Nat}{y:Value}{ys:List Value}(hz:re.size=z)(hz1:1<=z)(hz2:z<=16777216)(hy:Qkh y=true)(hys:y.cells.toList=ys)(hl:ys.length=z){h:Heap}:Xc E ts 1 [(0,y)] h=some (.slice (some ⟨h.next,0,none⟩) 1 1,h.push (.cells true 1 ys)):=by
 obtain⟨-,i, -, -, -, -, -, -,hzc, -⟩:=E.tyok _ _ T.e
 have e1:(Nat.ble (1*re.size) 16777216 && Nat.ble 1 re.size)=true:=by rw[hz,Nat.one_mul,Q6q hz2,Q6q hz1];rfl
 have e2:(Qch re.zero.cells.toList 1).length=z:=by simp[Qch,hzc,hz]
 have e3:(Qkh y && y.cells.size == re.size && Nat.ble (0*re.size+re.size) (Qch re.zero.cells.toList 1).length)=true:=by
  have : y.cells.size=z:=by rw[<- hl,<- hys];simp
  rw[hy,this,hz,e2,Nat.zero_mul,Nat.zero_add]
  simp[Q6q]
 have e4:Qlv (Qch re.zero.cells.toList 1) (0*re.size) ys=some ys:=by rw[Nat.zero_mul];exact Zwm (hl.trans e2.symm)
 simp only[Xc,T.s,T.d,T.e,e1,if_true,X1r,e3,hys,e4,Option.map_some]
theorem Q84{h:Heap}{n0 z n:Nat}{v:Value}{xs ys:List Value}(hz:re.size=z)(hz1:1<=z)(o:Own h n0 z v n xs)(h0:n0<=h.next)(hl:ys.length=z)(hb:(n+1)*re.bytes<=140737488355328)(hb2:n+1<=140737488355328) :
  ∃ v' h',Qi7 E ts ts v (.slice (some ⟨h.next,0,none⟩) 1 1) (h.push (.cells true 1 ys))=some (v',h')/\Own h' n0 z v' (n+1) (xs++ys)/\Beyond v h h'/\∀ c,Uw v'=some c->Uw v=some c∨h.next<=c:=by
 have sl:Sl (h.push (.cells true 1 ys)) z (.slice (some ⟨h.next,0,none⟩) 1 1) 1 ys:=(Own.new (n0:=0) (z:=z) (Nat.zero_le _) (by rw[Heap.get_push,if_pos rfl]) (by simpa using hl) (by decide) (.inr rfl)).sl
 obtain⟨v',h',k1,k2,k3,k4⟩:=Q93 T hz hz1 (o.keep (h':=h.push (.cells true 1 ys)) fun c _ hc=>by rw[Heap.get_push,if_neg (by omega)]) (Nat.le_trans h0 (Nat.le_succ _)) (Q56 T hz sl) (by simpa using hl) hb hb2
 refine⟨v',h',k1,k2,⟨Nat.le_trans (Nat.le_succ _) k3.1,fun c hc hne => ?_⟩,fun c hc=>(k4 c hc).imp id fun e=>by rw[e];exact Nat.le_succ _⟩
 rw[k3.2 c (Nat.lt_of_lt_of_le hc (Nat.le_succ _)) hne,Heap.get_push,if_neg (by omega)]
theorem Xg8{h:Heap}{n0 z n:Nat}{v:Value}{xs ys:List Value}(hz:re.size=z)(hz1:1<=z)(o:Own h n0 z v n xs)(h0:n0<=h.next)(hl:ys.length=z)(hb:(n+1)*re.bytes<=140737488355328)(hb2:n+1<=140737488355328) :
  ∃ v' h',Qi7 E ts ts v (.slice (some ⟨h.next,0,none⟩) 1 1) (h.push (.cells true 1 ys))=some (v',h')/\Own h' n0 z v' (n+1) (xs++ys)/\Beyond v h h':=by
 obtain⟨v',h',k1,k2,k3, -⟩:=Q84 T hz hz1 o h0 hl hb hb2
 exact⟨v',h',k1,k2,k3⟩
theorem Qc7{h h1:Heap}{z n:Nat}{v:Value}{xs:List Value}(s:Sl h z v n xs):Qns E ts v h1=some (.int .i64 n):=by
 rcases s with⟨c,rfl,_,rfl,rfl⟩ | ⟨bk,o,c,ow,z',pre,post,rfl,g1,g2,g3, -⟩ <;> simp[Qns,T.s,T.d]
end
theorem Q9(k:IntKind)(z:Int):Zdv (.int k z)=true:=Eq.trans rfl rfl
theorem Q3(x:Bool):Zdv (.bool x)=true:=Eq.trans rfl rfl
theorem Q1(a:Option Addr)(n c:Nat):Zdv (.slice a n c)=true:=Eq.trans rfl rfl
theorem Q8(a:Option Addr):Zdv (.pointer a)=true:=Eq.trans rfl rfl
theorem Qc(a:Option Nat):Zdv (.map a)=true:=Eq.trans rfl rfl
theorem Qd(s:ByteArray):Zdv (.string s)=true:=Eq.trans rfl rfl
theorem Q0(t:TypeId)(v:Value):Zdv (.iface t v)=true:=Eq.trans rfl rfl
theorem Q2(f:Fn)(a c:Array Value):Zdv (.func f a c)=true:=Eq.trans rfl rfl
theorem Own.out{h:Heap}{n0 z n:Nat}{v:Value}{xs:List Value}(o:Own h n0 z v n xs){c:Nat}(hc:Uw v=some c):c < h.next:=(o.from hc).2
theorem Zw2(z:Int):Zzx z z=true:=by cases z <;> simp[Zzx]
theorem Zft(k:IntKind)(z:Int):X7i (some (.int k z)) (some (.int k z))=true:=by simp[X7i,Y1o,Xl6,Zw2]
theorem Xbl{h:Heap}{n0 z n:Nat}{v:Value}{xs:List Value}(o:Own h n0 z v n xs):X7i (some v) (some v)=true:=by
 rcases o with⟨rfl,_,_⟩ | ⟨bk,c,z',rest,rfl,_⟩
 ·simp[X7i,Y1o,Xl6,Xr1]
 ·simp[X7i,Y1o,Xl6,Xr1]
theorem Y5k{h:Heap}{z n:Nat}{v:Value}{xs:List Value}(o:Sl h z v n xs):X7i (some v) (some v)=true:=by
 rcases o with⟨c,rfl,_⟩ | ⟨bk,o,c,ow,z',pre,post,rfl,_⟩
 ·simp[X7i,Y1o,Xl6,Xr1]
 ·simp[X7i,Y1o,Xl6,Xr1]
open Go.ChangeShapes Go.WideShapes Go.RowKit
structure Same (W W':World):Prop where
 os:W'.os=W.os
 output:W'.output=W.output
 same:∀ i,i < W.heap.size->W'.heap[i]? = W.heap[i]?
theorem Zed{α α':Ren}{h h':Heap}{W W':World}(t:Turn α h W α' h' W')(ho:∀ b,h.own b=false):Same W W' :=
 ⟨t.os,t.output,fun i hi=>t.same i hi (fun b p _ ho'=>by rw[ho b]at ho';cases ho')⟩
theorem Same.kept{W W':World}(h:Same W W')(may:MemPlace->Prop):W.keptBut W' may:=by
 refine⟨h.os,h.output,fun i hi => ?_⟩
 rw[h.same i hi]
 split
 ·rename_i c1 t1 fr1 c2 t2 fr2 e1 e2
  rw[e1]at e2;cases e2
  exact⟨rfl,rfl,rfl,fun _ _=>rfl⟩
 ·rename_i e1 e2
  rw[e1]at e2;cases e2
  exact .inr ⟨rfl,rfl⟩
 ·rfl
theorem Same.at{W W':World}(h:Same W W'){p:MemPlace}(hp:p.block < W.heap.size):W.sameAt W' p:=by
 have:=h.same p.block hp
 cases p with
 | cell b o =>
  simp only[MemPlace.block]at this
  simp only[World.sameAt,World.cell?,this]
 | map b =>
  simp only[MemPlace.block]at this
  simp only[World.sameAt,this]
section
variable{P:Program}{H:Type}{enc:TypeId × Value->H}
theorem Trod.same{W W':World}(h:Same W W'){base:Nat}{spare:Nat->Bool}{held:Bool}:∀ {ts:List TypeId} {vs:List Value} {ds:List (DataW H)} {ps:List MemPlace},DataW.TrodAll enc P W base spare held ts vs ds ps->DataW.TrodAll enc P W' base spare held ts vs ds ps
 | [],[],[],_,q=>q
 | _::_,_::_,_::_,_,⟨p,q,⟨n,h1⟩,h2,e⟩=>⟨p,q,⟨n,DataW.trod_carry n _ _ _ h1 (fun x hx=>h.at (DataW.trod_lt n _ _ _ h1 x hx))⟩,Trod.same h h2,e⟩
theorem Znc{fn:Func}{s:ChangeSpec}{f:FuncId}{apart fresh handsOn:Bool}{tb:TypeId}(K:Kids P (· < P.types.size))(hz:∀ t e,t < P.types.size->P.underlying t=some (.slice e)->0 < P.cellsOf e)
  (hp:∀ t ∈ fn.params.toList,t < P.types.size) (hr:fn.resultTypes = #[tb]) (hb:P.underlying tb=some .bool) (hv:s.vars=[])
  {W:World} {args:Array Value} {ds gs:List (DataW H)} {before:List MemPlace} (hW:DataW.Whole enc P fn.params.toList s.vars apart W args.toList ds gs before)
  (hs:s.fn H ds = {results:=[.lit (.bool true)],args:=ds})
  (hcall:Calls P f args W (fun e W'=>e=.returned (.bool true)/\Same W W')) :
  Calls P f args W (fun e W' => ∃ v,e=.returned v/\s.post enc P fn apart fresh handsOn false W args v W'):=by
 have hW0:=hW
 obtain⟨p,q,hA,hV,rfl,hfz,hnd⟩:=hW
 rw[hv]at hV
 obtain⟨rfl,rfl⟩:gs=[]/\q=[]:=by
  cases gs with
  | nil=>exact⟨rfl,hV⟩
  | cons g r=>exact absurd hV (by intro h;cases h)
 refine hcall.mono fun e W' ⟨he,hk⟩ => ?_
 refine⟨.bool true,he,ds,[],_,[],p,[],hW0,?_,?_,?_,hk.kept _,fun h=>by cases h⟩
 ·rw[List.append_nil,hs,hr]
  exact trodAll_mk1 (shut_bool hb true)
 ·rw[List.append_nil,hs]
  exact(Trod.same hk hA).respare K hz hp (fun x hx=>by simpa using DataW.TrodAll.lt hA x hx)
 ·rw[List.append_nil,hs,hv]
  rfl
theorem Zr6{f:FuncId}{n:Nat}{α:Ren}{h:Heap}{vs:List Value}{args:Array Value}{W:World}(H:HRel ⟨n,W.heap.size⟩ α h W)(ho:∀ b,h.own b=false)(hok:∀ v ∈ vs,okV (dom α) v)(ha:args=(vs.map (ren α)).toArray)
  (hc:CallOK P ⟨n,W.heap.size⟩ f vs h (fun r _=>r=.ret (.bool true))):Calls P f args W (fun e W'=>e=.returned (.bool true)/\Same W W'):=by
 subst ha
 refine callsIn_wide.1 ((hc α W H hok).mono ?_)
 rintro e W' ⟨α',r,h2,rfl,rfl,_,_,t,_⟩
 exact⟨by simp[Qtr],Zed t ho⟩
end
open Go.ChangeShapes Go.WideShapes Go.RowKit
section
variable{P:Program}{G:Bs}{α:Ren}{h:Heap}{W:World}
theorem Jag{n:Int}(h:(Lit.int .u8 n).wf=true):0<=n/\n < 256:=by
 simp[Lit.wf,IntKind.min,IntKind.max,IntKind.bits,IntKind.signed]at h
 omega
end
end Go.Ab
