import Derived.Test.YtmgonkaadhbnpaaGreatDoorAbF
import Derived.Test.YtmgonkaadhbnpaaGreatDoorAbE
import Derived.ReadAgain
import Derived.ChangeSlices
set_option linter.all false
open List renaming length→L
open Option renaming some→U,none→O
open Bool renaming true→Y,false→J
open Go renaming Value→V
open Go.Value renaming int→I,slice→M
open Go.IntKind renaming i64→X
open Go.Ab.Blk renaming cells→S
noncomputable section
namespace Go.Ab
variable(d:Option Tmp)(s:St)(K:Exit->St->Prop){l:List V}{P:Program}{G:Bs}{f:FuncId}{h:N}{b:Nat}{bk:Nat}{o:Nat}{h':N}{n0:Nat}{z:Nat}{n:Nat}
def bare(o:Oper):Oper:={dst:=o.dst,op:=o.op,type:=0,pos := "",after:=#[],guard:=o.guard}
def Up:Code->Code
 | .seq a b => .seq (Up a) (Up b)
 | .cond c a b => .cond c (Up a) (Up b)
 | .block id c => .block id (Up c)
 | .loop c => .loop (Up c)
 | .region id ops J => .region 0 (ops.toList.map bare).toArray J
 | c=>c
def zf(id:Nat):Code->Option Code
 | .seq a b=>match zf id a with | some c=>U c | none=>zf id b
 | .cond _ a b=>match zf id a with | some c=>U c | none=>zf id b
 | .block _ c=>zf id c
 | .loop c=>zf id c
 | .region i ops d=>if i == id then U (.region i ops d)else O
 | .rangeFunc _ _ a b=>match zf id a with | some c=>U c | none=>zf id b
 | _=>O
def QG(id:Nat)(c:Code):Code:=(zf id c).getD .skip
def Bk:Code->Option Code
 | .seq a b=>match Bk a with | some c=>U c | none=>Bk b
 | .cond _ a b=>match Bk a with | some c=>U c | none=>Bk b
 | .block _ c=>Bk c
 | .loop c=>Bk c
 | .rangeFunc g ps a b=>U (.rangeFunc g ps a b)
 | _=>O
def QF:Code->Array Oper
 | .region _ ops _=>ops
 | _ => #[]
def xJ(c:Code):Code:=(Bk c).getD .skip
section
variable{P:Program}{E:f_ P}{C:h_}{rd:Option Nat}
def Urp{A B:Type}(f:A->B):∀ (l:List A) (i:Nat),iD (l.map f) i=(iD l i).map f
 | [],i=>by cases i <;> rfl
 | a::l,0=>rfl
 | a::l,i+1=>by simpa[iD]using Urp f l i
def Cq(ops:List Oper)(t:Tm)(o:Oper):Qg (ops.map bare) t (bare o)=Qg ops t o:=by
 unfold Qg;show(match o.guard with | none=>_ | some (j,hc)=>_)=_;cases o.guard with
 | none=>rfl
 | some g =>
  obtain⟨j,hc⟩:=g;simp only[Urp];cases iD ops j with
  | none=>rfl
  | some oj=>rfl
def Uuh(o:Oper)(s:St):CR E C rd (bare o) s=CR E C rd o s:=rfl
def Nk(ops:List Oper):∀ (l:List Oper) (s:St),vh E C rd (ops.map bare) (l.map bare) s=vh E C rd ops l s
 | [],s=>rfl
 | o::r,s=>by
  simp only[aH,vh,Cq,Uuh];split
  ·split
   ·exact Nk ops r _
   ·rfl
   ·rfl
  ·show(if lg s o.dst=Y then _ else _)=_;split
   ·exact Nk ops r _
   ·rfl
  ·rfl
def Q8(n i:Nat)(t:Tr V)(ds:List Deferred)(h:N):lg ⟨⟨n,t⟩,ds,h⟩ (U i)=decide (i < n):=by
 show Nat.blt i n=_;by_cases j:i < n
 ·simp_all
 ·rw[bM.2 (fun k:Nat.blt i n=Y=>j (by simp_all))];simp[j]
def Qd(s:St):lg s O=Y:=rfl
def Qw:(0 == iJ)=J:=kA
def Qm(t:TypeId)(a b:Int):ja (binOp .lss t (I X a) (I X b))=U (.bool (decide (a < b))):=kR
def Qp(t:TypeId)(a b:Int):ja (binOp .gtr t (I X a) (I X b))=U (.bool (decide (a > b))):=kR
def Qn(t:TypeId)(a b:Int):ja (binOp .leq t (I X a) (I X b))=U (.bool (decide (a<=b))):=kR
def Qo(t:TypeId)(a b:Int):ja (binOp .geq t (I X a) (I X b))=U (.bool (decide (a ≥ b))):=kR
def Qk(t:TypeId)(a b:Int):ja (binOp .add t (I X a) (I X b))=U (I X (IntKind.i64.wrap (a+b))):=kR
def Ql(t:TypeId)(a b:Int):ja (binOp .sub t (I X a) (I X b))=U (I X (IntKind.i64.wrap (a-b))):=kR
def Qj(t:TypeId)(a b:Int):ja (binOp .mul t (I X a) (I X b))=U (I X (IntKind.i64.wrap (a*b))):=kR
end
def i64(z:Int):V:=I X z
structure GB {P:Program} (E:jo P) (te ts:TypeId) (re rs:ir):Prop where
 e:E.ty.A te=U re
 s:E.ty.A ts=U rs
 ed:re.desc=.int X
 sd:rs.desc=.slice te
 size:re.size=1
 zero:re.zero=I X 0
 bytes:re.bytes=8
def V80{i:Nat}{v:V}(h:l[i]? = U v):nQ 1 (l.drop i)=U [v]:=by
 have : l.drop i=v::l.drop (i+1):=by
  rw[bh (av.1 h).1];congr 1;exact(av.1 h).2
 rw[this];simp[nQ]
section
variable{P:Program}{E:jo P}{te ts:TypeId}{re rs:ir}(T:GB E te ts re rs)
include T
end
structure iP where
 fn:FuncId->List V->N->(jc->N->Prop)->Prop
 rnd:Nat->List V->N->(jc->N->Prop)->Prop
 die:Bool
structure i_ (P:Program) (G:Bs) (C:iP):Prop where
 fn:∀ f args h K,C.fn f args h K->gr P G f args h K
 rnd:∀ l args h K,C.rnd l args h K->AP P G l args h K
def GA(P:Program)(G:Bs):iP:=⟨fun f args h K=>gr P G f args h K,fun l args h K=>AP P G l args h K,Y⟩
def lQ(P:Program)(G:Bs):i_ P G (GA P G):=⟨fun _ _ _ _ h=>h,fun _ _ _ _ h=>h⟩
def Fk(d:Option Tmp)(s:St)(K:Exit->St->Prop)(r:jc)(h:N):Prop:=match r with
 | .ret v=>K .normal (s.put d v h)
 | .panic j=>K (.panic j) {s with h:=h}
def Ck(E:f_ P)(C:iP)(x:Operand)(isS:Bool)(d:Option Tmp)(s:St)(K:Exit->St->Prop):Prop:=match iH E.G s.t x with
 | some it=>(∃ y,r8 it isS s.h=[y]/\K .normal (s.put d y.1 y.2))∨(C.die=Y/\r8 it isS s.h ≠ []/\∀ y ∈ r8 it isS s.h,K .normal (s.put d y.1 y.2))
 | none=>False
def X0(E:f_ P)(C:iP)(rd:Option Nat)(o:Oper)(s:St)(K:Exit->St->Prop):Prop :=
 if !lg s o.dst then False else
 match o.op with
 | .defer c=>match rd with
  | none=>match E9 E s.t c with
   | some d=>K .normal (({s with ds:=d::s.ds}:St).put o.dst Qq s.h)
   | none=>False
  | some _=>False
 | .next x j=>Ck E C x j o.dst s K
 | _=>match jm E s.t s.h o with
  | some (.val v h)=>K .normal (s.put o.dst v h)
  | some (.skip h)=>K .normal (s.put o.dst Qq h)
  | some (.panic v h)=>K (.panic [{v,recovered:=false}]) {s with h:=h}
  | some (.enter f args h)=>C.fn f args h (Fk o.dst s K)
  | some (.round l args h)=>C.rnd l args h (Fk o.dst s K)
  | _=>False
def x6(F:St->Prop)(K:Exit->St->Prop)(e:Exit)(j:St):Prop:=match e with
 | .normal=>F j
 | .panic ch=>K (.panic ch) j
 | _=>False
def oE{P:Program}(E:f_ P)(C:iP)(rd:Option Nat)(ops:List Oper)(K:Exit->St->Prop):List Oper->St->Prop
 | [],s=>K .normal s
 | o::r,s=>match Qg ops s.t o with
  | some Y=>X0 E C rd o s (x6 (oE E C rd ops K r) K)
  | some J=>if lg s o.dst then oE E C rd ops K r (s.put o.dst Qq s.h)else False
  | none=>False
def Y9(E:f_ P)(C:iP)(rd:Option Nat)(ops:List Oper)(K:Exit->St->Prop)(t:Tm)(ds:List Deferred)(h:N):oE E C rd ops K [] ⟨t,ds,h⟩=K .normal ⟨t,ds,h⟩:=rfl
def Xz(E:f_ P)(C:iP)(rd:Option Nat)(ops:List Oper)(K:Exit->St->Prop)(o:Oper)(r:List Oper)(t:Tm)(ds:List Deferred)(h:N):oE E C rd ops K (o::r) ⟨t,ds,h⟩ =
 (match Qg ops t o with
  | some Y=>X0 E C rd o ⟨t,ds,h⟩ (x6 (oE E C rd ops K r) K)
  | some J=>if lg ⟨t,ds,h⟩ o.dst then oE E C rd ops K r (St.put ⟨t,ds,h⟩ o.dst Qq h)else False
  | none=>False):=rfl
def X6(F:St->Prop)(K:Exit->St->Prop)(s:St):x6 F K .normal s=F s:=rfl
def Xf(F:St->Prop)(K:Exit->St->Prop)(j:List PanicEntry)(s:St):x6 F K (.panic j) s=K (.panic j) s:=rfl
def Y8(v:V)(h:N):Fk d s K (.ret v) h=K .normal (s.put d v h):=rfl
def Xo(j:List PanicEntry)(h:N):Fk d s K (.panic j) h=K (.panic j) {s with h:=h}:=rfl
section
variable{P:Program}{M_:Ren}{s:St}{a:Act}{w:World}
def Nr(E:f_ P){C:iP}(hC:i_ P E.G C){rd:Option Nat}{o:Oper}{K:Exit->St->Prop}(hs:X0 E C rd o s K)(S_:iU E.G M_ s a w)
  {next:Act->World->Prop} {Q:Exit->Act->World->Prop}
  (hn:∀ j a' w' s1,K .normal s1->iZ s.h.Q M_ j->ig M_ s.h w j s1.h w'->iU E.G j s1 a' w'->next a' w')
  (hp:∀ j a' w' s1 ch,K (.panic ch) s1->iZ s.h.Q M_ j->ig M_ s.h w j s1.h w'->iU E.G j s1 a' w'->uB (dom j) (.panic ch)->Q (r9 j (.panic ch)) a' w') :
  o.wpIn (mP rd M_) 0 P a w next Q:=by
 refine⟨fun f _=>Ae rd M_ f,?_⟩;unfold X0 at hs;split at hs
 ·grind
 ·rename_i a2;have h2:lg s o.dst=Y:=by grind
  have hB:∀ h,lg ({s with h:=h}:St) o.dst=Y:=fun h=>by cases hd:o.dst <;> simp only[hd,lg]at h2 ⊢;exact h2
  have hb:∀ j w' v h,K .normal (s.put o.dst v h)->iZ s.h.Q M_ j->ig M_ s.h w j h w'->c_ E.G j h w'->d_ (dom j) v->next (a.put o.dst (b_ j v)) w':=by
   intro j w' v h hk q2 q3 q4 q1;have S1:=S_.step q2 q4;refine hn j _ w' _ hk q2 ?_ ?_
   ·rw[B9];exact q3
   ·have:=S1.put (d:=o.dst) (v:=v) (hB h) q1;rw[ie];exact this
  split at hs
  ·rename_i c h3;split at hs
   ·split at hs
    ·rename_i d hd;obtain⟨d1,d2⟩:=Uvs E S_ hd o.type;have : (o.semAt (mP O M_).round a.eval).run P w=.ok (.defer (rn M_ d)) w:=by
      rw[Lw];simp[Oper.semAt,execOp,h3,d2]
     rw[this];refine hn M_ _ w _ hs (iZ.refl _ _) ?_ ?_
     ·rw[B9];exact ig.refl _ _ _
     ·have S1:iU E.G M_ {s with ds:=d::s.ds} {a with defers:=rn M_ d::a.defers} w :=
       ⟨S_.h,S_.t,by simp[S_.ds],fun x hx=>by rcases ar.1 hx with rfl | hx;exact d1;exact S_.okd x hx⟩
      exact S1.putU h2
    grind
   grind
  ·rename_i x ho h3;have hl:o.semAt (mP rd M_).round a.eval=execOp a.eval o:=fV _ _ _ (fun c hc=>by grind);rw[hl];unfold Ck at hs;split at hs
   ·rename_i it hit;obtain⟨e1,e2⟩:=vG S_.h S_.t hit;have key:r8 it ho s.h ≠ []/\∀ y ∈ r8 it ho s.h,K .normal (s.put o.dst y.1 y.2):=by
     grind
    obtain⟨y,hy,j,w',r1,r2,r3,r4,r5⟩:=Vpb (P:=P) (ty:=o.type) S_.h e1 key.1;have hA:(execOp a.eval o).run P w=.ok (.value (b_ j y.1)) w':=by
     simp only[execOp,h3,e2];simp[r1]
    rw[hA];exact hb j w' y.1 y.2 (key.2 y hy) r3 r5 r4 r2
   grind
  ·rename_i h3 h4;have hl:o.semAt (mP rd M_).round a.eval=execOp a.eval o:=fV _ _ _ h3;rw[hl];split at hs
   next v h hr=>obtain⟨j,w',r1,r2,r3,r4,r5⟩:=sR E S_.h S_.t hr;rw[r1];exact hb j w' v h hs r3 r5 r4 r2
   next h hr=>obtain⟨w',r1,r2,r3⟩:=sR E S_.h S_.t hr;rw[r1];have:=hb M_ w' Qq h hs (iZ.refl _ _) r3 r2 (by simp[Qq,d_,mH,nr]);have e:b_ M_ Qq=undef:=(by simp[Qq,undef]);rw[e]at this;exact this
   next v h hr=>obtain⟨rfl,r1,r2⟩:=sR E S_.h S_.t hr;rw[r1];exact hp M_ a w _ _ hs (iZ.refl _ _) (ig.refl _ _ _) S_ (by simpa[uB]using r2)
   ·rename_i f args h hr;obtain⟨rfl,r1,r2⟩:=sR E S_.h S_.t hr;rw[r1,Oper.uponIn_enter];refine⟨by rw[Cr];simp,Lx ?_⟩;refine(hC.fn _ _ _ _ hs M_ w S_.h r2).mono ?_;rintro e' w' ⟨j,r,h1,hk,rfl,q1,q2,q3,q4⟩;cases r with
    | ret v=>exact hb j w' v h1 hk q2 q3 q4 q1
    | panic ch=>exact hp j a w' _ ch hk q2 q3 (S_.step q2 q4) q1
   ·rename_i l args h hr;obtain⟨rfl,k1,r2,st,hu,t',ps,v',bd,d,k2,fn,hq,k3,r1⟩:=sR E S_.h S_.t hr;rw[r1,Oper.uponIn_round];refine⟨by rw[Cr];simp,?_⟩;refine(hC.rnd _ _ _ _ hs M_ w M_ rd _ _ _ _ _ _ _ _ _ S_.h k1 r2 k2 k3).mono ?_;rintro e' w' ⟨j,r,h1,hk,rfl,q1,q2,q3,q4⟩;cases r with
    | ret v=>exact hb j w' v h1 hk q2 q3 q4 q1
    | panic ch=>exact hp j a w' _ ch hk q2 q3 (S_.step q2 q4) q1
   grind
def OK(E:f_ P){C:iP}(hC:i_ P E.G C){rd:Option Nat}{ops:Array Oper}{Q:Exit->Act->World->Prop}{K:Exit->St->Prop}:∀ (l:List Oper) (i:Nat) (s:St) (M_:Ren) (a:Act) (w:World),
  ops.toList.drop i=l->oE E C rd ops.toList K l s->iU E.G M_ s a w->(∀ l,rd=U l->dom M_ l) ->
  (∀ M' a' w' e s1,K e s1->iZ s.h.Q M_ M'->ig M_ s.h w M' s1.h w'->iU E.G M' s1 a' w'->uB (dom M') e->Q (r9 M' e) a' w') ->
  wpOpsIn (mP rd M_) 0 P ops Q (List.range' i (L l)) a w
 | [],i,s,M_,a,w,_,h,S_,_,hQ=>hQ M_ a w .normal s h (iZ.refl _ _) (ig.refl _ _ _) S_ trivial
 | o::r,i,s,M_,a,w,hc,h,S_,hl,hQ=>by
  have ho:ops[i]? = U o:=by
   have:=congrArg (fun l=>l[0]?) hc
   grind
  have j:ops.toList.drop (i+1)=r:=by
   have:=congrArg List.tail hc;simpa[List.tail_drop]using this
  simp only[bI,fD,wpOpsIn,ho];simp only[oE]at h;split at h
  ·rename_i hw;rw[if_pos (xO (G:=E.G) S_.t hw)];refine Nr E hC h S_ (fun M' a' w' s1 hk h1 h2 h3 => ?_) (fun M' a' w' s1 ch hk h1 h2 h3 h4=>hQ M' a' w' _ s1 hk h1 h2 h3 h4);obtain⟨f1,f2,_⟩:=GU (rd:=rd) (n:=0) S_ h1 hl;have:=OK E hC (Q:=Q) (K:=K) r (i+1) s1 M' a' w' j hk h3 f2 (fun hx hb hr e s2 g0 g2 g3 g4 g5=>hQ hx hb hr e s2 g0 (h1.trans g2 h2.Q) (h2.trans g3) g4 g5)
   grind
  ·rename_i hw;rw[if_neg (by rw[xO (G:=E.G) S_.t hw];simp)];refine⟨fun f _=>Ae rd M_ f,?_⟩;split at h
   next hd=>have hh:(s.put o.dst Qq s.h).h=s.h:=B9 _ _ _ _;exact OK E hC (Q:=Q) (K:=K) r (i+1) _ M_ _ w j h (S_.putU hd) hl (by grind)
   grind
  grind
def Uqh(E:f_ P){C:iP}(hC:i_ P E.G C){rd:Option Nat}{id:Nat}{ops:Array Oper}{K:Exit->St->Prop}(h:oE E C rd ops.toList K ops.toList s) :
  CW P E.G rd s.h.Q (.region id ops J) s K:=by
 intro M_ a w S_ hl;have:=OK E hC (ops:=ops) ops.toList 0 s M_ a w rfl h S_ hl (Q:=Wer E.G s.h.Q M_ s.h w K) (fun j a' w' e s1 h0 h2 h3 h4 h5=>⟨j,e,s1,h0,rfl,h5,h2,h3,h4⟩);rw[hP,<- fg]at this;exact wpIn_region this
def CW.grows{G:Bs}{rd:Option Nat}{n:Nat}{c:Code}{K:Exit->St->Prop}(h:CW P G rd n c s K):CW P G rd n c s (fun e j=>K e j/\s.h.Q<=j.h.Q):=fun M_ a w S_ hl =>
 wpIn_mono (h M_ a w S_ hl) fun _ _ _ ⟨M',e,j,h1,h2,h3,h4,h5,h6⟩=>⟨M',e,j,⟨h1,h5.Q⟩,h2,h3,h4,h5,h6⟩
def U3z{G:Bs}{rd:Option Nat}{x y:Code}{K:Exit->St->Prop}(h:CW P G rd s.h.Q x s (fun e j=>match e with | .normal=>CW P G rd j.h.Q y j K | e=>K e j)):CW P G rd s.h.Q (.seq x y) s K:=by
 refine Wa6 (h.grows.mono (ai _) ?_)
 grind
end
structure mj (s s':St):Prop where
 t:s'.t=s.t
 ds:s'.ds=s.ds
 Q:s'.h.Q=s.h.Q
 tr:s'.h.t=s.h.t
def mj.A{s j:St}(k:mj s j)(b:Nat):j.h.A b=s.h.A b:=by unfold N.A;rw[k.Q,k.tr]
section
variable{P:Program}{E:f_ P}{C:h_}{G:Bs}{M_:Ren}{a:Act}{w:World}
def yP{P:Program}(E:f_ P)(o:Oper):Bool:=Yk E o || (match o.op with | .load .. => Y | _=>J)
def zP{P:Program}(E:f_ P):List Oper->Bool
 | []=>Y
 | o::l=>yP E o && zP E l
def x9:List (Option i')->Bool
 | []=>Y
 | some (.wr _ _)::_=>J
 | _::l=>x9 l
def Sd{R0:List (Option i')}{B0:List Nat}:∀ {R:List (Option i')} {Bs:List Nat} {i:Nat},x9 R=Y->Yb E R0 B0 R Bs i=Y
 | [],_,_,_=>rfl
 | some (.wr _ _)::_,_,_,h=>by simp[x9]at h
 | none::l,[],_,_=>rfl
 | none::l,_::_,_,h=>Sd (R:=l) (by simpa[x9]using h)
 | some (.ld _ _)::l,[],_,_=>rfl
 | some (.ld _ _)::l,_::_,_,h=>Sd (R:=l) (by simpa[x9]using h)
def iU.low{s:St}(j:iU G M_ s a w){s':St}(k:mj s s'):iU G M_ s' a w:=by
 refine⟨j.h.sub k.Q (fun b x hx=>by rw[<- k.A];exact hx),by rw[k.t];exact j.t,by rw[k.ds];exact j.ds,by rw[k.ds];exact j.okd⟩
def NB{o:Oper}(j:yP E o=Y){t:Tm}{h h':N}(hg:∀ b,h'.A b=h.A b){r:pd}(hr:jm E t h o=U r) :
  ∃ v,r=.val v h/\jm E t h' o=U (.val v h')/\(Yk E o=Y∨Yh o=Y)/\(!Yh o || (loadAt E t o).isSome)=Y:=by
 unfold yP at j;rw[cj]at j;rcases j with j | j
 ·have hk:Yh o=J:=by
   unfold Yk at j;unfold Yh
   grind
  have key:∃ v,r=.val v h/\jm E t h' o=U (.val v h'):=by
   unfold Yk at j;unfold jm at hr ⊢;split at j <;> first
    | (cases j;done)
    | skip
   all_goals
    rename_i hc;simp only[hc]at hr ⊢
    try simp only[j]at hr ⊢
    first
    | (obtain⟨u,hu,rfl⟩:=l9 hr;exact⟨u,rfl,by simp only[g0,hu]⟩)
    | (split at hr <;> first
      | (cases hr;done)
      | (obtain⟨u,hu,rfl⟩:=l9 hr;refine⟨u,rfl,?_⟩;simp only[g0, *];done))
  obtain⟨v,h1,h2⟩:=key;exact⟨v,h1,h2,.inl j,by simp[hk]⟩
 ·split at j
  ·rename_i ty x hc;simp only[jm,hc]at hr ⊢;cases hx:iH E.G t x with
   | none=>simp[hx]at hr
   | some y =>
    simp only[hx]at hr ⊢;obtain⟨u,hu,rfl⟩:=l9 hr;have hl:jL E.tojo ty y h'=U u:=by
     rw[<- hu];simp only[jL];split
     ·exact EJ (hg _) _
     ·rfl
    refine⟨u,rfl,by simp only[hl,g0],.inr (by simp[Yh,hc]),?_⟩;have : (loadAt E t o).isSome=Y:=by
     simp only[loadAt,hc,hx];cases y <;> simp only[jL]at hu <;> try (cases hu;done)
     rename_i p;cases p with
     | none=>simp at hu
     | some p=>rfl
    simp[this]
  ·cases j
def RP{ops:List Oper}{B:List Nat}:∀ (l:List Oper) (i:Nat) (s s1 j:St),zP E l=Y->vh E C O ops l s=U (.normal,s1)->mj s j->∃ sy R,se E C ops B l i j=U (sy,R)/\mj s1 sy/\x9 R=Y
 | [],i,s,s1,j,_,h,k=>by
  simp only[vh,aU,cN,true_and]at h;subst h;exact⟨j,[],rfl,k,rfl⟩
 | o::r,i,s,s1,j,a2,h,k=>by
  simp only[zP,ax]at a2;obtain⟨hB,hn⟩:=a2;have hk:lg j o.dst=lg s o.dst:=by cases o.dst <;> simp[lg,k.t]
  have hp:∀ (v:V) (h h':N),h'.Q=h.Q->h'.t=h.t->mj (s.put o.dst v h) (j.put o.dst v h'):=fun v h h' e1 e2=>by
   cases o.dst with
   | none=>exact⟨k.t,k.ds,e1,e2⟩
   | some d=>exact⟨by simp[St.put,k.t],k.ds,e1,e2⟩
  have hA:Ym o=Y:=by
   unfold yP Yk at hB;unfold Ym
   grind
  simp only[vh]at h;have hw:Qg ops j.t o=Qg ops s.t o:=by rw[k.t]
  split at h
  ·rename_i a1;split at h
   ·rename_i s' hx;unfold CR at hx;split at hx
    ·cases hx
    ·rename_i hd;have hu:lg s o.dst=Y:=(by grind);have ho:∃ v,s'=s.put o.dst v s.h/\mB E C o j.t (mY j.h)=U (v,mY j.h)/\(Yk E o=Y∨Yh o=Y)/\(!Yh o || (loadAt E j.t o).isSome)=Y:=by
      have hz:∀ c,o.op ≠ .defer c:=fun c hc=>by simp[Ym,hc]at hA
      split at hx
      ·grind
      ·cases hr:jm E s.t s.h o with
       | none=>grind
       | some hg =>
        obtain⟨v,rfl,h2,h3,h4⟩:=NB hB (h':=mY j.h) (fun b=>k.A b) hr;simp only[hr,aU,cN,true_and]at hx;refine⟨v,hx.symm,?_,h3,by rw[k.t];exact h4⟩;rw[k.t];simp only[mB,h2]
     obtain⟨v,rfl,hq,hb,q2⟩:=ho;obtain⟨sy,R,hy,ky,hR⟩:=RP (B:=B) r (i+1) (s.put o.dst v s.h) s1 (j.put o.dst v (xK j.h (mY j.h))) hn h (hp v _ _ k.Q k.tr);refine⟨sy,vz E j o (mY j.h)::R,?_,ky,?_⟩
     ·simp only[se,hw,a1,hk,hu,hA,hq];have M':uT E ops B i o j (mY j.h)=Y:=by
       unfold uT
       grind
      simp[M',hy,Wa]
     ·unfold vz;rcases hb with hf | hl
      ·split
       ·simpa[x9]using hR
       ·simpa[x9,hf]using hR
      ·simp[hl,x9,hR]
   ·cases h
   ·cases h
  ·rename_i v';split at h
   next hd=>obtain⟨sy,R,hy,ky,hR⟩:=RP (B:=B) r (i+1) _ s1 (j.put o.dst Qq j.h) hn h (hp Qq _ _ k.Q k.tr);refine⟨sy,O::R,?_,ky,by simpa[x9]using hR⟩;simp[se,hw,v',hk,hd,hA,hy,Wa]
   ·cases h
  ·cases h
end
section
variable{P:Program}{E:f_ P}{C:h_}{G:Bs}{M_:Ren}{a:Act}{w:World}
def kc(h0:N)(l:List (FuncId × List V × V)):h_:=open Classical in
 {fn:=fun f args h=>if h.Q=h0.Q/\h.t=h0.t then(match l.find? (fun x=>decide (x.1=f/\x.2.1=args))with | some x=>U (.ret x.2.2,h) | none=>O)else O,rnd:=fun _ _ _=>O}
def c_.like{h h1:N}(H:c_ G M_ h w)(j:h1.Q=h.Q)(ht:h1.t=h.t):c_ G M_ h1 w :=
 H.sub j (fun b x hx=>by unfold N.A at hx ⊢;rw[<- j,<- ht];exact hx)
end
structure Hq (h h':N):Prop where
 Q:h'.Q=h.Q
 t:h'.t=h.t
def Hq.A(q:Hq h h')(b:Nat):h'.A b=h.A b:=by unfold N.A;rw[q.Q,q.t]
def Hq.push(q:Hq h h')(x:Blk):Hq (h.push x) (h'.push x):=⟨by simp[N.push,q.Q],by simp[N.push,q.t,q.Q]⟩
def Hq.set(q:Hq h h')(b:Nat)(x:Option Blk):Hq (h.set b x) (h'.set b x):=⟨q.Q,by simp[N.set,q.t]⟩
section
variable{P:Program}{E:f_ P}{G:Bs}
def Su{h h':N}(q:Hq h h')(a:Addr)(n:Nat):Ab.cellsAt h' a n=Ab.cellsAt h a n:=by simp only[Ab.cellsAt,q.A]
def RM{h h' h1:N}(q:Hq h h'){a:Addr}{l:List V}(hs:storeAt h a l=U h1):∃ j,storeAt h' a l=U j/\Hq h1 j:=by
 unfold storeAt at hs ⊢;rw[q.A];split at hs
 next sz c hg=>rw[au]at hs;obtain⟨c',h2,rfl⟩:=hs;rw[hg]at *;exact⟨_,by grind,q.set _ _⟩
 ·cases hs
def Ume{E:jo P}{h h':N}(q:Hq h h'){t:TypeId}{x:V}{lo hi mx:Option V}{h1:N}{v:V}(hv:j8 E t x lo hi mx h=U (v,h1)):∃ j,j8 E t x lo hi mx h'=U (v,j)/\Hq h1 j/\j.low=h'.low:=by
 have hx:∀ {ad:Addr} {sz used l n:Nat},j8.aCut ad sz used l n h=U (v,h1)->∃ j,j8.aCut ad sz used l n h'=U (v,j)/\Hq h1 j/\j.low=h'.low:=by
  intro ad sz used l n hc;unfold j8.aCut at hc ⊢;split at hc
  ·grind
  ·rename_i e;rw[if_neg e];split at hc
   ·grind
   ·rename_i e2;rw[if_neg e2];split at hc
    next e3=>rw[if_pos e3];cases hc;exact⟨_,by rw[q.Q],q.push _,rfl⟩
    ·cases hc
 have h2:∀ {o:Option V},o.map (fun v=>(v,h))=U (v,h1)->∃ j,o.map (fun v=>(v,h'))=U (v,j)/\Hq h1 j/\j.low=h'.low:=by
  intro o ho;rw[au]at ho
  grind
 unfold j8 at hv ⊢;simp only[q.A];have leaf:∀ {X_:Option (V × N)} {Y_:Option (V × N)},X_=Y_->(∃ j,Y_=U (v,j)/\Hq h1 j/\j.low=h'.low)->∃ j,X_=U (v,j)/\Hq h1 j/\j.low=h'.low:=fun e h=>by grind
 repeat' (first | (cases hv;done) | (refine leaf ?_ (h2 hv);simp only[*,if_true,if_false,az];done) | (refine leaf ?_ (hx hv);simp only[*,if_true,if_false,az];done) | (cases hv;refine⟨h',?_,q,rfl⟩;simp only[*,if_true,if_false,az];done) | split at hv | simp only at hv)
def RQ(X_ Y_:Option (V × N)):Prop:=∀ v h1,X_=U (v,h1)->∃ j,Y_=U (v,j)/\Hq h1 j
def RQ.none{j:Option (V × N)}:RQ .none j:=fun _ _ h=>by cases h
def RQ.some{u:V}{h h':N}(q:Hq h h'):RQ (.some (u,h)) (.some (u,h')):=fun _ _ e=>by grind
def Uu7{E:jo P}{h h':N}(q:Hq h h'){t tx:TypeId}{s x:V}{h1:N}{v:V}(hv:kU E t tx s x h=U (v,h1)):∃ hl,kU E t tx s x h'=U (v,hl)/\Hq h1 hl:=by
 have hc:∀ (re:ir),sN E tx re x h'=sN E tx re x h:=by
  intro re;unfold sN sf;simp only[Su q]
 have hb:∀ {a:Addr} {l:List V} {u:V},RQ ((storeAt h a l).map (fun h'=>(u,h'))) ((storeAt h' a l).map (fun h'=>(u,h'))):=by
  intro a l u v h1 ho;rw[au]at ho;obtain⟨h2,e,hq⟩:=ho;cases hq;obtain⟨h3,e3,q3⟩:=RM q e
  grind
 have hx:∀ {u:List V} {n z:Nat},RQ (U (M (U ⟨h.Q,0,O⟩) n iJ,h.push (S Y z u))) (U (M (U ⟨h'.Q,0,O⟩) n iJ,h'.push (S Y z u))):=by
  intro u n z;rw[q.Q];exact RQ.some (q.push _)
 have j:∀ {u:List V} {n z b:Nat},RQ (U (M (U ⟨h.Q,0,O⟩) n iJ,(h.set b O).push (S Y z u))) (U (M (U ⟨h'.Q,0,O⟩) n iJ,(h'.set b O).push (S Y z u))):=by
  intro u n z b;rw[q.Q];exact RQ.some ((q.set _ _).push _)
 have hk:RQ (kU E t tx s x h) (kU E t tx s x h'):=by
  unfold kU;simp only[q.A,hc,Su q]
  repeat' (first | exact RQ.none | exact hb | exact hx | exact j | exact RQ.some q | split)
 exact hk _ _ hv
def U4s{E:jo P}{h h':N}(q:Hq h h'){t:TypeId}{d x:V}{h1:N}{v:V}(hv:rV E t d x h=U (v,h1)):∃ j,rV E t d x h'=U (v,j)/\Hq h1 j:=by
 have hc:∀ z n,sf z n x h'=sf z n x h:=by
  intro z n;unfold sf;simp only[Su q]
 have hk:∀ {a:Addr} {l:List V} {u:V},RQ ((storeAt h a l).map (fun h'=>(u,h'))) ((storeAt h' a l).map (fun h'=>(u,h'))):=by
  intro a l u v h1 ho;rw[au]at ho;obtain⟨h2,e,hq⟩:=ho;cases hq;obtain⟨h3,e3,q3⟩:=RM q e;exact⟨h3,by rw[e3];rfl,q3⟩
 have hx:RQ (rV E t d x h) (rV E t d x h'):=by
  unfold rV;simp only[hc]
  repeat' (first | exact RQ.none | exact hk | exact RQ.some q | split)
 exact hx _ _ hv
def U1i{E:jo P}{h h':N}(q:Hq h h'){t:TypeId}{a v:V}{h1:N}(hv:j9 E t a v h=U h1):∃ j,j9 E t a v h'=U j/\Hq h1 j:=by
 unfold j9 at hv ⊢;split at hv
 ·unfold BP at hv ⊢;split at hv
  next e=>rw[if_pos e];exact RM q hv
  ·cases hv
 ·cases hv
def V6w{E:jo P}{h h':N}(q:Hq h h'){t:TypeId}{m k x:V}{h1:N}(hv:ta E t m k x h=U h1):∃ j,ta E t m k x h'=U j/\Hq h1 j:=by
 have hc:RQ ((ta E t m k x h).map fun h=>(.bool Y,h)) ((ta E t m k x h').map fun h=>(.bool Y,h)):=by
  unfold ta;simp only[q.A]
  repeat' (first | exact RQ.none | exact RQ.some (q.set _ _) | split)
 obtain⟨j,e,q1⟩:=hc (.bool Y) h1 (by grind);simp_all
def Jn{P:Program}(E:f_ P)(o:Oper):Nat:=if Yk E o || Yh o then 0 else match o.op with
 | .alloc _ | .box _ _ | .buildSlice _ _ _ | .makeSlice _ _ _ | .slice _ _ _ _ _ | .makeMap _ _=>1
 | .store _ _ _ | .mapUpdate _ _ _ _=>2
 | .call c=>match c.callee with
  | .builtin .len | .builtin .max | .builtin .min=>1
  | .builtin .append | .builtin .copy | .builtin .delete=>2
  | .value _=>3
  | _=>9
 | _=>9
def U7t{o:Oper}(j:Jn E o=0):Yk E o=Y∨Yh o=Y:=by
 unfold Jn at j
 grind
def xI{x:Option (V × N)}{r:pd}(h:gv x=U r):∃ v h1,x=U (v,h1)/\r=.val v h1:=by
 unfold gv at h
 grind
def NR{x:Option V}{h:N}{r:pd}(j:Ab.g0 h x=U r):∃ v,x=U v/\r=.val v h:=by
 unfold Ab.g0 at j
 grind
def U2a{x:Option N}{r:pd}(j:gs x=U r):∃ h,x=U h/\r=.skip h:=by
 unfold gs at j
 grind
def Wbs {o : Oper} (hk : Jn E o = 1) {t : Tm} {h h' : N} (q : Hq h h') {r : pd} (hr : jm E t h o = U r) : ∃ v h1 hb, r = .val v h1 /\ jm E t h' o = U (.val v hb) /\ Hq h1 hb /\ hb.low = h'.low /\ ∀ c, c < h.Q -> h1.A c = h.A c := by
  have hl : ∀ x : Blk, ∀ c, c < h.Q -> (h.push x).A c = h.A c := fun x c hc => by rw [N.F, if_neg iA]
  unfold Jn at hk;split at hk
  · cases hk
  · split at hk
    · rename_i ty j
      simp only [jm,j] at hr ⊢;obtain ⟨v, h1, e, rfl⟩ := xI hr;unfold jd at e ⊢;split at e
      · rename_i r hA
        cases e;exact ⟨_, _, _, rfl, by simp only [hA,gv,q.Q], q.push _, rfl, hl _⟩
      · cases e
    · rename_i ty x j
      simp only [jm,j] at hr ⊢;cases hx : iH E.G t x with
      | none => grind
      | some y =>
        simp only [hx] at hr ⊢;obtain ⟨v, h1, e, rfl⟩ := xI hr;unfold nP at e ⊢;split at e
        · rename_i hn
          cases e;exact ⟨_, _, _, rfl, by simp only [hn,if_true,gv,q.Q], q.push _, rfl, hl _⟩
        · cases e
    · rename_i ty n ps j
      simp only [jm,j] at hr ⊢;cases hx : Qh E.G t ps.toList with
      | none => grind
      | some y =>
        simp only [hx] at hr ⊢;obtain ⟨v, h1, e, rfl⟩ := xI hr;unfold V6 at e ⊢;split at e
        · cases e
        · split at e
          · split at e
            · split at e
              · rename_i hq
                rw [au] at e;obtain ⟨c, hc, e⟩ := e;cases e;exact ⟨_, _, _, rfl, by rw [if_pos hq, hc]; simp only [aQ,gv,q.Q], q.push _, rfl, hl _⟩
              · cases e
            · cases e
          · cases e
    · rename_i ty n c j
      simp only [jm,j] at hr ⊢;cases hx : iH E.G t n with
      | none => grind
      | some y =>
        cases hy : iH E.G t c with
        | none => grind
        | some z =>
          simp only [hx,hy] at hr ⊢;obtain ⟨v, h1, e, rfl⟩ := xI hr;unfold z8 at e ⊢;split at e
          · split at e
            · split at e
              · split at e
                · rename_i hq
                  cases e;exact ⟨_, _, _, rfl, by rw [if_pos hq]; simp only [gv,q.Q], q.push _, rfl, hl _⟩
                · cases e
              · cases e
            · cases e
          · cases e
    · rename_i ty x lo hi mx j
      simp only [jm,j] at hr ⊢;cases h1 : iH E.G t x with
      | none => grind
      | some v1 =>
        cases h2 : lr E.G t lo with
        | none => grind
        | some v2 =>
          cases h3 : lr E.G t hi with
          | none => grind
          | some v3 =>
            cases h4 : lr E.G t mx with
            | none => grind
            | some v4 =>
              simp only [h1,h2,h3,h4] at hr ⊢;obtain ⟨v, g1, e, rfl⟩ := xI hr;obtain ⟨hp, e1, e2, e3⟩ := Ume q e;refine ⟨v, g1, hp, rfl, by rw [e1]; rfl, e2, e3, fun c hc => ?_⟩;obtain ⟨g2, f1, f2, f3⟩ := Ume (E := E.tojo) (h := h) (h' := { h with low := h.Q }) ⟨rfl, rfl⟩ e;have := (Vpl f1).same c hc (by grind);rw [f2.A] at this;exact this
    · rename_i ty x j
      simp only [jm,j] at hr ⊢;cases h1 : lr E.G t x with
      | none => grind
      | some v1 =>
        simp only [h1] at hr ⊢;obtain ⟨v, g1, e, rfl⟩ := xI hr;unfold yO at e ⊢;split at e
        · split at e
          · cases e
            exact ⟨_, _, _, rfl, by simp only [gv,q.Q], q.push _, rfl, hl _⟩
          · cases e
            exact ⟨_, _, _, rfl, by simp only [gv,q.Q], q.push _, rfl, hl _⟩
          · cases e
        · cases e
    · cases hk
    · cases hk
    · rename_i c j
      simp only [jm,j] at hr ⊢;cases ha : kH E.G t c.args.toList with
      | none => simp [ha] at hr
      | some args =>
        simp only [ha] at hr ⊢;split at hk <;> first
          | (cases hk; done)
          | (rename_i hc
             simp only [hc,Q7] at hr ⊢
             first
             | (obtain ⟨v, e, rfl⟩ := NR hr
                exact ⟨v, h, h', rfl, by simp only [e,Ab.g0], q, rfl, fun _ _ => rfl⟩)
             | (split at hr <;> first
               | contradiction
               | (cases hr; done)
               | (obtain ⟨v, e, rfl⟩ := NR hr
                  refine ⟨v, h, h', rfl, ?_, q, rfl, fun _ _ => rfl⟩;have e2 : ∀ ty x, iC E.tojo ty x h' = iC E.tojo ty x h := fun ty x => by unfold iC; simp only [q.A]
                  simp only [e2,e,Ab.g0])))
    · cases hk
def Usn{h h':N}(q:Hq h h'){ty:TypeId}{m k v:V}{h1:N}(e:yJ E.tojo ty m k h=U (v,h1)):∃ j,yJ E.tojo ty m k h'=U (v,j)/\Hq h1 j:=by
 unfold yJ at e ⊢;split at e
 ·rename_i r b hr;simp only[q.A];split at e
  ·split at e
   ·split at e
    ·cases e;exact⟨_,rfl,q.set _ _⟩
    ·cases e;exact⟨_,rfl,q.set _ _⟩
    ·cases e
   ·cases e
  ·cases e
 ·cases e
def U9s {o : Oper} (hk : Jn E o = 2) {t : Tm} {h h' : N} (q : Hq h h') {r : pd} (hr : jm E t h o = U r) : (∃ v h1 j, r = .val v h1 /\ jm E t h' o = U (.val v j) /\ Hq h1 j) ∨ ∃ h1 j, r = .skip h1 /\ jm E t h' o = U (.skip j) /\ Hq h1 j := by
  unfold Jn at hk;split at hk
  · cases hk
  · split at hk <;> try omega
    · rename_i ty a v h2
      right;simp only [jm,h2] at hr ⊢;cases hx : iH E.G t a with
      | none => grind
      | some y =>
        cases hy : iH E.G t v with
        | none => grind
        | some z =>
          simp only [hx,hy] at hr ⊢;obtain ⟨h1, e, rfl⟩ := U2a hr;obtain ⟨j, e1, q1⟩ := U1i q e;exact ⟨h1, j, rfl, by rw [e1]; rfl, q1⟩
    · rename_i ty m k x h2
      right;simp only [jm,h2] at hr ⊢;cases hx : iH E.G t m with
      | none => grind
      | some y =>
        cases hy : iH E.G t k with
        | none => grind
        | some z =>
          cases hz : iH E.G t x with
          | none => grind
          | some u =>
            simp only [hx,hy,hz] at hr ⊢;obtain ⟨h1, e, rfl⟩ := U2a hr;obtain ⟨j, e1, q1⟩ := V6w q e;exact ⟨h1, j, rfl, by rw [e1]; rfl, q1⟩
    · rename_i c h2
      left;simp only [jm,h2] at hr ⊢;cases ha : kH E.G t c.args.toList with
      | none => grind
      | some args =>
        simp only [ha] at hr ⊢;split at hk <;> try (cases hk; done)
        · rename_i hc
          simp only [hc,Q7] at hr ⊢;split at hr <;> first
            | contradiction
            | (cases hr; done)
            | (obtain ⟨v, h1, e, rfl⟩ := xI hr
               obtain ⟨j, e1, q1⟩ := Uu7 q e;exact ⟨v, h1, j, rfl, by rw [e1]; rfl, q1⟩)
        · rename_i hc
          simp only [hc,Q7] at hr ⊢;split at hr <;> first
            | contradiction
            | (cases hr; done)
            | (obtain ⟨v, h1, e, rfl⟩ := xI hr
               obtain ⟨j, e1, q1⟩ := U4s q e;exact ⟨v, h1, j, rfl, by rw [e1]; rfl, q1⟩)
        · rename_i hc
          simp only [hc,Q7] at hr ⊢;split at hr <;> first
            | contradiction
            | (cases hr; done)
            | (obtain ⟨v, h1, e, rfl⟩ := xI hr
               obtain ⟨j, e1, q1⟩ := Usn q e;exact ⟨v, h1, j, rfl, by rw [e1]; rfl, q1⟩)
def Wci{o:Oper}(hk:Jn E o=3){t:Tm}{h h1 h':N}{f:FuncId}{args:List V}(j:jm E t h o=U (.enter f args h1)):h1=h/\jm E t h' o=U (.enter f args h'):=by
 unfold Jn at hk;split at hk
 ·cases hk
 ·split at hk <;> try omega
  rename_i c h2;split at hk <;> try omega
  rename_i fo hc;simp only[jm,h2,hc]at j ⊢;cases ha:kH E.G t c.args.toList with
  | none=>grind
  | some l =>
   simp only[ha]at j ⊢;cases hf:iH E.G t fo with
   | none=>grind
   | some fv =>
    simp only[hf]at j ⊢;cases hx:Qi fv l with
    | none =>
     simp only[hx]at j;unfold AL at j
     grind
    | some fl =>
     obtain⟨f2,l2⟩:=fl;simp only[hx]at j ⊢;cases hF:E.fn.A f2 with
     | none =>
      simp only[hF]at j;split at j
      ·obtain⟨_,_,_,e⟩:=xI j;cases e
      ·cases j
     | some F =>
      grind
end
structure KE where
 f:FuncId
 args:List V
 h0:N
 v:V
 h1:N
 q:Bool
def An(h:N)(l:Nat):N:={h with low:=l}
open Classical in
def pc:List KE->FuncId->List V->N->Option KE
 | [],_,_,_=>O
 | e::l,f,args,h=>if e.f=f/\e.args=args/\h.Q=e.h0.Q/\h.t=e.h0.t then U e else pc l f args h
def Yo(f:FuncId)(args:List V)(h0:N)(v:V)(h1:N)(q:Bool)(l:List KE):pc (⟨f,args,h0,v,h1,q⟩::l) f args h0=U ⟨f,args,h0,v,h1,q⟩:=by simp[pc]
def qy{f':FuncId}{args j:List V}{h0 h v h1 q}{l:List KE}(hf:f≠f'):pc (⟨f,args,h0,v,h1,q⟩::l) f' j h=pc l f' j h:=by simp[pc,hf]
def Si:∀ {l:List KE} {f:FuncId} {args:List V} {h:N} {e:KE},pc l f args h=U e->e ∈ l/\e.f=f/\e.args=args/\Hq e.h0 h
 | [],_,_,_,_,h=>by cases h
 | x::l,f,args,h,e,hx=>by
  simp only[pc]at hx;split at hx
  next j=>cases hx;exact⟨jA,j.1,j.2.1,j.2.2.1,j.2.2.2⟩
  ·obtain⟨h1,h2⟩:=Si hx
   grind
def U3c{l:List KE}{f:FuncId}{args:List V}{h h':N}(q:Hq h h'):pc l f args h'=pc l f args h:=by
 induction l with
 | nil=>rfl
 | cons x l ih =>
  have e:(x.f=f/\x.args=args/\h'.Q=x.h0.Q/\h'.t=x.h0.t)↔(x.f=f/\x.args=args/\h.Q=x.h0.Q/\h.t=x.h0.t):=by rw[q.Q,q.t]
  simp only[pc,ih]
  grind
def kC(j:List KE):h_:={fn:=fun f args h=>match pc j f args h with | some e=>U (.ret e.v,An e.h1 (if e.q then min h.low h.Q else 0)) | none=>O,rnd:=fun _ _ _=>O}
structure ue (P:Program) (G:Bs) (e:KE):Prop where
 call:gr P G e.f e.args e.h0 (fun r h1=>r=.ret e.v/\h1=e.h1)
 Q:e.h0.Q<=e.h1.Q
 R:e.q=Y->∀ c,c < e.h0.Q->e.h1.A c=e.h0.A c
section
variable{P:Program}{E:f_ P}{G:Bs}
def Hq.own{h h':N}(q:Hq h h')(b:Nat):h'.own b=h.own b:=uM (q.A b)
def Wbv{L_:List KE}(hL:∀ e ∈ L_,ue P G e):iK P G (kC L_):=by
 refine⟨fun f args h r h' hx => ?_,fun l args h r h' hx=>by cases hx⟩;simp only[kC]at hx;split at hx
 ·rename_i e he;obtain⟨hm,rfl,rfl,q⟩:=Si he;cases hx;intro M_ w H hl;refine((hL e hm).call M_ w (H.like q.Q.symm q.t.symm) hl).mono ?_;rintro e' w' ⟨M',r,h1,⟨rfl,rfl⟩,q1,q2,q3,j,q5⟩;refine⟨M',_,_,⟨rfl,rfl⟩,q1,q2,by rw[q.Q];exact q3,?_,q5.like rfl rfl⟩;exact⟨j.size,fun k hk hc=>j.same k hk (fun b p hb ho=>hc b p hb (by rw[q.own];exact ho)),fun b p hb ho=>by
   rcases j.owns b p hb ho with h | ⟨c,q',h1,h2,h3⟩
   ·omega
   ·exact .inr ⟨c,q',h1,by rw[q.own];exact h2,h3⟩,j.tape,j.os,j.output,j.drawn,by rw[q.Q];exact(hL e hm).Q⟩
 ·cases hx
def U35{L_:List KE}(hL:∀ e ∈ L_,ue P G e):iL (kC L_):=by
 refine⟨fun f args h r h' j => ?_,fun l args h r h' j=>by cases j⟩;simp only[kC]at j;split at j
 ·rename_i e he;obtain⟨hm,rfl,rfl,q⟩:=Si he;cases j;refine⟨by rw[q.Q];exact(hL e hm).Q,?_,fun b hb hl => ?_⟩
  ·show(if e.q then min h.low h.Q else 0)<=h.low
   grind
  ·have hc:b < (if e.q then min h.low h.Q else 0):=hl;split at hc
   next hq=>have:=(hL e hm).R hq b (by rw[<- q.Q];exact hb);show e.h1.A b=h.A b;rw[this,q.A]
   ·omega
 ·cases j
def runT{P:Program}(E:f_ P)(j:List KE)(ops:List Oper)(B:List Nat):List Oper->Nat->St->Option (St × List (Option i'))
 | [],_,s=>U (s,[])
 | o::r,i,s =>
  if !(lg s o.dst && Ym o)then O else
  match Qg ops s.t o with
  | none=>O
  | some J=>Wa O (runT E j ops B r (i+1) (s.put o.dst Qq s.h))
  | some Y=>match Jn E o,jm E s.t s.h o with
   | 0,U (.val v h1)=>if !Yh o || (loadAt E s.t o).isSome then Wa (if Yh o then U (.ld s.t o)else O) (runT E j ops B r (i+1) (s.put o.dst v h1))else O
   | 1,U (.val v h1)=>Wa O (runT E j ops B r (i+1) (s.put o.dst v h1))
   | 2,U (.val v h1)=>if Vm E i ((iD B i).getD 0) ops B 0 then Wa (U (.wr s.h h1)) (runT E j ops B r (i+1) (s.put o.dst v h1))else O
   | 2,U (.skip h1)=>if Vm E i ((iD B i).getD 0) ops B 0 then Wa (U (.wr s.h h1)) (runT E j ops B r (i+1) (s.put o.dst Qq h1))else O
   | 3,U (.enter f args h1)=>match pc j f args h1 with
    | some e=>if e.q || Vm E i ((iD B i).getD 0) ops B 0 then Wa (if e.q then O else U (.wr s.h e.h1)) (runT E j ops B r (i+1) (s.put o.dst e.v e.h1))else O
    | none=>O
   | _,_=>O
def H6:Option i'->Option i'->Prop
 | none,O=>True
 | some (.ld t o),U (.ld t' o')=>t=t'/\o=o'
 | some (.wr _ _),O=>True
 | some (.wr h0 h1),U (.wr g0 j)=>Hq h0 g0/\Hq h1 j
 | _,_=>False
def CT:List (Option i')->List (Option i')->Prop
 | [],[]=>True
 | x::l,y::r=>H6 x y/\CT l r
 | _,_=>False
def U7s{h h':N}(q:Hq h h')(t:Tm)(o:Oper):ku E t o h'=ku E t o h:=by
 unfold ku;split
 ·split
  ·simp only[jL];split
   ·exact EJ (q.A _) _
   ·rfl
  ·rfl
 ·split
  ·rename_i a b _ _;unfold qN;have : rG a h'=rG a h:=by
    unfold rG;simp only[q.A]
   grind
  ·rfl
 ·rfl
def Uqt{i bi:Nat}{h0 h1 g0 g1:N}(q0:Hq h0 g0)(q1:Hq h1 g1)(R:List (Option i')):∀ (j:List (Option i')) (Bs:List Nat) (k:Nat),CT R j->Y0 E i bi h0 h1 R Bs k=Y->Y0 E i bi g0 g1 j Bs k=Y:=by
 induction R with
 | nil =>
  intro j Bs k hr _;cases j with
  | nil=>rfl
  | cons y j=>exact hr.elim
 | cons x R ih =>
  intro j Bs k hr h;cases j with
  | nil=>exact hr.elim
  | cons y j =>
   obtain⟨hx,hr⟩:=hr;cases Bs with
   | nil=>cases y with
    | none=>rfl
    | some y=>cases y <;> rfl
   | cons b Bs =>
    cases x with
    | none =>
     cases y with
     | none=>exact ih j Bs (k+1) hr h
     | some y=>exact hx.elim
    | some x =>
     cases x with
     | ld t o =>
      cases y with
      | none=>exact hx.elim
      | some y =>
       cases y with
       | ld t' o' =>
        obtain⟨rfl,rfl⟩:=hx;simp only[Y0,Bool.and_eq_true]at h ⊢;rw[U7s q0,U7s q1]
        grind
       | wr _ _=>exact hx.elim
     | wr a c =>
      cases y with
      | none=>exact ih j Bs (k+1) hr h
      | some y =>
       cases y with
       | ld _ _=>exact hx.elim
       | wr _ _=>exact ih j Bs (k+1) hr h
def Ut5{R0 hc:List (Option i')}{B0:List Nat}(h2:CT R0 hc)(R:List (Option i')):∀ (j:List (Option i')) (Bs:List Nat) (i:Nat),CT R j->Yb E R0 B0 R Bs i=Y->Yb E hc B0 j Bs i=Y:=by
 induction R with
 | nil =>
  intro j Bs k hr _;cases j with
  | nil=>rfl
  | cons y j=>exact hr.elim
 | cons x R ih =>
  intro j Bs k hr h;cases j with
  | nil=>exact hr.elim
  | cons y j =>
   obtain⟨hx,hr⟩:=hr;cases Bs with
   | nil=>cases y with
    | none=>rfl
    | some y=>cases y <;> rfl
   | cons b Bs =>
    cases x with
    | none =>
     cases y with
     | none=>exact ih j Bs (k+1) hr h
     | some y=>exact hx.elim
    | some x =>
     cases x with
     | ld t o =>
      cases y with
      | none=>exact hx.elim
      | some y =>
       cases y with
       | ld t' o'=>exact ih j Bs (k+1) hr h
       | wr _ _=>exact hx.elim
     | wr a c =>
      simp only[Yb,Bool.and_eq_true]at h;cases y with
      | none=>exact ih j Bs (k+1) hr h.2
      | some y =>
       cases y with
       | ld _ _=>exact hx.elim
       | wr g0 g1 =>
        simp only[Yb,Bool.and_eq_true];exact⟨Uqt hx.1 hx.2 _ _ _ _ h2 h.1,ih j Bs (k+1) hr h.2⟩
def Cn{x:Option i'}{y:Option (St × List (Option i'))}{s1:St}{R:List (Option i')}(h:Wa x y=U (s1,R)):∃ j,y=U (s1,j)/\R=x::j:=by
 cases y with
 | none=>cases h
 | some y=>cases h;simp
def Wbt{o:Oper}(hk:Jn E o=0){t:Tm}{h h':N}(q:Hq h h'){v:V}{h1:N}(hr:jm E t h o=U (.val v h1)):h1=h/\jm E t h' o=U (.val v h'):=by
 rcases U7t hk with hf | hf
 ·obtain⟨u,e,h2, -, -⟩:=NB (E:=E) (o:=o) (by unfold yP;grind) (h':=h') q.A hr
  grind
 ·unfold Yh at hf;split at hf
  ·rename_i ty a j;obtain⟨u,e,h2, -, -⟩:=NB (E:=E) (o:=o) (by unfold yP;simp[j]) (h':=h') q.A hr
   grind
  ·rename_i ty x k ok j;simp only[jm,j]at hr ⊢;cases hx:iH E.G t x with
   | none=>grind
   | some y =>
    cases hy:iH E.G t k with
    | none=>grind
    | some z =>
     simp only[hx,hy]at hr ⊢;obtain⟨u,e,e2⟩:=NR hr;cases e2;have : qN E.tojo ty y z ok h'=qN E.tojo ty y z ok h:=by
      unfold qN;have : rG y h'=rG y h:=by
       unfold rG;simp only[q.A]
      grind
     rw[this,e];exact⟨rfl,rfl⟩
  ·cases hf
def OZ{L_:List KE}{ops:List Oper}{B:List Nat}:∀ (l:List Oper) (i:Nat) (s s1 j:St) (R:List (Option i')),runT E L_ ops B l i s=U (s1,R)->mj s j->∃ sy Ry,se E (kC L_) ops B l i j=U (sy,Ry)/\mj s1 sy/\CT R Ry
 | [],i,s,s1,j,R,h,k=>by
  simp only[runT,Option.some.injEq,Prod.mk.injEq]at h;obtain⟨rfl,rfl⟩:=h;exact⟨j,[],rfl,k,trivial⟩
 | o::r,i,s,s1,j,R,h,k=>by
  have hp:lg j o.dst=lg s o.dst:=by cases o.dst <;> simp[lg,k.t]
  have hr:∀ (v:V) (h h':N),Hq h h'->mj (s.put o.dst v h) (j.put o.dst v h'):=fun v h h' q=>by
   cases o.dst with
   | none=>exact⟨k.t,k.ds,q.Q,q.t⟩
   | some d=>exact⟨by simp[St.put,k.t],k.ds,q.Q,q.t⟩
  have hw:Qg ops j.t o=Qg ops s.t o:=by rw[k.t]
  have kq:Hq s.h j.h:=⟨k.Q,k.tr⟩;have kr:Hq s.h (mY j.h):=⟨k.Q,k.tr⟩;simp only[runT]at h;split at h
  ·cases h
  ·rename_i hd;have h3:(lg j o.dst && Ym o)=Y:=by grind
   split at h
   ·cases h
   next hy=>obtain⟨R',h',rfl⟩:=Cn h;obtain⟨sy,Ry,e1,e2,e3⟩:=OZ r (i+1) _ _ (j.put o.dst Qq j.h) _ h' (hr Qq _ _ kq);exact⟨sy,O::Ry,by simp only[se,h3,Bool.not_true,Bool.false_eq_true,if_false,hw,hy,e1,Wa],e2,trivial,e3⟩
   ·rename_i ho;have go:∀ (v:V) (h1 hb:N) (x:Option i'),mB E (kC L_) o j.t (mY j.h)=U (v,hb)->Hq h1 hb->uT E ops B i o j hb=Y->H6 x (vz E j o hb)->∀ R',runT E L_ ops B r (i+1) (s.put o.dst v h1)=U (s1,R') ->
      ∃ sy Ry,se E (kC L_) ops B (o::r) i j=U (sy,Ry)/\mj s1 sy/\CT (x::R') Ry:=by
     intro v h1 hb x f1 f2 f3 f4 R' h';obtain⟨sy,Ry,e1,e2,e3⟩:=OZ r (i+1) _ _ (j.put o.dst v (xK j.h hb)) _ h' (hr v _ _ ⟨f2.Q,f2.t⟩);exact⟨sy,vz E j o hb::Ry,by simp only[se,h3,Bool.not_true,Bool.false_eq_true,if_false,hw,ho,f1,f3,if_true,e1,Wa],e2,f4,e3⟩
    split at h
    ·
     rename_i v h1 hk ha;split at h
     ·rename_i hl;obtain⟨R',h',rfl⟩:=Cn h;obtain⟨rfl,a2⟩:=Wbt hk kr ha;refine go v s.h (mY j.h) _ (by rw[k.t];simp only[mB,a2]) kr ?_ ?_ R' h'
      ·unfold uT;rw[Bool.and_eq_true];exact⟨by simp[mY],by rw[k.t];exact hl⟩
      ·unfold vz;split
       ·exact⟨k.t.symm,rfl⟩
       ·rename_i hB;rcases U7t hk with hf | hf
        ·rw[if_pos hf];trivial
        grind
     ·cases h
    ·
     rename_i v h1 hk ha;obtain⟨R',h',rfl⟩:=Cn h;obtain⟨v2,g1,h2,b1,b2,b3,b4, -⟩:=Wbs hk kr ha;cases b1;have hx:Yk E o=J/\Yh o=J:=by
      unfold Jn at hk
      grind
     have An:Nat.ble j.h.Q h2.low=Y:=(by rw[b4];simp[mY]);refine go v h1 h2 O (by rw[k.t];simp only[mB,b2]) b3 ?_ ?_ R' h'
     ·unfold uT
      grind
     ·unfold vz;simp[hx.1,hx.2,An,H6]
    ·
     rename_i v h1 hk ha;split at h
     ·rename_i hc;obtain⟨R',h',rfl⟩:=Cn h;have hx:Yk E o=J/\Yh o=J:=by
       unfold Jn at hk
       grind
      rcases U9s hk kr ha with⟨v2,g1,h2,b1,b2,b3⟩ | ⟨g1,h2,b1, -, -⟩
      ·cases b1;refine go v h1 h2 _ (by rw[k.t];simp only[mB,b2]) b3 ?_ ?_ R' h'
       ·unfold uT
        grind
       ·unfold vz;simp only[hx.1,hx.2,Bool.false_eq_true,if_false];split
        ·trivial
        ·exact⟨kq,b3⟩
      ·cases b1
     ·cases h
    ·rename_i h1 hk ha;split at h
     ·rename_i hc;obtain⟨R',h',rfl⟩:=Cn h;have hx:Yk E o=J/\Yh o=J:=by
       unfold Jn at hk
       grind
      rcases U9s hk kr ha with⟨v2,g1,h2,b1, -, -⟩ | ⟨g1,h2,b1,b2,b3⟩
      ·cases b1
      ·cases b1;refine go Qq h1 h2 _ (by rw[k.t];simp only[mB,b2]) b3 ?_ ?_ R' h'
       ·unfold uT
        grind
       ·unfold vz;simp only[hx.1,hx.2,Bool.false_eq_true,if_false];split
        ·trivial
        ·exact⟨kq,b3⟩
     ·cases h
    ·
     rename_i f args h1 hk ha;split at h
     ·rename_i e he;split at h
      ·rename_i hc;obtain⟨R',h',rfl⟩:=Cn h;have hx:Yk E o=J/\Yh o=J:=by
        unfold Jn at hk
        grind
       obtain⟨rfl,b2⟩:=Wci (h':=mY j.h) hk ha;have hA:pc L_ f args (mY j.h)=U e:=by rw[U3c kr];exact he
       refine go e.v e.h1 (An e.h1 (if e.q then min (mY j.h).low (mY j.h).Q else 0)) _ (by rw[k.t];simp only[mB,b2,kC,hA]) ⟨rfl,rfl⟩ ?_ ?_ R' h'
       ·unfold uT;rw[Bool.and_eq_true];refine⟨?_,by simp[hx.2]⟩;cases hq:e.q with
        | true=>simp[mY,An]
        | false=>rw[hq]at hc;simp at hc;simp[hc]
       ·unfold vz;simp only[hx.1,hx.2,Bool.false_eq_true,if_false];cases hq:e.q with
        | true=>simp[mY,An,H6]
        | false =>
         simp only[Bool.false_eq_true,if_false];split
         ·trivial
         ·exact⟨kq,⟨rfl,rfl⟩⟩
      ·cases h
     ·cases h
    ·cases h
def V7b{L_:List KE}{ops:List Oper}{B:List Nat}{s s1:St}{R:List (Option i')}(hB:pf ops []=U B)(hp:tZ ops ops B []=Y)(hx:runT E L_ ops B ops 0 s=U (s1,R))(hc:Yb E R B R B 0=Y):∃ j,xE E (kC L_) ops s=U j/\mj s1 j:=by
 obtain⟨j,Ry,h1,h2,h3⟩:=OZ ops 0 s s1 s R hx ⟨rfl,rfl,rfl,rfl⟩;exact⟨j,by unfold xE;simp only[hB,hp,if_true,h1,Ut5 h3 _ _ _ _ h3 hc],h2⟩
def U06(E:f_ P){L_:List KE}(hL:∀ e ∈ L_,ue P E.G e)(hm:P.follows .mixedOrders=Y){rd:Option Nat}{id:Nat}{ops:Array Oper}{B:List Nat}{K:Exit->St->Prop}{s s1:St}{R:List (Option i')}(hB:pf ops.toList []=U B)(hp:tZ ops.toList ops.toList B []=Y)
  (hx:runT E L_ ops.toList B ops.toList 0 s=U (s1,R)) (hc:Yb E R B R B 0=Y) (hk:K .normal s1):CW P E.G rd s.h.Q (.region id ops Y) s K:=by
 obtain⟨sy,hd,h2⟩:=V7b hB hp hx hc;refine fun M_ a w S_ hl=>wpIn_mono (Vk5 E (Wbv hL) (U35 hL) hm hd (Q:=fun e s'=>e=.normal/\s'=sy) ⟨rfl,rfl⟩ M_ a w S_ hl) ?_;rintro e' a' w' ⟨M',e,s',⟨rfl,rfl⟩,h4,h5,h6,j,h8⟩;have k2:mj s' s1:=⟨h2.t.symm,h2.ds.symm,h2.Q.symm,h2.tr.symm⟩;refine⟨M',.normal,s1,hk,h4,h5,h6,?_,h8.low k2⟩;have hr:∀ b,s1.h.own b=s'.h.own b:=fun b=>uM (k2.A b);exact⟨j.size,j.same,fun b p hb ho=>j.owns b p hb (by grind),j.tape,j.os,j.output,j.drawn,by rw[k2.Q];exact j.Q⟩
def Utc{j:List KE}(hL:∀ e ∈ j,ue P G e){ops:List Oper}{B:List Nat}{s s1:St}{R:List (Option i')}(hB:pf ops []=U B)(hp:tZ ops ops B []=Y)(hx:runT E j ops B ops 0 s=U (s1,R))(hc:Yb E R B R B 0=Y):s.h.Q<=s1.h.Q:=by
 obtain⟨sy,hd,h2⟩:=V7b hB hp hx hc;have:=(Uux (U35 hL) hd).Q;rw[h2.Q]at this;exact this
def y_:Option i'->Option i'
 | some (.ld t o)=>U (.ld t (bare o))
 | x=>x
def Jfw{j bj:Nat}:∀ (l:List Oper) (B:List Nat) (i:Nat),Vm E j bj (l.map bare) B i=Vm E j bj l B i
 | [],_,_=>rfl
 | o::r,[],_=>rfl
 | o::r,b::B,i=>by
  simp only[List.map_cons,Vm,Jfw r B];rfl
def yT{x:Option i'}{y:Option (St × List (Option i'))}:(Wa x y).map (fun p=>(p.1,p.2.map y_))=Wa (y_ x) (y.map fun p=>(p.1,p.2.map y_)):=by
 cases y <;> rfl
def Udm{j:List KE}{ops:List Oper}{B:List Nat}:∀ (l:List Oper) (i:Nat) (s:St),runT E j (ops.map bare) B (l.map bare) i s=(runT E j ops B l i s).map (fun p=>(p.1,p.2.map y_))
 | [],i,s=>rfl
 | o::r,i,s=>by
  have e1:Jn E (bare o)=Jn E o:=rfl;have e2:jm E s.t s.h (bare o)=jm E s.t s.h o:=rfl;have e3:Yh (bare o)=Yh o:=rfl;have e4:loadAt E s.t (bare o)=loadAt E s.t o:=rfl;have e5:(bare o).dst=o.dst:=rfl;have e6:Ym (bare o)=Ym o:=rfl;simp only[List.map_cons,runT,Cq,Jfw,Udm r,e1,e2,e3,e4,e5,e6];split
  ·rfl
  ·split
   ·rfl
   ·rw[yT];rfl
   ·split <;> first
     | rfl
     | (split <;> first
       | rfl
       | (rw[yT];done)
       | (rw[yT];rfl)
       | (rw[yT];congr 1;split <;> rfl)
       | (split <;> first
         | rfl
         | (rw[yT];done)
         | (rw[yT];rfl)
         | (rw[yT];congr 1;split <;> rfl)))
     | (rw[yT];done)
     | (rw[yT];rfl)
def UB{i bi:Nat}{h0 h1:N}:∀ (R:List (Option i')) (Bs:List Nat) (k:Nat),Y0 E i bi h0 h1 (R.map y_) Bs k=Y0 E i bi h0 h1 R Bs k
 | [],_,_=>rfl
 | x::R,[],_=>by cases x with
  | none=>rfl
  | some x=>cases x <;> rfl
 | x::R,b::Bs,k=>by
  have:=UB R Bs (k+1) (i:=i) (bi:=bi) (h0:=h0) (h1:=h1);cases x with
  | none=>exact this
  | some x=>cases x with
   | ld t o=>simp only[List.map_cons,y_,Y0,this];rfl
   | wr a c=>exact this
def Jg7{R0:List (Option i')}{B0:List Nat}:∀ (R:List (Option i')) (Bs:List Nat) (i:Nat),Yb E (R0.map y_) B0 (R.map y_) Bs i=Yb E R0 B0 R Bs i
 | [],_,_=>rfl
 | x::R,[],_=>by cases x with
  | none=>rfl
  | some x=>cases x <;> rfl
 | x::R,b::Bs,i=>by
  have:=Jg7 (R0:=R0) (B0:=B0) R Bs (i+1);cases x with
  | none=>exact this
  | some x=>cases x with
   | ld t o=>exact this
   | wr a c=>simp only[List.map_cons,y_,Yb,this,UB]
end
section
variable{P:Program}{E:f_ P}{C:h_}{ops ops':Array Oper}{B:List Nat}{σ:Nat->St}
variable{M0 M_:Ren}{w0 w:World}{listed:Array Bool}{a:Act}{T:Tm}{p:Nat}
def Vpi(hc:ops'.size=ops.size)(j:∀ i:Nat,(ops'[i]?).map (·.after)=(ops[i]?).map (·.after)):Region.ready .any ops' listed=Region.ready .any ops listed:=by
 unfold Region.ready
 grind
def Uyy{rd:Option Nat}{Q:Exit->Act->World->Prop}{β:Ren}(hl:listed.size=ops.size)(hx:∀ j,j < ops.size->jN listed j){w:World}(hq:Q .normal a w):∀ hc,wpAnyIn (mP rd β) 0 P .any ops Q hc listed a w:=by
 have hn:Region.ready .any ops listed=[]:=by
  cases h:Region.ready .any ops listed with
  | nil=>rfl
  | cons i r =>
   obtain⟨o,ho,h2, -⟩:=GX hl (show i ∈ Region.ready .any ops listed by grind)
   grind
 intro hc;cases hc with
 | zero=>exact⟨hn,hq⟩
 | succ n=>exact⟨fun _=>hq,fun i hi=>by grind⟩
def U3j{rd:Option Nat}{Q:Exit->Act->World->Prop}{β:Ren}{p0:Nat}(e2:ops'.size=ops.size)(h4:∀ i:Nat,(ops'[i]?).map (·.after)=(ops[i]?).map (·.after))(q2:∀ i:Nat,(ops'[i]?).map (·.dst)=(ops[i]?).map (·.dst))
  (c:iW E C ops' B σ) (hC:iK P E.G C) (hL:iL C) (es:∀ i,i<=ops'.size->∃ M' w' h3,c_ E.G M' (σ i).h w'/\je M' (σ i).t h3) (q1:p0 < ops'.size)
  (hk:∀ (i b:Nat),B[i]? = U b->i≠p0->b.testBit p0=J->ops'[i]? = ops[i]?)
  (hB:∀ (listed:Array Bool) (M_:Ren) (a:Act) (w:World) (T:Tm) (p:Nat),Inv E ops' B σ M0 w0 listed M_ a w T p->¬ jN listed p0->(∀ o,ops'[p0]? = U o->∀ e ∈ o.after.toList,Region.binds .any e=Y->jN listed e.on)->∀ K:Act->World->Prop,((∀ j,j < ops.size->j≠p0->jN listed j)->∀ a' w',Q .normal a' w'->K a' w')->wpOpIn (mP rd β) 0 P ops Q p0 K a w) :
  ∀ (hx:Nat) (listed:Array Bool) (M_:Ren) (a:Act) (w:World) (T:Tm) (p:Nat),listed.size=ops'.size->listed.toList.count J<=hx->Inv E ops' B σ M0 w0 listed M_ a w T p->¬ jN listed p0->wpAnyIn (mP rd β) 0 P .any ops Q hx listed a w:=by
 have hy:∀ (h2:Array V),yielded ops h2=yielded ops' h2:=by
  intro h2;funext j;have:=q2 j;unfold yielded
  grind
 intro hx;induction hx with
 | zero =>
  intro listed M_ a w T p hl hc I_ hn;exfalso;have hp:p0 < L listed.toList:=by grind
  have hz:listed.toList.count J=0:=iA
  rw[List.count_eq_zero]at hz;refine hz ?_;have : listed.toList[p0]=J:=by
   simp_all
  grind
 | succ hx ih =>
  intro listed M_ a w T p hl hc I_ hn;refine⟨fun a2=>absurd (RH c hl (by rw[Vpi e2 h4];exact a2) p0 q1) hn,fun i hi => ?_⟩;rw[<- Vpi e2 h4]at hi;obtain⟨o,ho,hA,hr⟩:=GX hl hi;by_cases e1:i=p0
  ·subst e1;exact hB listed M_ a w T p I_ hn (fun o' s1=>by grind) _ fun v' a' w' hq=>Uyy (by grind) (fun j hj=>by
    rw[Iv iA]
    grind) hq _
  ·obtain⟨bi,hu⟩:=Cz c (zV ho);have a1:bi.testBit p0=J:=by
    cases hb:bi.testBit p0 with
    | false=>rfl
    | true=>exact absurd (En c I_.down ho hr hu hb) hn
   have he:=hk i bi hu e1 a1;have hg:∀ K,wpOpIn (mP rd β) 0 P ops' Q i K a w->wpOpIn (mP rd β) 0 P ops Q i K a w:=by
    intro K h;unfold wpOpIn at h ⊢;rw[<- he,hy];exact h
   refine hg _ (Ulv c hC hL es I_ ho hA hr hl fun M' a' w' T' p' I'=>ih _ M' a' w' T' p' (by simpa using hl) ?_ I' ?_)
   ·have hp:i < L listed.toList:=(by have:=zV ho;simpa[hl]using this);have : listed.toList[i]=J:=by
     simp only[jN,Array.getD_eq_getD_getElem?]at hA;rw[Array.getElem?_eq_getElem (by simpa using hp)]at hA;simpa using hA
    rw[Array.toList_setIfInBounds,List.count_set hp,this];have g1:0 < listed.toList.count J:=by
     rw[List.count_pos_iff,<- this];exact List.getElem_mem hp
    rw[if_pos (by rfl),if_neg kA];omega
   ·rw[Iv (by have:=zV ho;omega)];rintro(h | h)
    ·exact e1 h.symm
    ·exact hn h
def va(p0:Nat)(f:FuncId)(args:Array Operand)(i b:Nat)(o:Oper):Oper :=
 if i=p0 then {o with op:=.makeFunc (.func f) args #[]} else if b.testBit p0 then {o with op:=.assign (.const (.bool J))} else o
def mT(p0:Nat)(f:FuncId)(args:Array Operand):List Oper->List Nat->Nat->List Oper
 | o::l,b::B,i=>va p0 f args i b o::mT p0 f args l B (i+1)
 | _,_,_=>[]
def DF(d0 p0:Nat):List Oper->Nat->Bool
 | [],_=>Y
 | o::l,i=>(i == p0 || (match o.dst with | some d=>d != d0 | none=>Y)) && DF d0 p0 l (i+1)
variable{p0 d0:Nat}{f:FuncId}{args:Array Operand}
def Sk(i b:Nat)(o:Oper):(va p0 f args i b o).after=o.after/\(va p0 f args i b o).dst=o.dst/\(va p0 f args i b o).guard=o.guard:=by
 unfold va
 grind
def Uuo(i b:Nat)(o:Oper):va p0 f args i b (bare o)=bare (va p0 f args i b o):=by
 unfold va;split
 ·rfl
 ·split <;> rfl
def V5e:∀ (l:List Oper) (B:List Nat) (i:Nat),mT p0 f args (l.map bare) B i=(mT p0 f args l B i).map bare
 | [],_,_=>by simp[mT]
 | o::l,[],_=>by simp[mT]
 | o::l,b::B,i=>by simp only[List.map_cons,mT,V5e l,Uuo]
def Ulm:∀ (l:List Oper) (B:List Nat) (i:Nat),L B=L l->L (mT p0 f args l B i)=L l/\∀ k:Nat,(mT p0 f args l B i)[k]? = match l[k]?,B[k]? with | some o,U b=>U (va p0 f args (i+k) b o) | _,_=>O
 | [],[],_,_=>⟨rfl,fun k=>by simp[mT]⟩
 | [],b::B,_,h=>by simp at h
 | o::l,[],_,h=>by simp at h
 | o::l,b::B,i,h=>by
  obtain⟨h1,j⟩:=Ulm l B (i+1) (by grind);refine⟨by simp[mT,h1],fun k => ?_⟩;cases k with
  | zero=>simp[mT]
  | succ k =>
   have:=j k;simp only[mT,List.getElem?_cons_succ]
   grind
def Umd:∀ (l:List Oper) (B0 B:List Nat),pf l B0=U B->L B=L B0+L l
 | [],B0,B,h=>by simp only[pf,Option.some.injEq]at h;simp[h]
 | o::l,B0,B,h=>by
  simp only[pf]at h;split at h
  ·have:=Umd l _ _ h
   grind
  ·cases h
def Umt:∀ (l:List Oper) (Bs:List Nat) (i:Nat) (B0:List Nat),L Bs=L l->pf (mT p0 f args l Bs i) B0=pf l B0
 | [],[],_,_,_=>rfl
 | [],b::B,_,_,h=>by simp at h
 | o::l,[],_,_,h=>by simp at h
 | o::l,b::B,i,B0,h=>by
  simp only[mT,pf,(Sk i b o).1];split
  ·exact Umt l B _ _ (by grind)
  ·rfl
def Jzj:∀ (l:List Oper) (i:Nat),DF d0 p0 l i=Y->∀ (k:Nat) (o:Oper),l[k]? = U o->i+k≠p0->o.dst≠U d0
 | [],_,_,k,o,h,_=>by simp at h
 | x::l,i,hd,k,o,h,j=>by
  simp only[DF,Bool.and_eq_true,Bool.or_eq_true,beq_iff_eq]at hd;cases k with
  | zero =>
   grind
  | succ k=>exact Jzj l (i+1) hd.2 k o (by grind) iA
def Ul5{l l':List Oper}{t:Tm}{o o':Oper}(j:o'.guard=o.guard)(hd:∀ i:Nat,(iD l' i).map (·.dst)=(iD l i).map (·.dst)):Qg l' t o'=Qg l t o:=by
 unfold Qg
 grind
def Vy2(c:iW E C ops' B σ){i:Nat}{o:Oper}(j:ops'[i]? = U o)(hr:yP E o=Y):rp E ops' σ i:=by
 refine⟨o,j,?_⟩;by_cases hf:Yk E o=Y
 ·grind
 ·simp only[yP,Bool.or_eq_true]at hr;have hl:Yh o=Y:=by
   rcases hr with h | h
   ·grind
   ·unfold Yh
    grind
  obtain⟨_,_,h⟩:=c.step i o j;rcases h with⟨h,_⟩ | ⟨_,v,h1,hv,_,hs⟩
  ·grind
  ·simp only[uT,Bool.and_eq_true]at hs
   grind
def J5a:∀ (l:List Oper),zP E l=Y->∀ (k:Nat) (o:Oper),l[k]? = U o->yP E o=Y
 | [],_,k,o,h=>by simp at h
 | x::l,j,k,o,h=>by
  simp only[zP,Bool.and_eq_true]at j;cases k with
  | zero=>grind
  | succ k=>exact J5a l j.2 k o (by grind)
def Ue0{ops:Array Oper}{B:List Nat}{s s1:St}(hB:pf ops.toList []=U B)(h:xE E C ops.toList s=U s1):∃ σ,iW E C ops B σ/\σ 0=s/\σ ops.size=s1:=by
 unfold xE at h;simp only[hB]at h;split at h
 ·rename_i hp;split at h
  ·rename_i s2 R hR;split at h
   ·rename_i hx;cases h;obtain⟨σ,e1,e2,e3,e4⟩:=Lk _ _ _ _ _ hR;have hc:sH ops.toList B:=by
     have:=RI ops.toList [] [] B hB ⟨rfl,fun j o h=>by simp at h,fun j o b h=>by simp at h⟩
     grind
    refine⟨σ,⟨hc,fun j i oj oi b hj hi hb h2 => ?_,fun i o ho => ?_,R,hx,fun k o ho => ?_⟩,e1,by grind⟩
    ·have:=LS hp j oj b (by grind) hb i oi iA (by grind);exact this
    ·grind
    simp_all
   ·cases h
  ·cases h
 ·cases h
def OX(p0:Nat)(B:List Nat)(n:Nat):Bool:=match B[p0]? with
 | some b=>(List.range n).all fun j=>j == p0 || b.testBit j
 | none=>J
def Nc(p0:Nat)(B:List Nat)(n:Nat)(s:St)(K:Exit->St->Prop)(r:jc)(h:N):Prop:=match r with
 | .panic j => ∀ T:Tm,T.size=s.t.size->K (.panic j) ⟨T,s.ds,h⟩
 | .ret _=>OX p0 B n=Y/\∀ T:Tm,T.size=s.t.size->K .normal ⟨T,s.ds,h⟩
def U9p(E:f_ P){D0:h_}(hD:iK P E.G D0)(hL:iL D0)(hm:P.follows .mixedOrders=Y){rd:Option Nat}{id:Nat}{ops:Array Oper}{B:List Nat}{s s1:St}{K:Exit->St->Prop}{o:Oper}{c:Call}{l:List V}
  (hB:pf ops.toList []=U B) (hp:tZ (mT p0 f args ops.toList B 0) (mT p0 f args ops.toList B 0) B []=Y) (ho:ops.toList[p0]? = U o) (aB:o.op=.call c) (c0:c.callee=.value (.func f)) (t9:c.args=args) (a3:o.dst=U d0) (m1:DF d0 p0 ops.toList 0=Y)
  (hr:zP E (mT p0 f args ops.toList B 0)=Y) (hx:vh E D0 O (mT p0 f args ops.toList B 0) (mT p0 f args ops.toList B 0) s=U (.normal,s1)) (hv:s1.t.t.A d0=U (.func (.func f) ⟨l⟩ #[])) (g3:(E.fn.A f).isSome=Y)
  (hu:gr P E.G f l s.h (Nc p0 B ops.size s K)):CW P E.G rd s.h.Q (.region id ops Y) s K:=by
 have dv:L B=L ops.toList:=by simpa using Umd _ _ _ hB
 obtain⟨eA,p3⟩:=Ulm (p0:=p0) (f:=f) (args:=args) ops.toList B 0 dv;obtain⟨ops',hy⟩:∃ ops':Array Oper,ops'.toList=mT p0 f args ops.toList B 0:=⟨(mT p0 f args ops.toList B 0).toArray,rfl⟩;rw[<- hy]at hp hr hx eA;have r1:pf ops'.toList []=U B:=by rw[hy,Umt _ _ _ _ dv,hB]
 have gA:∀ k:Nat,ops'[k]? = match ops[k]?,B[k]? with | some o,U b=>U (va p0 f args k b o) | _,_=>O:=by
  grind
 have c1:ops'.size=ops.size:=iA
 have h6:∀ (k:Nat),k < ops.size->∃ b,B[k]? = U b:=fun k hk=>⟨B[k]'(by grind),List.getElem?_eq_getElem _⟩;have hz:∀ {A:Type} (g:Oper->A),(∀ k b o,g (va p0 f args k b o)=g o)->∀ i:Nat,(ops'[i]?).map g=(ops[i]?).map g:=by
  grind
 have p2:=hz (·.after) fun k b o=>(Sk k b o).1;have hC:=hz (·.dst) fun k b o=>(Sk k b o).2.1;obtain⟨sy,R,h1,h2,h3⟩:=RP (B:=B) ops'.toList 0 s s1 s hr hx ⟨rfl,rfl,rfl,rfl⟩;have hd:xE E D0 ops'.toList s=U sy:=by
  unfold xE;simp only[r1,hp,if_true,h1,Sd h3]
 obtain⟨σ,cn,e0,e1⟩:=Ue0 r1 hd;have e2:∀ j,j < ops'.size->rp E ops' σ j:=fun j hj=>Vy2 cn (by simp[hj]) (J5a _ hr j ops'[j] (by simp[hj]));have x2:p0 < ops.size:=zV (by simpa using ho);obtain⟨b0,x1⟩:=h6 p0 x2;have e3:ops[p0]? = U o:=by grind
 have g1:ops'[p0]? = U {o with op:=.makeFunc (.func f) args #[]}:=by
  rw[gA p0,e3];simp[x1,va]
 have ht:p0 < ops'.size:=iA
 have aA:∀ k,p0+1+k<=ops'.size->(σ (p0+1+k)).t.t.A d0=(σ (p0+1)).t.t.A d0:=by
  intro k;induction k with
  | zero=>simp
  | succ k ih =>
   intro g';have hf:p0+1+k < ops'.size:=iA
   have hg:(ops'[p0+1+k]'hf).dst≠U d0:=by
    have h9:=hC (p0+1+k);have hq:p0+1+k < ops.size:=iA;rw[Array.getElem?_eq_getElem hf,Array.getElem?_eq_getElem hq]at h9;simp only[Option.map_some,Option.some.injEq]at h9;rw[h9];exact Jzj _ 0 m1 (p0+1+k) _ (by simp[hq]) iA
   obtain⟨_,_,h⟩:=cn.step (p0+1+k) (ops'[p0+1+k]'hf) (by simp[hf]);rw[show p0+1+(k+1)=p0+1+k+1 by omega];rcases h with⟨_,h⟩ | ⟨_,v',h',_,h,_⟩ <;> (rw[h,OC _ _ _ _ _ hg];grind)
 have hA:(σ (p0+1)).t.t.A d0=U (.func (.func f) ⟨l⟩ #[]):=by
  have:=aA (ops'.size-(p0+1)) iA;rw[show p0+1+(ops'.size-(p0+1))=ops'.size by omega,e1]at this;rw[<- this,show sy.t=s1.t from h2.t];exact hv
 obtain⟨h5,_,n2⟩:=cn.step p0 _ g1;have es:Qg ops'.toList (σ p0).t {o with op:=.makeFunc (.func f) args #[]}=U Y/\kH E.G (σ p0).t args.toList=U l:=by
  rcases n2 with⟨_,h⟩ | ⟨hw,v',h9,p1,h,_⟩
  ·rw[h]at hA;simp only[a3]at hA;rw[LP]at hA;simp[Qq]at hA
  ·refine⟨hw,?_⟩;rw[h]at hA;simp only[a3]at hA;rw[LP]at hA;simp only[Option.some.injEq]at hA;subst hA;simp only[mB,jm]at p1;cases he:kH E.G (σ p0).t args.toList with
   | none=>grind
   | some x =>
    simp only[he,kH,g0,Cf]at p1
    grind
 intro M_ a w S_ o1;refine wpIn_region_any hm ?_;have H':c_ E.G M_ s.h {w with drawn:=w.drawn+1}:=S_.h.same rfl;have S':iU E.G M_ s a {w with drawn:=w.drawn+1}:=⟨H',S_.t,S_.ds,S_.okd⟩;subst e0;refine U3j (B:=B) (σ:=σ) (ops':=ops') (E:=E) (C:=D0) (M0:=M_) (w0:={w with drawn:=w.drawn+1}) (p0:=p0) c1 p2 hC cn hD hL (cn.wf hD H' S_.t) ht ?_ ?_ _ _ _ _ _ _ 0 (by simp[c1]) (by simp[c1]) (by rw[<- c1];exact V8k cn rfl S') ?_
 ·intro i b hb hg eB;rw[gA i];cases h7:ops[i]? with
  | none=>simp
  | some oi=>simp[hb,va,hg,eB]
 ·intro listed M1 a1 w1 T p I_ hn hc K0 r2;have hp:p=0:=by
   rcases I_.last with h | ⟨j,h3,h4,_⟩
   ·exact h
   ·exact absurd (e2 j (I_.small j h3)) h4
  subst hp;have M':=I_.looks cn g1 hn (fun e he t4=>hc _ g1 e he t4);obtain⟨a4,gB⟩:=V4p (ops:=ops'.toList) (o:={o with op:=.makeFunc (.func f) args #[]}) (G:=E.G) M';have hw:Qg ops.toList T o=U Y:=by
   rw[<- Ul5 (l:=ops.toList) (l':=ops'.toList) (o:=o) (o':={o with op:=.makeFunc (.func f) args #[]}) rfl ?_]
   ·exact gB.trans es.1
   ·intro i;have:=hC i;simpa[sQ]using this
  have bx:kH E.G T args.toList=U l:=by
   rw[DZ (t':=(σ p0).t) fun x hx=>a4 x (by simpa[Op.operands]using hx)];exact es.2
  unfold wpOpIn;rw[e3];simp only;rw[if_pos (xO (G:=E.G) I_.t hw)];have S1:iU E.G M1 ⟨T,(σ 0).ds,(σ 0).h⟩ a1 w1:=⟨I_.h,I_.t,I_.ds,I_.okd⟩;have g2:X0 E (GA P E.G) rd o ⟨T,(σ 0).ds,(σ 0).h⟩ (fun e s'=>K e s'/\(e=.normal->OX p0 B ops.size=Y)):=by
   obtain⟨fn,g3⟩:=Option.isSome_iff_exists.1 g3;have a5:lg ⟨T,(σ 0).ds,(σ 0).h⟩ o.dst=Y:=by
    have h8:lg (σ p0) o.dst=Y:=h5;rw[a3]at h8 ⊢;simp only[lg]at h8 ⊢;rw[I_.ts,<- cn.size (i:=p0) iA];exact h8
   have ha:jm E T (σ 0).h o=U (.enter f l (σ 0).h):=by
    simp only[jm,aB,t9,bx,c0,iH,Qi,g3];simp
   simp only[X0,a5,aB,ha];refine hu.mono fun r h1 hr => ?_;cases r with
   | panic ch=>exact⟨hr T I_.ts,fun e=>by cases e⟩
   | ret v =>
    show K .normal (St.put ⟨T,(σ 0).ds,(σ 0).h⟩ o.dst v h1)/\_;rw[a3];exact⟨hr.2 (T.put d0 v) I_.ts,fun _=>hr.1⟩
  rw[<- (GU (n:=0) S_ I_.ext o1).1];refine Nr E (lQ _ _) g2 S1 ?_ ?_
  ·rintro M2 a2 w2 s2 ⟨q1,q2⟩ q3 q4 q5;refine r2 (fun j hj hg => ?_) a2 w2 ⟨M2,.normal,s2,q1,rfl,trivial,I_.ext.trans q3 (Nat.le_refl _),?_,q5⟩
   ·have hl:=q2 rfl;unfold OX at hl;rw[x1]at hl;have:=List.all_eq_true.1 hl j (List.mem_range.2 hj);rcases Bool.or_eq_true _ _ ▸ this with h | h
    ·exact absurd (by simpa using h) hg
    ·exact En cn I_.down g1 (fun e he t4=>hc _ g1 e he t4) x1 h
   ·exact(ig.drew _ _ _ (Nat.le_succ _)).trans (I_.turn.trans q4)
  ·rintro M2 a2 w2 s2 c2 ⟨q1, -⟩ q3 q4 q5 q6;refine⟨M2,.panic c2,s2,q1,rfl,q6,I_.ext.trans q3 (Nat.le_refl _),?_,q5⟩;exact(ig.drew _ _ _ (Nat.le_succ _)).trans (I_.turn.trans q4)
 ·intro hj;simp only[jN,Array.getD_eq_getD_getElem?,Array.getElem?_replicate]at hj;split at hj <;> simp at hj
end
section
variable{P:Program}{E:f_ P}{C:iP}{ops:Array Oper}
def takes(o:Oper):Bool:=match o.op with
 | .move _ | .assign _ | .fieldAddr .. | .indexAddr .. => Y
 | _=>J
def Uv0{M_:Ren}{h:N}{w:World}(H:c_ E.G M_ h w){t:Tm}{a:Act}(ht:je M_ t a.tmps){o:Oper}(hf:takes o=Y){v:V}{h1:N}(hr:jm E t h o=U (.val v h1)) :
  d_ (dom M_) v/\h1=h/\∀ w',(execOp a.eval o).run P w'=.ok (.value (b_ M_ v)) w':=by
 have ev:∀ {x:Operand} {v:V},iH E.G t x=U v->d_ (dom M_) v/\a.eval x=b_ M_ v:=fun hx=>vG H ht hx;unfold takes at hf;unfold jm at hr;split at hf
 next x h2=>simp only[h2]at hr;obtain⟨u,j,e⟩:=l9 hr;cases e;exact⟨(ev j).1,rfl,fun w'=>by simp only[execOp,h2,(ev j).2];rfl⟩
 next x h2=>simp only[h2]at hr;obtain⟨u,j,e⟩:=l9 hr;cases e;exact⟨(ev j).1,rfl,fun w'=>by simp only[execOp,h2,(ev j).2];rfl⟩
 ·rename_i s x f h2;simp only[h2]at hr;split at hr
  ·rename_i v0 h0;obtain⟨u,j,e⟩:=l9 hr;cases e;clear hr;have hx:=(ev h0).1;unfold kd at j;split at j
   ·rename_i a r hr;simp only[d_]at hx;split at j
    ·rename_i fs hd;split at j
     ·rename_i fd hb;split at j
      ·rename_i rf hp;split at j
       ·cases j
       ·rename_i hA;cases j;rw[sQ]at hb;have hk:fs[f]? = U fd:=(by grind);refine⟨by simp only[d_,wP];exact⟨hx.1,xM _ _ hx.2⟩,rfl,fun w' => ?_⟩;have h3:¬ rf.size=0:=(by grind);simp only[execOp,h2,(ev h0).2];simp only[Instr.fieldAt,Sem.run_bind,run_underlying (E.K s r hr).1,hd,Result.andThen_ok,hk,b_,Option.map_some,Instr.sureAddr,Sem.run_pure,fieldPlace,
         pH (E.K _ rf hp),h3,if_false]
        rw[yu M_ a hx.1 hx.2]
      ·cases j
     ·cases j
    ·cases j
   ·cases j
  ·cases hr
 ·rename_i ty x ix h2;simp only[h2]at hr;split at hr
  ·rename_i v0 v1 h0 h1;obtain⟨u,j,e⟩:=l9 hr;cases e;clear hr;have hx:=(ev h0).1;unfold J1 at j;split at j
   ·rename_i r k i hr;split at j
    ·rename_i n e a hd;split at j
     ·rename_i re hl;split at j
      ·rename_i hc;cases j;simp only[d_]at hx;refine⟨by simp only[d_,wP];exact⟨hx.1,xM _ _ hx.2⟩,rfl,fun w' => ?_⟩;simp only[execOp,h2,(ev h0).2,(ev h1).2];simp only[Instr.indexAt,b_,asIntOf,Sem.run_bind,Sem.run_pure,Result.andThen_ok,run_underlying (E.K ty r hr).1,hd,Option.map_some,Instr.sureAddr,
        Sem.run_ite,hc,and_self,if_true,pH (E.K _ re hl)]
       rw[yu M_ a hx.1 hx.2]
      ·cases j
     ·cases j
    ·rename_i e a n c hd;split at j
     ·rename_i re hl;split at j
      ·rename_i hc;cases j;simp only[d_]at hx;refine⟨by simp only[d_,wP];exact⟨hx.1,xM _ _ hx.2⟩,rfl,fun w' => ?_⟩;simp only[execOp,h2,(ev h0).2,(ev h1).2];simp only[Instr.indexAt,b_,asIntOf,Sem.run_bind,Sem.run_pure,Result.andThen_ok,run_underlying (E.K ty r hr).1,hd,Option.map_some,
        Sem.run_ite,hc,and_self,if_true,pH (E.K _ re hl)]
       rw[yu M_ a hx.1 hx.2]
      ·cases j
     ·cases j
    ·cases j
   ·cases j
  ·cases hr
 ·cases hf
def AU(E:f_ P)(C:iP)(l:List Oper)(F:St->Prop)(i:Nat)(s:St):Prop:=match iD l i with
 | none=>False
 | some o=>match Qg l s.t o with
  | some Y=>X0 E C O o s (x6 F (fun _ _=>False))
  | some J=>lg s o.dst=Y/\F (s.put o.dst Qq s.h)
  | none=>False
def rY(E:f_ P)(C:iP)(ops:Array Oper)(l:List Oper)(K:St->Prop):Nat->Array Bool->St->Prop
 | 0,listed,s=>Region.ready .any ops listed=[]/\K s
 | n+1,listed,s=>(Region.ready .any ops listed=[]/\K s) ∨
  (∃ i o v,iD l i=U o/\takes o=Y/\Region.noSelect ops=Y/\Region.free .any ops listed i=Y/\(Region.ready .any ops listed).contains i=Y/\Qg l s.t o=U Y/\jm E s.t s.h o=U (.val v s.h)/\lg s o.dst=Y/\rY E C ops l K n (listed.setIfInBounds i Y) (s.put o.dst v s.h)) ∨
  (∃ rs,Region.ready .any ops listed=rs/\rs ≠ []/\∀ i ∈ rs,AU E C l (rY E C ops l K n (listed.setIfInBounds i Y)) i s)
def Ung{i:Nat}{o:Oper}(h:iD (ops.toList.map bare) i=U o):∃ o',ops[i]? = U o'/\o=bare o':=by
 rw[sQ,List.getElem?_map,Option.map_eq_some_iff]at h
 grind
def K1(E:f_ P)(hC:i_ P E.G C){K:St->Prop}:∀ (n:Nat) (listed:Array Bool) (s:St) (M_:Ren) (a:Act) (w:World),
  rY E C ops (ops.toList.map bare) K n listed s->iU E.G M_ s a w->∀ (Q:Exit->Act->World->Prop),(∀ c a w,¬ Q (.panic c) a w) ->
  (∀ M' a' w' s1,K s1->iZ s.h.Q M_ M'->ig M_ s.h w M' s1.h w'->iU E.G M' s1 a' w'->Q .normal a' w') ->
  wpAnyIn (mP O M_) 0 P .any ops Q n listed a w
 | 0,listed,s,M_,a,w,h,S_,Q,hp,hQ=>by
  obtain⟨h1,h2⟩:=h;exact⟨h1,hQ M_ a w s h2 (iZ.refl _ _) (ig.refl _ _ _) S_⟩
 | n+1,listed,s,M_,a,w,h,S_,Q,hp,hQ=>by
  rcases h with⟨h1,h2⟩ | ⟨i,o,v,h1,h2,h0,h3,h4,h5,h6,h7,h8⟩ | ⟨rs,h1,h2,h3⟩
  ·exact wpAnyIn_done h1 (hQ M_ a w s h2 (iZ.refl _ _) (ig.refl _ _ _) S_) _
  ·obtain⟨o',ho,rfl⟩:=Ung h1;have hr:jm E s.t s.h o'=U (.val v s.h):=h6;have hf:takes o'=Y:=h2;obtain⟨r1, -,r2⟩:=Uv0 S_.h S_.t hf hr;have hl:∀ w,o'.about P w a.eval=O:=fun w=>by
    unfold takes at hf;unfold Oper.about
    grind
   have hd:lg s o'.dst=Y:=h7;have hw:Qg ops.toList s.t o'=U Y:=by rw[<- Cq];exact h5
   refine wpAnyIn_take (v:=b_ M_ v) rfl ho h0 h3 h4 (fun c a w hq=>absurd hq (hp c _ w)) ⟨.inl ⟨xO (G:=E.G) S_.t hw,r2⟩,hl⟩ ?_;have S1:iU E.G M_ (s.put o'.dst v s.h) (a.put o'.dst (b_ M_ v)) w:=S_.put hd r1;have hh:(s.put (bare o').dst v s.h).h=s.h:=B9 _ _ _ _;exact K1 E hC n _ _ M_ _ w h8 S1 Q hp (fun M' a' w' s1 q1 q2 q3 q4=>hQ M' a' w' s1 q1 (by grind) (by grind) q4)
  ·refine wpAnyIn_all h1 h2 fun i hi => ?_;have j:=h3 i hi;unfold AU at j;split at j
   ·grind
   ·rename_i o ho;obtain⟨o',hb,rfl⟩:=Ung ho;unfold wpOpIn;simp only[hb];rw[Cq]at j;split at j
    next hw=>rw[if_pos (xO (G:=E.G) S_.t hw)];have hA:X0 E C O o' s (x6 (rY E C ops (ops.toList.map bare) K n (listed.setIfInBounds i Y)) (fun _ _=>False)):=j;refine Nr E hC hA S_ (fun M' a' w' s1 hk q2 q3 q4 => ?_) (fun M' a' w' s1 ch hk _ _ _ _=>hk.elim);have:=K1 E hC n (listed.setIfInBounds i Y) s1 M' a' w' hk q4 Q hp (fun hc hx hy s2 r1 r2 r3 r4=>hQ hc hx hy s2 r1 (q2.trans r2 q3.Q) (q3.trans r3) r4);exact this
    next hw=>rw[if_neg (by rw[xO (G:=E.G) S_.t hw];simp)];refine⟨fun f _=>Ae O M_ f,?_⟩;obtain⟨hd,h4⟩:=j;have hh:(s.put (bare o').dst Qq s.h).h=s.h:=B9 _ _ _ _;exact K1 E hC n _ _ M_ _ w h4 (S_.putU hd) Q hp (fun M' a' w' s1 q1 q2 q3 q4=>hQ M' a' w' s1 q1 (by grind) (by grind) q4)
    grind
def U6s(E:f_ P)(hC:i_ P E.G C)(hm:P.follows .mixedOrders=Y){id:Nat}{K:Exit->St->Prop}{s:St}(h:rY E C ops (ops.toList.map bare) (K .normal) ops.size (Array.replicate ops.size J) s) :
  CW P E.G O s.h.Q (.region id ops Y) s K:=by
 intro M_ a w S_ _;refine wpIn_mono (Q:=fun e' a' w' => ∃ j s',e'=.normal/\K .normal s'/\iZ s.h.Q M_ j/\ig M_ s.h w j s'.h w'/\iU E.G j s' a' w') ?_ ?_
 ·refine wpIn_region_any hm ?_;have H':c_ E.G M_ s.h {w with drawn:=w.drawn+1}:=S_.h.same rfl;have S':iU E.G M_ s a {w with drawn:=w.drawn+1}:=⟨H',S_.t,S_.ds,S_.okd⟩;refine K1 E hC _ _ s M_ a _ h S' _ (fun c a w ⟨_,_,e,_⟩=>by cases e) fun j a' w' s1 k1 k2 k3 k4=>⟨j,s1,rfl,k1,k2,(ig.drew _ _ _ (Nat.le_succ _)).trans k3,k4⟩
 ·rintro e' a' w' ⟨j,s',rfl,k1,k2,k3,k4⟩;exact⟨j,.normal,s',k1,rfl,trivial,k2,k3,k4⟩
def AF{l:List Oper}{K:St->Prop}{n:Nat}{listed:Array Bool}{s:St}(i:Nat){o:Oper}{v:V}(h1:iD l i=U o)(j:takes o=Y)(h3:Region.noSelect ops=Y)(h4:Region.free .any ops listed i=Y)(h5:(Region.ready .any ops listed).contains i=Y)
  (h6:Qg l s.t o=U Y) (h7:jm E s.t s.h o=U (.val v s.h)) (h8:lg s o.dst=Y) {listed':Array Bool} (h9:listed.setIfInBounds i Y=listed') (h:rY E C ops l K n listed' (s.put o.dst v s.h)):rY E C ops l K (n+1) listed s:=by
 subst h9;exact .inr (.inl ⟨i,o,v,h1,j,h3,h4,h5,h6,h7,h8,h⟩)
def Bj{l:List Oper}{K:St->Prop}{n:Nat}{listed:Array Bool}{s:St}(i:Nat)(h1:Region.ready .any ops listed=[i]){listed':Array Bool}(h9:listed.setIfInBounds i Y=listed')(h:AU E C l (rY E C ops l K n listed') i s):rY E C ops l K (n+1) listed s:=by
 subst h9;exact .inr (.inr ⟨[i],h1,jA,fun j hj=>by grind⟩)
def Wbx{l:List Oper}{K:St->Prop}{n:Nat}{listed:Array Bool}{s:St}(i j:Nat)(h1:Region.ready .any ops listed=[i,j]){li lj:Array Bool}(h8:listed.setIfInBounds i Y=li)(h9:listed.setIfInBounds j Y=lj)(hi:AU E C l (rY E C ops l K n li) i s)(hj:AU E C l (rY E C ops l K n lj) j s):rY E C ops l K (n+1) listed s:=by
 subst h8 h9;refine .inr (.inr ⟨[i,j],h1,jA,fun k hk => ?_⟩)
 grind
def Wax{l:List Oper}{K:St->Prop}{n:Nat}{listed:Array Bool}{s:St}(h1:Region.ready .any ops listed=[])(h:K s):rY E C ops l K n listed s:=by
 cases n with
 | zero=>exact⟨h1,h⟩
 | succ n=>exact .inl ⟨h1,h⟩
def yW{l:List Oper}{F:St->Prop}{i:Nat}{o:Oper}{t:Tm}{ds:List Deferred}{h:N}(j:iD l i=U o):AU E C l F i ⟨t,ds,h⟩=(match Qg l t o with
  | some Y=>X0 E C O o ⟨t,ds,h⟩ (x6 F (fun _ _=>False))
  | some J=>lg ⟨t,ds,h⟩ o.dst=Y/\F (St.put ⟨t,ds,h⟩ o.dst Qq h)
  | none=>False):=by
 unfold AU;rw[j]
end
def ve(t:Tm)(ds:List Deferred)(l:Nat)(K:Exit->St->Prop)(r:jc)(h:N):Prop:=match AK t ds l (U (r,h))with
 | some (e,j)=>K e j
 | none=>False
def Ak(E:f_ P)(C:iP)(rd:Option Nat)(g:Operand)(ps:Array Tmp)(asn bd:Code)(s:St)(K:Exit->St->Prop):Prop :=
 match iH E.G s.t g with
 | some (.func (.func f) first j)=>match E.fn.A f with
  | none=>False
  | some _=>match rd with
   | none=>C.fn f (first.toList ++ [.func (.yield (s.h.Q+1)) #[] #[]]++j.toList) ((s.h.push (.obj .defs)).push (.obj (.loop .ready O s.t ps asn bd s.h.Q)))
     (ve s.t ({target:=.collected s.h.Q,args:=#[]}::s.ds) (s.h.Q+1) K)
   | some l0=>match s.h.A l0 with
    | some (.obj (.loop _ _ _ _ _ _ d))=>C.fn f (first.toList ++ [.func (.yield s.h.Q) #[] #[]]++j.toList) (s.h.push (.obj (.loop .ready O s.t ps asn bd d))) (ve s.t s.ds s.h.Q K)
    | _=>False
 | _=>False
def sO(F:St->Prop)(K:Exit->St->Prop)(e:Exit)(s:St):Prop:=match e with
 | .normal=>F s
 | e=>K e s
def sT(id:Nat)(K:Exit->St->Prop)(e:Exit)(s:St):Prop:=match e with
 | .exit j=>if j=id then K .normal s else K (.exit j) s
 | e=>K e s
def X7(F:St->Prop)(K:Exit->St->Prop)(s:St):sO F K .normal s=F s:=rfl
def Xy(F:St->Prop)(K:Exit->St->Prop)(s:St):sO F K .ret s=K .ret s:=rfl
def Xp(F:St->Prop)(K:Exit->St->Prop)(id:Nat)(s:St):sO F K (.exit id) s=K (.exit id) s:=rfl
def Xe(F:St->Prop)(K:Exit->St->Prop)(j:List PanicEntry)(s:St):sO F K (.panic j) s=K (.panic j) s:=rfl
def Qx(id:Nat)(K:Exit->St->Prop)(s:St):sT id K .normal s=K .normal s:=rfl
def Xn(id:Nat)(K:Exit->St->Prop)(s:St):sT id K .ret s=K .ret s:=rfl
def X4(id:Nat)(K:Exit->St->Prop)(j:List PanicEntry)(s:St):sT id K (.panic j) s=K (.panic j) s:=rfl
def Xg(id j:Nat)(K:Exit->St->Prop)(s:St):sT id K (.exit j) s=if j=id then K .normal s else K (.exit j) s:=rfl
def IL(body:St->(Exit->St->Prop)->Prop)(s:St)(K:Exit->St->Prop):Prop :=
 ∃ (j:Nat->St->Prop) (k:Nat),j k s/\∀ k s',j k s'->s.h.Q<=s'.h.Q->body s' (sO (fun hc => ∃ k',k' < k/\j k' hc) K)
def iO{P:Program}(E:f_ P)(C:iP)(D0:h_)(rd:Option Nat):Code->St->(Exit->St->Prop)->Prop
 | .skip,s,K=>K .normal s
 | .label _,s,K=>K .normal s
 | .ret,s,K=>K .ret s
 | .exit id,s,K=>K (.exit id) s
 | .seq x y,s,K=>iO E C D0 rd x s (sO (fun s'=>iO E C D0 rd y s' K) K)
 | .cond c x y,s,K => ∃ b,iH E.G s.t c=U (.bool b)/\(b=Y->iO E C D0 rd x s K)/\(b=J->iO E C D0 rd y s K)
 | .block id c,s,K=>iO E C D0 rd c s (sT id K)
 | .loop c,s,K=>(∀ l,rd=U l->l < s.h.Q)/\IL (iO E C D0 rd c) s K
 | .region _ ops Y,s,K=>(∃ B j R L_,(∀ e ∈ L_,ue P E.G e)/\pf ops.toList []=U B/\tZ ops.toList ops.toList B []=Y/\runT E L_ ops.toList B ops.toList 0 s=U (j,R)/\Yb E R B R B 0=Y/\K .normal j) ∨
  (C.die=Y/\rd=O/\rY E C ops (ops.toList.map bare) (K .normal) ops.size (Array.replicate ops.size J) s) ∨
  (C.die=Y/\∃ (B:List Nat) (p0 d0 f:Nat) (args:Array Operand) (o:Oper) (c:Call) (l:List V) (j:St),pf ops.toList []=U B/\tZ (mT p0 f args ops.toList B 0) (mT p0 f args ops.toList B 0) B []=Y/\ops.toList[p0]? = U o/\o.op=.call c/\c.callee=.value (.func f)/\c.args=args /\
   o.dst=U d0/\DF d0 p0 ops.toList 0=Y/\zP E (mT p0 f args ops.toList B 0)=Y/\vh E D0 O (mT p0 f args ops.toList B 0) (mT p0 f args ops.toList B 0) s=U (.normal,j)/\j.t.t.A d0=U (.func (.func f) ⟨l⟩ #[])/\(E.fn.A f).isSome=Y /\
   C.fn f l s.h (Nc p0 B ops.size s K))
 | .region _ ops J,s,K=>oE E C rd ops.toList K ops.toList s
 | .rangeFunc g ps hc bd,s,K=>Ak E C rd g ps hc bd s K
 | _,_,_=>False
def EK(E:f_ P)(C:iP)(D0:h_)(rd:Option Nat)(y:Code)(K:Exit->St->Prop)(s:St):Prop:=iO E C D0 rd y s K
section
variable{P:Program}{E:f_ P}{C:iP}{rd:Option Nat}{M_:Ren}{s:St}{h:N}{w:World}
def Uxz(E:f_ P){C:iP}(hC:i_ P E.G C){rd:Option Nat}{g:Operand}{ps:Array Tmp}{asn bd:Code}{K:Exit->St->Prop}(hh:Ak E C rd g ps asn bd s K) :
  CW P E.G rd s.h.Q (.rangeFunc g ps asn bd) s K:=by
 intro M_ a w S_ hl;unfold Ak at hh;split at hh
 ·rename_i f first j hg
  obtain⟨g1,g2⟩:=vG S_.h S_.t hg;split at hh
  ·grind
  ·rename_i F hF;obtain⟨q1,q2,q3⟩:=E.fnok _ _ hF;have ho:F.body.isNone=J:=by simp_all
   have g3:a.eval g=.func (.func f) (first.map (b_ M_)) (j.map (b_ M_)):=by rw[g2];simp[b_,vC,uo]
   simp only[d_,wQ]at g1;have hr:∀ (args:Array V) (w:World),(invoke (.fn (.func f) (j.map (b_ M_))) args).run P w=.ok (.enter f (args++j.map (b_ M_))) w:=fun args w=>Uc7 E hF _ _ w;have go:∀ (M2:Ren) (w2:World) (h2:N) (l:Nat) (ds:List Deferred) (mark:List Deferred),iZ s.h.Q M_ M2->s.h.Q<=h2.Q->c_ E.G M2 h2 w2->ig M_ s.h w M2 h2 w2->dom M2 l ->
     (mark++a.defers=ds.map (rn M2))->(∀ d ∈ ds,uR (dom M2) d) ->
     C.fn f (first.toList ++ [.func (.yield l) #[] #[]]++j.toList) h2 (ve s.t ds l K) ->
     CallsIn (mP rd M_) 0 P f (first.map (b_ M_) ++ #[Value.func (.yield (jD M2 l)) #[] #[]]++j.map (b_ M_)) w2 (rangePost (mP rd M_) 0 P (jD M2 l)
      (fun e' a' w' => ∃ M' e0 s',K e0 s'/\e'=r9 M' e0/\uB (dom M') e0/\iZ s.h.Q M_ M'/\ig M_ s.h w M' s'.h w'/\iU E.G M' s' a' w') {a with defers:=mark++a.defers}):=by
    intro M2 w2 h2 l ds mark he hn H2 T2 hB hz e1 hp;have hc:∀ b,dom M_ b->M2 b=M_ b:=fun b hb=>he b (np S_.h hb);obtain⟨a1,a2⟩:=Uw3 g1 hc hB rfl;rw[a1];refine Lx ((hC.fn _ _ _ _ hp M2 w2 H2 a2).mono ?_);rintro e' w3 ⟨M3,r,h3,hk,rfl,k1,k2,k3,k4⟩;unfold ve at hk;split at hk
    ·rename_i e0 s1 hu;have hA:∀ b,dom M2 b->M3 b=M2 b:=fun b hb=>k2 b (np H2 hb);have hf:dom M3 l:=(by grind);have er:jD M2 l=jD M3 l:=(tU (hA l hB)).symm;have S3:iU E.G M3 ⟨s.t,ds,h3⟩ {a with defers:=mark++a.defers} w3:=by
      refine⟨k4,(S_.t.keep hc).keep hA,?_,fun d hd=>Ev (fun b hb=>by grind) (e1 d hd)⟩;show mark++a.defers=_;rw[hz];apply List.map_congr_left;intro d hd;exact(Ez hA (e1 d hd)).symm
     rw[er];refine Uyb hu hf k1 S3 fun w' T' S' hx => ?_;exact⟨M3,e0,s1,hk,rfl,hx,he.trans k2 hn,(T2.trans k3).trans T',S'⟩
    ·exact hk.elim
   split at hh
   ·refine wpIn_rangeFunc fun fn _ => ?_;obtain⟨M1,H1,T1,d1,b1,x1⟩:=Unn S_.h (x:=.defs) (o:=.deferred (U [])) rfl;have S1:=S_.step x1 H1;obtain⟨M2,H2,T2,d2,b2,x2⟩:=Ubm (ps:=ps) («as» := asn) (bd:=bd) H1 S1.t d1 fn;have a3:(s.h.push (.obj .defs)).Q=s.h.Q+1:=rfl;have hy:iZ s.h.Q M_ M2:=x1.trans x2 iA;have e2:jD M2 s.h.Q=w.heap.size:=by rw[tU (x2 _ iA),b1]
    have v':dom M2 s.h.Q:=by have:=x2 s.h.Q iA;simpa[dom,this]using d1
    rw[Uq2]at b2;rw[b1]at H2 T2;refine⟨w.heap.size+1,[{target:=.collected w.heap.size,args:=#[]}],(w.alloc (.deferred (U []))).alloc (.loop {state:=.ready,pending:=O,fn:=fn,tmps:=a.tmps,params:=ps,assign:=asn,body:=bd,defers:=w.heap.size}),⟨.fn (.func f) (j.map (b_ M_)),first.map (b_ M_) ++ #[.func (.yield (w.heap.size+1)) #[] #[]]⟩,(w.alloc (.deferred (U []))).alloc (.loop {state:=.ready,pending:=O,fn:=fn,tmps:=a.tmps,params:=ps,assign:=asn,body:=bd,defers:=w.heap.size}),f,_,(w.alloc (.deferred (U []))).alloc (.loop {state:=.ready,pending:=O,fn:=fn,tmps:=a.tmps,params:=ps,assign:=asn,body:=bd,defers:=w.heap.size}),?_,?_,?_,hr _ _,by rw[Cr];simp,?_⟩
    ·rw[Lw];exact run_enterLoop_outer fn a.tmps ps asn bd
    ·show(Deferred.ofValue (a.eval g) _).run P _=_;rw[g3];simp[Deferred.ofValue,rangeCall,Act.eval]
    ·exact fun f' _=>Ae O M_ f'
    ·have:=go M2 _ _ (s.h.Q+1) ({target:=.collected s.h.Q,args:=#[]}::s.ds) [{target:=.collected w.heap.size,args:=#[]}] hy (by show s.h.Q<=s.h.Q+1+1;omega) H2 (T1.trans T2) d2 ?_ ?_ hh
     ·rw[<- a3,b2]at this;exact this
     ·have S2:=S_.step hy H2;simp only[List.map_cons,rn,e2,kn,mA];rw[<- S2.ds];rfl
     ·intro d hd;rcases List.mem_cons.1 hd with rfl | hd
      ·exact⟨v',by simp[mH,nr]⟩
      ·exact(S_.step hy H2).okd d hd
   ·rename_i l0;split at hh
    ·rename_i h5 h4 t0 t4 c1 hm d0 es;refine wpIn_rangeFunc fun fn _ => ?_;have hw:=hl l0 rfl;obtain⟨r0,r1,_,_,_,_,_,_,hq,r2,_⟩:=KS S_.h hw es;obtain⟨M2,H2,T2,d2,b2,x2⟩:=Ubm (ps:=ps) («as» := asn) (bd:=bd) S_.h S_.t hq fn;have S2:=S_.step x2 H2;refine⟨w.heap.size,[],w.alloc (.loop {state:=.ready,pending:=O,fn:=fn,tmps:=a.tmps,params:=ps,assign:=asn,body:=bd,defers:=jD M_ d0}),⟨.fn (.func f) (j.map (b_ M_)),first.map (b_ M_) ++ #[.func (.yield w.heap.size) #[] #[]]⟩,w.alloc (.loop {state:=.ready,pending:=O,fn:=fn,tmps:=a.tmps,params:=ps,assign:=asn,body:=bd,defers:=jD M_ d0}),f,_,w.alloc (.loop {state:=.ready,pending:=O,fn:=fn,tmps:=a.tmps,params:=ps,assign:=asn,body:=bd,defers:=jD M_ d0}),?_,?_,?_,hr _ _,by rw[Cr];simp,?_⟩
     ·rw[Lw];unfold Instr.enterLoop;simp only[Option.map_some,Sem.run_bind,run_getLoop r1,Result.andThen,Sem.run_pure,run_newObj_alloc,r2]
     ·show(Deferred.ofValue (a.eval g) _).run P _=_;rw[g3];simp[Deferred.ofValue,rangeCall,Act.eval]
     ·exact fun f' _=>Ae _ M_ f'
     ·have:=go M2 _ _ s.h.Q s.ds [] x2 (by show s.h.Q<=s.h.Q+1;omega) H2 T2 d2 (by simpa using S2.ds) S2.okd hh;rw[b2]at this;exact this
    ·exact hh.elim
 ·exact hh.elim
def yN(E:f_ P){C:iP}(j:i_ P E.G C){D0:h_}(hD:iK P E.G D0)(hL:iL D0)(hm:P.follows .mixedOrders=Y){rd:Option Nat}:∀ (c:Code) (s:St) (K:Exit->St->Prop),iO E C D0 rd c s K->CW P E.G rd s.h.Q c s K
 | .skip,s,K,h=>Uss h
 | .label _,s,K,h=>U0v h
 | .ret,s,K,h=>U9i h
 | .exit _,s,K,h=>U75 h
 | .seq x y,s,K,h=>by
  simp only[iO]at h;refine U3z ((yN E j hD hL hm x _ _ h).mono (Nat.le_refl _) ?_);intro e s' hk;cases e with
  | normal=>exact yN E j hD hL hm y _ _ hk
  | _=>exact hk
 | .cond c x y,s,K,h=>by
  simp only[iO]at h;obtain⟨b,h1,h2,h3⟩:=h;refine U6v h1 ?_;cases b with
  | true=>exact yN E j hD hL hm x _ _ (h2 rfl)
  | false=>exact yN E j hD hL hm y _ _ (h3 rfl)
 | .block id c,s,K,h=>by
  simp only[iO]at h;refine Uzz ((yN E j hD hL hm c _ _ h).mono (Nat.le_refl _) ?_);intro e s' hk;cases e <;> exact hk
 | .loop c,s,K,h=>by
  simp only[iO,IL]at h;obtain⟨hc,I_,k,hI,hr⟩:=h;refine U55 (n:=s.h.Q) (fun k s'=>I_ k s'/\s.h.Q<=s'.h.Q) ⟨hI,Nat.le_refl _⟩ hc (Nat.le_refl _) ?_;rintro k s' ⟨h1,h2⟩ _;refine((yN E j hD hL hm c s' _ (hr k s' h1 h2)).grows).mono h2 ?_;rintro e hy ⟨h3,h4⟩;refine⟨Nat.le_trans h2 h4,fun he => ?_,fun hA => ?_⟩
  ·subst he;obtain⟨k',h5,h6⟩:=h3
   grind
  ·cases e <;> first
    | grind
    | exact h3
 | .region _ ops Y,s,K,h=>by
  simp only[iO]at h;rcases h with⟨B,s1,R,L_,d1,h1,h2,h3,h4,h5⟩ | ⟨_,h0,h1⟩ | ⟨_,B,p0,d0,f,args,o,c,l,s1,k1,k2,k3,k4,k5,k6,k7,k8,k9,hx,hl,hb,hp⟩
  ·exact U06 E d1 hm h1 h2 h3 h4 h5
  ·subst h0;exact U6s E j hm h1
  ·exact U9p E hD hL hm k1 k2 k3 k4 k5 k6 k7 k8 k9 hx hl hb (j.fn _ _ _ _ hp)
 | .region _ ops J,s,K,h=>by
  simp only[iO]at h;exact Uqh E j h
 | .rangeFunc ..,s,K,h=>by
  simp only[iO]at h;exact Uxz E j h
 | .scope ..,_,_,h | .goto ..,_,_,h | .refuse ..,_,_,h=>by simp[iO]at h
def Yn{D0:h_}(y:Code)(K:Exit->St->Prop)(t:Tm)(ds:List Deferred)(h:N):EK E C D0 rd y K ⟨t,ds,h⟩=iO E C D0 rd y ⟨t,ds,h⟩ K:=rfl
def Zz{D0:h_}(s:St)(K:Exit->St->Prop):iO E C D0 rd .skip s K=K .normal s:=rfl
def Va{D0:h_}(s:St)(K:Exit->St->Prop):iO E C D0 rd .ret s K=K .ret s:=rfl
def Zy{D0:h_}(id:Nat)(s:St)(K:Exit->St->Prop):iO E C D0 rd (.exit id) s K=K (.exit id) s:=rfl
def U2p{D0:h_}{c:Operand}{x y:Code}{s:St}{K:Exit->St->Prop}{b:Bool}(h:iH E.G s.t c=U (.bool b))(hk:iO E C D0 rd (if b then x else y) s K):iO E C D0 rd (.cond c x y) s K:=by
 refine⟨b,h,fun j => ?_,fun j => ?_⟩
 ·grind
 grind
def iV{D0:h_}{c:Code}{s:St}{K:Exit->St->Prop}(j:Nat->St->Prop)(k:Nat)(hI:j k s)(hr:∀ k s',j k s'->s.h.Q<=s'.h.Q->iO E C D0 O c s' (sO (fun hc => ∃ k',k' < k/\j k' hc) K)):iO E C D0 O (.loop c) s K :=
 ⟨fun _ h=>(by cases h),j,k,hI,hr⟩
def U5b{D0:h_}{c:Operand}{x y:Code}{s:St}{K:Exit->St->Prop}(h:iH E.G s.t c=U (.bool Y))(j:iO E C D0 rd x s K):iO E C D0 rd (.cond c x y) s K:=U2p (b:=true) h j
def U3d{D0:h_}{c:Operand}{x y:Code}{s:St}{K:Exit->St->Prop}(h:iH E.G s.t c=U (.bool J))(j:iO E C D0 rd y s K):iO E C D0 rd (.cond c x y) s K:=U2p (b:=false) h j
def U8r{D0:h_}{c:Operand}{x y:Code}{s:St}{K:Exit->St->Prop}(h:iH E.G s.t c=U (.bool Y)):iO E C D0 rd (.cond c x y) s K=iO E C D0 rd x s K:=by
 refine propext ⟨fun j => ?_,fun j=>U5b h j⟩;simp only[iO]at j
 grind
def Wau{D0:h_}{c:Operand}{x y:Code}{s:St}{K:Exit->St->Prop}(h:iH E.G s.t c=U (.bool J)):iO E C D0 rd (.cond c x y) s K=iO E C D0 rd y s K:=by
 refine propext ⟨fun j => ?_,fun j=>U3d h j⟩;simp only[iO]at j
 grind
def jf{D0:h_}{id:Nat}{ops:Array Oper}{l:List Oper}{B:List Nat}{s s1:St}{R:List (Option i')}{K:Exit->St->Prop}(j:List KE)(hL:∀ e ∈ j,ue P E.G e)(hD:ops.toList.map bare=l/\pf ops.toList []=U B/\tZ ops.toList ops.toList B []=Y)
  (hx:runT E j l B l 0 s=U (s1,R)) (hc:Yb E R B R B 0=Y) (hk:K .normal s1):iO E C D0 rd (.region id ops Y) s K:=by
 obtain⟨rfl,hB,hp⟩:=hD;rw[Udm,Option.map_eq_some_iff]at hx;obtain⟨⟨s2,R2⟩,h1,h2⟩:=hx;cases h2;rw[Jg7]at hc;exact .inl ⟨B,s2,R2,j,hL,hB,hp,h1,hc,hk⟩
def Wbk{D0:h_}{id:Nat}{ops:Array Oper}{lb:List Oper}{B:List Nat}{s s1:St}{K:Exit->St->Prop}{p0 d0 f:Nat}{args:Array Operand}{o:Oper}{c:Call}{l:List V}(hc:C.die=Y)(hl:ops.toList.map bare=lb)(hB:pf ops.toList []=U B)(hp:tZ (mT p0 f args ops.toList B 0) (mT p0 f args ops.toList B 0) B []=Y)
  (ho:ops.toList[p0]? = U o) (hy:o.op=.call c) (h2:c.callee=.value (.func f)) (hk:c.args=args) (hA:o.dst=U d0) (hb:DF d0 p0 ops.toList 0=Y) (hr:zP E (mT p0 f args ops.toList B 0)=Y)
  (hx:vh E D0 O (mT p0 f args lb B 0) (mT p0 f args lb B 0) s=U (.normal,s1)) (hv:s1.t.t.A d0=U (.func (.func f) ⟨l⟩ #[])) (h3:(E.fn.A f).isSome=Y) (j:C.fn f l s.h (Nc p0 B ops.size s K)):iO E C D0 rd (.region id ops Y) s K:=by
 subst hl;rw[V5e,Nk]at hx;exact .inr (.inr ⟨hc,B,p0,d0,f,args,o,c,l,s1,hB,hp,ho,hy,h2,hk,hA,hb,hr,hx,hv,h3,j⟩)
def Wa0{D0:h_}{id:Nat}{ops:Array Oper}{l:List Oper}{s:St}{K:Exit->St->Prop}(j:C.die=Y)(hl:ops.toList.map bare=l)(h:rY E C ops l (K .normal) ops.size (Array.replicate ops.size J) s):iO E C D0 O (.region id ops Y) s K:=by
 subst hl;exact .inr (.inl ⟨j,rfl,h⟩)
def V5m(ops:List Oper):∀ (l:List Oper) (s:St) (K:Exit->St->Prop),oE E C rd (ops.map bare) K (l.map bare) s=oE E C rd ops K l s
 | [],s,K=>rfl
 | o::r,s,K=>by
  have hs:∀ j,X0 E C rd (bare o) s j=X0 E C rd o s j:=fun _=>rfl;simp only[List.map_cons,oE,Cq,hs];have hk:oE E C rd (ops.map bare) K (r.map bare)=oE E C rd ops K r:=by
   funext s';exact V5m ops r s' K
  rw[hk];split
  ·rfl
  ·show(if lg s o.dst=Y then _ else _)=_;rw[show(s.put (bare o).dst Qq s.h)=s.put o.dst Qq s.h from rfl]
  ·rfl
def yX{D0:h_}:∀ (c:Code) (s:St) (K:Exit->St->Prop),iO E C D0 rd (Up c) s K=iO E C D0 rd c s K
 | .seq x y,s,K=>by
  simp only[Up,iO,yX x];have : (fun j=>iO E C D0 rd (Up y) j K)=(fun j=>iO E C D0 rd y j K):=by funext j;exact yX y j K
  rw[this]
 | .cond c x y,s,K=>by simp only[Up,iO,yX x,yX y]
 | .block id c,s,K=>by simp only[Up,iO,yX c]
 | .loop c,s,K=>by
  have : iO E C D0 rd (Up c)=iO E C D0 rd c:=by funext s K;exact yX c s K
  simp only[Up,iO,this]
 | .region id ops J,s,K=>by
  simp only[Up,iO];exact V5m ops.toList ops.toList s K
 | .region id ops Y,s,K=>rfl
 | .skip,s,K=>rfl
 | .label _,s,K=>rfl
 | .ret,s,K=>rfl
 | .exit _,s,K=>rfl
 | .rangeFunc ..,s,K=>rfl
 | .scope ..,s,K=>rfl
 | .goto ..,s,K=>rfl
 | .refuse ..,s,K=>rfl
def tK{P:Program}(E:f_ P)(D:r7)(fn:Func)(K:jc->N->Prop)(u:FrameMode)(s:St):Prop:=match Qt E D fn s.t s.ds u s.h with
 | some (r,h')=>K r h'
 | none=>False
def pj{P:Program}(E:f_ P)(D:r7)(fn:Func)(K:jc->N->Prop)(e:Exit)(s:St):Prop:=match e with
 | .normal=>tK E D fn K .returning s
 | .ret=>tK E D fn K .returning s
 | .panic j=>tK E D fn K (.panicking j) s
 | _=>False
def Uis(E:f_ P){D:r7}(hD:Cp P E.G D){f:FuncId}{args:List V}{h:N}{fn:Func}{c:Code}{K:jc->N->Prop}(hr:E.fn.A f=U fn)(hc:fn.body=U c)(hp:Nat.ble (L args) fn.ntmps=Y)
  (hb:CW P E.G O h.Q c ⟨Qz fn args,[],h⟩ (fun e s=>pj E D fn K e s)):gr P E.G f args h K:=by
 intro M_ w H ha;obtain⟨g1,g2,g3⟩:=E.fnok _ _ hr;have hx:L args<=fn.ntmps:=by simp_all
 have S_:iU E.G M_ ⟨Qz fn args,[],h⟩ {tmps:=(args.map (b_ M_)).toArray++Array.replicate (fn.ntmps-(args.map (b_ M_)).toArray.size) undef,defers:=[]} w :=
  ⟨H,Ua6 hx ha,rfl,fun d hd=>by cases hd⟩
 have lv:∀ (s:St) (u:FrameMode),tK E D fn K u s->∀ a' w' j,iZ h.Q M_ j->ig M_ h w j s.h w'->iU E.G j s a' w'->px (dom j) u ->
   LeavesInM Fence.wide 0 P fn a'.tmps (fun e w' => ∃ j r1 h1,K r1 h1/\e=vI j r1/\za (dom j) r1/\iZ h.Q M_ j/\ig M_ h w j h1 w'/\c_ E.G j h1 w') a'.defers (ns j u) w':=by
  intro s u hl a' w' j q2 q3 q4 hu;unfold tK at hl;split at hl
  case h_2=>grind
  next r h' h3=>rw[q4.ds];exact G3 E hD s.ds u s.h j w' a'.tmps r h' h3 q4.h q4.t q4.okd hu fun h2 hA p1 p2 p3 p4=>⟨h2,r,h',hl,rfl,p4,q2.trans p1 q3.Q,q3.trans p2,p3⟩
 refine callsIn_of_wp_marks g1 hc trivial ?_;refine wpIn_mono (hb M_ _ w S_ (fun l hl=>by cases hl)) ?_;rintro e' a' w' ⟨j,e1,s1,hk,rfl,q1,q2,q3,q4⟩;cases e1 with
 | normal=>exact lv s1 .returning hk a' w' j q2 q3 q4 trivial
 | ret=>exact lv s1 .returning hk a' w' j q2 q3 q4 trivial
 | panic ch=>exact lv s1 (.panicking ch) hk a' w' j q2 q3 q4 q1
 | _=>exact hk.elim
def Xd(E:f_ P)(D:r7)(fn:Func)(K:jc->N->Prop)(s:St):pj E D fn K .normal s=tK E D fn K .returning s:=rfl
def Y7(E:f_ P)(D:r7)(fn:Func)(K:jc->N->Prop)(s:St):pj E D fn K .ret s=tK E D fn K .returning s:=rfl
def Q6(E:f_ P)(D:r7)(fn:Func)(K:jc->N->Prop)(u:FrameMode)(t:Tm)(ds:List Deferred)(h:N):tK E D fn K u ⟨t,ds,h⟩=(match Qt E D fn t ds u h with
 | some (r,h')=>K r h'
 | none=>False):=rfl
def mf(E:f_ P){C:iP}(hC:i_ P E.G C){D0:h_}(j:iK P E.G D0)(hL:iL D0)(hm:P.follows .mixedOrders=Y){D:r7}(hD:Cp P E.G D){f n:Nat}{args:List V}{h:N}{fn:Func}{c cb:Code}{K:jc->N->Prop}
  (h2:E.fn.A f=U fn) (hb:fn.body=U c) (hn:fn.ntmps=n) (hc:Up c=cb) (hk:Nat.ble (L args) n=Y) (hx:iO E C D0 O cb ⟨⟨n,Qz.putAll 0 args .leaf⟩,[],h⟩ (pj E D fn K)):gr P E.G f args h K:=by
 subst hn hc;rw[yX]at hx;exact Uis E hD h2 hb hk (yN E hC j hL hm c _ _ hx)
end
def DQ(l:Nat)(K:jc->N->Prop)(e:Exit)(s2:St):Prop:=match IX e,s2.h.A l with
 | some j,U (.obj (.loop _ _ t2 h2 hc hx d2))=>K (.ret (.bool j.isNone)) (s2.h.set l (U (.obj (.loop (if j.isNone then .ready else .done) j t2 h2 hc hx d2))))
 | _,_=>False
def OH(E:f_ P)(C:iP)(D0:h_)(l:Nat)(bd:Code)(K:jc->N->Prop)(e:Exit)(s:St):Prop:=match e with
 | .normal=>match s.h.A l with
  | some (.obj (.loop .ready p1 t1 hx j hc d1))=>iO E C D0 (U l) bd ⟨s.t,s.ds,s.h.set l (U (.obj (.loop .busy p1 t1 hx j hc d1)))⟩ (DQ l K)
  | _=>False
 | _=>False
section
variable{P:Program}{E:f_ P}
def Usk(E:f_ P){C:iP}(hC:i_ P E.G C){D0:h_}(hD:iK P E.G D0)(hL:iL D0)(hm:P.follows .mixedOrders=Y){l:Nat}{args:List V}{h:N}{K:jc->N->Prop}
  {p0:Option Code} {t0:Tm} {h2:Array Tmp} {hk hx hn h4:Code} {d0:Nat} (he:h.A l=U (.obj (.loop .ready p0 t0 h2 hk hx d0))) (hp:u9 t0.size h2.toList args=Y) (g2:Up hk=hn) (hw:Up hx=h4)
  (hh:iO E C D0 (U l) hn ⟨xz t0 h2.toList args,[],h⟩ (OH E C D0 l h4 K)):AP P E.G l args h K:=by
 intro M_ w β rd st h5 t ps aA bd d fn ho H hl ha hg ht;rw[he]at hg;cases hg;subst g2;rw[yX]at hh;refine roundIn_of_wpIn (Ae rd β _) ?_;rw[Vw3 rd M_ β l];have S0:iU E.G M_ ⟨xz t0 h2.toList args,[],h⟩ {tmps:=ho,defers:=[]} w:=⟨H,ht,rfl,fun d hd=>by cases hd⟩;refine wpIn_mono ((yN E hC hD hL hm hk _ _ hh).grows M_ _ w S0 (fun l' e2=>by grind)) ?_;rintro e' a1 w1 ⟨M1,e1,hy,⟨hc,t4⟩,rfl,_,x1,T1,S1⟩;cases e1 with
 | normal =>
  unfold OH at hc;simp only at hc;split at hc
  ·rename_i p1 t1 g3 g1 es d1 a3;have s':∀ b,dom M_ b->M1 b=M_ b:=fun b hb=>x1 b (np H hb);have hq:dom M1 l:=by grind
   obtain⟨r1,k1,k2,kp,aB,e3,q4,_,_,_,k3⟩:=KS S1.h hq a3;subst kp;obtain⟨hB,hz⟩:=k3 .busy r1.pending;have hr:jD M1 l=jD M_ l:=tU (s' l hl);refine⟨_,by rw[<- hr];exact run_beginRound k1 k2,?_⟩;rw[<- hr];have q2:=S1.step (iZ.refl _ _) hB;rw[<- (GU (rd:=U l) (n:=0) S0 x1 (fun l' e2=>by grind)).1];have h3:iO E C D0 (U l) hx ⟨hy.t,hy.ds,hy.h.set l (U (.obj (.loop .busy r1.pending t1 g3 g1 es d1)))⟩ (DQ l K):=by
    rw[<- hw,yX]at hc;exact hc
   refine wpIn_mono (yN E hC hD hL hm hx _ _ h3 M1 a1 _ q2 (fun l' e2=>by grind)) ?_;rintro e' a2 w2 ⟨M2,gA,e0,hA,rfl,_,x2,T2,S2⟩;have hf:∀ b,dom M1 b->M2 b=M1 b:=fun b hb=>x2 b (np hB hb);have q3:dom M2 l:=by grind
   have s1:jD M2 l=jD M1 l:=tU (hf l hq);unfold DQ at hA;split at hA
   ·rename_i j p2 c2 t2 h6 eA dv d2 hj c1;obtain⟨r2,m1,m2,_,_,_,_,_,_,_,m3⟩:=KS S2.h q3 c1;obtain⟨v',q1⟩:=m3 (if j.isNone then .ready else .done) j;have hu:∃ v w',(Instr.endRound (jD M1 l) j).run P w2=.ok v w'/\∃ M' r h',K r h' /\
      Ending.returned v=vI M' r/\za (dom M') r/\iZ h.Q M_ M'/\ig M_ h w M' h' w'/\c_ E.G M' h' w' :=
     ⟨_,_,by rw[<- s1];exact run_endRound j m1,M2,_,_,hA,by simp[vI],trivial,x1.trans x2 t4,((T1.trans hz).trans T2).trans q1,v'⟩
    rw[hr]at hu ⊢;exact Uca hj hu
   grind
  grind
 | _=>exact hc.elim
def U25{C:iP}{D0:h_}{g:Operand}{ps:Array Tmp}{asn bd:Code}{t:Tm}{ds:List Deferred}{h:N}{K:Exit->St->Prop}{f:FuncId}{fn:Func}{first captured:Array V}(hg:iH E.G t g=U (.func (.func f) first captured))(j:E.fn.A f=U fn)
  (hk:C.fn f (first.toList ++ [.func (.yield (h.Q+1)) #[] #[]]++captured.toList) ((h.push (.obj .defs)).push (.obj (.loop .ready O t ps asn bd h.Q))) (ve t ({target:=.collected h.Q,args:=#[]}::ds) (h.Q+1) K)) :
  iO E C D0 O (.rangeFunc g ps asn bd) ⟨t,ds,h⟩ K:=by
 show Ak E C O g ps asn bd ⟨t,ds,h⟩ K;unfold Ak
 grind
def Jry{t:Tm}{ds:List Deferred}{l:Nat}{K:Exit->St->Prop}{v:V}{h:N}{t':Tm}{ps:Array Tmp}{asn bd:Code}{d:Nat}{st:LoopState}(hs:st ≠ .busy)(j:h.A l=U (.obj (.loop st O t' ps asn bd d)))(hk:K .normal ⟨t,ds,h.set l O⟩):ve t ds l K (.ret v) h:=by
 unfold ve AK
 grind
def Te{C:iP}{D0:h_}{l:Nat}{bd:Code}{K:jc->N->Prop}{t:Tm}{ds:List Deferred}{h:N}:OH E C D0 l bd K .normal ⟨t,ds,h⟩=(match h.A l with
  | some (.obj (.loop .ready p1 t1 hx j hc d1))=>iO E C D0 (U l) bd ⟨t,ds,h.set l (U (.obj (.loop .busy p1 t1 hx j hc d1)))⟩ (DQ l K)
  | _=>False):=rfl
def Th{l:Nat}{K:jc->N->Prop}{s:St}{st:LoopState}{pe:Option Code}{t2:Tm}{ps2:Array Tmp}{as2 bd2:Code}{d2:Nat}(j:s.h.A l=U (.obj (.loop st pe t2 ps2 as2 bd2 d2)))(hk:K (.ret (.bool Y)) (s.h.set l (U (.obj (.loop .ready O t2 ps2 as2 bd2 d2))))):DQ l K .normal s:=by
 unfold DQ;simp only[IX,j];exact hk
def ZK:Code->Code
 | .rangeFunc _ _ a _=>a
 | _ => .skip
def ZP:Code->Code
 | .rangeFunc _ _ _ b=>b
 | _ => .skip
end
def AN(P:Program)(G:Bs)(f:FuncId)(args:List V)(h:N)(K:jc->N->Prop):Prop :=
 ∃ r h',gr P G f args h (fun j h1=>j=r/\h1=h')/\h.Q<=h'.Q/\K r h'
def zu(P:Program)(G:Bs)(l:Nat)(args:List V)(h:N)(K:jc->N->Prop):Prop :=
 ∃ r h',AP P G l args h (fun j h1=>j=r/\h1=h')/\h.Q<=h'.Q/\K r h'
def AN.ok{args:List V}{h:N}{K:jc->N->Prop}(j:AN P G f args h K):gr P G f args h K:=by
 obtain⟨r,h',h1,_,h2⟩:=j;exact h1.mono fun r1 h1 ⟨e1,e2⟩=>by grind
def AN.mono{args:List V}{h:N}{K j:jc->N->Prop}(hc:AN P G f args h K)(hk:∀ r h',K r h'->j r h'):AN P G f args h j:=by
 obtain⟨r,h',h1,h2,h3⟩:=hc;exact⟨r,h',h1,h2,hk _ _ h3⟩
def zu.mono{l:Nat}{args:List V}{h:N}{K j:jc->N->Prop}(hc:zu P G l args h K)(hk:∀ r h',K r h'->j r h'):zu P G l args h j:=by
 obtain⟨r,h',h1,h2,h3⟩:=hc;exact⟨r,h',h1,h2,hk _ _ h3⟩
def pL(P:Program)(G:Bs):iP:=⟨AN P G,zu P G,J⟩
def Uqc(P:Program)(G:Bs):i_ P G (pL P G) :=
 ⟨fun _ _ _ _ h=>h.ok,fun l args h K ⟨r,h',h1,_,h2⟩=>fun M_ w β rd st j t ps hx bd d fn hc a1 a2 a3 a4 a5=>by
  refine(h1 M_ w β rd st j t ps hx bd d fn hc a1 a2 a3 a4 a5).mono ?_
  grind⟩
section
variable{P:Program}{E:f_ P}{G:Bs}{rd:Option Nat}
def Is(e:Exit)(s':St):Exit->St->Prop:=fun j s1=>j=e/\s1=s'
def AV(s:St)(d:Option Tmp)(v:V)(h:N):(s.put d v h).h=h:=B9 _ _ _ _
structure vD (B:St->(Exit->St->Prop)->Prop):Prop where
 mono:∀ s K K',B s K->(∀ e s',K e s'->K' e s')->B s K'
 one:∀ s K,B s K->∃ e s',B s (Is e s')/\s.h.Q<=s'.h.Q/\K e s'
def U50(o:Oper):vD (fun s K=>X0 E (pL P G) rd o s K):=by
 refine⟨fun s K K' h hk => ?_,fun s K h => ?_⟩
 ·unfold X0 at h ⊢;split at h
  ·grind
  ·rename_i hd;rw[if_neg hd];split at h
   ·grind
   ·rename_i x hc j;unfold Ck at h ⊢
    grind
   ·rename_i j;split at h
    ·grind
    ·grind
    ·grind
    ·exact h.mono fun r h' hq=>by cases r <;> exact hk _ _ hq
    ·exact h.mono fun r h' hq=>by cases r <;> exact hk _ _ hq
    omega
 ·unfold X0 at h ⊢;split at h
  ·grind
  ·rename_i hd;simp only[hd,if_false,Bool.false_eq_true];split at h
   ·rename_i c j;split at h
    ·split at h
     next d hx=>exact⟨_,_,⟨rfl,rfl⟩,by rw[AV];omega,h⟩
     grind
    grind
   ·rename_i x hc j;unfold Ck at h ⊢;split at h
    ·rcases h with⟨y,h1,h2⟩ | ⟨h0,_⟩
     ·refine⟨_,_,.inl ⟨y,h1,rfl,rfl⟩,?_,h2⟩;rw[AV];exact(Jsx (by rw[h1];simp)).Q
     ·cases h0
    grind
   ·rename_i j;split at h
    ·rename_i v h1 hr;refine⟨_,_,⟨rfl,rfl⟩,?_,h⟩
     ·rw[AV];exact(vO hr).Q
    ·rename_i h1 hr;refine⟨_,_,⟨rfl,rfl⟩,?_,h⟩
     ·rw[AV];exact(vO hr).Q
    ·rename_i v h1 hr;refine⟨_,_,⟨rfl,rfl⟩,?_,h⟩
     ·exact(vO hr).Q
    ·rename_i f args h1 hr;obtain⟨r,h',c1,c2,c3⟩:=h;have hn:s.h.Q<=h'.Q:=Nat.le_trans (vO hr).Q c2;cases r with
     | ret v =>
      refine⟨.normal,s.put o.dst v h',?_,by rw[AV];exact hn,c3⟩;exact⟨_,_,c1,c2,rfl,rfl⟩
     | panic ch =>
      refine⟨.panic ch,{s with h:=h' },?_,hn,c3⟩;exact⟨_,_,c1,c2,rfl,rfl⟩
    ·rename_i l args h1 hr;obtain⟨r,h',c1,c2,c3⟩:=h;have hn:s.h.Q<=h'.Q:=Nat.le_trans (vO hr).Q c2;cases r with
     | ret v =>
      refine⟨.normal,s.put o.dst v h',?_,by rw[AV];exact hn,c3⟩;exact⟨_,_,c1,c2,rfl,rfl⟩
     | panic ch =>
      refine⟨.panic ch,{s with h:=h' },?_,hn,c3⟩;exact⟨_,_,c1,c2,rfl,rfl⟩
    grind
def U39(ops:List Oper):∀ l,vD (fun s K=>oE E (pL P G) rd ops K l s)
 | []=>⟨fun s K K' h hk=>hk _ _ h,fun s K h=>⟨.normal,s,⟨rfl,rfl⟩,Nat.le_refl _,h⟩⟩
 | o::r=>by
  have ih:=U39 ops r;have st:=U50 (P:=P) (E:=E) (G:=G) (rd:=rd) o;refine⟨fun s K K' h hk => ?_,fun s K h => ?_⟩
  ·simp only[oE]at h ⊢;split at h
   ·rename_i j;refine st.mono _ _ _ h fun e s' hn => ?_;cases e <;> first
     | exact ih.mono _ _ _ hn hk
     | exact hk _ _ hn
     | exact hn
   ·rename_i j;split at h
    next hd=>rw[if_pos hd];exact ih.mono _ _ _ h hk
    grind
   omega
  ·simp only[oE]at h;split at h
   ·rename_i j;obtain⟨e,s1,h1,h2,h3⟩:=st.one _ _ h;cases e with
    | normal =>
     obtain⟨e2,s2,g1,g2,g3⟩:=ih.one _ _ h3;refine⟨e2,s2,?_,Nat.le_trans h2 g2,g3⟩;simp only[oE,j];refine st.mono _ _ _ h1 ?_;rintro e' s' ⟨rfl,rfl⟩;exact g1
    | panic ch =>
     refine⟨.panic ch,s1,?_,h2,h3⟩;simp only[oE,j];refine st.mono _ _ _ h1 ?_;rintro e' s' ⟨rfl,rfl⟩;exact⟨rfl,rfl⟩
    | _=>exact h3.elim
   ·rename_i j;split at h
    next hd=>obtain⟨e2,s2,g1,g2,g3⟩:=ih.one _ _ h;rw[AV]at g2;refine⟨e2,s2,?_,g2,g3⟩;simp only[oE,j,if_pos hd];exact g1
    grind
   grind
def U52{g:Operand}{ps:Array Tmp}{asn bd:Code}:vD (fun s K=>Ak E (pL P G) rd g ps asn bd s K):=by
 have hx:∀ {t:Tm} {ds:List Deferred} {l:Nat} {K:Exit->St->Prop} {r:jc} {h:N},ve t ds l K r h->∃ e j,ve t ds l (Is e j) r h/\h.Q<=j.h.Q/\K e j:=by
  intro t ds l K r h hk;unfold ve at hk ⊢;split at hk
  next e j h2=>exact⟨e,j,⟨rfl,rfl⟩,(Uvt h2).Q,hk⟩
  grind
 have hc:∀ {t:Tm} {ds:List Deferred} {l:Nat} {K K':Exit->St->Prop} {r:jc} {h:N},ve t ds l K r h->(∀ e s',K e s'->K' e s')->ve t ds l K' r h:=by
  intro t ds l K K' r h hk hm;unfold ve at hk ⊢
  grind
 refine⟨fun s K K' h hk => ?_,fun s K h => ?_⟩
 ·unfold Ak at h ⊢;split at h
  ·split at h
   ·omega
   ·split at h
    ·exact h.mono fun r h' hq=>hc hq hk
    ·split at h
     ·exact h.mono fun r h' hq=>hc hq hk
     omega
  omega
 ·unfold Ak at h ⊢;split at h
  ·split at h
   ·grind
   ·split at h
    ·obtain⟨r,h',c1,c2,c3⟩:=h;obtain⟨e,j,a1,a2,a3⟩:=hx c3;exact⟨e,j,⟨r,h',c1,c2,a1⟩,Nat.le_trans (Nat.le_trans (show s.h.Q<=s.h.Q+1+1 by omega) c2) a2,a3⟩
    ·split at h
     ·obtain⟨r,h',c1,c2,c3⟩:=h;obtain⟨e,j,a1,a2,a3⟩:=hx c3;exact⟨e,j,⟨r,h',c1,c2,a1⟩,Nat.le_trans (Nat.le_trans (show s.h.Q<=s.h.Q+1 by omega) c2) a2,a3⟩
     grind
  grind
def U6m{body:St->(Exit->St->Prop)->Prop}(hb:vD body):vD (IL body):=by
 have hl:∀ {F F':St->Prop} {K K':Exit->St->Prop} {e:Exit} {s:St},sO F K e s->(F s->F' s)->(K e s->K' e s)->sO F' K' e s:=by
  intro F F' K K' e s h h1 h2;cases e <;> first
   | exact h1 h
   | exact h2 h
 refine⟨fun s K K' ⟨I_,k,hI,hr⟩ hk=>⟨I_,k,hI,fun k s' h1 h2=>hb.mono _ _ _ (hr k s' h1 h2) fun e s2 h=>hl h id (hk _ _)⟩,fun s K ⟨I_,k,hI,hr⟩ => ?_⟩;have ho:∀ k st,I_ k st->s.h.Q<=st.h.Q->∃ e s',IL body st (Is e s')/\st.h.Q<=s'.h.Q/\K e s':=by
  intro k;induction k using Nat.strongRecOn with
  | ind k ih =>
   intro st hy hn;obtain⟨e1,s1,h1,h2,h3⟩:=hb.one _ _ (hr k st hy hn);by_cases he:e1=.normal
   ·subst he;obtain⟨k',hA,hp⟩:=h3;obtain⟨e,s',⟨J_,m,hJ,hc⟩,g2,g3⟩:=ih k' hA s1 hp (Nat.le_trans hn h2);refine⟨e,s',⟨fun j x=>(j=m+1/\x=st)∨(J_ j x/\s1.h.Q<=x.h.Q),m+1,.inl ⟨rfl,rfl⟩,?_⟩,Nat.le_trans h2 g2,g3⟩;rintro j x (⟨rfl,rfl⟩ | ⟨hj,hx⟩) _
    ·refine hb.mono _ _ _ h1 ?_;rintro e2 s2 ⟨rfl,rfl⟩;exact⟨m,Nat.lt_succ_self _,.inr ⟨hJ,Nat.le_refl _⟩⟩
    ·obtain⟨e2,s2,b1,b2,b3⟩:=hb.one _ _ (hc j x hj hx);refine hb.mono _ _ _ b1 ?_;rintro e3 s3 ⟨rfl,rfl⟩
     grind
   ·have hK:K e1 s1:=by cases e1 <;> first | grind | exact h3
    refine⟨e1,s1,⟨fun j x=>x=st,0,rfl,?_⟩,h2,hK⟩;rintro j x rfl _;refine hb.mono _ _ _ h1 ?_;rintro e2 s2 ⟨rfl,rfl⟩;cases e2 <;> first
     | grind
     | exact⟨rfl,rfl⟩
 grind
def zQ {D0 : h_} (hL : iL D0) (rd : Option Nat) : ∀ c : Code, vD (fun s K => iO E (pL P G) D0 rd c s K)
  | .skip => ⟨fun s K K' h j => j _ _ h, fun s K h => ⟨_, s, ⟨rfl, rfl⟩, Nat.le_refl _, h⟩⟩
  | .label _ => ⟨fun s K K' h j => j _ _ h, fun s K h => ⟨_, s, ⟨rfl, rfl⟩, Nat.le_refl _, h⟩⟩
  | .ret => ⟨fun s K K' h j => j _ _ h, fun s K h => ⟨_, s, ⟨rfl, rfl⟩, Nat.le_refl _, h⟩⟩
  | .exit _ => ⟨fun s K K' h j => j _ _ h, fun s K h => ⟨_, s, ⟨rfl, rfl⟩, Nat.le_refl _, h⟩⟩
  | .seq x y => by
    have hx := zQ hL rd x;have hy := zQ hL rd y;refine ⟨fun s K K' h j => ?_, fun s K h => ?_⟩
    · simp only [iO] at h ⊢
      refine hx.mono _ _ _ h fun e s' q => ?_;cases e <;> first
        | exact hy.mono _ _ _ q j
        | exact j _ _ q
    · simp only [iO] at h ⊢
      obtain ⟨e, s1, h1, h2, h3⟩ := hx.one _ _ h;by_cases he : e = .normal
      · subst he
        obtain ⟨e2, s2, g1, g2, g3⟩ := hy.one _ _ h3;refine ⟨e2, s2, hx.mono _ _ _ h1 ?_, Nat.le_trans h2 g2, g3⟩;rintro e' s' ⟨rfl, rfl⟩;exact g1
      · have hK : K e s1 := by cases e <;> first | grind | exact h3
        refine ⟨e, s1, hx.mono _ _ _ h1 ?_, h2, hK⟩;rintro e' s' ⟨rfl, rfl⟩;cases e' <;> first
          | grind
          | exact ⟨rfl, rfl⟩
  | .cond c x y => by
    have hx := zQ hL rd x;have hy := zQ hL rd y;refine ⟨fun s K K' h j => ?_, fun s K h => ?_⟩
    · simp only [iO] at h ⊢
      obtain ⟨q, h1, h2, h3⟩ := h;exact ⟨q, h1, fun e => hx.mono _ _ _ (h2 e) j, fun e => hy.mono _ _ _ (h3 e) j⟩
    · simp only [iO] at h ⊢
      obtain ⟨q, h1, h2, h3⟩ := h;cases q with
      | true =>
        obtain ⟨e, s1, g1, g2, g3⟩ := hx.one _ _ (h2 rfl)
        grind
      | false =>
        obtain ⟨e, s1, g1, g2, g3⟩ := hy.one _ _ (h3 rfl)
        grind
  | .block id c => by
    have hc := zQ hL rd c;refine ⟨fun s K K' h j => ?_, fun s K h => ?_⟩
    · simp only [iO] at h ⊢
      refine hc.mono _ _ _ h fun e s' q => ?_;cases e <;> first
        | exact j _ _ q
        | (simp only [sT] at q ⊢
           split at q
           · rename_i hq; rw [if_pos hq]; exact j _ _ q
           · rename_i hq; rw [if_neg hq]; exact j _ _ q)
    · simp only [iO] at h ⊢
      obtain ⟨e, s1, h1, h2, h3⟩ := hc.one _ _ h;have : ∃ e2, sT id K e s1 = K e2 s1 /\ sT id (Is e2 s1) e s1 := by
        cases e <;> first
          | exact ⟨_, rfl, rfl, rfl⟩
          | (simp only [sT]
             split
             · exact ⟨_, rfl, rfl, rfl⟩
             · exact ⟨_, rfl, rfl, rfl⟩)
      obtain ⟨e2, q1, q2⟩ := this;rw [q1] at h3;refine ⟨e2, s1, hc.mono _ _ _ h1 ?_, h2, h3⟩;rintro e' s' ⟨rfl, rfl⟩;exact q2
  | .loop c => by
    have hl := U6m (zQ hL rd c);refine ⟨fun s K K' h j => ?_, fun s K h => ?_⟩
    · simp only [iO] at h ⊢
      exact ⟨h.1, hl.mono _ _ _ h.2 j⟩
    · simp only [iO] at h ⊢
      obtain ⟨e, s1, h1, h2, h3⟩ := hl.one _ _ h.2;exact ⟨e, s1, ⟨h.1, h1⟩, h2, h3⟩
  | .region _ ops Y => by
    refine ⟨fun s K K' h j => ?_, fun s K h => ?_⟩
    · simp only [iO] at h ⊢
      rcases h with ⟨B, s1, R, L_, d1, h1, h2, h3, h4, h5⟩ | ⟨h1, _⟩ | ⟨h1, _⟩
      · exact .inl ⟨B, s1, R, L_, d1, h1, h2, h3, h4, j _ _ h5⟩
      · cases h1
      · cases h1
    · simp only [iO] at h ⊢
      rcases h with ⟨B, s1, R, L_, d1, h1, h2, h3, h4, h5⟩ | ⟨h1, _⟩ | ⟨h1, _⟩
      · exact ⟨_, _, .inl ⟨B, s1, R, L_, d1, h1, h2, h3, h4, rfl, rfl⟩, Utc d1 h1 h2 h3 h4, h5⟩
      · cases h1
      · cases h1
  | .region _ ops J => by
    have := U39 (P := P) (E := E) (G := G) (rd := rd) ops.toList ops.toList;exact ⟨fun s K K' h j => by simp only [iO] at h ⊢; exact this.mono _ _ _ h j, fun s K h => by simp only [iO] at h ⊢; exact this.one _ _ h⟩
  | .rangeFunc g ps hb bd => by
    have := U52 (P := P) (E := E) (G := G) (rd := rd) (g := g) (ps := ps) (asn := hb) (bd := bd);exact ⟨fun s K K' h j => by simp only [iO] at h ⊢; exact this.mono _ _ _ h j, fun s K h => by simp only [iO] at h ⊢; exact this.one _ _ h⟩
  | .scope .. | .goto .. | .refuse .. => ⟨fun s K K' h _ => by simp [iO] at h, fun s K h => by simp [iO] at h⟩
def V2(E:f_ P){D0:h_}(hk:iK P E.G D0)(hL:iL D0)(hm:P.follows .mixedOrders=Y){D:r7}(hD:Cp P E.G D)(hr:G6 D){f n:Nat}{args:List V}{h:N}{fn:Func}{c cb:Code}{K:jc->N->Prop}
  (hp:E.fn.A f=U fn) (hb:fn.body=U c) (hn:fn.ntmps=n) (hc:Up c=cb) (hA:Nat.ble (L args) n=Y) (hx:iO E (pL P E.G) D0 O cb ⟨⟨n,Qz.putAll 0 args .leaf⟩,[],h⟩ (pj E D fn K)):AN P E.G f args h K:=by
 obtain⟨e,j,h1,h2,h3⟩:=(zQ (E:=E) (G:=E.G) hL O cb).one _ _ hx;have lv:∀ u,tK E D fn K u j->∃ r h',tK E D fn (fun r1 h1=>r1=r/\h1=h') u j/\j.h.Q<=h'.Q/\K r h':=by
  intro u hu;unfold tK at hu ⊢;split at hu
  next r h' hl=>exact⟨r,h',⟨rfl,rfl⟩,(GN hr _ _ _ _ _ hl).Q,hu⟩
  grind
 have : ∃ r h',pj E D fn (fun r1 h1=>r1=r/\h1=h') e j/\j.h.Q<=h'.Q/\K r h':=by
  cases e <;> first
   | exact lv _ h3
   | exact h3.elim
 obtain⟨r,h',q1,q2,q3⟩:=this;refine⟨r,h',mf E (Uqc _ _) hk hL hm hD hp hb hn hc hA ((zQ (E:=E) (G:=E.G) hL O cb).mono _ _ _ h1 ?_),Nat.le_trans h2 q2,q3⟩;rintro e1 s1 ⟨rfl,rfl⟩;exact q1
end
section
variable{P:Program}{E:f_ P}
end
def oJ(h:N)(x:Blk):(h.push x).Q=h.Q+1:=Eq.trans rfl rfl
def wO(h:N)(b:Nat)(x:Option Blk):(h.set b x).Q=h.Q:=Eq.trans rfl rfl
def JB{c:Nat}{x:Blk}(j:h.Q≠c):(h.push x).A c=h.A c:=by rw[N.F,if_neg j]
def I8{c:Nat}{x:Blk}(j:h.Q=c):(h.push x).A c=U x:=by rw[N.F,if_pos j]
def IG{c:Nat}{x:Option Blk}(j:b < h.Q)(hn:b≠c):(h.set b x).A c=h.A c:=by rw[gY j,if_neg hn]
def II{c:Nat}{x:Option Blk}(j:b < h.Q)(hn:b=c):(h.set b x).A c=x:=by rw[gY j,if_pos hn]
section
variable{P:Program}{E:jo P}{t:TypeId}{r:ir}
structure Gu (E:jo P) (t:TypeId) (r:ir):Prop where
 e:E.ty.A t=U r
 d:jO r.desc=J
 size:r.size=1
variable(T:Gu E t r)
include T
omit T in
theorem Vq9:∀ (l:List V) (i:Nat) (v:V),i < L l->kZ l i [v]=U (l.set i v)
 | x::l,0,v,_=>by simp[kZ,over]
 | x::l,i+1,v,h=>by
  have:=Vq9 l i v (by simpa using h);simp[kZ,this]
 | [],_,_,h=>by simp at h
omit T in
omit T in
theorem U49{f:FuncId}{first captured:List V}:Cf (.func f) first captured=U (.func (.func f) first.toArray captured.toArray):=rfl
end
def yF{a b:Nat}(h:a<=b):Nat.ble a b=Y:=by simp_all
def th:∀ {n:Nat} {l:List V},n<=L l->nQ n l=U (l.take n)
 | 0,l,_=>by simp[nQ]
 | n+1,v::l,h=>by simp[nQ,th (n:=n) (l:=l) (by grind)]
 | n+1,[],h=>by simp at h
def Uv3:∀ {c l:List V},L l<=L c->over c l=U (l++c.drop (L l))
 | c,[],_=>by cases c <;> simp[over]
 | x::c,v::l,h=>by simp[over,Uv3 (c:=c) (l:=l) (by grind)]
 | [],v::l,h=>by simp at h
def q_:∀ {c:List V} {o:Nat} {l:List V},o+L l<=L c->kZ c o l=U (c.take o++l++c.drop (o+L l))
 | c,0,l,h=>by simp[kZ,Uv3 (c:=c) (l:=l) iA]
 | x::c,o+1,l,h=>by
  have e:o+1+L l=(o+L l)+1:=iA
  simp[kZ,q_ (c:=c) (o:=o) (l:=l) (by grind),e]
 | [],o+1,l,h=>by simp at h
def Qr(x:Bool):B3 .not (.bool x)=U (.bool (!x)):=by cases x <;> kernel_rfl
def K6(a c:Int):DH J [I X a,I X c]=U (I X (if c < a then c else a)):=kR
def Zq(h:N)(bk o:Nat):Option V:=match h.A bk with | some (.cells _ _ c)=>c[o]? | _=>O
def iy(h:N)(bk o z:Nat):Option V:=match h.A bk with | some (.cells _ _ c)=>(nQ z (c.drop o)).map fun l => .agg ⟨l⟩ | _=>O
def iN(h:N)(bk o:Nat)(l:List V):Option N:=match h.A bk with | some (S Y sz c)=>(kZ c o l).map fun j=>h.set bk (U (S Y sz j)) | _=>O
def mV:V->Bool
 | .agg _=>J
 | .tuple _=>J
 | _=>Y
def xS{v:V}(h:mV v=Y):mg v=Y/\v.cells = #[v]:=by
 cases v <;> first
  | exact⟨rfl,rfl⟩
  | simp[mV]at h
def Z2{ow:Bool}{c:List V}(j:h.A bk=U (.cells ow z c)):Zq h bk o=c[o]? := by simp[Zq,j]
def V9{k:Nat}{ow:Bool}{c:List V}(j:h.A bk=U (.cells ow z c))(hl:o+k<=L c):iy h bk o k=U (.agg ⟨(c.drop o).take k⟩):=by
 simp only[iy,j];rw[th (by grind)];rfl
def jQ{c l:List V}(j:h.A bk=U (S Y z c))(hl:o+L l<=L c):iN h bk o l=U (h.set bk (U (S Y z (c.take o++l++c.drop (o+L l))))):=by
 simp only[iN,j,q_ hl];rfl
def nS{c:List V}{v:V}(j:h.A bk=U (S Y z c))(hl:o < L c):iN h bk o [v]=U (h.set bk (U (S Y z (c.set o v)))):=by
 simp only[iN,j,Vq9 c o v hl];rfl
section
variable{P:Program}{E:jo P}
def oK{t:TypeId}{r:ir}(he:E.ty.A t=U r)(hd:jO r.desc=J){h:N}{bk o:Nat}:jL E t (.pointer (U ⟨bk,o,O⟩)) h=Zq h bk o:=by
 simp only[jL,he,Ai,hd,Bool.false_eq_true,if_false,Ab.cellsAt,Zq];cases h.A bk with
 | none=>rfl
 | some x =>
  cases x with
  | cells ow z c =>
   show(match nQ 1 (c.drop o)with | some [v]=>U v | _=>O)=c[o]?;rcases Nat.lt_or_ge o (L c) with j | j
   ·rw[V80 (List.getElem?_eq_getElem j),List.getElem?_eq_getElem j]
   ·rw[List.getElem?_eq_none j,List.drop_eq_nil_of_le j];rfl
  | _=>rfl
def rH{t:TypeId}{r:ir}{z:Nat}(j:E.ty.A t=U r)(hd:jO r.desc=Y)(hz:r.size=z){h:N}{bk o:Nat}:jL E t (.pointer (U ⟨bk,o,O⟩)) h=iy h bk o z:=by
 simp only[jL,j,Ai,hd,if_true,Ab.cellsAt,iy,hz]
 grind
def vQ{t:TypeId}{r:ir}(he:E.ty.A t=U r)(hz:r.size=1){h:N}{bk o:Nat}{v:V}(hv:mV v=Y):j9 E t (.pointer (U ⟨bk,o,O⟩)) v h=iN h bk o [v]:=by
 obtain⟨h1,j⟩:=xS hv;simp only[j9,he,BP,h1,j,hz,storeAt,iN];rfl
def qA{t:TypeId}{r:ir}(he:E.ty.A t=U r){h:N}{bk o:Nat}{l:List V}(hl:L l=r.size):j9 E t (.pointer (U ⟨bk,o,O⟩)) (.agg ⟨l⟩) h=iN h bk o l:=by
 have h1:(Value.agg ⟨l⟩).cells=⟨l⟩:=rfl;have j:(mg (.agg ⟨l⟩) && (Value.agg ⟨l⟩).cells.size == r.size)=Y:=by
  rw[h1];simp[mg,hl]
 simp only[j9,he,BP];rw[if_pos j];rfl
structure jF (E:jo P) (te ts:TypeId) (re rs:ir):Prop where
 e:E.ty.A te=U re
 s:E.ty.A ts=U rs
 d:rs.desc=.slice te
structure nU (E:jo P) (n:Nat) (te ts:TypeId) (re rs:ir):Prop where
 e:E.ty.A te=U re
 s:E.ty.A ts=U rs
 d:rs.desc=.array n te
def xo{te ts:TypeId}{re rs:ir}{z:Nat}(T:jF E te ts re rs)(j:re.size=z){bk o n c:Nat}{k:IntKind}{i:Int}(h:0<=i/\i < n):J1 E ts (M (U ⟨bk,o,O⟩) n c) (.int k i)=U (.pointer (U ⟨bk,o+i.toNat*z,O⟩)):=by
 simp only[J1,T.s,T.d,T.e,j,if_pos h,t_]
def xN{n:Nat}{te ts:TypeId}{re rs:ir}{z:Nat}(T:nU E n te ts re rs)(j:re.size=z){bk o:Nat}{k:IntKind}{i:Int}(h:0<=i/\i < n):J1 E ts (.pointer (U ⟨bk,o,O⟩)) (.int k i)=U (.pointer (U ⟨bk,o+i.toNat*z,O⟩)):=by
 simp only[J1,T.s,T.d,T.e,j,if_pos h,t_]
def U9c{n:Nat}{te ts:TypeId}{re rs:ir}(T:nU E n te ts re rs)(hd:jO re.desc=J)(j:re.size=1){l:List V}{k:IntKind}{i:Int}(h:0<=i/\i < n):vH E ts (.agg ⟨l⟩) (.int k i)=iD l i.toNat:=by
 simp only[vH,T.s,T.d,T.e,j,if_pos h,E3,hd,Nat.mul_one];rfl
end
def J7:V->Option Nat
 | M (U a) _ _=>U a.block
 | .pointer (U a)=>U a.block
 | .map (U b)=>U b
 | _=>O
def Sl(h:N)(z:Nat)(v:V)(n:Nat)(xs:List V):Prop :=
 (∃ c,v=M O 0 c/\c < iJ/\n=0/\xs=[]) ∨ ∃ bk o c ow j pre post,v=M (U ⟨bk,o,O⟩) n c/\h.A bk=U (.cells ow j (pre++xs++post))/\L pre=o/\L xs=n*z/\n<=c/\c<=iJ/\(c=iJ->j=z/\o % z=0/\(ow=Y∨n=0/\pre++xs++post=[]))
def ij(h:N)(n0 z:Nat)(v:V)(n:Nat)(xs:List V):Prop :=
 (v=M O 0 0/\n=0/\xs=[]) ∨ ∃ bk c z' j,v=M (U ⟨bk,0,O⟩) n c/\n0<=bk/\h.A bk=U (S Y z' (xs++j))/\L xs=n*z/\n<=c/\c<=iJ/\(c=iJ/\z'=z∨c≠iJ/\L (xs++j)=c*z)
def ij.sl{v:V}{xs:List V}(o:ij h n0 z v n xs):Sl h z v n xs:=by
 rcases o with⟨rfl,rfl,rfl⟩ | ⟨bk,c,z',j,rfl,h1,h2,h3,h4,h5,h6⟩
 ·exact .inl ⟨0,rfl,by simp[iJ],rfl,rfl⟩
 ·refine .inr ⟨bk,0,c,Y,z',[],j,rfl,by grind,rfl,h3,h4,h5,fun hc => ?_⟩;simp_all
def Sl.len{v:V}{xs:List V}(o:Sl h z v n xs):L xs=n*z:=by
 rcases o with⟨c,rfl,_,rfl,rfl⟩ | ⟨bk,o,c,ow,z',pre,post,rfl,h1,h2,j,h4⟩
 ·simp
 ·exact j
def ij.one{v:V}{xs:List V}(o:ij h n0 z v n xs):mV v=Y:=by
 rcases o with⟨rfl,rfl,rfl⟩ | ⟨bk,c,z',j,rfl,h1,h2,h3,h4⟩ <;> rfl
def Sl.one{v:V}{xs:List V}(o:Sl h z v n xs):mV v=Y:=by
 rcases o with⟨c,rfl,_,rfl,rfl⟩ | ⟨bk,o,c,ow,z',pre,post,rfl,h1,j,h3⟩ <;> rfl
def ij.keep{v:V}{xs:List V}(o:ij h n0 z v n xs)(hk:∀ c,J7 v=U c->c < h.Q->h'.A c=h.A c):ij h' n0 z v n xs:=by
 rcases o with⟨rfl,rfl,rfl⟩ | ⟨bk,c,z',j,rfl,h1,h2,h3,h4⟩
 ·exact .inl ⟨rfl,rfl,rfl⟩
 ·exact .inr ⟨bk,c,z',j,rfl,h1,by rw[hk bk rfl (N.D h2)];exact h2,h3,h4⟩
def Sl.keep{v:V}{xs:List V}(o:Sl h z v n xs)(hk:∀ c,J7 v=U c->c < h.Q->h'.A c=h.A c):Sl h' z v n xs:=by
 rcases o with⟨c,rfl,h0,rfl,rfl⟩ | ⟨bk,o,c,ow,z',pre,post,rfl,h1,j,h3⟩
 ·exact .inl ⟨c,rfl,h0,rfl,rfl⟩
 ·exact .inr ⟨bk,o,c,ow,z',pre,post,rfl,by rw[hk bk rfl (N.D h1)];exact h1,j,h3⟩
def ij.low{n1 z n:Nat}{v:V}{xs:List V}(o:ij h n0 z v n xs)(hn:n1<=n0):ij h n1 z v n xs:=by
 rcases o with⟨rfl,rfl,rfl⟩ | ⟨bk,c,z',j,rfl,h1,h2,h3,h4⟩
 ·exact .inl ⟨rfl,rfl,rfl⟩
 ·exact .inr ⟨bk,c,z',j,rfl,iA,h2,h3,h4⟩
def ij.from{v:V}{xs:List V}(o:ij h n0 z v n xs){c:Nat}(j:J7 v=U c):n0<=c/\c < h.Q:=by
 rcases o with⟨rfl,rfl,rfl⟩ | ⟨bk,c',z',hx,rfl,h1,h2,h3,h4⟩
 ·cases j
 ·cases j;exact⟨h1,N.D h2⟩
def ij.nil:ij h n0 z (M O 0 0) 0 []:=.inl ⟨rfl,rfl,rfl⟩
def Sl.nil:Sl h z (M O 0 0) 0 []:=.inl ⟨0,rfl,by simp[iJ],rfl,rfl⟩
def ij.new{c z':Nat}{xs:List V}{bk:Nat}(j:n0<=bk)(hg:h.A bk=U (S Y z' xs))(hx:L xs=n*z)(hn:n < iJ)(hc:c=iJ/\z'=z∨c=n):ij h n0 z (M (U ⟨bk,0,O⟩) n c) n xs:=by
 refine .inr ⟨bk,c,z',[],rfl,j,by grind,hx,?_,?_,?_⟩
 ·omega
 ·omega
 grind
def Sl.blk{v:V}{xs:List V}(o:Sl h z v n xs){c:Nat}(j:J7 v=U c):c < h.Q:=by
 rcases o with⟨k,rfl,_,rfl,rfl⟩ | ⟨bk,o,k,ow,z',pre,post,rfl,h1,h2,h3⟩
 ·cases j
 ·cases j;exact N.D h1
def a_(h h':N):Prop:=h.Q<=h'.Q/\∀ c,c < h.Q->h'.A c=h.A c
def a_.refl(h:N):a_ h h:=⟨Nat.le_refl _,fun _ _=>rfl⟩
def a_.trans{j:N}(a:a_ h h')(b:a_ h' j):a_ h j:=⟨Nat.le_trans a.1 b.1,fun c hc=>by rw[b.2 c (Nat.lt_of_lt_of_le hc a.1),a.2 c hc]⟩
def a_.push(h:N)(x:Blk):a_ h (h.push x):=⟨Nat.le_succ _,fun c j=>by rw[N.F,if_neg iA]⟩
def a_.push'(a:a_ h h')(x:Blk):a_ h (h'.push x):=a.trans (a_.push _ _)
def a_.set(a:a_ h h'){b:Nat}(x:Option Blk)(h0:h.Q<=b)(h1:b < h'.Q):a_ h (h'.set b x):=⟨a.1,fun c j=>by rw[gY h1,if_neg iA,a.2 c j]⟩
def a_.A(a:a_ h h'){c:Nat}{x:Blk}(j:h.A c=U x):h'.A c=U x:=by rw[a.2 c (N.D j),j]
def Sl.R{v:V}{xs:List V}(o:Sl h z v n xs)(a:a_ h h'):Sl h' z v n xs:=o.keep fun c _ j=>a.2 c j
def iM(v:V)(h h':N):Prop:=h.Q<=h'.Q/\∀ c,c < h.Q->J7 v≠U c->h'.A c=h.A c
def iM.R{h0 h':N}{n z:Nat}{v:V}{xs:List V}(a:a_ h h0)(o:ij h0 h.Q z v n xs)(b:iM v h0 h'):a_ h h' :=
 ⟨Nat.le_trans a.1 b.1,fun c j=>by
  rw[b.2 c (Nat.lt_of_lt_of_le j a.1) (fun e=>by have:=(o.from e).1;omega),a.2 c j]⟩
def by8(n:Nat):V:=.int .u8 (n:Int)
def Jr{z:Int}(h0 : -9223372036854775808<=z)(h1:z<=9223372036854775807):IntKind.i64.wrap z=z:=by
 have : IntKind.i64.wrap z=(if z % 18446744073709551616 ≥ 9223372036854775808 then z % 18446744073709551616-18446744073709551616 else z % 18446744073709551616):=by
  simp[IntKind.wrap,IntKind.bits,IntKind.signed]
 omega
def wS{i:Nat}(h:i < 4611686018427387904):IntKind.i64.wrap ((i:Int)+1)=((i+1:Nat):Int):=by rw[Jr iA iA];omega
def CM(h:n < 256):IntKind.u8.wrap (n:Int)=n:=by
 show((n:Int) % (2 ^ 8:Int))=n;omega
section
variable{P:Program}{E:jo P}{te ts:TypeId}{re rs:ir}(T:jF E te ts re rs)
include T
def Ex(h:N)(v:V)(k:Nat):Prop:=∀ c,J7 v=U c->∃ ow j cs,h.A c=U (.cells ow j cs)/\L cs=k
omit T in
theorem Ex.nil{h:N}{k:Nat}:Ex h (M O 0 0) k:=fun c j=>by cases j
omit T in
theorem Ex.keep{h h':N}{v:V}{k:Nat}(e:Ex h v k)(hk:∀ c,J7 v=U c->c < h.Q->h'.A c=h.A c):Ex h' v k:=fun c j=>by
 obtain⟨ow,z',cs,g,l⟩:=e c j;exact⟨ow,z',cs,by rw[hk c j (N.D g)];exact g,l⟩
theorem J9q{tx:TypeId}{h:N}{n0 z n m:Nat}{v x:V}{xs ys:List V}(hz:re.size=z)(s1:1<=z)(o:ij h n0 z v n xs)(h0:n0<=h.Q)(hn:sN E tx re x h=U (m,ys))(hm:L ys=m*z)
  (a1:(n+m)*re.bytes<=140737488355328) (g1:n+m<=140737488355328) :
  ∃ v' h',kU E ts tx v x h=U (v',h')/\ij h' n0 z v' (n+m) (xs++ys)/\iM v h h'/\(∀ c,J7 v'=U c->J7 v=U c∨c=h.Q)/\(Ex h v (n*z)->Ex h' v' ((n+m)*z)):=by
 have q1:Nat.ble 1 re.size=Y:=by simp_all
 have q2:(L ys != m*re.size)=J:=by grind
 have q3:(Nat.ble ((n+m)*re.bytes) 140737488355328 && Nat.ble (n+m) 140737488355328)=Y:=by simp_all
 have oO:∀ k:Nat,k<=140737488355328->k≠iJ:=fun k hk=>by unfold iJ;omega
 have hp:∀ hy:List V,L hy=n*z->hy=xs->∀ h1:N,iM v h h1->h1.Q=h.Q->ij (h1.push (S Y re.size (hy++ys))) n0 z (M (U ⟨h1.Q,0,O⟩) (n+m) iJ) (n+m) (xs++ys)/\iM v h (h1.push (S Y re.size (hy++ys)))/\Ex (h1.push (S Y re.size (hy++ys))) (M (U ⟨h1.Q,0,O⟩) (n+m) iJ) ((n+m)*z):=by
  rintro hy hl rfl h1 hb es;refine⟨ij.new iA (by rw[N.F,if_pos rfl,hz]) (by grind) (by grind) (.inl ⟨rfl,rfl⟩),⟨?_,fun c hc ho => ?_⟩,fun c hc=>by cases hc;exact⟨_,_,_,by rw[N.F,if_pos rfl],by grind⟩⟩
  ·show h.Q<=h1.Q+1;omega
  ·rw[N.F,if_neg iA,hb.2 c hc ho]
 have hA:∀ (bk c z':Nat) (j:List V),v=M (U ⟨bk,0,O⟩) n c->n0<=bk->h.A bk=U (S Y z' (xs++j))->L xs=n*z->c<=iJ->n+m<=c->(c=iJ/\z'=z∨c≠iJ/\L (xs++j)=c*z)->L ys<=L j ->
   storeAt h ⟨bk,n*z,O⟩ ys=U (h.set bk (U (S Y z' (xs++ys++j.drop (L ys)))))/\ij (h.set bk (U (S Y z' (xs++ys++j.drop (L ys))))) n0 z (M (U ⟨bk,0,O⟩) (n+m) c) (n+m) (xs++ys)/\iM v h (h.set bk (U (S Y z' (xs++ys++j.drop (L ys))))):=by
  intro bk c z' j hv hb hg hx M' hq hc hr;refine⟨?_,?_,Nat.le_refl _,fun k hk ho => ?_⟩
  ·simp only[storeAt,hg];rw[q_ (by grind),<- hx];simp
  ·refine .inr ⟨bk,c,z',j.drop (L ys),rfl,hb,by rw[gY (N.D hg),if_pos rfl],by grind,hq,M',?_⟩
   grind
  ·subst hv;rw[gY (N.D hg),if_neg (fun e=>ho (by rw[<- e];rfl))]
 have full:∀ (bk c z':Nat) (j:List V),h.A bk=U (S Y z' (xs++j))->L xs=n*z->L ys<=L j->Ex h (M (U ⟨bk,0,O⟩) n c) (n*z)->ys=[]:=by
  intro bk c z' j hg hx hr e;obtain⟨_,_,cs,g,l⟩:=e bk rfl;rw[hg]at g;cases g;rw[List.length_append]at l;exact List.eq_nil_of_length_eq_zero iA
 have h3:iM v h h:=⟨Nat.le_refl _,fun _ _ _=>rfl⟩;rcases o with⟨rfl,rfl,rfl⟩ | ⟨bk,c,z',j,rfl,hb,hg,hx,e2,hu,hc⟩
 ·have e0:((0:Nat) != iJ)=Y:=kA
  simp only[kU,T.s,T.d,T.e,q1,Bool.not_true,hn,q2,e0,Bool.true_and,q3];cases ys with
  | nil =>
   have : m=0:=by
    cases m with
    | zero=>rfl
    | succ m=>simp at hm;rw[Nat.add_mul]at hm;omega
   subst this;exact⟨_,_,rfl,ij.nil,h3,fun c hc=>by(cases hc),fun _=>Ex.nil⟩
  | cons y ys =>
   have hB:m≠0:=by rintro rfl;simp at hm
   have e1:Nat.ble (0+m) 0=J:=by rw[Bool.eq_false_iff];intro h;rw[Nat.ble_eq]at h;omega
   simp only[e1];obtain⟨p1,p2,p3⟩:=hp [] jA rfl h h3 rfl;exact⟨_,_,rfl,p1,p2,fun c hc => .inr (by cases hc;rfl),fun _=>p3⟩
 ·simp only[kU,T.s,T.d,T.e,q1,Bool.not_true,hn,q2,q3];rcases hc with⟨rfl,rfl⟩ | ⟨a2,h4⟩
  ·have e0:(iJ != iJ)=J:=jA
   have e3:(z' == re.size && 0 % z' == 0)=Y:=by simp[hz]
   have e4:((0:Nat) == 0)=Y:=rfl;simp only[e0,Bool.false_and,Bool.false_eq_true,if_false,hg,e3,Bool.not_true,Nat.zero_add,e4,if_true];by_cases h2:(n+m)*z'<=L (xs++j)
   ·have e5:Nat.ble ((n+m)*z') (L (xs++j))=Y:=yF h2;have hr:L ys<=L j:=(by rw[List.length_append,hx,Nat.add_mul]at h2;omega);simp only[e5];obtain⟨p1,p2,p3⟩:=hA bk iJ z' j rfl hb hg hx (Nat.le_refl _) (by unfold iJ;omega) (.inl ⟨rfl,rfl⟩) hr;cases ys with
    | nil =>
     have hB:m=0:=by
      cases m with
      | zero=>rfl
      | succ m=>simp at hm;rw[Nat.add_mul]at hm;omega
     subst hB;exact⟨_,_,rfl,.inr ⟨bk,iJ,z',j,rfl,hb,by simpa using hg,by simpa using hx,e2,hu,.inl ⟨rfl,rfl⟩⟩,h3,fun c hc => .inl (by cases hc;rfl),fun e=>e⟩
    | cons y ys =>
     have ea:(⟨bk,0,O⟩:Addr).add (n*z')=⟨bk,n*z',O⟩:=by rw[t_,Nat.zero_add]
     refine⟨_,_,?_,p2,p3,fun c hc => .inl (by cases hc;rfl),fun e => ?_⟩
     rotate_left
     ·cases full bk _ _ j hg hx hr e
     simp only[ea,p1];rfl
   ·have e5:Nat.ble ((n+m)*z') (L (xs++j))=J:=by rw[Bool.eq_false_iff];intro h;rw[Nat.ble_eq]at h;omega
    have e6:nQ (n*z') (xs++j)=U xs:=by
     rw[th (by rw[List.length_append,hx];omega),<- hx];simp
    simp only[e5,Bool.false_eq_true,if_false,e6];obtain⟨p1,p2,p3⟩:=hp xs hx rfl (h.set bk O) ⟨Nat.le_refl _,fun c hc ho=>by rw[gY (N.D hg),if_neg (fun e=>ho (by rw[<- e];rfl))]⟩ rfl;rw[hz]at p1 p2 p3;exact⟨_,_,rfl,p1,p2,fun c hc => .inr (by cases hc;rfl),fun _=>p3⟩
  ·have e0:(c != iJ)=Y:=by simpa using a2
   simp only[e0,Bool.true_and];by_cases h2:n+m<=c
   ·have e5:Nat.ble (n+m) c=Y:=yF h2;have hr:L ys<=L j:=by
     have : (n+m)*z<=c*z:=Nat.mul_le_mul_right _ h2;rw[<- h4,List.length_append,hx,Nat.add_mul]at this;omega
    simp only[e5];obtain⟨p1,p2,p3⟩:=hA bk c z' j rfl hb hg hx hu h2 (.inr ⟨a2,h4⟩) hr;cases ys with
    | nil =>
     have hB:m=0:=by
      cases m with
      | zero=>rfl
      | succ m=>simp at hm;rw[Nat.add_mul]at hm;omega
     subst hB;exact⟨_,_,rfl,.inr ⟨bk,c,z',j,rfl,hb,by simpa using hg,by simpa using hx,e2,hu,.inr ⟨a2,by simpa using h4⟩⟩,h3,fun c hc => .inl (by cases hc;rfl),fun e=>e⟩
    | cons y ys =>
     have ea:(⟨bk,0,O⟩:Addr).add (n*re.size)=⟨bk,n*z,O⟩:=by rw[t_,Nat.zero_add,hz]
     refine⟨_,_,?_,p2,p3,fun c hc => .inl (by cases hc;rfl),fun e => ?_⟩
     rotate_left
     ·cases full bk _ _ j hg hx hr e
     simp only[ea,p1];rfl
   ·have e5:Nat.ble (n+m) c=J:=by rw[Bool.eq_false_iff];intro h;rw[Nat.ble_eq]at h;omega
    have e6:Ab.cellsAt h ⟨bk,0,O⟩ (n*re.size)=U xs:=by
     simp only[Ab.cellsAt,hg,hz,List.drop_zero];rw[th (by rw[List.length_append,hx];omega),<- hx];simp
    simp only[e5,Bool.false_eq_true,if_false,e6];obtain⟨p1,p2,p3⟩:=hp xs hx rfl h h3 rfl;exact⟨_,_,rfl,p1,p2,fun c hc => .inr (by cases hc;rfl),fun _=>p3⟩
theorem Hc{tx:TypeId}{h:N}{n0 z n m:Nat}{v x:V}{xs ys:List V}(hz:re.size=z)(h2:1<=z)(o:ij h n0 z v n xs)(h0:n0<=h.Q)(hn:sN E tx re x h=U (m,ys))(hm:L ys=m*z)
  (hc:(n+m)*re.bytes<=140737488355328) (hx:n+m<=140737488355328) :
  ∃ j h',kU E ts tx v x h=U (j,h')/\ij h' n0 z j (n+m) (xs++ys)/\iM v h h'/\∀ c,J7 j=U c->J7 v=U c∨c=h.Q:=by
 obtain⟨j,h',k1,k2,k3,k4, -⟩:=J9q T hz h2 o h0 hn hm hc hx;exact⟨j,h',k1,k2,k3,k4⟩
theorem yr{tx:TypeId}{h:N}{n0 z n m:Nat}{v x:V}{xs ys:List V}(hz:re.size=z)(hx:1<=z)(o:ij h n0 z v n xs)(h0:n0<=h.Q)(hn:sN E tx re x h=U (m,ys))(hm:L ys=m*z)
  (j:(n+m)*re.bytes<=140737488355328) (hc:n+m<=140737488355328) :
  ∃ v' h',kU E ts tx v x h=U (v',h')/\ij h' n0 z v' (n+m) (xs++ys)/\iM v h h':=by
 obtain⟨v',h',k1,k2,k3, -⟩:=Hc T hz hx o h0 hn hm j hc
 grind
theorem us{h:N}{z n:Nat}{x:V}{ys:List V}(hz:re.size=z)(s:Sl h z x n ys):sN E ts re x h=U (n,ys):=by
 rcases s with⟨c,rfl,_,rfl,rfl⟩ | ⟨bk,o,c,ow,z',pre,post,rfl,h1,j,h3, -⟩
 ·simp[sN,T.s,T.d,wK,sf]
 ·have : nQ (n*re.size) ((pre++ys++post).drop o)=U ys:=by
   rw[hz,<- j,List.append_assoc,List.drop_left,th (by grind),<- h3];simp
  simp[sN,T.s,T.d,wK,sf,Ab.cellsAt,h1,this,-List.append_assoc]
theorem mQ{h:N}{z n:Nat}{v:V}{xs:List V}(hz:re.size=z)(s:Sl h z v n xs){k:IntKind}{i:Int}(h0:0<=i)(h1:i < n) :
  ∃ bk o,J7 v=U bk/\J1 E ts v (.int k i)=U (.pointer (U ⟨bk,o,O⟩))/\(∀ j,j < z->Zq h bk (o+j)=xs[i.toNat*z+j]?)/\iy h bk o z=U (.agg ⟨(xs.drop (i.toNat*z)).take z⟩):=by
 rcases s with⟨c,rfl,_,rfl,rfl⟩ | ⟨bk,o,c,ow,z',pre,post,rfl,g1,g2,g3, -⟩
 ·omega
 ·have hi:i.toNat*z+z<=n*z:=by
   have : (i.toNat+1)*z<=n*z:=Nat.mul_le_mul_right _ iA
   grind
  refine⟨bk,o+i.toNat*z,rfl,xo T hz ⟨h0,h1⟩,fun j hj => ?_,?_⟩
  ·rw[Z2 g1,List.append_assoc,List.getElem?_append_right iA,List.getElem?_append_left iA]
   grind
  ·rw[V9 g1 (by grind)];congr 3;rw[<- g2,List.append_assoc,List.drop_append,List.drop_eq_nil_of_le iA,List.nil_append,List.drop_append_of_le_length iA,List.take_append_of_le_length (by grind)];simp
theorem I0{h:N}{z n l hh:Nat}{v:V}{xs:List V}{lo hi:Option V}(hz:re.size=z)(s':1<=z)(s:Sl h z v n xs)(hy:lJ lo 0 hh=U l)(hp:∀ room,n<=room->lJ hi n room=U hh)(hl:l<=hh)(hn:hh<=n) :
  ∃ v' h',j8 E ts v lo hi O h=U (v',h')/\Sl h' z v' (hh-l) ((xs.drop (l*z)).take ((hh-l)*z))/\a_ h h'/\(J7 v'=J7 v/\h'=h∨J7 v'=U h.Q/\hh=l)/\(l=0->h'=h/\∃ a c,v=.slice a n c/\v'=.slice a hh c):=by
 have ml:(hh-l)*z=hh*z-l*z:=Nat.sub_mul _ _ _;have he:hh*z<=n*z:=Nat.mul_le_mul_right _ hn;have hf:l*z<=hh*z:=Nat.mul_le_mul_right _ hl;have a2:(hi.isNone && (O:Option V).isSome)=J:=jA
 rcases s with⟨c,rfl,h0,rfl,rfl⟩ | ⟨bk,o,c,ow,j,pre,post,rfl,h1,h2,h3,h4,h5,h6⟩
 ·have : hh=0:=iA
  subst this;have : l=0:=iA
  subst this;have e0:(c != iJ)=Y:=by simp;omega
  have e1:(c-0 == iJ)=J:=by simp;omega
  have e2:lJ (O:Option V) c c=U c:=rfl;refine⟨M O 0 c,h,?_,.inl ⟨c,rfl,h0,rfl,jA⟩,a_.refl _,.inl ⟨rfl,rfl⟩,fun _=>⟨rfl,O,c,rfl,rfl⟩⟩;simp only[j8,a2,Bool.false_eq_true,if_false,T.s,T.d,T.e,e0,if_true,e2,hp c (Nat.zero_le _),hy,zr,e1];simp
 ·have hx:(xs.drop (l*z)).take ((hh-l)*z)=((xs.drop (l*z)).take ((hh-l)*z)):=rfl;have hk:∀ k,k=l*z->pre++xs++post=(pre++xs.take k)++(xs.drop k).take ((hh-l)*z)++((xs.drop k).drop ((hh-l)*z)++post):=by
   intro k _;have a1:xs=xs.take k++((xs.drop k).take ((hh-l)*z)++(xs.drop k).drop ((hh-l)*z)):=by rw[List.take_append_drop,List.take_append_drop]
   grind
  have hr:L ((xs.drop (l*z)).take ((hh-l)*z))=(hh-l)*z:=by grind
  by_cases hc:c=iJ
  ·subst hc;obtain⟨rfl,g1,g2⟩:=h6 rfl;have e0:(iJ != iJ)=J:=jA
   have e1:(j == re.size && o % j == 0 && Nat.ble 1 j)=Y:=by simp[hz,g1,yF s']
   have hB:l=0->Sl h j (M (U ⟨bk,o,O⟩) hh iJ) (hh-l) ((xs.drop (l*j)).take ((hh-l)*j)):=by
    rintro rfl;refine .inr ⟨bk,o,iJ,ow,j,pre,xs.drop (hh*j)++post,rfl,?_,h2,hr,iA,Nat.le_refl _,fun _=>⟨rfl,g1,?_⟩⟩
    ·grind
    grind
   cases ow with
   | false =>
    rcases g2 with g | ⟨ga,gb⟩
    ·cases g
    ·subst ga;have : hh=0:=iA;subst this;have : l=0:=iA;subst this;rw[gb]at h1;simp only[j8,a2,Bool.false_eq_true,if_false,T.s,T.d,T.e,e0,h1,e1,if_true,hp 0 (Nat.le_refl _),hy,beq_self_eq_true];exact⟨_,h,rfl,hB rfl,a_.refl _,.inl ⟨rfl,rfl⟩,fun _=>⟨rfl,_,_,rfl,rfl⟩⟩
   | true =>
    have ho:n<=(L (pre++xs++post)-o) / j:=by
     rw[Nat.le_div_iff_mul_le iA];simp only[List.length_append];omega
    have key:∃ v' h',j8 E ts (M (U ⟨bk,o,O⟩) n iJ) lo hi O h=j8.aCut ⟨bk,o,O⟩ j (L (pre++xs++post)) l hh h/\j8.aCut ⟨bk,o,O⟩ j (L (pre++xs++post)) l hh h=U (v',h')/\Sl h' j v' (hh-l) ((xs.drop (l*j)).take ((hh-l)*j))/\a_ h h'/\(J7 v'=U bk/\h'=h∨J7 v'=U h.Q/\hh=l)/\(l=0->h'=h/\v'=M (U ⟨bk,o,O⟩) hh iJ):=by
     have q1:j8 E ts (M (U ⟨bk,o,O⟩) n iJ) lo hi O h=j8.aCut ⟨bk,o,O⟩ j (L (pre++xs++post)) l hh h:=by
      simp only[j8,a2,Bool.false_eq_true,if_false,T.s,T.d,T.e,e0,h1,e1,if_true];cases hi with
      | none =>
       have : hh=n:=(by have:=hp n (Nat.le_refl _);simp[lJ]at this;omega);subst this;simp only[hy]
      | some hv=>simp only[hp _ ho,hy]
     by_cases hu:l=0
     ·subst hu;exact⟨M (U ⟨bk,o,O⟩) hh iJ,h,q1,by simp[j8.aCut],hB rfl,a_.refl _,.inl ⟨rfl,rfl⟩,fun _=>⟨rfl,rfl⟩⟩
     ·have hA:(l == 0)=J:=by simpa using hu
      by_cases hb:o+l*j < L (pre++xs++post)
      ·have M':Nat.blt (o+l*j) (L (pre++xs++post))=Y:=by rw[Nat.blt_eq];exact hb
       refine⟨M (U ⟨bk,o+l*j,O⟩) (hh-l) iJ,h,q1,by simp only[j8.aCut,hA,Bool.false_eq_true,if_false,M',if_true,t_],?_,a_.refl _,.inl ⟨rfl,rfl⟩,fun e=>absurd e hu⟩;refine .inr ⟨bk,o+l*j,iJ,Y,j,pre++xs.take (l*j),(xs.drop (l*j)).drop ((hh-l)*j)++post,rfl,?_,?_,hr,iA,Nat.le_refl _,fun _=>⟨rfl,?_,.inl rfl⟩⟩
       ·rw[h1,hk _ rfl]
       ·rw[List.length_append,List.length_take,h2];omega
       ·rw[Nat.add_mul_mod_self_right];exact g1
      ·have M':Nat.blt (o+l*j) (L (pre++xs++post))=J:=by rw[Bool.eq_false_iff];intro h;rw[Nat.blt_eq]at h;omega
       have s1:L (pre++xs++post) ≥ o+hh*j:=by simp only[List.length_append];omega
       have es:hh<=l:=by
        rcases Nat.lt_or_ge l hh with hw | hg
        ·have : (l+1)*j<=hh*j:=Nat.mul_le_mul_right _ hw;rw[Nat.add_mul]at this;omega
        ·exact hg
       have e9:hh=l:=iA;subst e9;refine⟨M (U ⟨h.Q,0,O⟩) 0 iJ,h.push (S J j []),q1,by simp only[j8.aCut,hA,Bool.false_eq_true,if_false,M',yF es,if_true],?_,a_.push _ _,.inr ⟨rfl,rfl⟩,fun e=>absurd e hu⟩;refine .inr ⟨h.Q,0,iJ,J,j,[],[],?_,?_,rfl,jA,iA,Nat.le_refl _,fun _=>⟨rfl,Nat.zero_mod _,.inr ⟨iA,jA⟩⟩⟩
       ·simp
       ·rw[N.F,if_pos rfl];simp
    obtain⟨v',h',k1,k2,k3,k4,k5,k6⟩:=key;exact⟨v',h',by rw[k1,k2],k3,k4,k5,fun e=>⟨(k6 e).1,_,_,rfl,(k6 e).2⟩⟩
  ·have e0:(c != iJ)=Y:=by simpa using hc
   have e1:(c-l == iJ)=J:=by simp;omega
   have e2:lJ (O:Option V) c c=U c:=rfl;refine⟨.slice (if c=l then U ⟨bk,o,O⟩else(U ⟨bk,o,O⟩:Option Addr).map (·.add (l*re.size))) (hh-l) (c-l),h,?_,?_,a_.refl _,.inl ⟨?_,rfl⟩,?_⟩
   ·simp only[j8,a2,Bool.false_eq_true,if_false,T.s,T.d,T.e,e0,if_true,e2,hp c h4,hy,zr,e1];rfl
   ·by_cases q2:c=l
    ·have : hh-l=0:=iA;rw[if_pos q2,this];refine .inr ⟨bk,o,c-l,ow,j,pre,xs++post,rfl,by simpa using h1,h2,jA,iA,iA,fun hq => ?_⟩;unfold iJ at hq;omega
    ·rw[if_neg q2];simp only[Option.map_some,t_,hz];refine .inr ⟨bk,o+l*z,c-l,ow,j,pre++xs.take (l*z),(xs.drop (l*z)).drop ((hh-l)*z)++post,rfl,?_,?_,hr,iA,iA,fun hq => ?_⟩
     ·rw[h1,hk _ rfl]
     ·rw[List.length_append,List.length_take,h2];omega
     ·exfalso;omega
   ·split <;> simp[J7,t_]
   ·rintro rfl;refine⟨rfl,U ⟨bk,o,O⟩,c,rfl,?_⟩;split <;> simp[t_]
omit T in
theorem Ed{d n:Nat}{k:IntKind}{i:Int}(h0:0<=i)(h1:i<=n):lJ (U (.int k i)) d n=U i.toNat:=by simp[lJ,h0,h1]
theorem U5u{h:N}{z n:Nat}{v:V}{xs:List V}{k:IntKind}{i:Int}(hz:re.size=z)(hc:1<=z)(s:Sl h z v n xs)(h0:0<=i)(h1:i<=n) :
  ∃ j h',j8 E ts v (U (.int k i)) O O h=U (j,h')/\Sl h' z j (n-i.toNat) (xs.drop (i.toNat*z))/\a_ h h'/\(J7 j=J7 v/\h'=h∨J7 j=U h.Q/\n=i.toNat):=by
 obtain⟨j,h',k1,k2,k3,k4, -⟩:=I0 T (lo:=U (.int k i)) (hi:=O) (l:=i.toNat) (hh:=n) hz hc s (Ed h0 h1) (fun _ _=>rfl) iA (Nat.le_refl _);refine⟨j,h',k1,?_,k3,k4⟩;rwa [List.take_of_length_le (by rw[List.length_drop,s.len,Nat.sub_mul];omega)]at k2
theorem U7x{h:N}{z n:Nat}{v:V}{xs:List V}{k:IntKind}{i:Int}(hz:re.size=z)(hc:1<=z)(s:Sl h z v n xs)(h0:0<=i)(h1:i<=n) :
  ∃ j,j8 E ts v O (U (.int k i)) O h=U (j,h)/\Sl h z j i.toNat (xs.take (i.toNat*z))/\J7 j=J7 v:=by
 obtain⟨j,h',k1,k2,k3,k4,k5⟩:=I0 T (lo:=O) (hi:=U (.int k i)) (l:=0) (hh:=i.toNat) hz hc s rfl (fun room hr=>Ed h0 iA) iA iA;obtain⟨rfl,a,c,rfl,rfl⟩:=k5 rfl;refine⟨_,k1,by grind,?_⟩;cases a <;> rfl
theorem Uwi{h:N}{z n:Nat}{v:V}{xs:List V}{k k2:IntKind}{i j:Int}(hz:re.size=z)(hc:1<=z)(s:Sl h z v n xs)(h0:0<=i)(h1:i<=j)(h2:j<=n) :
  ∃ v' h',j8 E ts v (U (.int k i)) (U (.int k2 j)) O h=U (v',h')/\Sl h' z v' (j.toNat-i.toNat) ((xs.drop (i.toNat*z)).take ((j.toNat-i.toNat)*z))/\a_ h h'/\(J7 v'=J7 v/\h'=h∨J7 v'=U h.Q/\j.toNat=i.toNat):=by
 obtain⟨v',h',q1,q2,q3,q4, -⟩:=I0 T (lo:=U (.int k i)) (hi:=U (.int k2 j)) (l:=i.toNat) (hh:=j.toNat) hz hc s (Ed h0 iA) (fun room hr=>Ed iA iA) iA iA
 grind
theorem BS{h:N}{n0 z n:Nat}{v:V}{xs:List V}{k:IntKind}{i:Int}(hz:re.size=z)(hc:1<=z)(s:ij h n0 z v n xs)(h0:0<=i)(h1:i<=n) :
  ∃ v',j8 E ts v O (U (.int k i)) O h=U (v',h)/\ij h n0 z v' i.toNat (xs.take (i.toNat*z))/\J7 v'=J7 v:=by
 obtain⟨v',h',k1,k2,k3,k4,k5⟩:=I0 T (lo:=O) (hi:=U (.int k i)) (l:=0) (hh:=i.toNat) hz hc s.sl rfl (fun room hr=>Ed h0 iA) iA iA;obtain⟨rfl,a,c,rfl,rfl⟩:=k5 rfl;refine⟨_,k1,?_,by cases a <;> rfl⟩;rcases s with⟨e,rfl,rfl⟩ | ⟨bk,c',z',j,e,g1,g2,g3,g4,g5,g6⟩
 ·cases e;have : i.toNat=0:=iA
  rw[this];exact .inl ⟨rfl,rfl,jA⟩
 ·cases e;have hi:i.toNat*z<=n*z:=Nat.mul_le_mul_right _ iA;refine .inr ⟨bk,c,z',xs.drop (i.toNat*z)++j,rfl,g1,?_,?_,iA,g5,?_⟩
  ·rw[g2];rw[<- List.append_assoc,List.take_append_drop]
  ·grind
  grind
omit T in
theorem Uq4{c l:List V}(h:L l=L c):kZ c 0 l=U l:=by
 rw[q_ iA];simp[h]
theorem oL{z:Nat}{y:V}{ys:List V}(hz:re.size=z)(hx:1<=z)(h2:z<=16777216)(hy:mg y=Y)(j:y.cells.toList=ys)(hl:L ys=z){h:N}:V6 E ts 1 [(0,y)] h=U (M (U ⟨h.Q,0,O⟩) 1 1,h.push (S Y 1 ys)):=by
 obtain⟨-,i, -, -, -, -, -, -,hc, -⟩:=E.K _ _ T.e;have e1:(Nat.ble (1*re.size) 16777216 && Nat.ble 1 re.size)=Y:=by simp_all
 have e2:L (mK re.zero.cells.toList 1)=z:=by simp[mK,hc,hz]
 have e3:(mg y && y.cells.size == re.size && Nat.ble (0*re.size+re.size) (L (mK re.zero.cells.toList 1)))=Y:=by
  have : y.cells.size=z:=by grind
  simp_all
 have e4:kZ (mK re.zero.cells.toList 1) (0*re.size) ys=U ys:=by rw[Nat.zero_mul];exact Uq4 (hl.trans e2.symm)
 simp only[V6,T.s,T.d,T.e,e1,if_true,oQ,e3,j,e4,Option.map_some]
theorem D8{h:N}{n0 z n:Nat}{v:V}{xs ys:List V}(hz:re.size=z)(hk:1<=z)(o:ij h n0 z v n xs)(h0:n0<=h.Q)(hl:L ys=z)(hb:(n+1)*re.bytes<=140737488355328)(hx:n+1<=140737488355328) :
  ∃ j h',kU E ts ts v (M (U ⟨h.Q,0,O⟩) 1 1) (h.push (S Y 1 ys))=U (j,h')/\ij h' n0 z j (n+1) (xs++ys)/\iM v h h'/\(∀ c,J7 j=U c->J7 v=U c∨h.Q<=c)/\(Ex h v (n*z)->Ex h' j ((n+1)*z)):=by
 have sl:Sl (h.push (S Y 1 ys)) z (M (U ⟨h.Q,0,O⟩) 1 1) 1 ys:=(ij.new (n0:=0) (z:=z) (Nat.zero_le _) (by rw[N.F,if_pos rfl]) iA kA (.inr rfl)).sl;obtain⟨j,h',k1,k2,k3,k4,k5⟩:=J9q T hz hk (o.keep (h':=h.push (S Y 1 ys)) fun c _ hc=>by rw[N.F,if_neg iA]) (Nat.le_trans h0 (Nat.le_succ _)) (us T hz sl) (by simpa using hl) hb hx;refine⟨j,h',k1,k2,⟨Nat.le_trans (Nat.le_succ _) k3.1,fun c hc h2 => ?_⟩,fun c hc=>(k4 c hc).imp id fun e=>by rw[e];exact Nat.le_succ _,fun e=>k5 (e.keep fun c _ hc=>by rw[N.F,if_neg iA])⟩;rw[k3.2 c (Nat.lt_of_lt_of_le hc (Nat.le_succ _)) h2,N.F,if_neg iA]
theorem vy{h:N}{n0 z n:Nat}{v:V}{xs ys:List V}(hz:re.size=z)(hx:1<=z)(o:ij h n0 z v n xs)(h0:n0<=h.Q)(hl:L ys=z)(hb:(n+1)*re.bytes<=140737488355328)(hc:n+1<=140737488355328) :
  ∃ j h',kU E ts ts v (M (U ⟨h.Q,0,O⟩) 1 1) (h.push (S Y 1 ys))=U (j,h')/\ij h' n0 z j (n+1) (xs++ys)/\iM v h h'/\∀ c,J7 j=U c->J7 v=U c∨h.Q<=c:=by
 obtain⟨j,h',k1,k2,k3,k4, -⟩:=D8 T hz hx o h0 hl hb hc
 grind
theorem Ca{h:N}{n0 z n:Nat}{v:V}{xs ys:List V}(hz:re.size=z)(hc:1<=z)(o:ij h n0 z v n xs)(h0:n0<=h.Q)(hl:L ys=z)(hb:(n+1)*re.bytes<=140737488355328)(j:n+1<=140737488355328) :
  ∃ v' h',kU E ts ts v (M (U ⟨h.Q,0,O⟩) 1 1) (h.push (S Y 1 ys))=U (v',h')/\ij h' n0 z v' (n+1) (xs++ys)/\iM v h h':=by
 obtain⟨v',h',k1,k2,k3, -⟩:=vy T hz hc o h0 hl hb j
 grind
theorem iT{h h1:N}{z n:Nat}{v:V}{xs:List V}(s:Sl h z v n xs):iC E ts v h1=U (I X n):=by
 rcases s with⟨c,rfl,_,rfl,rfl⟩ | ⟨bk,o,c,ow,z',pre,post,rfl,j,g2,g3, -⟩ <;> simp[iC,T.s,T.d]
end
def Q0(a:Option Addr)(n c:Nat):mV (.slice a n c)=Y:=Eq.trans rfl rfl
def ij.out{v:V}{xs:List V}(o:ij h n0 z v n xs){c:Nat}(j:J7 v=U c):c < h.Q:=(o.from j).2
def Jbe(z:Int):EV z z=Y:=by cases z <;> simp[EV]
def yS(k:IntKind)(z:Int):sP (U (.int k z)) (U (.int k z))=Y:=by simp[sP,x5,xZ,Jbe]
def G8{v:V}{xs:List V}(o:ij h n0 z v n xs):sP (U v) (U v)=Y:=by
 rcases o with⟨rfl,_,_⟩ | ⟨bk,c,z',j,rfl,_⟩
 ·simp[sP,x5,xZ,zL]
 ·simp[sP,x5,xZ,zL]
def AZ{v:V}{xs:List V}(o:Sl h z v n xs):sP (U v) (U v)=Y:=by
 rcases o with⟨c,rfl,_⟩ | ⟨bk,o,c,ow,j,pre,post,rfl,_⟩
 ·simp[sP,x5,xZ,zL]
 ·simp[sP,x5,xZ,zL]
def tB(_:L l≠100):nP (.agg ⟨l⟩) h=U (.pointer (U ⟨h.Q,0,O⟩),h.push (S Y 1 l)):=rfl
def ju(a:Addr):GZ (.pointer (U a))=U (.pointer (U a)):=Eq.trans rfl rfl
open Go.ChangeShapes Go.WideShapes Go.RowKit
structure sA (W W':World):Prop where
 os:W'.os=W.os
 output:W'.output=W.output
 same:∀ i,i < W.heap.size->W'.heap[i]? = W.heap[i]?
def V4u{M_ M':Ren}{h h':N}{W j:World}(t:ig M_ h W M' h' j)(ho:∀ b,h.own b=J):sA W j :=
 ⟨t.os,t.output,fun i hi=>t.same i hi (fun b p _ hc=>by grind)⟩
def sA.kept{W W':World}(h:sA W W')(j:MemPlace->Prop):W.keptBut W' j:=by
 refine⟨h.os,h.output,fun i hi => ?_⟩;rw[h.same i hi]
 grind
def sA.at{W j:World}(h:sA W j){p:MemPlace}(hp:p.block < W.heap.size):W.sameAt j p:=by
 have:=h.same p.block hp;cases p with
 | cell b o =>
  simp only[MemPlace.block]at this;simp only[World.sameAt,World.cell?,this]
 | map b =>
  simp only[MemPlace.block]at this;simp only[World.sameAt,this]
section
variable{P:Program}{H:Type}{enc:TypeId × V->H}
def Trod.same{W j:World}(h:sA W j){base:Nat}{spare:Nat->Bool}{held:Bool}:∀ {ts:List TypeId} {vs:List V} {ds:List (DataW H)} {ps:List MemPlace},DataW.TrodAll enc P W base spare held ts vs ds ps->DataW.TrodAll enc P j base spare held ts vs ds ps
 | [],[],[],_,q=>q
 | _::_,_::_,_::_,_,⟨p,q,⟨n,h1⟩,h2,e⟩=>⟨p,q,⟨n,DataW.trod_carry n _ _ _ h1 (fun x hx=>h.at (DataW.trod_lt n _ _ _ h1 x hx))⟩,Trod.same h h2,e⟩
def Uey{fn:Func}{s:ChangeSpec}{f:FuncId}{apart fresh j:Bool}{tb:TypeId}(K:Kids P (· < P.types.size))(hz:∀ t e,t < P.types.size->P.underlying t=U (.slice e)->0 < P.cellsOf e)
  (hp:∀ t ∈ fn.params.toList,t < P.types.size) (hr:fn.resultTypes = #[tb]) (hb:P.underlying tb=U .bool) (hv:s.vars=[])
  {W:World} {args:Array V} {ds gs:List (DataW H)} {hc:List MemPlace} (hW:DataW.Whole enc P fn.params.toList s.vars apart W args.toList ds gs hc)
  (hs:s.fn H ds = {results:=[.lit (.bool Y)],args:=ds})
  (h2:Calls P f args W (fun e W'=>e=.returned (.bool Y)/\sA W W')) :
  Calls P f args W (fun e W' => ∃ v,e=.returned v/\s.post enc P fn apart fresh j J W args v W'):=by
 have hl:=hW;obtain⟨p,q,hA,hV,rfl,h3,hy⟩:=hW;rw[hv]at hV;obtain⟨rfl,rfl⟩:gs=[]/\q=[]:=by
  cases gs with
  | nil=>exact⟨rfl,hV⟩
  | cons g r=>exact absurd hV (by intro h;cases h)
 refine h2.mono fun e W' ⟨he,hk⟩ => ?_;refine⟨.bool Y,he,ds,[],_,[],p,[],hl,?_,?_,?_,hk.kept _,fun h=>by cases h⟩
 ·rw[List.append_nil,hs,hr];exact trodAll_mk1 (shut_bool hb Y)
 ·rw[List.append_nil,hs];exact(Trod.same hk hA).respare K hz hp (fun x hx=>by simpa using DataW.TrodAll.lt hA x hx)
 ·rw[List.append_nil,hs,hv];rfl
def Ujb{f:FuncId}{n:Nat}{M_:Ren}{h:N}{vs:List V}{args:Array V}{W:World}(H:c_ ⟨n,W.heap.size⟩ M_ h W)(ho:∀ b,h.own b=J)(j:∀ v ∈ vs,d_ (dom M_) v)(ha:args=(vs.map (b_ M_)).toArray)
  (hc:gr P ⟨n,W.heap.size⟩ f vs h (fun r _=>r=.ret (.bool Y))):Calls P f args W (fun e W'=>e=.returned (.bool Y)/\sA W W'):=by
 subst ha;refine callsIn_wide.1 ((hc M_ W H j).mono ?_);rintro e W' ⟨M',r,h2,rfl,rfl,_,_,t,_⟩;exact⟨by simp[vI],V4u t ho⟩
end
open Go.ChangeShapes Go.WideShapes Go.RowKit
section
variable{P:Program}{G:Bs}{M_:Ren}{h:N}{W:World}
def U7u{n:Int}(h:(Lit.int .u8 n).wf=Y):0<=n/\n < 256:=by
 simp[Lit.wf,IntKind.min,IntKind.max,IntKind.bits,IntKind.signed]at h;omega
end
end Go.Ab
