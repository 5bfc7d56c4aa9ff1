import Derived.Test.YtbhojjejgmfgmaaGreatDoorAbF
import Derived.ReadAgain
import Derived.ChangeSlices
set_option linter.all false
open List renaming length→L
open Option renaming some→U,none→O
open Bool renaming true→Y,false→J
open Go renaming Value→V
open Go.Value renaming int→I,slice→M
open Go.IntKind renaming i64→X
open Go.Ab.Blk renaming cells→S
noncomputable section
namespace Go.Ab
variable(d:Option Tmp)(s:St)(K:Exit->St->Prop){l:List V}{P:Program}{G:Bs}{f:FuncId}{h:N}{b:Nat}{bk:Nat}{o:Nat}{h':N}{n0:Nat}{z:Nat}{n:Nat}
def bare(o:Oper):Oper:={dst:=o.dst,op:=o.op,type:=0,pos := "",after:=#[],guard:=o.guard}
def Uz:Code->Code
 | .seq a b => .seq (Uz a) (Uz b)
 | .cond c a b => .cond c (Uz a) (Uz b)
 | .block id c => .block id (Uz c)
 | .loop c => .loop (Uz c)
 | .region id ops J => .region 0 (ops.toList.map bare).toArray J
 | c=>c
def zf(id:Nat):Code->Option Code
 | .seq a b=>match zf id a with | some c=>U c | none=>zf id b
 | .cond _ a b=>match zf id a with | some c=>U c | none=>zf id b
 | .block _ c=>zf id c
 | .loop c=>zf id c
 | .region i ops d=>if i == id then U (.region i ops d)else O
 | .rangeFunc _ _ a b=>match zf id a with | some c=>U c | none=>zf id b
 | _=>O
def jI(id:Nat)(c:Code):Code:=(zf id c).getD .skip
def Dj:Code->Option Code
 | .seq a b=>match Dj a with | some c=>U c | none=>Dj b
 | .cond _ a b=>match Dj a with | some c=>U c | none=>Dj b
 | .block _ c=>Dj c
 | .loop c=>Dj c
 | .rangeFunc g ps a b=>U (.rangeFunc g ps a b)
 | _=>O
def jH:Code->Array Oper
 | .region _ ops _=>ops
 | _ => #[]
def mf(c:Code):Code:=(Dj c).getD .skip
section
variable{P:Program}{E:d_ P}{C:b_}{rd:Option Nat}
def Jzj{A B:Type}(f:A->B):∀ (l:List A) (i:Nat),gS (l.map f) i=(gS l i).map f
 | [],i=>by cases i <;> rfl
 | a::l,0=>rfl
 | a::l,i+1=>by simpa[gS]using Jzj f l i
def Er(ops:List Oper)(t:Tm)(o:Oper):Qg (ops.map bare) t (bare o)=Qg ops t o:=by
 unfold Qg;show(match o.guard with | none=>_ | some (j,hx)=>_)=_;cases o.guard with
 | none=>rfl
 | some g =>
  obtain⟨j,hx⟩:=g;simp only[Jzj];cases gS ops j with
  | none=>rfl
  | some oj=>rfl
def J2k(o:Oper)(s:St):ui E C rd (bare o) s=ui E C rd o s:=rfl
def Lb(ops:List Oper):∀ (l:List Oper) (s:St),o8 E C rd (ops.map bare) (l.map bare) s=o8 E C rd ops l s
 | [],s=>rfl
 | o::r,s=>by
  simp only[aK,o8,Er,J2k];split
  ·split
   ·exact Lb ops r _
   ·rfl
   ·rfl
  ·show(if jY s o.dst=Y then _ else _)=_;split
   ·exact Lb ops r _
   ·rfl
  ·rfl
def Z4r{f g:St->Option (Exit × St)}(h:∀ s,f s=g s):∀ k s,rW f k s=rW g k s
 | 0,_=>rfl
 | k+1,s=>by
  simp only[rW,h s];split
  ·exact Z4r h k _
  ·rfl
def yN{k:Nat}:∀ (c:Code) (s:St),jF E C rd k (Uz c) s=jF E C rd k c s
 | .seq x y,s=>by
  simp only[Uz,jF,yN x];split
  ·exact yN y _
  ·rfl
 | .cond c x y,s=>by
  simp only[Uz,jF];split
  ·exact yN x s
  ·exact yN y s
  ·rfl
 | .block id c,s=>by simp only[Uz,jF,yN c]
 | .loop c,s=>by simp only[Uz,jF];exact Z4r (yN c) k s
 | .region id ops J,s=>by
  simp only[Uz,jF];exact Lb ops.toList ops.toList s
 | .region id ops Y,s=>rfl
 | .skip,s=>rfl
 | .label _,s=>rfl
 | .ret,s=>rfl
 | .exit _,s=>rfl
 | .rangeFunc ..,s=>rfl
 | .scope ..,s=>rfl
 | .goto ..,s=>rfl
 | .refuse ..,s=>rfl
def Q7(n i:Nat)(t:Tr V)(ds:List Deferred)(h:N):jY ⟨⟨n,t⟩,ds,h⟩ (U i)=decide (i < n):=by
 show Nat.blt i n=_;by_cases hi:i < n
 ·rw[show Nat.blt i n=Y from by simpa using hi];simp[hi]
 ·rw[cm.2 (fun k:Nat.blt i n=Y=>hi (by simpa using k))];simp[hi]
def Qd(s:St):jY s O=Y:=rfl
def Xd:(0 == iJ)=J:=qA
def Qm(t:TypeId)(a b:Int):jD (binOp .lss t (I X a) (I X b))=U (.bool (decide (a < b))):=kR
def Qp(t:TypeId)(a b:Int):jD (binOp .gtr t (I X a) (I X b))=U (.bool (decide (a > b))):=kR
def Qn(t:TypeId)(a b:Int):jD (binOp .leq t (I X a) (I X b))=U (.bool (decide (a<=b))):=kR
def Qo(t:TypeId)(a b:Int):jD (binOp .geq t (I X a) (I X b))=U (.bool (decide (a ≥ b))):=kR
def Qk(t:TypeId)(a b:Int):jD (binOp .add t (I X a) (I X b))=U (I X (IntKind.i64.wrap (a+b))):=kR
def Ql(t:TypeId)(a b:Int):jD (binOp .sub t (I X a) (I X b))=U (I X (IntKind.i64.wrap (a-b))):=kR
def Qj(t:TypeId)(a b:Int):jD (binOp .mul t (I X a) (I X b))=U (I X (IntKind.i64.wrap (a*b))):=kR
end
structure KU {P:Program} (E:iS P) (te ts:TypeId) (re rs:ib):Prop where
 e:E.ty.A te=U re
 s:E.ty.A ts=U rs
 ed:re.desc=.int X
 sd:rs.desc=.slice te
 size:re.size=1
 zero:re.zero=I X 0
 bytes:re.bytes=8
def J0s{i:Nat}{v:V}(h:l[i]? = U v):nF 1 (l.drop i)=U [v]:=by
 have : l.drop i=v::l.drop (i+1):=by
  rw[aS (List.getElem?_eq_some_iff.1 h).1];congr 1;exact(List.getElem?_eq_some_iff.1 h).2
 rw[this];simp[nF]
section
variable{P:Program}{E:iS P}{te ts:TypeId}{re rs:ib}(T:KU E te ts re rs)
include T
end
structure iM where
 fn:FuncId->List V->N->(ip->N->Prop)->Prop
 rnd:Nat->List V->N->(ip->N->Prop)->Prop
 die:Bool
structure iV (P:Program) (G:Bs) (C:iM):Prop where
 fn:∀ f args h K,C.fn f args h K->fx P G f args h K
 rnd:∀ l args h K,C.rnd l args h K->zI P G l args h K
def BV(P:Program)(G:Bs):iM:=⟨fun f args h K=>fx P G f args h K,fun l args h K=>zI P G l args h K,Y⟩
def kE(P:Program)(G:Bs):iV P G (BV P G):=⟨fun _ _ _ _ h=>h,fun _ _ _ _ h=>h⟩
def Iw(d:Option Tmp)(s:St)(K:Exit->St->Prop)(r:ip)(h:N):Prop:=match r with
 | .ret v=>K .normal (s.put d v h)
 | .panic ch=>K (.panic ch) {s with h:=h}
def ED(E:d_ P)(C:iM)(x:Operand)(isS:Bool)(d:Option Tmp)(s:St)(K:Exit->St->Prop):Prop:=match g_ E.G s.t x with
 | some it=>(∃ y,sm it isS s.h=[y]/\K .normal (s.put d y.1 y.2))∨(C.die=Y/\sm it isS s.h ≠ []/\∀ y ∈ sm it isS s.h,K .normal (s.put d y.1 y.2))
 | none=>False
def Xu(E:d_ P)(C:iM)(rd:Option Nat)(o:Oper)(s:St)(K:Exit->St->Prop):Prop :=
 if !jY s o.dst then False else
 match o.op with
 | .defer c=>match rd with
  | none=>match BM E s.t c with
   | some d=>K .normal (({s with ds:=d::s.ds}:St).put o.dst Qq s.h)
   | none=>False
  | some _=>False
 | .next x hx=>ED E C x hx o.dst s K
 | _=>match iN E s.t s.h o with
  | some (.val v h)=>K .normal (s.put o.dst v h)
  | some (.skip h)=>K .normal (s.put o.dst Qq h)
  | some (.panic v h)=>K (.panic [{v,recovered:=false}]) {s with h:=h}
  | some (.enter f args h)=>C.fn f args h (Iw o.dst s K)
  | some (.round l args h)=>C.rnd l args h (Iw o.dst s K)
  | _=>False
def yf(F:St->Prop)(K:Exit->St->Prop)(e:Exit)(s':St):Prop:=match e with
 | .normal=>F s'
 | .panic ch=>K (.panic ch) s'
 | _=>False
def nP{P:Program}(E:d_ P)(C:iM)(rd:Option Nat)(ops:List Oper)(K:Exit->St->Prop):List Oper->St->Prop
 | [],s=>K .normal s
 | o::r,s=>match Qg ops s.t o with
  | some Y=>Xu E C rd o s (yf (nP E C rd ops K r) K)
  | some J=>if jY s o.dst then nP E C rd ops K r (s.put o.dst Qq s.h)else False
  | none=>False
def Y5(E:d_ P)(C:iM)(rd:Option Nat)(ops:List Oper)(K:Exit->St->Prop)(t:Tm)(ds:List Deferred)(h:N):nP E C rd ops K [] ⟨t,ds,h⟩=K .normal ⟨t,ds,h⟩:=rfl
def Y0(E:d_ P)(C:iM)(rd:Option Nat)(ops:List Oper)(K:Exit->St->Prop)(o:Oper)(r:List Oper)(t:Tm)(ds:List Deferred)(h:N):nP E C rd ops K (o::r) ⟨t,ds,h⟩ =
 (match Qg ops t o with
  | some Y=>Xu E C rd o ⟨t,ds,h⟩ (yf (nP E C rd ops K r) K)
  | some J=>if jY ⟨t,ds,h⟩ o.dst then nP E C rd ops K r (St.put ⟨t,ds,h⟩ o.dst Qq h)else False
  | none=>False):=rfl
def X6(F:St->Prop)(K:Exit->St->Prop)(s:St):yf F K .normal s=F s:=rfl
def Xi(F:St->Prop)(K:Exit->St->Prop)(ch:List PanicEntry)(s:St):yf F K (.panic ch) s=K (.panic ch) s:=rfl
def Y4(v:V)(h:N):Iw d s K (.ret v) h=K .normal (s.put d v h):=rfl
def Xw(ch:List PanicEntry)(h:N):Iw d s K (.panic ch) h=K (.panic ch) {s with h:=h}:=rfl
section
variable{P:Program}{Z:Ren}{s:St}{a:Act}{w:World}
def Ja9(E:d_ P){C:iM}(hC:iV P E.G C){rd:Option Nat}{o:Oper}{K:Exit->St->Prop}(hs:Xu E C rd o s K)(S_:iu E.G Z s a w)
  {next:Act->World->Prop} {Q:Exit->Act->World->Prop}
  (hn:∀ Z' a' w' s1,K .normal s1->iC s.h.Q Z Z'->f_ Z s.h w Z' s1.h w'->iu E.G Z' s1 a' w'->next a' w')
  (hp:∀ Z' a' w' s1 ch,K (.panic ch) s1->iC s.h.Q Z Z'->f_ Z s.h w Z' s1.h w'->iu E.G Z' s1 a' w'->qw (dom Z') (.panic ch)->Q (pX Z' (.panic ch)) a' w') :
  o.wpIn (kZ rd Z) 0 P a w next Q:=by
 refine⟨fun f _=>vn rd Z f,?_⟩;unfold Xu at hs;split at hs
 ·exact hs.elim
 ·rename_i hq;have hb:jY s o.dst=Y:=by simpa using hq
  have es:∀ h,jY ({s with h:=h}:St) o.dst=Y:=fun h=>by cases hd:o.dst <;> simp only[hd,jY]at hb ⊢;exact hb
  have ls:∀ Z' w' v h,K .normal (s.put o.dst v h)->iC s.h.Q Z Z'->f_ Z s.h w Z' h w'->bN E.G Z' h w'->c_ (dom Z') v->next (a.put o.dst (ren Z' v)) w':=by
   intro Z' w' v h hk q2 q3 q4 q1;have S1:=S_.step q2 q4;refine hn Z' _ w' _ hk q2 ?_ ?_
   ·rw[Ed];exact q3
   ·have:=S1.put (d:=o.dst) (v:=v) (es h) q1;rw[gy];exact this
  split at hs
  ·rename_i c hA;split at hs
   ·split at hs
    ·rename_i d hd;obtain⟨d1,d2⟩:=Jls E S_ hd o.type;have : (o.semAt (kZ O Z).round a.eval).run P w=.ok (.defer (pK Z d)) w:=by
      rw[Eo];simp[Oper.semAt,execOp,hA,d2]
     rw[this];refine hn Z _ w _ hs (iC.refl _ _) ?_ ?_
     ·rw[Ed];exact f_.refl _ _ _
     ·have S1:iu E.G Z {s with ds:=d::s.ds} {a with defers:=pK Z d::a.defers} w :=
       ⟨S_.h,S_.t,by simp[S_.ds],fun x hx=>by rcases ao.1 hx with rfl | hx;exact d1;exact S_.okd x hx⟩
      exact S1.putU hb
    ·exact hs.elim
   ·exact hs.elim
  ·rename_i x hB hA;have h3:o.semAt (kZ rd Z).round a.eval=execOp a.eval o:=f7 _ _ _ (fun c hc=>by rw[hA]at hc;cases hc);rw[h3];unfold ED at hs;split at hs
   ·rename_i it hit;obtain⟨e1,e2⟩:=uX S_.h S_.t hit;have key:sm it hB s.h ≠ []/\∀ y ∈ sm it hB s.h,K .normal (s.put o.dst y.1 y.2):=by
     rcases hs with⟨y,h1,h2⟩ | ⟨_,h1,h2⟩
     ·rw[h1];refine⟨kA,fun z hz => ?_⟩;rw[aU]at hz;subst hz;exact h2
     ·exact⟨h1,h2⟩
    obtain⟨y,hy,Z',w',r1,r2,r3,r4,r5⟩:=Z3z (P:=P) (ty:=o.type) S_.h e1 key.1;have hg:(execOp a.eval o).run P w=.ok (.value (ren Z' y.1)) w':=by
     simp only[execOp,hA,e2];simp[r1]
    rw[hg];exact ls Z' w' y.1 y.2 (key.2 y hy) r3 r5 r4 r2
   ·exact hs.elim
  ·rename_i hA h4;have h3:o.semAt (kZ rd Z).round a.eval=execOp a.eval o:=f7 _ _ _ hA;rw[h3];split at hs
   next v h hr=>obtain⟨Z',w',r1,r2,r3,r4,r5⟩:=qq E S_.h S_.t hr;rw[r1];exact ls Z' w' v h hs r3 r5 r4 r2
   next h hr=>obtain⟨w',r1,r2,r3⟩:=qq E S_.h S_.t hr;rw[r1];have:=ls Z w' Qq h hs (iC.refl _ _) r3 r2 (by simp[Qq,c_,lF,mO]);have e:ren Z Qq=undef:=(by simp[Qq,undef]);rw[e]at this;exact this
   next v h hr=>obtain⟨rfl,r1,r2⟩:=qq E S_.h S_.t hr;rw[r1];exact hp Z a w _ _ hs (iC.refl _ _) (f_.refl _ _ _) S_ (by simpa[qw]using r2)
   ·rename_i f args h hr;obtain⟨rfl,r1,r2⟩:=qq E S_.h S_.t hr;rw[r1,f9];refine⟨by rw[yB];simp,HO ?_⟩;refine(hC.fn _ _ _ _ hs Z w S_.h r2).mono ?_;rintro e' w' ⟨Z',r,h1,hk,rfl,q1,q2,q3,q4⟩;cases r with
    | ret v=>exact ls Z' w' v h1 hk q2 q3 q4 q1
    | panic ch=>exact hp Z' a w' _ ch hk q2 q3 (S_.step q2 q4) q1
   ·rename_i l args h hr;obtain⟨rfl,k1,r2,st,hf,t',ps,s',bd,d,k2,fn,he,k3,r1⟩:=qq E S_.h S_.t hr;rw[r1,f8];refine⟨by rw[yB];simp,?_⟩;refine(hC.rnd _ _ _ _ hs Z w Z rd _ _ _ _ _ _ _ _ _ S_.h k1 r2 k2 k3).mono ?_;rintro e' w' ⟨Z',r,h1,hk,rfl,q1,q2,q3,q4⟩;cases r with
    | ret v=>exact ls Z' w' v h1 hk q2 q3 q4 q1
    | panic ch=>exact hp Z' a w' _ ch hk q2 q3 (S_.step q2 q4) q1
   ·exact hs.elim
def ZS(E:d_ P){C:iM}(hC:iV P E.G C){rd:Option Nat}{ops:Array Oper}{Q:Exit->Act->World->Prop}{K:Exit->St->Prop}:∀ (l:List Oper) (i:Nat) (s:St) (Z:Ren) (a:Act) (w:World),
  ops.toList.drop i=l->nP E C rd ops.toList K l s->iu E.G Z s a w->(∀ l,rd=U l->dom Z l) ->
  (∀ Z' a' w' e s1,K e s1->iC s.h.Q Z Z'->f_ Z s.h w Z' s1.h w'->iu E.G Z' s1 a' w'->qw (dom Z') e->Q (pX Z' e) a' w') ->
  wpOpsIn (kZ rd Z) 0 P ops Q (List.range' i (L l)) a w
 | [],i,s,Z,a,w,_,h,S_,_,hQ=>hQ Z a w .normal s h (iC.refl _ _) (f_.refl _ _ _) S_ trivial
 | o::r,i,s,Z,a,w,hc,h,S_,hl,hQ=>by
  have ho:ops[i]? = U o:=by
   have:=congrArg (fun l=>l[0]?) hc;simpa[List.getElem?_drop]using this
  have hx:ops.toList.drop (i+1)=r:=by
   have:=congrArg List.tail hc;simpa[fE]using this
  simp only[bm,ef,wpOpsIn,ho];simp only[nP]at h;split at h
  next hw=>rw[if_pos (wb (G:=E.G) S_.t hw)];refine Ja9 E hC h S_ (fun Z' a' w' s1 hk h1 h2 h3 => ?_) (fun Z' a' w' s1 ch hk h1 h2 h3 h4=>hQ Z' a' w' _ s1 hk h1 h2 h3 h4);obtain⟨f1,f2,_⟩:=Ey (rd:=rd) (n:=0) S_ h1 hl;have:=ZS E hC (Q:=Q) (K:=K) r (i+1) s1 Z' a' w' hx hk h3 f2 (fun hr hb hp e s2 g0 g2 g3 g4 g5=>hQ hr hb hp e s2 g0 (h1.trans g2 h2.Q) (h2.trans g3) g4 g5);rwa [f1]at this
  ·rename_i hw;rw[if_neg (by rw[wb (G:=E.G) S_.t hw];simp)];refine⟨fun f _=>vn rd Z f,?_⟩;split at h
   next hd=>have hh:(s.put o.dst Qq s.h).h=s.h:=Ed _ _ _ _;exact ZS E hC (Q:=Q) (K:=K) r (i+1) _ Z _ w hx h (S_.putU hd) hl (by rw[hh];exact hQ)
   ·exact h.elim
  ·exact h.elim
def Jyk(E:d_ P){C:iM}(hC:iV P E.G C){rd:Option Nat}{id:Nat}{ops:Array Oper}{K:Exit->St->Prop}(h:nP E C rd ops.toList K ops.toList s) :
  CW P E.G rd s.h.Q (.region id ops J) s K:=by
 intro Z a w S_ hl;have:=ZS E hC (ops:=ops) ops.toList 0 s Z a w rfl h S_ hl (Q:=Vln E.G s.h.Q Z s.h w K) (fun Z' a' w' e s1 h0 h2 h3 h4 h5=>⟨Z',e,s1,h0,rfl,h5,h2,h3,h4⟩);rw[eY,<- dH]at this;exact wpIn_region this
def CW.grows{G:Bs}{rd:Option Nat}{n:Nat}{c:Code}{K:Exit->St->Prop}(h:CW P G rd n c s K):CW P G rd n c s (fun e s'=>K e s'/\s.h.Q<=s'.h.Q):=fun Z a w S_ hl =>
 wpIn_mono (h Z a w S_ hl) fun _ _ _ ⟨Z',e,s',h1,h2,h3,h4,h5,h6⟩=>⟨Z',e,s',⟨h1,h5.Q⟩,h2,h3,h4,h5,h6⟩
def Vbg{G:Bs}{rd:Option Nat}{x y:Code}{K:Exit->St->Prop}(h:CW P G rd s.h.Q x s (fun e s'=>match e with | .normal=>CW P G rd s'.h.Q y s' K | e=>K e s')):CW P G rd s.h.Q (.seq x y) s K:=by
 refine Va9 (h.grows.mono (ac _) ?_);rintro e s' ⟨h1,h2⟩;refine⟨h2,fun he => ?_,fun hx => ?_⟩
 ·subst he;exact h1
 ·cases e <;> first
   | exact absurd rfl hx
   | exact h1
end
structure lg (s s':St):Prop where
 t:s'.t=s.t
 ds:s'.ds=s.ds
 Q:s'.h.Q=s.h.Q
 tr:s'.h.t=s.h.t
def lg.A{s s':St}(k:lg s s')(b:Nat):s'.h.A b=s.h.A b:=by unfold N.A;rw[k.Q,k.tr]
section
variable{P:Program}{E:d_ P}{C:b_}{G:Bs}{Z:Ren}{a:Act}{w:World}
def zp{P:Program}(E:d_ P)(o:Oper):Bool:=J0 E o || (match o.op with | .load .. => Y | _=>J)
def AS{P:Program}(E:d_ P):List Oper->Bool
 | []=>Y
 | o::l=>zp E o && AS E l
def yS:List (Option iU)->Bool
 | []=>Y
 | some (.wr _ _)::_=>J
 | _::l=>yS l
def PU{R0:List (Option iU)}{B0:List Nat}:∀ {R:List (Option iU)} {Bs:List Nat} {i:Nat},yS R=Y->Zj E R0 B0 R Bs i=Y
 | [],_,_,_=>rfl
 | some (.wr _ _)::_,_,_,h=>by simp[yS]at h
 | none::l,[],_,_=>rfl
 | none::l,_::_,_,h=>PU (R:=l) (by simpa[yS]using h)
 | some (.ld _ _)::l,[],_,_=>rfl
 | some (.ld _ _)::l,_::_,_,h=>PU (R:=l) (by simpa[yS]using h)
def iu.low{s:St}(S_:iu G Z s a w){s':St}(k:lg s s'):iu G Z s' a w:=by
 refine⟨S_.h.sub k.Q (fun b x hx=>by rw[<- k.A];exact hx),by rw[k.t];exact S_.t,by rw[k.ds];exact S_.ds,by rw[k.ds];exact S_.okd⟩
def QE {o : Oper} (hf : zp E o = Y) {t : Tm} {h h' : N} (hg : ∀ b, h'.A b = h.A b) {r : mL} (hr : iN E t h o = U r) :
    ∃ v, r = .val v h /\ iN E t h' o = U (.val v h') /\ (J0 E o = Y ∨ Zo o = Y) /\ (!Zo o || (loadAt E t o).isSome) = Y := by
  unfold zp at hf;rw [cx] at hf;rcases hf with hf | hf
  · have hk : Zo o = J := by
      unfold J0 at hf;unfold Zo;split
      · rename_i hq; simp [hq] at hf
      · rename_i hq; simp [hq] at hf
      · rfl
    have key : ∃ v, r = .val v h /\ iN E t h' o = U (.val v h') := by
      unfold J0 at hf;unfold iN at hr ⊢;split at hf <;> first
        | (cases hf; done)
        | skip
      all_goals
        rename_i hc;simp only [hc] at hr ⊢
        try simp only [hf] at hr ⊢
        first
        | (split at hr <;> first
            | (cases hr; done)
            | (rw [P5 hf _ h'] at hr
               obtain ⟨u, hu, rfl⟩ := kw hr; refine ⟨u, rfl, ?_⟩; simp only [g0, *]; done))
        | (obtain ⟨u, hu, rfl⟩ := kw hr; exact ⟨u, rfl, by simp only [g0,hu]⟩)
        | (split at hr <;> first
            | (cases hr; done)
            | (obtain ⟨u, hu, rfl⟩ := kw hr; refine ⟨u, rfl, ?_⟩; simp only [g0, *]; done))
    obtain ⟨v, h1, h2⟩ := key;exact ⟨v, h1, h2, .inl hf, by simp [hk]⟩
  · split at hf
    · rename_i ty x hc
      simp only [iN,hc] at hr ⊢;cases hx : g_ E.G t x with
      | none => simp [hx] at hr
      | some y =>
        simp only [hx] at hr ⊢;obtain ⟨u, hu, rfl⟩ := kw hr;have hb : jy E.toiS ty y h' = U u := by
          rw [<- hu];simp only [jy];split
          · exact HQ (hg _) _
          · rfl
        refine ⟨u, rfl, by simp only [hb,g0], .inr (by simp [Zo,hc]), ?_⟩;have : (loadAt E t o).isSome = Y := by
          simp only [loadAt,hc,hx];cases y <;> simp only [jy] at hu <;> try (cases hu; done)
          rename_i p;cases p with
          | none => simp at hu
          | some p => rfl
        simp [this]
    · cases hf
def PK{ops:List Oper}{B:List Nat}:∀ (l:List Oper) (i:Nat) (s s1 sx:St),AS E l=Y->o8 E C O ops l s=U (.normal,s1)->lg s sx->∃ sy R,sE E C ops B l i sx=U (sy,R)/\lg s1 sy/\yS R=Y
 | [],i,s,s1,sx,_,h,k=>by
  simp only[o8,av,bZ,true_and]at h;subst h;exact⟨sx,[],rfl,k,rfl⟩
 | o::r,i,s,s1,sx,hn,h,k=>by
  simp only[AS,au]at hn;obtain⟨ls,hg⟩:=hn;have hb:jY sx o.dst=jY s o.dst:=by cases o.dst <;> simp[jY,k.t]
  have hp:∀ (v:V) (h h':N),h'.Q=h.Q->h'.t=h.t->lg (s.put o.dst v h) (sx.put o.dst v h'):=fun v h h' e1 e2=>by
   cases o.dst with
   | none=>exact⟨k.t,k.ds,e1,e2⟩
   | some d=>exact⟨by simp[St.put,k.t],k.ds,e1,e2⟩
  have hA:J4 o=Y:=by
   unfold zp J0 at ls;unfold J4;split
   next c Z'=>simp[Z']at ls
   ·rfl
  simp only[o8]at h;have hw:Qg ops sx.t o=Qg ops s.t o:=by rw[k.t]
  split at h
  ·rename_i he;split at h
   ·rename_i s' hk;unfold ui at hk;split at hk
    ·cases hk
    ·rename_i hd;have hB:jY s o.dst=Y:=(by simpa using hd);have hq:∃ v,s'=s.put o.dst v s.h/\mh E C o sx.t (mS sx.h)=U (v,mS sx.h)/\(J0 E o=Y∨Zo o=Y)/\(!Zo o || (loadAt E sx.t o).isSome)=Y:=by
      have Z':∀ c,o.op ≠ .defer c:=fun c hc=>by simp[J4,hc]at hA
      split at hk
      next c hc=>exact absurd hc (Z' c)
      ·cases hr:iN E s.t s.h o with
       | none=>simp[hr]at hk
       | some hC =>
        obtain⟨v,rfl,h2,h3,h4⟩:=QE ls (h':=mS sx.h) (fun b=>k.A b) hr;simp only[hr,av,bZ,true_and]at hk;refine⟨v,hk.symm,?_,h3,by rw[k.t];exact h4⟩;rw[k.t];simp only[mh,h2]
     obtain⟨v,rfl,q1,hx,es⟩:=hq;obtain⟨sy,R,hy,ky,hR⟩:=PK (B:=B) r (i+1) (s.put o.dst v s.h) s1 (sx.put o.dst v (yl sx.h (mS sx.h))) hg h (hp v _ _ k.Q k.tr);refine⟨sy,uR E sx o (mS sx.h)::R,?_,ky,?_⟩
     ·simp only[sE,hw,he,hb,hB,hA,q1];have q2:u9 E ops B i o sx (mS sx.h)=Y:=by
       unfold u9;rw[au];exact⟨by rcases hx with h | h <;> simp[h],es⟩
      simp[q2,hy,mX]
     ·unfold uR;rcases hx with hf | hl
      ·split
       ·simpa[yS]using hR
       ·simpa[yS,hf]using hR
      ·simp[hl,yS,hR]
   ·cases h
   ·cases h
  ·rename_i hz;split at h
   next hd=>obtain⟨sy,R,hy,ky,hR⟩:=PK (B:=B) r (i+1) _ s1 (sx.put o.dst Qq sx.h) hg h (hp Qq _ _ k.Q k.tr);refine⟨sy,O::R,?_,ky,by simpa[yS]using hR⟩;simp[sE,hw,hz,hb,hd,hA,hy,mX]
   ·cases h
  ·cases h
end
section
variable{P:Program}{E:d_ P}{C:b_}{G:Bs}{Z:Ren}{a:Act}{w:World}
def kc(h0:N)(l:List (FuncId × List V × V)):b_:=open Classical in
 {fn:=fun f args h=>if h.Q=h0.Q/\h.t=h0.t then(match l.find? (fun x=>decide (x.1=f/\x.2.1=args))with | some x=>U (.ret x.2.2,h) | none=>O)else O,rnd:=fun _ _ _=>O}
def bN.like{h h1:N}(H:bN G Z h w)(hn:h1.Q=h.Q)(ht:h1.t=h.t):bN G Z h1 w :=
 H.sub hn (fun b x hx=>by unfold N.A at hx ⊢;rw[<- hn,<- ht];exact hx)
end
structure Hq (h h':N):Prop where
 Q:h'.Q=h.Q
 t:h'.t=h.t
def Hq.A(q:Hq h h')(b:Nat):h'.A b=h.A b:=by unfold N.A;rw[q.Q,q.t]
def Hq.push(q:Hq h h')(x:Blk):Hq (h.push x) (h'.push x):=⟨by simp[N.push,q.Q],by simp[N.push,q.t,q.Q]⟩
def Hq.set(q:Hq h h')(b:Nat)(x:Option Blk):Hq (h.set b x) (h'.set b x):=⟨q.Q,by simp[N.set,q.t]⟩
section
variable{P:Program}{E:d_ P}{G:Bs}
def O9{h h':N}(q:Hq h h')(a:Addr)(n:Nat):Ab.cellsAt h' a n=Ab.cellsAt h a n:=by simp only[Ab.cellsAt,q.A]
def PF{h h' h1:N}(q:Hq h h'){a:Addr}{l:List V}(hs:storeAt h a l=U h1):∃ hx,storeAt h' a l=U hx/\Hq h1 hx:=by
 unfold storeAt at hs ⊢;rw[q.A];split at hs
 next sz c hg=>rw[aj]at hs;obtain⟨c',h2,rfl⟩:=hs;rw[hg]at *;exact⟨_,by simp only[h2,aL],q.set _ _⟩
 ·cases hs
def Juy{E:iS P}{h h':N}(q:Hq h h'){t:TypeId}{x:V}{lo hi mx:Option V}{h1:N}{v:V}(hv:ka E t x lo hi mx h=U (v,h1)):∃ hx,ka E t x lo hi mx h'=U (v,hx)/\Hq h1 hx/\hx.low=h'.low:=by
 have h2:∀ {ad:Addr} {sz used l n:Nat},ka.aCut ad sz used l n h=U (v,h1)->∃ hx,ka.aCut ad sz used l n h'=U (v,hx)/\Hq h1 hx/\hx.low=h'.low:=by
  intro ad sz used l n hc;unfold ka.aCut at hc ⊢;split at hc
  next e=>rw[if_pos e];cases hc;exact⟨_,rfl,q,rfl⟩
  ·rename_i e;rw[if_neg e];split at hc
   next e2=>rw[if_pos e2];cases hc;exact⟨_,rfl,q,rfl⟩
   ·rename_i e2;rw[if_neg e2];split at hc
    next e3=>rw[if_pos e3];cases hc;exact⟨_,by rw[q.Q],q.push _,rfl⟩
    ·cases hc
 have hk:∀ {o:Option V},o.map (fun v=>(v,h))=U (v,h1)->∃ hx,o.map (fun v=>(v,h'))=U (v,hx)/\Hq h1 hx/\hx.low=h'.low:=by
  intro o ho;rw[aj]at ho;obtain⟨u,e,hq⟩:=ho;cases hq;exact⟨h',by rw[e];rfl,q,rfl⟩
 unfold ka at hv ⊢;simp only[q.A];have leaf:∀ {X_:Option (V × N)} {Y_:Option (V × N)},X_=Y_->(∃ hx,Y_=U (v,hx)/\Hq h1 hx/\hx.low=h'.low)->∃ hx,X_=U (v,hx)/\Hq h1 hx/\hx.low=h'.low:=fun e h=>by rw[e];exact h
 repeat' (first | (cases hv;done) | (refine leaf ?_ (hk hv);simp only[*,if_true,if_false,az];done) | (refine leaf ?_ (h2 hv);simp only[*,if_true,if_false,az];done) | (cases hv;refine⟨h',?_,q,rfl⟩;simp only[*,if_true,if_false,az];done) | split at hv | simp only at hv)
def RQ(X_ Y_:Option (V × N)):Prop:=∀ v h1,X_=U (v,h1)->∃ hx,Y_=U (v,hx)/\Hq h1 hx
def RQ.none{Y_:Option (V × N)}:RQ .none Y_:=fun _ _ h=>by cases h
def RQ.some{u:V}{h h':N}(q:Hq h h'):RQ (.some (u,h)) (.some (u,h')):=fun _ _ e=>by cases e;exact⟨_,rfl,q⟩
def J1z{E:iS P}{h h':N}(q:Hq h h'){t tx:TypeId}{s x:V}{h1:N}{v:V}(hv:mR E t tx s x h=U (v,h1)):∃ hb,mR E t tx s x h'=U (v,hb)/\Hq h1 hb:=by
 have hc:∀ (re:ib),tn E tx re x h'=tn E tx re x h:=by
  intro re;unfold tn ta;simp only[O9 q]
 have hp:∀ {a:Addr} {l:List V} {u:V},RQ ((storeAt h a l).map (fun h'=>(u,h'))) ((storeAt h' a l).map (fun h'=>(u,h'))):=by
  intro a l u v h1 ho;rw[aj]at ho;obtain⟨h2,e,hq⟩:=ho;cases hq;obtain⟨h3,e3,q3⟩:=PF q e;exact⟨h3,by rw[e3];rfl,q3⟩
 have hk:∀ {u:List V} {n z:Nat},RQ (U (M (U ⟨h.Q,0,O⟩) n iJ,h.push (S Y z u))) (U (M (U ⟨h'.Q,0,O⟩) n iJ,h'.push (S Y z u))):=by
  intro u n z;rw[q.Q];exact RQ.some (q.push _)
 have hx:∀ {u:List V} {n z b:Nat},RQ (U (M (U ⟨h.Q,0,O⟩) n iJ,(h.set b O).push (S Y z u))) (U (M (U ⟨h'.Q,0,O⟩) n iJ,(h'.set b O).push (S Y z u))):=by
  intro u n z b;rw[q.Q];exact RQ.some ((q.set _ _).push _)
 have hr:RQ (mR E t tx s x h) (mR E t tx s x h'):=by
  unfold mR;simp only[q.A,hc,O9 q]
  repeat' (first | exact RQ.none | exact hp | exact hk | exact hx | exact RQ.some q | split)
 exact hr _ _ hv
def Vc7{E:iS P}{h h':N}(q:Hq h h'){t:TypeId}{d x:V}{h1:N}{v:V}(hv:tj E t d x h=U (v,h1)):∃ hk,tj E t d x h'=U (v,hk)/\Hq h1 hk:=by
 have hx:∀ z n,ta z n x h'=ta z n x h:=by
  intro z n;unfold ta;simp only[O9 q]
 have hr:∀ {a:Addr} {l:List V} {u:V},RQ ((storeAt h a l).map (fun h'=>(u,h'))) ((storeAt h' a l).map (fun h'=>(u,h'))):=by
  intro a l u v h1 ho;rw[aj]at ho;obtain⟨h2,e,hq⟩:=ho;cases hq;obtain⟨h3,e3,q3⟩:=PF q e;exact⟨h3,by rw[e3];rfl,q3⟩
 have hc:RQ (tj E t d x h) (tj E t d x h'):=by
  unfold tj;simp only[hx]
  repeat' (first | exact RQ.none | exact hr | exact RQ.some q | split)
 exact hc _ _ hv
def J93{E:iS P}{h h':N}(q:Hq h h'){t:TypeId}{a v:V}{h1:N}(hv:j0 E t a v h=U h1):∃ hx,j0 E t a v h'=U hx/\Hq h1 hx:=by
 unfold j0 at hv ⊢;split at hv
 ·unfold BR at hv ⊢;split at hv
  next e=>rw[if_pos e];exact PF q hv
  ·cases hv
 ·cases hv
def Zej{E:iS P}{h h':N}(q:Hq h h'){t:TypeId}{m k x:V}{h1:N}(hv:pY E t m k x h=U h1):∃ hx,pY E t m k x h'=U hx/\Hq h1 hx:=by
 have hc:RQ ((pY E t m k x h).map fun h=>(.bool Y,h)) ((pY E t m k x h').map fun h=>(.bool Y,h)):=by
  unfold pY;simp only[q.A]
  repeat' (first | exact RQ.none | exact RQ.some (q.set _ _) | split)
 obtain⟨hx,e,q1⟩:=hc (.bool Y) h1 (by rw[hv];rfl);rw[aj]at e;obtain⟨h2,e2,e3⟩:=e;cases e3;exact⟨_,e2,q1⟩
def U9{P:Program}(E:d_ P)(o:Oper):Nat:=if J0 E o || Zo o then 0 else match o.op with
 | .alloc _ | .box _ _ | .buildSlice _ _ _ | .makeSlice _ _ _ | .slice _ _ _ _ _ | .makeMap _ _=>1
 | .store _ _ _ | .mapUpdate _ _ _ _ | .insert _ _ _ _ | .mapEntry _ _ _ | .entryStore _ _ _ _=>2
 | .call c=>match c.callee with
  | .builtin .len | .builtin .max | .builtin .min=>1
  | .builtin .append | .builtin .copy | .builtin .delete=>2
  | .value _=>3
  | _=>9
 | _=>9
def Vfd{o:Oper}(hk:U9 E o=0):J0 E o=Y∨Zo o=Y:=by
 unfold U9 at hk;split at hk
 next h=>simpa using h
 ·split at hk <;> try (cases hk;done)
  split at hk <;> cases hk
def wy{x:Option (V × N)}{r:mL}(h:gv x=U r):∃ v h1,x=U (v,h1)/\r=.val v h1:=by
 unfold gv at h;split at h
 ·cases h;exact⟨_,_,rfl,rfl⟩
 ·cases h
def J4c{x:Option V}{h:N}{r:mL}(hr:Ab.g0 h x=U r):∃ v,x=U v/\r=.val v h:=by
 unfold Ab.g0 at hr;split at hr
 ·cases hr;exact⟨_,rfl,rfl⟩
 ·cases hr
def Oh{x:Option N}{r:mL}(hr:gs x=U r):∃ h,x=U h/\r=.skip h:=by
 unfold gs at hr;split at hr
 ·cases hr;exact⟨_,rfl,rfl⟩
 ·cases hr
def Vjb {o : Oper} (hk : U9 E o = 1) {t : Tm} {h h' : N} (q : Hq h h') {r : mL} (hr : iN E t h o = U r) : ∃ v h1 hA, r = .val v h1 /\ iN E t h' o = U (.val v hA) /\ Hq h1 hA /\ hA.low = h'.low /\ ∀ c, c < h.Q -> h1.A c = h.A c := by
  have hp : ∀ x : Blk, ∀ c, c < h.Q -> (h.push x).A c = h.A c := fun x c hc => by rw [N.F, if_neg jA]
  unfold U9 at hk;split at hk
  · cases hk
  · split at hk
    · rename_i ty hb
      simp only [iN,hb] at hr ⊢;obtain ⟨v, h1, e, rfl⟩ := wy hr;unfold jh at e ⊢;split at e
      · rename_i r ls
        cases e;exact ⟨_, _, _, rfl, by simp only [ls,gv,q.Q], q.push _, rfl, hp _⟩
      · cases e
    · rename_i ty x hb
      simp only [iN,hb] at hr ⊢;cases hx : g_ E.G t x with
      | none => simp [hx] at hr
      | some y =>
        simp only [hx] at hr ⊢;obtain ⟨v, h1, e, rfl⟩ := wy hr;unfold jP at e ⊢;split at e
        · rename_i hn
          cases e;exact ⟨_, _, _, rfl, by simp only [hn,if_true,gv,q.Q], q.push _, rfl, hp _⟩
        · cases e
    · rename_i ty n ps hb
      simp only [iN,hb] at hr ⊢;cases hx : Qh E.G t ps.toList with
      | none => simp [hx] at hr
      | some y =>
        simp only [hx] at hr ⊢;obtain ⟨v, h1, e, rfl⟩ := wy hr;unfold Wc at e ⊢;split at e
        · cases e
        · split at e
          · split at e
            · split at e
              · rename_i hq
                rw [aj] at e;obtain ⟨c, hc, e⟩ := e;cases e;exact ⟨_, _, _, rfl, by rw [if_pos hq, hc]; simp only [aL,gv,q.Q], q.push _, rfl, hp _⟩
              · cases e
            · cases e
          · cases e
    · rename_i ty n c hb
      simp only [iN,hb] at hr ⊢;cases hx : g_ E.G t n with
      | none => simp [hx] at hr
      | some y =>
        cases hy : g_ E.G t c with
        | none => simp [hx,hy] at hr
        | some z =>
          simp only [hx,hy] at hr ⊢;obtain ⟨v, h1, e, rfl⟩ := wy hr;unfold Ah at e ⊢;split at e
          · split at e
            · split at e
              · split at e
                · rename_i hq
                  cases e;exact ⟨_, _, _, rfl, by rw [if_pos hq]; simp only [gv,q.Q], q.push _, rfl, hp _⟩
                · cases e
              · cases e
            · cases e
          · cases e
    · rename_i ty x lo hi mx hb
      simp only [iN,hb] at hr ⊢;cases h1 : g_ E.G t x with
      | none => simp [h1] at hr
      | some v1 =>
        cases h2 : kU E.G t lo with
        | none => simp [h1,h2] at hr
        | some v2 =>
          cases h3 : kU E.G t hi with
          | none => simp [h1,h2,h3] at hr
          | some v3 =>
            cases h4 : kU E.G t mx with
            | none => simp [h1,h2,h3,h4] at hr
            | some v4 =>
              simp only [h1,h2,h3,h4] at hr ⊢;obtain ⟨v, g1, e, rfl⟩ := wy hr;obtain ⟨Z', e1, e2, e3⟩ := Juy q e;refine ⟨v, g1, Z', rfl, by rw [e1]; rfl, e2, e3, fun c hc => ?_⟩;obtain ⟨g2, f1, f2, f3⟩ := Juy (E := E.toiS) (h := h) (h' := { h with low := h.Q }) ⟨rfl, rfl⟩ e;have := (Z48 f1).same c hc (by rw [f3]; exact hc);rw [f2.A] at this;exact this
    · rename_i ty x hb
      simp only [iN,hb] at hr ⊢;cases h1 : kU E.G t x with
      | none => simp [h1] at hr
      | some v1 =>
        simp only [h1] at hr ⊢;obtain ⟨v, g1, e, rfl⟩ := wy hr;unfold uC at e ⊢;split at e
        · split at e
          · cases e
            exact ⟨_, _, _, rfl, by simp only [gv,q.Q], q.push _, rfl, hp _⟩
          · cases e
            exact ⟨_, _, _, rfl, by simp only [gv,q.Q], q.push _, rfl, hp _⟩
          · cases e
        · cases e
    · cases hk
    · cases hk
    · cases hk
    · cases hk
    · cases hk
    · rename_i c hb
      simp only [iN,hb] at hr ⊢;cases ha : kH E.G t c.args.toList with
      | none => simp [ha] at hr
      | some args =>
        simp only [ha] at hr ⊢;split at hk <;> first
          | (cases hk; done)
          | (rename_i hc
             simp only [hc,Q9] at hr ⊢
             first
             | (obtain ⟨v, e, rfl⟩ := J4c hr
                exact ⟨v, h, h', rfl, by simp only [e,Ab.g0], q, rfl, fun _ _ => rfl⟩)
             | (split at hr <;> first
               | contradiction
               | (cases hr; done)
               | (obtain ⟨v, e, rfl⟩ := J4c hr
                  refine ⟨v, h, h', rfl, ?_, q, rfl, fun _ _ => rfl⟩;have e2 : ∀ ty x, iP E.toiS ty x h' = iP E.toiS ty x h := fun ty x => by unfold iP; simp only [q.A]
                  simp only [e2,e,Ab.g0])))
    · cases hk
def J0m{h h':N}(q:Hq h h'){ty:TypeId}{m k v:V}{h1:N}(e:zg E.toiS ty m k h=U (v,h1)):∃ hx,zg E.toiS ty m k h'=U (v,hx)/\Hq h1 hx:=by
 unfold zg at e ⊢;split at e
 ·rename_i r b hr;simp only[q.A];split at e
  ·split at e
   ·split at e
    ·cases e;exact⟨_,rfl,q.set _ _⟩
    ·cases e;exact⟨_,rfl,q.set _ _⟩
    ·cases e
   ·cases e
  ·cases e
 ·cases e
def Jom{h h':N}(q:Hq h h'){ty:TypeId}{m k v:V}{h1:N}(e:zv E.toiS ty m k h=U (v,h1)):∃ hx,zv E.toiS ty m k h'=U (v,hx)/\Hq h1 hx:=by
 unfold zv at e ⊢;split at e
 ·rename_i r b hr;simp only[q.A];split at e
  ·split at e
   ·split at e
    ·cases e;exact⟨_,rfl,q.set _ _⟩
    ·split at e
     ·cases e;exact⟨_,rfl,q.set _ _⟩
     ·cases e
    ·cases e
   ·cases e
  ·cases e
 ·cases e
def Jcy{h h':N}(q:Hq h h'){m st x:V}{h1:N}(e:Ak m st x h=U h1):∃ hx,Ak m st x h'=U hx/\Hq h1 hx:=by
 unfold Ak at e ⊢;split at e
 ·simp only[q.A];split at e
  ·split at e
   ·cases e;exact⟨_,rfl,q.set _ _⟩
   ·cases e
  ·cases e
 ·cases e
def Vgy {o : Oper} (hk : U9 E o = 2) {t : Tm} {h h' : N} (q : Hq h h') {r : mL} (hr : iN E t h o = U r) : (∃ v h1 h2, r = .val v h1 /\ iN E t h' o = U (.val v h2) /\ Hq h1 h2) ∨ ∃ h1 h2, r = .skip h1 /\ iN E t h' o = U (.skip h2) /\ Hq h1 h2 := by
  unfold U9 at hk;split at hk
  · cases hk
  · split at hk <;> try (cases hk; done)
    · rename_i ty a v hb
      right;simp only [iN,hb] at hr ⊢;cases hx : g_ E.G t a with
      | none => simp [hx] at hr
      | some y =>
        cases hy : g_ E.G t v with
        | none => simp [hx,hy] at hr
        | some z =>
          simp only [hx,hy] at hr ⊢;obtain ⟨h1, e, rfl⟩ := Oh hr;obtain ⟨h2, e1, q1⟩ := J93 q e;exact ⟨h1, h2, rfl, by rw [e1]; rfl, q1⟩
    · rename_i ty m k x hb
      right;simp only [iN,hb] at hr ⊢;cases hx : g_ E.G t m with
      | none => simp [hx] at hr
      | some y =>
        cases hy : g_ E.G t k with
        | none => simp [hx,hy] at hr
        | some z =>
          cases hz : g_ E.G t x with
          | none => simp [hx,hy,hz] at hr
          | some u =>
            simp only [hx,hy,hz] at hr ⊢;obtain ⟨h1, e, rfl⟩ := Oh hr;obtain ⟨h2, e1, q1⟩ := Zej q e;exact ⟨h1, h2, rfl, by rw [e1]; rfl, q1⟩
    · rename_i ty m k x hb
      right;simp only [iN,hb] at hr ⊢;cases hx : g_ E.G t m with
      | none => simp [hx] at hr
      | some y =>
        cases hy : g_ E.G t k with
        | none => simp [hx,hy] at hr
        | some z =>
          cases hz : g_ E.G t x with
          | none => simp [hx,hy,hz] at hr
          | some u =>
            simp only [hx,hy,hz] at hr ⊢;obtain ⟨h1, e, rfl⟩ := Oh hr;obtain ⟨h2, e1, q1⟩ := Zej q e;exact ⟨h1, h2, rfl, by rw [e1]; rfl, q1⟩
    · rename_i ty m k hb
      left;simp only [iN,hb] at hr ⊢;cases hx : g_ E.G t m with
      | none => simp [hx] at hr
      | some y =>
        cases hy : g_ E.G t k with
        | none => simp [hx,hy] at hr
        | some z =>
          simp only [hx,hy] at hr ⊢;obtain ⟨v, h1, e, rfl⟩ := wy hr;obtain ⟨h2, e1, q1⟩ := Jom q e;exact ⟨v, h1, h2, rfl, by rw [e1]; rfl, q1⟩
    · rename_i ty m k x hb
      right;simp only [iN,hb] at hr ⊢;cases hx : g_ E.G t m with
      | none => simp [hx] at hr
      | some y =>
        cases hy : g_ E.G t k with
        | none => simp [hx,hy] at hr
        | some z =>
          cases hz : g_ E.G t x with
          | none => simp [hx,hy,hz] at hr
          | some u =>
            simp only [hx,hy,hz] at hr ⊢;obtain ⟨h1, e, rfl⟩ := Oh hr;obtain ⟨h2, e1, q1⟩ := Jcy q e;exact ⟨h1, h2, rfl, by rw [e1]; rfl, q1⟩
    · rename_i c hb
      left;simp only [iN,hb] at hr ⊢;cases ha : kH E.G t c.args.toList with
      | none => simp [ha] at hr
      | some args =>
        simp only [ha] at hr ⊢;split at hk <;> try (cases hk; done)
        · rename_i hc
          simp only [hc,Q9] at hr ⊢;split at hr <;> first
            | contradiction
            | (cases hr; done)
            | (obtain ⟨v, h1, e, rfl⟩ := wy hr
               obtain ⟨h2, e1, q1⟩ := J1z q e;exact ⟨v, h1, h2, rfl, by rw [e1]; rfl, q1⟩)
        · rename_i hc
          simp only [hc,Q9] at hr ⊢;split at hr <;> first
            | contradiction
            | (cases hr; done)
            | (obtain ⟨v, h1, e, rfl⟩ := wy hr
               obtain ⟨h2, e1, q1⟩ := Vc7 q e;exact ⟨v, h1, h2, rfl, by rw [e1]; rfl, q1⟩)
        · rename_i hc
          simp only [hc,Q9] at hr ⊢;split at hr <;> first
            | contradiction
            | (cases hr; done)
            | (obtain ⟨v, h1, e, rfl⟩ := wy hr
               obtain ⟨h2, e1, q1⟩ := J0m q e;exact ⟨v, h1, h2, rfl, by rw [e1]; rfl, q1⟩)
def Vk6{o:Oper}(hk:U9 E o=3){t:Tm}{h h1 h':N}{f:FuncId}{args:List V}(hr:iN E t h o=U (.enter f args h1)):h1=h/\iN E t h' o=U (.enter f args h'):=by
 unfold U9 at hk;split at hk
 ·cases hk
 ·split at hk <;> try (cases hk;done)
  rename_i c h2;split at hk <;> try (cases hk;done)
  rename_i fo hc;simp only[iN,h2,hc]at hr ⊢;cases ha:kH E.G t c.args.toList with
  | none=>simp[ha]at hr
  | some l =>
   simp only[ha]at hr ⊢;cases hf:g_ E.G t fo with
   | none=>simp[hf]at hr
   | some fv =>
    simp only[hf]at hr ⊢;cases hx:Qi fv l with
    | none =>
     simp only[hx]at hr;unfold u6 at hr;split at hr
     ·split at hr
      ·split at hr <;> cases hr
      ·cases hr
     ·cases hr
    | some fl =>
     obtain⟨f2,l2⟩:=fl;simp only[hx]at hr ⊢;cases hF:E.fn.A f2 with
     | none =>
      simp only[hF]at hr;split at hr
      ·obtain⟨_,_,_,e⟩:=wy hr;cases e
      ·cases hr
     | some F =>
      simp only[hF]at hr ⊢;cases hr;exact⟨rfl,rfl⟩
end
structure KE where
 f:FuncId
 args:List V
 h0:N
 v:V
 h1:N
 q:Bool
def wj(h:N)(l:Nat):N:={h with low:=l}
open Classical in
def pf:List KE->FuncId->List V->N->Option KE
 | [],_,_,_=>O
 | e::l,f,args,h=>if e.f=f/\e.args=args/\h.Q=e.h0.Q/\h.t=e.h0.t then U e else pf l f args h
def Je(f:FuncId)(args:List V)(h0:N)(v:V)(h1:N)(q:Bool)(l:List KE):pf (⟨f,args,h0,v,h1,q⟩::l) f args h0=U ⟨f,args,h0,v,h1,q⟩:=by simp[pf]
def r_{f':FuncId}{args hx:List V}{h0 h v h1 q}{l:List KE}(hf:f≠f'):pf (⟨f,args,h0,v,h1,q⟩::l) f' hx h=pf l f' hx h:=by simp[pf,hf]
def PY:∀ {l:List KE} {f:FuncId} {args:List V} {h:N} {e:KE},pf l f args h=U e->e ∈ l/\e.f=f/\e.args=args/\Hq e.h0 h
 | [],_,_,_,_,h=>by cases h
 | x::l,f,args,h,e,hx=>by
  simp only[pf]at hx;split at hx
  next hc=>cases hx;exact⟨kA,hc.1,hc.2.1,hc.2.2.1,hc.2.2.2⟩
  ·obtain⟨h1,h2⟩:=PY hx;exact⟨by simp[h1],h2⟩
def Vao{l:List KE}{f:FuncId}{args:List V}{h h':N}(q:Hq h h'):pf l f args h'=pf l f args h:=by
 induction l with
 | nil=>rfl
 | cons x l ih =>
  have e:(x.f=f/\x.args=args/\h'.Q=x.h0.Q/\h'.t=x.h0.t)↔(x.f=f/\x.args=args/\h.Q=x.h0.Q/\h.t=x.h0.t):=by rw[q.Q,q.t]
  simp only[pf,ih];by_cases hc:x.f=f/\x.args=args/\h.Q=x.h0.Q/\h.t=x.h0.t
  ·rw[if_pos hc,if_pos (e.2 hc)]
  ·rw[if_neg hc,if_neg (fun h=>hc (e.1 h))]
def kC(L_:List KE):b_:={fn:=fun f args h=>match pf L_ f args h with | some e=>U (.ret e.v,wj e.h1 (if e.q then min h.low h.Q else 0)) | none=>O,rnd:=fun _ _ _=>O}
structure vt (P:Program) (G:Bs) (e:KE):Prop where
 call:fx P G e.f e.args e.h0 (fun r h1=>r=.ret e.v/\h1=e.h1)
 Q:e.h0.Q<=e.h1.Q
 R:e.q=Y->∀ c,c < e.h0.Q->e.h1.A c=e.h0.A c
section
variable{P:Program}{E:d_ P}{G:Bs}
def Hq.own{h h':N}(q:Hq h h')(b:Nat):h'.own b=h.own b:=uv (q.A b)
def Vje{L_:List KE}(hL:∀ e ∈ L_,vt P G e):gr P G (kC L_):=by
 refine⟨fun f args h r h' hx => ?_,fun l args h r h' hx=>by cases hx⟩;simp only[kC]at hx;split at hx
 ·rename_i e he;obtain⟨hm,rfl,rfl,q⟩:=PY he;cases hx;intro Z w H hr;refine((hL e hm).call Z w (H.like q.Q.symm q.t.symm) hr).mono ?_;rintro e' w' ⟨Z',r,h1,⟨rfl,rfl⟩,q1,q2,q3,q4,q5⟩;refine⟨Z',_,_,⟨rfl,rfl⟩,q1,q2,by rw[q.Q];exact q3,?_,q5.like rfl rfl⟩;exact⟨q4.size,fun k hk hc=>q4.same k hk (fun b p hb ho=>hc b p hb (by rw[q.own];exact ho)),fun b p hb ho=>by
   rcases q4.owns b p hb ho with h | ⟨c,q',h1,h2,h3⟩
   ·exact .inl h
   ·exact .inr ⟨c,q',h1,by rw[q.own];exact h2,h3⟩,q4.tape,q4.os,q4.output,q4.drawn,by rw[q.Q];exact(hL e hm).Q⟩
 ·cases hx
def Vaf{L_:List KE}(hL:∀ e ∈ L_,vt P G e):gp (kC L_):=by
 refine⟨fun f args h r h' hx => ?_,fun l args h r h' hx=>by cases hx⟩;simp only[kC]at hx;split at hx
 ·rename_i e he;obtain⟨hm,rfl,rfl,q⟩:=PY he;cases hx;refine⟨by rw[q.Q];exact(hL e hm).Q,?_,fun b hb hl => ?_⟩
  ·show(if e.q then min h.low h.Q else 0)<=h.low;split
   ·exact Nat.min_le_left _ _
   ·exact Nat.zero_le _
  ·have hc:b < (if e.q then min h.low h.Q else 0):=hl;split at hc
   next hq=>have:=(hL e hm).R hq b (by rw[<- q.Q];exact hb);show e.h1.A b=h.A b;rw[this,q.A]
   ·omega
 ·cases hx
def runT{P:Program}(E:d_ P)(L_:List KE)(ops:List Oper)(B:List Nat):List Oper->Nat->St->Option (St × List (Option iU))
 | [],_,s=>U (s,[])
 | o::r,i,s =>
  if !(jY s o.dst && J4 o)then O else
  match Qg ops s.t o with
  | none=>O
  | some J=>mX O (runT E L_ ops B r (i+1) (s.put o.dst Qq s.h))
  | some Y=>match U9 E o,iN E s.t s.h o with
   | 0,U (.val v h1)=>if !Zo o || (loadAt E s.t o).isSome then mX (if Zo o then U (.ld s.t o)else O) (runT E L_ ops B r (i+1) (s.put o.dst v h1))else O
   | 1,U (.val v h1)=>mX O (runT E L_ ops B r (i+1) (s.put o.dst v h1))
   | 2,U (.val v h1)=>if W8 E i ((gS B i).getD 0) ops B 0 then mX (U (.wr s.h h1)) (runT E L_ ops B r (i+1) (s.put o.dst v h1))else O
   | 2,U (.skip h1)=>if W8 E i ((gS B i).getD 0) ops B 0 then mX (U (.wr s.h h1)) (runT E L_ ops B r (i+1) (s.put o.dst Qq h1))else O
   | 3,U (.enter f args h1)=>match pf L_ f args h1 with
    | some e=>if e.q || W8 E i ((gS B i).getD 0) ops B 0 then mX (if e.q then O else U (.wr s.h e.h1)) (runT E L_ ops B r (i+1) (s.put o.dst e.v e.h1))else O
    | none=>O
   | _,_=>O
def MM:Option iU->Option iU->Prop
 | none,O=>True
 | some (.ld t o),U (.ld t' o')=>t=t'/\o=o'
 | some (.wr _ _),O=>True
 | some (.wr h0 h1),U (.wr g0 g1)=>Hq h0 g0/\Hq h1 g1
 | _,_=>False
def EJ:List (Option iU)->List (Option iU)->Prop
 | [],[]=>True
 | x::l,y::r=>MM x y/\EJ l r
 | _,_=>False
def Vfc{h h':N}(q:Hq h h')(t:Tm)(o:Oper):kT E t o h'=kT E t o h:=by
 unfold kT;split
 ·split
  ·simp only[jy];split
   ·exact HQ (q.A _) _
   ·rfl
  ·rfl
 ·split
  ·rename_i a b _ _;unfold mW;have : qi a h'=qi a h:=by
    unfold qi;simp only[q.A]
   simp only[this]
  ·rfl
 ·rfl
def Jyv{i bi:Nat}{h0 h1 g0 g1:N}(q0:Hq h0 g0)(q1:Hq h1 g1)(R:List (Option iU)):∀ (Ry:List (Option iU)) (Bs:List Nat) (k:Nat),EJ R Ry->Ym E i bi h0 h1 R Bs k=Y->Ym E i bi g0 g1 Ry Bs k=Y:=by
 induction R with
 | nil =>
  intro Ry Bs k hr _;cases Ry with
  | nil=>rfl
  | cons y Ry=>exact hr.elim
 | cons x R ih =>
  intro Ry Bs k hr h;cases Ry with
  | nil=>exact hr.elim
  | cons y Ry =>
   obtain⟨hx,hr⟩:=hr;cases Bs with
   | nil=>cases y with
    | none=>rfl
    | some y=>cases y <;> rfl
   | cons b Bs =>
    cases x with
    | none =>
     cases y with
     | none=>exact ih Ry Bs (k+1) hr h
     | some y=>exact hx.elim
    | some x =>
     cases x with
     | ld t o =>
      cases y with
      | none=>exact hx.elim
      | some y =>
       cases y with
       | ld t' o' =>
        obtain⟨rfl,rfl⟩:=hx;simp only[Ym,Bool.and_eq_true]at h ⊢;rw[Vfc q0,Vfc q1];exact⟨h.1,ih Ry Bs (k+1) hr h.2⟩
       | wr _ _=>exact hx.elim
     | wr a c =>
      cases y with
      | none=>exact ih Ry Bs (k+1) hr h
      | some y =>
       cases y with
       | ld _ _=>exact hx.elim
       | wr _ _=>exact ih Ry Bs (k+1) hr h
def J12{R0 hc:List (Option iU)}{B0:List Nat}(h2:EJ R0 hc)(R:List (Option iU)):∀ (Ry:List (Option iU)) (Bs:List Nat) (i:Nat),EJ R Ry->Zj E R0 B0 R Bs i=Y->Zj E hc B0 Ry Bs i=Y:=by
 induction R with
 | nil =>
  intro Ry Bs k hr _;cases Ry with
  | nil=>rfl
  | cons y Ry=>exact hr.elim
 | cons x R ih =>
  intro Ry Bs k hr h;cases Ry with
  | nil=>exact hr.elim
  | cons y Ry =>
   obtain⟨hx,hr⟩:=hr;cases Bs with
   | nil=>cases y with
    | none=>rfl
    | some y=>cases y <;> rfl
   | cons b Bs =>
    cases x with
    | none =>
     cases y with
     | none=>exact ih Ry Bs (k+1) hr h
     | some y=>exact hx.elim
    | some x =>
     cases x with
     | ld t o =>
      cases y with
      | none=>exact hx.elim
      | some y =>
       cases y with
       | ld t' o'=>exact ih Ry Bs (k+1) hr h
       | wr _ _=>exact hx.elim
     | wr a c =>
      simp only[Zj,Bool.and_eq_true]at h;cases y with
      | none=>exact ih Ry Bs (k+1) hr h.2
      | some y =>
       cases y with
       | ld _ _=>exact hx.elim
       | wr g0 g1 =>
        simp only[Zj,Bool.and_eq_true];exact⟨Jyv hx.1 hx.2 _ _ _ _ h2 h.1,ih Ry Bs (k+1) hr h.2⟩
def Ej{x:Option iU}{y:Option (St × List (Option iU))}{s1:St}{R:List (Option iU)}(h:mX x y=U (s1,R)):∃ R',y=U (s1,R')/\R=x::R':=by
 cases y with
 | none=>cases h
 | some y=>cases h;exact⟨_,rfl,rfl⟩
def Vjc{o:Oper}(hk:U9 E o=0){t:Tm}{h h':N}(q:Hq h h'){v:V}{h1:N}(hr:iN E t h o=U (.val v h1)):h1=h/\iN E t h' o=U (.val v h'):=by
 rcases Vfd hk with hf | hf
 ·obtain⟨u,e,h2, -, -⟩:=QE (E:=E) (o:=o) (by unfold zp;rw[hf];rfl) (h':=h') q.A hr;cases e;exact⟨rfl,h2⟩
 ·unfold Zo at hf;split at hf
  next ty a hc=>obtain⟨u,e,h2, -, -⟩:=QE (E:=E) (o:=o) (by unfold zp;simp[hc]) (h':=h') q.A hr;cases e;exact⟨rfl,h2⟩
  ·rename_i ty x k ok hc;simp only[iN,hc]at hr ⊢;cases hx:g_ E.G t x with
   | none=>simp[hx]at hr
   | some y =>
    cases hy:g_ E.G t k with
    | none=>simp[hx,hy]at hr
    | some z =>
     simp only[hx,hy]at hr ⊢;obtain⟨u,e,e2⟩:=J4c hr;cases e2;have : mW E.toiS ty y z ok h'=mW E.toiS ty y z ok h:=by
      unfold mW;have : qi y h'=qi y h:=by
       unfold qi;simp only[q.A]
      simp only[this]
     rw[this,e];exact⟨rfl,rfl⟩
  ·cases hf
def TV{L_:List KE}{ops:List Oper}{B:List Nat}:∀ (l:List Oper) (i:Nat) (s s1 sx:St) (R:List (Option iU)),runT E L_ ops B l i s=U (s1,R)->lg s sx->∃ sy Ry,sE E (kC L_) ops B l i sx=U (sy,Ry)/\lg s1 sy/\EJ R Ry
 | [],i,s,s1,sx,R,h,k=>by
  simp only[runT,Option.some.injEq,Prod.mk.injEq]at h;obtain⟨rfl,rfl⟩:=h;exact⟨sx,[],rfl,k,trivial⟩
 | o::r,i,s,s1,sx,R,h,k=>by
  have h3:jY sx o.dst=jY s o.dst:=by cases o.dst <;> simp[jY,k.t]
  have hb:∀ (v:V) (h h':N),Hq h h'->lg (s.put o.dst v h) (sx.put o.dst v h'):=fun v h h' q=>by
   cases o.dst with
   | none=>exact⟨k.t,k.ds,q.Q,q.t⟩
   | some d=>exact⟨by simp[St.put,k.t],k.ds,q.Q,q.t⟩
  have hw:Qg ops sx.t o=Qg ops s.t o:=by rw[k.t]
  have kq:Hq s.h sx.h:=⟨k.Q,k.tr⟩;have kr:Hq s.h (mS sx.h):=⟨k.Q,k.tr⟩;simp only[runT]at h;split at h
  ·cases h
  ·rename_i hd;have hp:(jY sx o.dst && J4 o)=Y:=by rw[h3];simpa using hd
   split at h
   ·cases h
   next ls=>obtain⟨R',h',rfl⟩:=Ej h;obtain⟨sy,Ry,e1,e2,e3⟩:=TV r (i+1) _ _ (sx.put o.dst Qq sx.h) _ h' (hb Qq _ _ kq);exact⟨sy,O::Ry,by simp only[sE,hp,Bool.not_true,Bool.false_eq_true,if_false,hw,ls,e1,mX],e2,trivial,e3⟩
   ·rename_i hy;have go:∀ (v:V) (h1 hr:N) (x:Option iU),mh E (kC L_) o sx.t (mS sx.h)=U (v,hr)->Hq h1 hr->u9 E ops B i o sx hr=Y->MM x (uR E sx o hr)->∀ R',runT E L_ ops B r (i+1) (s.put o.dst v h1)=U (s1,R') ->
      ∃ sy Ry,sE E (kC L_) ops B (o::r) i sx=U (sy,Ry)/\lg s1 sy/\EJ (x::R') Ry:=by
     intro v h1 hr x f1 f2 f3 f4 R' h';obtain⟨sy,Ry,e1,e2,e3⟩:=TV r (i+1) _ _ (sx.put o.dst v (yl sx.h hr)) _ h' (hb v _ _ ⟨f2.Q,f2.t⟩);exact⟨sy,uR E sx o hr::Ry,by simp only[sE,hp,Bool.not_true,Bool.false_eq_true,if_false,hw,hy,f1,f3,if_true,e1,mX],e2,f4,e3⟩
    split at h
    ·
     rename_i v h1 hk ha;split at h
     ·rename_i hl;obtain⟨R',h',rfl⟩:=Ej h;obtain⟨rfl,a2⟩:=Vjc hk kr ha;refine go v s.h (mS sx.h) _ (by rw[k.t];simp only[mh,a2]) kr ?_ ?_ R' h'
      ·unfold u9;rw[Bool.and_eq_true];exact⟨by simp[mS],by rw[k.t];exact hl⟩
      ·unfold uR;split
       ·exact⟨k.t.symm,rfl⟩
       ·rename_i Z';rcases Vfd hk with hf | hf
        ·rw[if_pos hf];trivial
        ·exact absurd hf Z'
     ·cases h
    ·
     rename_i v h1 hk ha;obtain⟨R',h',rfl⟩:=Ej h;obtain⟨v2,g1,h2,b1,b2,b3,b4, -⟩:=Vjb hk kr ha;cases b1;have hc:J0 E o=J/\Zo o=J:=by
      unfold U9 at hk;split at hk
      ·cases hk
      next hq=>simpa using hq
     have wj:Nat.ble sx.h.Q h2.low=Y:=(by rw[b4];simp[mS]);refine go v h1 h2 O (by rw[k.t];simp only[mh,b2]) b3 ?_ ?_ R' h'
     ·unfold u9;rw[Bool.and_eq_true];exact⟨by simp[wj],by simp[hc.2]⟩
     ·unfold uR;simp[hc.1,hc.2,wj,MM]
    ·
     rename_i v h1 hk ha;split at h
     ·rename_i hx;obtain⟨R',h',rfl⟩:=Ej h;have hc:J0 E o=J/\Zo o=J:=by
       unfold U9 at hk;split at hk
       ·cases hk
       next hq=>simpa using hq
      rcases Vgy hk kr ha with⟨v2,g1,h2,b1,b2,b3⟩ | ⟨g1,h2,b1, -, -⟩
      ·cases b1;refine go v h1 h2 _ (by rw[k.t];simp only[mh,b2]) b3 ?_ ?_ R' h'
       ·unfold u9;rw[Bool.and_eq_true];exact⟨by simp[hx],by simp[hc.2]⟩
       ·unfold uR;simp only[hc.1,hc.2,Bool.false_eq_true,if_false];split
        ·trivial
        ·exact⟨kq,b3⟩
      ·cases b1
     ·cases h
    ·rename_i h1 hk ha;split at h
     ·rename_i hx;obtain⟨R',h',rfl⟩:=Ej h;have hc:J0 E o=J/\Zo o=J:=by
       unfold U9 at hk;split at hk
       ·cases hk
       next hq=>simpa using hq
      rcases Vgy hk kr ha with⟨v2,g1,h2,b1, -, -⟩ | ⟨g1,h2,b1,b2,b3⟩
      ·cases b1
      ·cases b1;refine go Qq h1 h2 _ (by rw[k.t];simp only[mh,b2]) b3 ?_ ?_ R' h'
       ·unfold u9;rw[Bool.and_eq_true];exact⟨by simp[hx],by simp[hc.2]⟩
       ·unfold uR;simp only[hc.1,hc.2,Bool.false_eq_true,if_false];split
        ·trivial
        ·exact⟨kq,b3⟩
     ·cases h
    ·
     rename_i f args h1 hk ha;split at h
     ·rename_i e he;split at h
      ·rename_i hx;obtain⟨R',h',rfl⟩:=Ej h;have hc:J0 E o=J/\Zo o=J:=by
        unfold U9 at hk;split at hk
        ·cases hk
        next hq=>simpa using hq
       obtain⟨rfl,b2⟩:=Vk6 (h':=mS sx.h) hk ha;have hA:pf L_ f args (mS sx.h)=U e:=by rw[Vao kr];exact he
       refine go e.v e.h1 (wj e.h1 (if e.q then min (mS sx.h).low (mS sx.h).Q else 0)) _ (by rw[k.t];simp only[mh,b2,kC,hA]) ⟨rfl,rfl⟩ ?_ ?_ R' h'
       ·unfold u9;rw[Bool.and_eq_true];refine⟨?_,by simp[hc.2]⟩;cases hq:e.q with
        | true=>simp[mS,wj]
        | false=>rw[hq]at hx;simp at hx;simp[hx]
       ·unfold uR;simp only[hc.1,hc.2,Bool.false_eq_true,if_false];cases hq:e.q with
        | true=>simp[mS,wj,MM]
        | false =>
         simp only[Bool.false_eq_true,if_false];split
         ·trivial
         ·exact⟨kq,⟨rfl,rfl⟩⟩
      ·cases h
     ·cases h
    ·cases h
def Jh0{L_:List KE}{ops:List Oper}{B:List Nat}{s s1:St}{R:List (Option iU)}(hB:i' ops []=U B)(hp:ji ops ops B []=Y)(hx:runT E L_ ops B ops 0 s=U (s1,R))(hc:Zj E R B R B 0=Y):∃ sy,th E (kC L_) ops s=U sy/\lg s1 sy:=by
 obtain⟨sy,Ry,h1,h2,h3⟩:=TV ops 0 s s1 s R hx ⟨rfl,rfl,rfl,rfl⟩;exact⟨sy,by unfold th;simp only[hB,hp,if_true,h1,J12 h3 _ _ _ _ h3 hc],h2⟩
def J80(E:d_ P){L_:List KE}(hL:∀ e ∈ L_,vt P E.G e)(hm:P.follows .mixedOrders=Y){rd:Option Nat}{id:Nat}{ops:Array Oper}{B:List Nat}{K:Exit->St->Prop}{s s1:St}{R:List (Option iU)}(hB:i' ops.toList []=U B)(hp:ji ops.toList ops.toList B []=Y)
  (hx:runT E L_ ops.toList B ops.toList 0 s=U (s1,R)) (hc:Zj E R B R B 0=Y) (hk:K .normal s1):CW P E.G rd s.h.Q (.region id ops Y) s K:=by
 obtain⟨sy,hd,h2⟩:=Jh0 hB hp hx hc;refine fun Z a w S_ hl=>wpIn_mono (Yvt E (Vje hL) (Vaf hL) hm hd (Q:=fun e s'=>e=.normal/\s'=sy) ⟨rfl,rfl⟩ Z a w S_ hl) ?_;rintro e' a' w' ⟨Z',e,s',⟨rfl,rfl⟩,h4,h5,h6,h7,h8⟩;have k2:lg s' s1:=⟨h2.t.symm,h2.ds.symm,h2.Q.symm,h2.tr.symm⟩;refine⟨Z',.normal,s1,hk,h4,h5,h6,?_,h8.low k2⟩;have hr:∀ b,s1.h.own b=s'.h.own b:=fun b=>uv (k2.A b);exact⟨h7.size,h7.same,fun b p hb ho=>h7.owns b p hb (by rw[<- hr];exact ho),h7.tape,h7.os,h7.output,h7.drawn,by rw[k2.Q];exact h7.Q⟩
def J17{L_:List KE}(hL:∀ e ∈ L_,vt P G e){ops:List Oper}{B:List Nat}{s s1:St}{R:List (Option iU)}(hB:i' ops []=U B)(hp:ji ops ops B []=Y)(hx:runT E L_ ops B ops 0 s=U (s1,R))(hc:Zj E R B R B 0=Y):s.h.Q<=s1.h.Q:=by
 obtain⟨sy,hd,h2⟩:=Jh0 hB hp hx hc;have:=(Jke (Vaf hL) hd).Q;rw[h2.Q]at this;exact this
def ze:Option iU->Option iU
 | some (.ld t o)=>U (.ld t (bare o))
 | x=>x
def Zf1{j bj:Nat}:∀ (l:List Oper) (B:List Nat) (i:Nat),W8 E j bj (l.map bare) B i=W8 E j bj l B i
 | [],_,_=>rfl
 | o::r,[],_=>rfl
 | o::r,b::B,i=>by
  simp only[List.map_cons,W8,Zf1 r B];rfl
def zw{x:Option iU}{y:Option (St × List (Option iU))}:(mX x y).map (fun p=>(p.1,p.2.map ze))=mX (ze x) (y.map fun p=>(p.1,p.2.map ze)):=by
 cases y <;> rfl
def Jmq{L_:List KE}{ops:List Oper}{B:List Nat}:∀ (l:List Oper) (i:Nat) (s:St),runT E L_ (ops.map bare) B (l.map bare) i s=(runT E L_ ops B l i s).map (fun p=>(p.1,p.2.map ze))
 | [],i,s=>rfl
 | o::r,i,s=>by
  have e1:U9 E (bare o)=U9 E o:=rfl;have e2:iN E s.t s.h (bare o)=iN E s.t s.h o:=rfl;have e3:Zo (bare o)=Zo o:=rfl;have e4:loadAt E s.t (bare o)=loadAt E s.t o:=rfl;have e5:(bare o).dst=o.dst:=rfl;have e6:J4 (bare o)=J4 o:=rfl;simp only[List.map_cons,runT,Er,Zf1,Jmq r,e1,e2,e3,e4,e5,e6];split
  ·rfl
  ·split
   ·rfl
   ·rw[zw];rfl
   ·split <;> first
     | rfl
     | (split <;> first
       | rfl
       | (rw[zw];done)
       | (rw[zw];rfl)
       | (rw[zw];congr 1;split <;> rfl)
       | (split <;> first
         | rfl
         | (rw[zw];done)
         | (rw[zw];rfl)
         | (rw[zw];congr 1;split <;> rfl)))
     | (rw[zw];done)
     | (rw[zw];rfl)
def Y36{i bi:Nat}{h0 h1:N}:∀ (R:List (Option iU)) (Bs:List Nat) (k:Nat),Ym E i bi h0 h1 (R.map ze) Bs k=Ym E i bi h0 h1 R Bs k
 | [],_,_=>rfl
 | x::R,[],_=>by cases x with
  | none=>rfl
  | some x=>cases x <;> rfl
 | x::R,b::Bs,k=>by
  have:=Y36 R Bs (k+1) (i:=i) (bi:=bi) (h0:=h0) (h1:=h1);cases x with
  | none=>exact this
  | some x=>cases x with
   | ld t o=>simp only[List.map_cons,ze,Ym,this];rfl
   | wr a c=>exact this
def Zfc{R0:List (Option iU)}{B0:List Nat}:∀ (R:List (Option iU)) (Bs:List Nat) (i:Nat),Zj E (R0.map ze) B0 (R.map ze) Bs i=Zj E R0 B0 R Bs i
 | [],_,_=>rfl
 | x::R,[],_=>by cases x with
  | none=>rfl
  | some x=>cases x <;> rfl
 | x::R,b::Bs,i=>by
  have:=Zfc (R0:=R0) (B0:=B0) R Bs (i+1);cases x with
  | none=>exact this
  | some x=>cases x with
   | ld t o=>exact this
   | wr a c=>simp only[List.map_cons,ze,Zj,this,Y36]
end
section
variable{P:Program}{E:d_ P}{C:b_}{ops ops':Array Oper}{B:List Nat}{σ:Nat->St}
variable{Z0 Z:Ren}{w0 w:World}{listed:Array Bool}{a:Act}{T:Tm}{p:Nat}
def Z46(hc:ops'.size=ops.size)(hx:∀ i:Nat,(ops'[i]?).map (·.after)=(ops[i]?).map (·.after)):Region.ready .any ops' listed=Region.ready .any ops listed:=by
 unfold Region.ready;rw[hc];congr 1;funext j;have:=hx j;cases h1:ops'[j]? with
 | none =>
  cases h2:ops[j]? with
  | none=>rfl
  | some o2=>rw[h1,h2]at this;cases this
 | some o1 =>
  cases h2:ops[j]? with
  | none=>rw[h1,h2]at this;cases this
  | some o2 =>
   rw[h1,h2]at this;simp only[Option.map_some,Option.some.injEq]at this;simp only[Option.map_some,this]
def J6p{rd:Option Nat}{Q:Exit->Act->World->Prop}{β:Ren}(hl:listed.size=ops.size)(hc:∀ j,j < ops.size->je listed j){w:World}(hq:Q .normal a w):∀ hx,wpAnyIn (kZ rd β) 0 P .any ops Q hx listed a w:=by
 have hn:Region.ready .any ops listed=[]:=by
  cases h:Region.ready .any ops listed with
  | nil=>rfl
  | cons i r =>
   obtain⟨o,ho,h2, -⟩:=LS hl (show i ∈ Region.ready .any ops listed by rw[h];simp);exact absurd (hc i (xC ho)) h2
 intro hx;cases hx with
 | zero=>exact⟨hn,hq⟩
 | succ n=>exact⟨fun _=>hq,fun i hi=>by rw[hn]at hi;cases hi⟩
def Vaw{rd:Option Nat}{Q:Exit->Act->World->Prop}{β:Ren}{p0:Nat}(hB:ops'.size=ops.size)(es:∀ i:Nat,(ops'[i]?).map (·.after)=(ops[i]?).map (·.after))(s':∀ i:Nat,(ops'[i]?).map (·.dst)=(ops[i]?).map (·.dst))
  (c:iQ E C ops' B σ) (hC:gr P E.G C) (hL:gp C) (g1:∀ i,i<=ops'.size->∃ Z' w' hA,bN E.G Z' (σ i).h w'/\iW Z' (σ i).t hA) (q1:p0 < ops'.size)
  (hp:∀ (i b:Nat),B[i]? = U b->i≠p0->b.testBit p0=J->ops'[i]? = ops[i]?)
  (hg:∀ (listed:Array Bool) (Z:Ren) (a:Act) (w:World) (T:Tm) (p:Nat),Inv E ops' B σ Z0 w0 listed Z a w T p->¬ je listed p0->(∀ o,ops'[p0]? = U o->∀ e ∈ o.after.toList,Region.binds .any e=Y->je listed e.on)->∀ K:Act->World->Prop,((∀ j,j < ops.size->j≠p0->je listed j)->∀ a' w',Q .normal a' w'->K a' w')->wpOpIn (kZ rd β) 0 P ops Q p0 K a w) :
  ∀ (hx:Nat) (listed:Array Bool) (Z:Ren) (a:Act) (w:World) (T:Tm) (p:Nat),listed.size=ops'.size->listed.toList.count J<=hx->Inv E ops' B σ Z0 w0 listed Z a w T p->¬ je listed p0->wpAnyIn (kZ rd β) 0 P .any ops Q hx listed a w:=by
 have hy:∀ (hk:Array V),yielded ops hk=yielded ops' hk:=by
  intro hk;funext j;have:=s' j;unfold yielded;cases h1:ops'[j]? with
  | none =>
   cases h2:ops[j]? with
   | none=>rfl
   | some o2=>rw[h1,h2]at this;cases this
  | some o1 =>
   cases h2:ops[j]? with
   | none=>rw[h1,h2]at this;cases this
   | some o2 =>
    rw[h1,h2]at this;simp only[Option.map_some,Option.some.injEq]at this;simp only[Option.bind_some];rw[this]
 intro hx;induction hx with
 | zero =>
  intro listed Z a w T p hl hc I_ hn;exfalso;have h3:p0 < L listed.toList:=by simpa[hl]using q1
  have hz:listed.toList.count J=0:=jA
  rw[List.count_eq_zero]at hz;refine hz ?_;have : listed.toList[p0]=J:=by
   simp only[je,Array.getD_eq_getD_getElem?]at hn;rw[Array.getElem?_eq_getElem jA]at hn;simpa using hn
  rw[<- this];exact List.getElem_mem h3
 | succ hx ih =>
  intro listed Z a w T p hl hc I_ hn;refine⟨fun s1=>absurd (Py c hl (by rw[Z46 hB es];exact s1) p0 q1) hn,fun i hi => ?_⟩;rw[<- Z46 hB es]at hi;obtain⟨o,ho,ls,hr⟩:=LS hl hi;by_cases e1:i=p0
  ·subst e1;exact hg listed Z a w T p I_ hn (fun o' h4=>by rw[ho]at h4;cases h4;exact hr) _ fun e2 a' w' hq=>J6p (by simpa[hB]using hl) (fun j hj=>by
    rw[Oo jA];by_cases e:j=i
    ·exact .inl e
    ·exact .inr (e2 j hj e)) hq _
  ·obtain⟨bi,q2⟩:=DV c (xC ho);have hf:bi.testBit p0=J:=by
    cases hb:bi.testBit p0 with
    | false=>rfl
    | true=>exact absurd (H_ c I_.down ho hr q2 hb) hn
   have he:=hp i bi q2 e1 hf;have hm:∀ K,wpOpIn (kZ rd β) 0 P ops' Q i K a w->wpOpIn (kZ rd β) 0 P ops Q i K a w:=by
    intro K h;unfold wpOpIn at h ⊢;rw[<- he,hy];exact h
   refine hm _ (Ju5 c hC hL g1 I_ ho ls hr hl fun Z' a' w' T' p' I'=>ih _ Z' a' w' T' p' (by simpa using hl) ?_ I' ?_)
   ·have h3:i < L listed.toList:=(by have:=xC ho;simpa[hl]using this);have : listed.toList[i]=J:=by
     simp only[je,Array.getD_eq_getD_getElem?]at ls;rw[Array.getElem?_eq_getElem (by simpa using h3)]at ls;simpa using ls
    rw[Array.toList_setIfInBounds,List.count_set h3,this];have a1:0 < listed.toList.count J:=by
     rw[List.count_pos_iff,<- this];exact List.getElem_mem h3
    rw[if_pos (by rfl),if_neg qA];omega
   ·rw[Oo (by have:=xC ho;omega)];rintro(h | h)
    ·exact e1 h.symm
    ·exact hn h
def vw(p0:Nat)(f:FuncId)(args:Array Operand)(i b:Nat)(o:Oper):Oper :=
 if i=p0 then {o with op:=.makeFunc (.func f) args #[]} else if b.testBit p0 then {o with op:=.assign (.const (.bool J))} else o
def mI(p0:Nat)(f:FuncId)(args:Array Operand):List Oper->List Nat->Nat->List Oper
 | o::l,b::B,i=>vw p0 f args i b o::mI p0 f args l B (i+1)
 | _,_,_=>[]
def DJ(d0 p0:Nat):List Oper->Nat->Bool
 | [],_=>Y
 | o::l,i=>(i == p0 || (match o.dst with | some d=>d != d0 | none=>Y)) && DJ d0 p0 l (i+1)
variable{p0 d0:Nat}{f:FuncId}{args:Array Operand}
def P0(i b:Nat)(o:Oper):(vw p0 f args i b o).after=o.after/\(vw p0 f args i b o).dst=o.dst/\(vw p0 f args i b o).guard=o.guard:=by
 unfold vw;split
 ·exact⟨rfl,rfl,rfl⟩
 ·split <;> exact⟨rfl,rfl,rfl⟩
def J2s(i b:Nat)(o:Oper):vw p0 f args i b (bare o)=bare (vw p0 f args i b o):=by
 unfold vw;split
 ·rfl
 ·split <;> rfl
def Jfj:∀ (l:List Oper) (B:List Nat) (i:Nat),mI p0 f args (l.map bare) B i=(mI p0 f args l B i).map bare
 | [],_,_=>by simp[mI]
 | o::l,[],_=>by simp[mI]
 | o::l,b::B,i=>by simp only[List.map_cons,mI,Jfj l,J2s]
def Jtv:∀ (l:List Oper) (B:List Nat) (i:Nat),L B=L l->L (mI p0 f args l B i)=L l/\∀ k:Nat,(mI p0 f args l B i)[k]? = match l[k]?,B[k]? with | some o,U b=>U (vw p0 f args (i+k) b o) | _,_=>O
 | [],[],_,_=>⟨rfl,fun k=>by simp[mI]⟩
 | [],b::B,_,h=>by simp at h
 | o::l,[],_,h=>by simp at h
 | o::l,b::B,i,h=>by
  obtain⟨h1,h2⟩:=Jtv l B (i+1) (by simpa using h);refine⟨by simp[mI,h1],fun k => ?_⟩;cases k with
  | zero=>simp[mI]
  | succ k =>
   have:=h2 k;simp only[mI,List.getElem?_cons_succ];rw[this,show i+1+k=i+(k+1) by omega]
def Jux:∀ (l:List Oper) (B0 B:List Nat),i' l B0=U B->L B=L B0+L l
 | [],B0,B,h=>by simp only[i',Option.some.injEq]at h;simp[h]
 | o::l,B0,B,h=>by
  simp only[i']at h;split at h
  ·have:=Jux l _ _ h;simp only[List.length_append,List.length_cons,List.length_nil]at this ⊢;omega
  ·cases h
def Jvd:∀ (l:List Oper) (Bs:List Nat) (i:Nat) (B0:List Nat),L Bs=L l->i' (mI p0 f args l Bs i) B0=i' l B0
 | [],[],_,_,_=>rfl
 | [],b::B,_,_,h=>by simp at h
 | o::l,[],_,_,h=>by simp at h
 | o::l,b::B,i,B0,h=>by
  simp only[mI,i',(P0 i b o).1];split
  ·exact Jvd l B _ _ (by simpa using h)
  ·rfl
def Zq9:∀ (l:List Oper) (i:Nat),DJ d0 p0 l i=Y->∀ (k:Nat) (o:Oper),l[k]? = U o->i+k≠p0->o.dst≠U d0
 | [],_,_,k,o,h,_=>by simp at h
 | x::l,i,hd,k,o,h,hx=>by
  simp only[DJ,Bool.and_eq_true,Bool.or_eq_true,beq_iff_eq]at hd;cases k with
  | zero =>
   simp only[List.getElem?_cons_zero,Option.some.injEq]at h;subst h;intro e;rcases hd.1 with h1 | h1
   ·exact hx jA
   ·rw[e]at h1;simp at h1
  | succ k=>exact Zq9 l (i+1) hd.2 k o (by simpa using h) jA
def Jth{l l':List Oper}{t:Tm}{o o':Oper}(hg:o'.guard=o.guard)(hd:∀ i:Nat,(gS l' i).map (·.dst)=(gS l i).map (·.dst)):Qg l' t o'=Qg l t o:=by
 unfold Qg;rw[hg];cases o.guard with
 | none=>rfl
 | some g =>
  obtain⟨j,hx⟩:=g;have:=hd j;show(match gS l' j with | none=>_ | some oj=>_)=(match gS l j with | none=>_ | some oj=>_);cases h1:gS l' j with
  | none =>
   cases h2:gS l j with
   | none=>rfl
   | some o2=>rw[h1,h2]at this;cases this
  | some o1 =>
   cases h2:gS l j with
   | none=>rw[h1,h2]at this;cases this
   | some o2 =>
    rw[h1,h2]at this;simp only[Option.map_some,Option.some.injEq]at this;simp only[this]
def Jak(c:iQ E C ops' B σ){i:Nat}{o:Oper}(ho:ops'[i]? = U o)(hr:zp E o=Y):rv E ops' σ i:=by
 refine⟨o,ho,?_⟩;by_cases hf:J0 E o=Y
 ·exact .inl hf
 ·simp only[zp,Bool.or_eq_true]at hr;have hl:Zo o=Y:=by
   rcases hr with h | h
   ·exact absurd h hf
   ·unfold Zo;split at h
    next hx=>rw[hx]
    ·cases h
  obtain⟨_,_,h⟩:=c.step i o ho;rcases h with⟨h,_⟩ | ⟨_,v,h1,hv,_,hs⟩
  ·exact .inr (.inl h)
  ·simp only[u9,Bool.and_eq_true]at hs;exact .inr (.inr (LP hl hs.2))
def Zta:∀ (l:List Oper),AS E l=Y->∀ (k:Nat) (o:Oper),l[k]? = U o->zp E o=Y
 | [],_,k,o,h=>by simp at h
 | x::l,hr,k,o,h=>by
  simp only[AS,Bool.and_eq_true]at hr;cases k with
  | zero=>simp only[List.getElem?_cons_zero,Option.some.injEq]at h;subst h;exact hr.1
  | succ k=>exact Zta l hr.2 k o (by simpa using h)
def Jn1{ops:Array Oper}{B:List Nat}{s s1:St}(hB:i' ops.toList []=U B)(h:th E C ops.toList s=U s1):∃ σ,iQ E C ops B σ/\σ 0=s/\σ ops.size=s1:=by
 unfold th at h;simp only[hB]at h;split at h
 ·rename_i hp;split at h
  ·rename_i s2 R hR;split at h
   ·rename_i hx;cases h;obtain⟨σ,e1,e2,e3,e4⟩:=Rj _ _ _ _ _ hR;have hc:sG ops.toList B:=by
     have:=Pz ops.toList [] [] B hB ⟨rfl,fun j o h=>by simp at h,fun j o b h=>by simp at h⟩;simpa using this
    refine⟨σ,⟨hc,fun j i oj oi b hj hi hb h2 => ?_,fun i o ho => ?_,R,hx,fun k o ho => ?_⟩,e1,by simpa using e2⟩
    ·have:=QZ hp j oj b (by simpa using hj) hb i oi (by simpa using h2) (by simpa using hi);exact this
    ·have:=e3 i o (by simpa using ho);simpa using this
    ·have:=e4 k o (by simpa using ho);simpa using this
   ·cases h
  ·cases h
 ·cases h
def TN(p0:Nat)(B:List Nat)(n:Nat):Bool:=match B[p0]? with
 | some b=>(List.range n).all fun j=>j == p0 || b.testBit j
 | none=>J
def TF(p0:Nat)(B:List Nat)(n:Nat)(s:St)(K:Exit->St->Prop)(r:ip)(h:N):Prop:=match r with
 | .panic ch => ∀ T:Tm,T.size=s.t.size->K (.panic ch) ⟨T,s.ds,h⟩
 | .ret _=>TN p0 B n=Y/\∀ T:Tm,T.size=s.t.size->K .normal ⟨T,s.ds,h⟩
def Vgx(E:d_ P){D0:b_}(hD:gr P E.G D0)(hL:gp D0)(hm:P.follows .mixedOrders=Y){rd:Option Nat}{id:Nat}{ops:Array Oper}{B:List Nat}{s s1:St}{K:Exit->St->Prop}{o:Oper}{c:Call}{l:List V}
  (hB:i' ops.toList []=U B) (hp:ji (mI p0 f args ops.toList B 0) (mI p0 f args ops.toList B 0) B []=Y) (ho:ops.toList[p0]? = U o) (x2:o.op=.call c) (pE:c.callee=.value (.func f)) (pC:c.args=args) (lb:o.dst=U d0) (p5:DJ d0 p0 ops.toList 0=Y)
  (hr:AS E (mI p0 f args ops.toList B 0)=Y) (hx:o8 E D0 O (mI p0 f args ops.toList B 0) (mI p0 f args ops.toList B 0) s=U (.normal,s1)) (hv:s1.t.t.A d0=U (.func (.func f) ⟨l⟩ #[])) (r1:(E.fn.A f).isSome=Y)
  (ls:fx P E.G f l s.h (TF p0 B ops.size s K)):CW P E.G rd s.h.Q (.region id ops Y) s K:=by
 have ud:L B=L ops.toList:=by simpa using Jux _ _ _ hB
 obtain⟨hq,a3⟩:=Jtv (p0:=p0) (f:=f) (args:=args) ops.toList B 0 ud;obtain⟨ops',hA⟩:∃ ops':Array Oper,ops'.toList=mI p0 f args ops.toList B 0:=⟨(mI p0 f args ops.toList B 0).toArray,rfl⟩;rw[<- hA]at hp hr hx hq;have x1:i' ops'.toList []=U B:=by rw[hA,Jvd _ _ _ _ ud,hB]
 have g3:∀ k:Nat,ops'[k]? = match ops[k]?,B[k]? with | some o,U b=>U (vw p0 f args k b o) | _,_=>O:=by
  intro k;have:=a3 k;rw[<- hA]at this;simpa using this
 have p1:ops'.size=ops.size:=by simpa using hq
 have pB:∀ (k:Nat),k < ops.size->∃ b,B[k]? = U b:=fun k hk=>⟨B[k]'(by rw[ud];simpa using hk),List.getElem?_eq_getElem _⟩;have hf:∀ {A:Type} (g:Oper->A),(∀ k b o,g (vw p0 f args k b o)=g o)->∀ i:Nat,(ops'[i]?).map g=(ops[i]?).map g:=by
  intro A g hg i;rw[g3 i];cases h1:ops[i]? with
  | none=>simp
  | some o1 =>
   obtain⟨b,hb⟩:=pB i (xC h1);simp[hb,hg]
 have z':=hf (·.after) fun k b o=>(P0 k b o).1;have h5:=hf (·.dst) fun k b o=>(P0 k b o).2.1;obtain⟨sy,R,h1,h2,h3⟩:=PK (B:=B) ops'.toList 0 s s1 s hr hx ⟨rfl,rfl,rfl,rfl⟩;have hd:th E D0 ops'.toList s=U sy:=by
  unfold th;simp only[x1,hp,if_true,h1,PU h3]
 obtain⟨σ,cn,e0,e1⟩:=Jn1 x1 hd;have hy:∀ j,j < ops'.size->rv E ops' σ j:=fun j hj=>Jak cn (by simp[hj]) (Zta _ hr j ops'[j] (by simp[hj]));have h6:p0 < ops.size:=xC (by simpa using ho);obtain⟨b0,ht⟩:=pB p0 h6;have e3:ops[p0]? = U o:=by simpa using ho
 have hC:ops'[p0]? = U {o with op:=.makeFunc (.func f) args #[]}:=by
  rw[g3 p0,e3];simp[ht,vw]
 have p3:p0 < ops'.size:=jA
 have aA:∀ k,p0+1+k<=ops'.size->(σ (p0+1+k)).t.t.A d0=(σ (p0+1)).t.t.A d0:=by
  intro k;induction k with
  | zero=>intro _;rfl
  | succ k ih =>
   intro cb;have m0:p0+1+k < ops'.size:=jA
   have hz:(ops'[p0+1+k]'m0).dst≠U d0:=by
    have h9:=h5 (p0+1+k);have es:p0+1+k < ops.size:=jA;rw[Array.getElem?_eq_getElem m0,Array.getElem?_eq_getElem es]at h9;simp only[Option.map_some,Option.some.injEq]at h9;rw[h9];exact Zq9 _ 0 p5 (p0+1+k) _ (by simp[es]) jA
   obtain⟨_,_,h⟩:=cn.step (p0+1+k) (ops'[p0+1+k]'m0) (by simp[m0]);rw[show p0+1+(k+1)=p0+1+k+1 by omega];rcases h with⟨_,h⟩ | ⟨_,v',h',_,h,_⟩ <;> (rw[h,ZI _ _ _ _ _ hz];exact ih jA)
 have Z':(σ (p0+1)).t.t.A d0=U (.func (.func f) ⟨l⟩ #[]):=by
  have:=aA (ops'.size-(p0+1)) jA;rw[show p0+1+(ops'.size-(p0+1))=ops'.size by omega,e1]at this;rw[<- this,show sy.t=s1.t from h2.t];exact hv
 obtain⟨eA,_,c1⟩:=cn.step p0 _ hC;have g1:Qg ops'.toList (σ p0).t {o with op:=.makeFunc (.func f) args #[]}=U Y/\kH E.G (σ p0).t args.toList=U l:=by
  rcases c1 with⟨_,h⟩ | ⟨hw,v',h9,hu,h,_⟩
  ·rw[h]at Z';simp only[lb]at Z';rw[QT]at Z';simp[Qq]at Z'
  ·refine⟨hw,?_⟩;rw[h]at Z';simp only[lb]at Z';rw[QT]at Z';simp only[Option.some.injEq]at Z';subst Z';simp only[mh,iN]at hu;cases he:kH E.G (σ p0).t args.toList with
   | none=>simp[he]at hu
   | some x =>
    simp only[he,kH,g0,AT]at hu;simp at hu;rw[<- hu.1]
 intro Z a w S_ pF;refine wpIn_region_any hm ?_;have H':bN E.G Z s.h {w with drawn:=w.drawn+1}:=S_.h.same rfl;have S':iu E.G Z s a {w with drawn:=w.drawn+1}:=⟨H',S_.t,S_.ds,S_.okd⟩;subst e0;refine Vaw (B:=B) (σ:=σ) (ops':=ops') (E:=E) (C:=D0) (Z0:=Z) (w0:={w with drawn:=w.drawn+1}) (p0:=p0) p1 z' h5 cn hD hL (cn.wf hD H' S_.t) p3 ?_ ?_ _ _ _ _ _ _ 0 (by simp[p1]) (by simp[p1]) (by rw[<- p1];exact Ji4 cn rfl S') ?_
 ·intro i b hb hz pD;rw[g3 i];cases h7:ops[i]? with
  | none=>simp
  | some oi=>simp[hb,vw,hz,pD]
 ·intro listed Z1 a1 w1 T p I_ hn hc K0 p4;have hp:p=0:=by
   rcases I_.last with h | ⟨j,h3,h4,_⟩
   ·exact h
   ·exact absurd (hy j (I_.small j h3)) h4
  subst hp;have e2:=I_.looks cn hC hn (fun e he p2=>hc _ hC e he p2);obtain⟨p7,p9⟩:=Jf5 (ops:=ops'.toList) (o:={o with op:=.makeFunc (.func f) args #[]}) (G:=E.G) e2;have hw:Qg ops.toList T o=U Y:=by
   rw[<- Jth (l:=ops.toList) (l':=ops'.toList) (o:=o) (o':={o with op:=.makeFunc (.func f) args #[]}) rfl ?_]
   ·exact p9.trans g1.1
   ·intro i;have:=h5 i;simpa[u0]using this
  have p6:kH E.G T args.toList=U l:=by
   rw[Ho (t':=(σ p0).t) fun x hx=>p7 x (by simpa[Op.operands]using hx)];exact g1.2
  unfold wpOpIn;rw[e3];simp only;rw[if_pos (wb (G:=E.G) I_.t hw)];have S1:iu E.G Z1 ⟨T,(σ 0).ds,(σ 0).h⟩ a1 w1:=⟨I_.h,I_.t,I_.ds,I_.okd⟩;have g2:Xu E (BV P E.G) rd o ⟨T,(σ 0).ds,(σ 0).h⟩ (fun e s'=>K e s'/\(e=.normal->TN p0 B ops.size=Y)):=by
   obtain⟨fn,r1⟩:=Option.isSome_iff_exists.1 r1;have m1:jY ⟨T,(σ 0).ds,(σ 0).h⟩ o.dst=Y:=by
    have h8:jY (σ p0) o.dst=Y:=eA;rw[lb]at h8 ⊢;simp only[jY]at h8 ⊢;rw[I_.ts,<- cn.size (i:=p0) jA];exact h8
   have ha:iN E T (σ 0).h o=U (.enter f l (σ 0).h):=by
    simp only[iN,x2,pC,p6,pE,g_,Qi,r1];simp
   simp only[Xu,m1,x2,ha];refine ls.mono fun r h1 hr => ?_;cases r with
   | panic ch=>exact⟨hr T I_.ts,fun e=>by cases e⟩
   | ret v =>
    show K .normal (St.put ⟨T,(σ 0).ds,(σ 0).h⟩ o.dst v h1)/\_;rw[lb];exact⟨hr.2 (T.put d0 v) I_.ts,fun _=>hr.1⟩
  rw[<- (Ey (n:=0) S_ I_.ext pF).1];refine Ja9 E (kE _ _) g2 S1 ?_ ?_
  ·rintro Z2 a2 w2 s2 ⟨q1,q2⟩ q3 q4 q5;refine p4 (fun j hj hz => ?_) a2 w2 ⟨Z2,.normal,s2,q1,rfl,trivial,I_.ext.trans q3 (Nat.le_refl _),?_,q5⟩
   ·have hl:=q2 rfl;unfold TN at hl;rw[ht]at hl;have:=List.all_eq_true.1 hl j (List.mem_range.2 hj);rcases Bool.or_eq_true _ _ ▸ this with h | h
    ·exact absurd (by simpa using h) hz
    ·exact H_ cn I_.down hC (fun e he p2=>hc _ hC e he p2) ht h
   ·exact(f_.drew _ _ _ (Nat.le_succ _)).trans (I_.turn.trans q4)
  ·rintro Z2 a2 w2 s2 r2 ⟨q1, -⟩ q3 q4 q5 q6;refine⟨Z2,.panic r2,s2,q1,rfl,q6,I_.ext.trans q3 (Nat.le_refl _),?_,q5⟩;exact(f_.drew _ _ _ (Nat.le_succ _)).trans (I_.turn.trans q4)
 ·intro hj;simp only[je,Array.getD_eq_getD_getElem?,Array.getElem?_replicate]at hj;split at hj <;> simp at hj
end
section
variable{P:Program}{E:d_ P}{C:iM}{ops:Array Oper}
def takes(o:Oper):Bool:=match o.op with
 | .move _ | .assign _ | .build .. => Y
 | .call c=>match c.callee with
  | .builtin .max | .builtin .min=>Y
  | _=>J
 | _=>J
def J34{Z:Ren}{h:N}{w:World}(H:bN E.G Z h w){t:Tm}{a:Act}(ht:iW Z t a.tmps){o:Oper}(hf:takes o=Y){v:V}{h1:N}(hr:iN E t h o=U (.val v h1)) :
  c_ (dom Z) v/\h1=h/\(∀ w',(execOp a.eval o).run P w'=.ok (.value (ren Z v)) w')/\∀ w',o.about P w' a.eval=O:=by
 have ev:∀ {x:Operand} {v:V},g_ E.G t x=U v->c_ (dom Z) v/\a.eval x=ren Z v:=fun hx=>uX H ht hx;have mm:∀ (mx:Bool) {args:List V} {u:V},yn mx args=U u->c_ (dom Z) u/\ren Z u=u/\args.map (ren Z)=args/\∀ w',((if mx then Builtin.max_ #[] 0 args.toArray else Builtin.min_ #[] 0 args.toArray):Sem V).run P w'=.ok u w':=fun mx args u hv=>by
  unfold yn at hv;split at hv
  ·rename_i hA;obtain⟨h1,h2⟩:=LW (P:=P) hv;have h3:∀ l:List V,j9 l=Y->∀ u ∈ l,flat u=Y:=by
    intro l;induction l with
    | nil=>simp
    | cons u l ih=>intro hl v hv;simp only[j9,Bool.and_eq_true]at hl;rcases List.mem_cons.1 hv with rfl | h;exact hl.1;exact ih hl.2 v h
   exact⟨iK _ _ h1,oz Z h1,wP Z args (h3 args hA),h2⟩
  ·cases hv
 unfold takes at hf;unfold iN at hr;split at hf
 next x hc=>simp only[hc]at hr;obtain⟨u,hu,e⟩:=kw hr;cases e;exact⟨(ev hu).1,rfl,fun w'=>by simp only[execOp,hc,(ev hu).2];rfl,fun w'=>by simp[Oper.about,hc]⟩
 next x hc=>simp only[hc]at hr;obtain⟨u,hu,e⟩:=kw hr;cases e;exact⟨(ev hu).1,rfl,fun w'=>by simp only[execOp,hc,(ev hu).2];rfl,fun w'=>by simp[Oper.about,hc]⟩
 ·rename_i ty ps hc;simp only[hc]at hr;split at hr
  ·rename_i l hl;obtain⟨u,hu,e⟩:=kw hr;cases e;obtain⟨e1,e2⟩:=Lw H ht hl;have e3:(ps.map fun x=>(x.1,a.eval x.2))=(l.map fun p=>(p.1,ren Z p.2)).toArray:=by apply Array.ext';rw[Array.toList_map,e1]
   obtain⟨b1,b2⟩:=PV (Z:=Z) E.toiS e2 hu;exact⟨b1,rfl,fun w'=>by simp only[execOp,hc,e3,Sem.run_bind,b2 w',Result.andThen_ok,Sem.run_pure],fun w'=>by simp[Oper.about,hc]⟩
  ·cases hr
 ·rename_i c hc;have hp:∀ {b:Builtin},c.callee=.builtin b->∀ w',o.about P w' a.eval=O:=fun hb w'=>by
   simp[Oper.about,hc,resolve,hb,Target.leads]
  simp only[hc]at hr;split at hr
  ·cases hr
  ·rename_i args hk;obtain⟨e1,e2⟩:=Ea H ht hk;have e3:c.args.map a.eval=(args.map (ren Z)).toArray:=by apply Array.ext';rw[Array.toList_map,e1]
   split at hf
   ·rename_i hb;simp only[hb,Q9]at hr;obtain⟨u,hu,e⟩:=kw hr;cases e;obtain⟨m1,m2,m3,m4⟩:=mm Y hu;refine⟨m1,rfl,fun w' => ?_,hp hb⟩;have he:(execOp a.eval o)=builtin .max c.argTypes o.type (c.args.map fun | .const _=>Y | _=>J) (args.map (ren Z)).toArray:=by
     simp only[execOp,hc,resolve,hb,e3];rfl
    rw[he,m2,m3];show(Builtin.max_ #[] 0 args.toArray >>= fun v=>pure (.value v):Sem Next).run P w'=_;rw[Sem.run_bind,show(Builtin.max_ #[] 0 args.toArray).run P w'=.ok v w' from m4 w'];rfl
   ·rename_i hb;simp only[hb,Q9]at hr;obtain⟨u,hu,e⟩:=kw hr;cases e;obtain⟨m1,m2,m3,m4⟩:=mm J hu;refine⟨m1,rfl,fun w' => ?_,hp hb⟩;have he:(execOp a.eval o)=builtin .min c.argTypes o.type (c.args.map fun | .const _=>Y | _=>J) (args.map (ren Z)).toArray:=by
     simp only[execOp,hc,resolve,hb,e3];rfl
    rw[he,m2,m3];show(Builtin.min_ #[] 0 args.toArray >>= fun v=>pure (.value v):Sem Next).run P w'=_;rw[Sem.run_bind,show(Builtin.min_ #[] 0 args.toArray).run P w'=.ok v w' from m4 w'];rfl
   ·cases hf
 ·cases hf
def B4(E:d_ P)(C:iM)(l:List Oper)(F:St->Prop)(i:Nat)(s:St):Prop:=match gS l i with
 | none=>False
 | some o=>match Qg l s.t o with
  | some Y=>Xu E C O o s (yf F (fun _ _=>False))
  | some J=>jY s o.dst=Y/\F (s.put o.dst Qq s.h)
  | none=>False
def tq(E:d_ P)(C:iM)(ops:Array Oper)(l:List Oper)(K:St->Prop):Nat->Array Bool->St->Prop
 | 0,listed,s=>Region.ready .any ops listed=[]/\K s
 | n+1,listed,s=>(Region.ready .any ops listed=[]/\K s) ∨
  (∃ i o v,gS l i=U o/\takes o=Y/\Region.noSelect ops=Y/\Region.free .any ops listed i=Y/\(Region.ready .any ops listed).contains i=Y/\Qg l s.t o=U Y/\iN E s.t s.h o=U (.val v s.h)/\jY s o.dst=Y/\tq E C ops l K n (listed.setIfInBounds i Y) (s.put o.dst v s.h)) ∨
  (∃ rs,Region.ready .any ops listed=rs/\rs ≠ []/\∀ i ∈ rs,B4 E C l (tq E C ops l K n (listed.setIfInBounds i Y)) i s)
def Jw2{i:Nat}{o:Oper}(h:gS (ops.toList.map bare) i=U o):∃ o',ops[i]? = U o'/\o=bare o':=by
 rw[u0,List.getElem?_map,Option.map_eq_some_iff]at h;obtain⟨o',h1,rfl⟩:=h;exact⟨o',by simpa using h1,rfl⟩
def Lc(E:d_ P)(hC:iV P E.G C){K:St->Prop}:∀ (n:Nat) (listed:Array Bool) (s:St) (Z:Ren) (a:Act) (w:World),
  tq E C ops (ops.toList.map bare) K n listed s->iu E.G Z s a w->∀ (Q:Exit->Act->World->Prop),(∀ c a w,¬ Q (.panic c) a w) ->
  (∀ Z' a' w' s1,K s1->iC s.h.Q Z Z'->f_ Z s.h w Z' s1.h w'->iu E.G Z' s1 a' w'->Q .normal a' w') ->
  wpAnyIn (kZ O Z) 0 P .any ops Q n listed a w
 | 0,listed,s,Z,a,w,h,S_,Q,hp,hQ=>by
  obtain⟨h1,h2⟩:=h;exact⟨h1,hQ Z a w s h2 (iC.refl _ _) (f_.refl _ _ _) S_⟩
 | n+1,listed,s,Z,a,w,h,S_,Q,hp,hQ=>by
  rcases h with⟨h1,h2⟩ | ⟨i,o,v,h1,h2,h0,h3,h4,h5,h6,h7,h8⟩ | ⟨rs,h1,h2,h3⟩
  ·exact wpAnyIn_done h1 (hQ Z a w s h2 (iC.refl _ _) (f_.refl _ _ _) S_) _
  ·obtain⟨o',ho,rfl⟩:=Jw2 h1;have hr:iN E s.t s.h o'=U (.val v s.h):=h6;have hf:takes o'=Y:=h2;obtain⟨r1, -,r2,hA⟩:=J34 S_.h S_.t hf hr;have hd:jY s o'.dst=Y:=h7;have hw:Qg ops.toList s.t o'=U Y:=by rw[<- Er];exact h5
   refine wpAnyIn_take (v:=ren Z v) rfl ho h0 h3 h4 (fun c a w hq=>absurd hq (hp c _ w)) ⟨.inl ⟨wb (G:=E.G) S_.t hw,r2⟩,hA⟩ ?_;have S1:iu E.G Z (s.put o'.dst v s.h) (a.put o'.dst (ren Z v)) w:=S_.put hd r1;have hh:(s.put (bare o').dst v s.h).h=s.h:=Ed _ _ _ _;exact Lc E hC n _ _ Z _ w h8 S1 Q hp (fun Z' a' w' s1 q1 q2 q3 q4=>hQ Z' a' w' s1 q1 (by rw[hh]at q2;exact q2) (by rw[hh]at q3;exact q3) q4)
  ·refine wpAnyIn_all h1 h2 fun i hi => ?_;have hx:=h3 i hi;unfold B4 at hx;split at hx
   ·exact hx.elim
   ·rename_i o ho;obtain⟨o',ls,rfl⟩:=Jw2 ho;unfold wpOpIn;simp only[ls];rw[Er]at hx;split at hx
    next hw=>rw[if_pos (wb (G:=E.G) S_.t hw)];have hy:Xu E C O o' s (yf (tq E C ops (ops.toList.map bare) K n (listed.setIfInBounds i Y)) (fun _ _=>False)):=hx;refine Ja9 E hC hy S_ (fun Z' a' w' s1 hk q2 q3 q4 => ?_) (fun Z' a' w' s1 ch hk _ _ _ _=>hk.elim);have:=Lc E hC n (listed.setIfInBounds i Y) s1 Z' a' w' hk q4 Q hp (fun hc hb e2 s2 r1 r2 r3 r4=>hQ hc hb e2 s2 r1 (q2.trans r2 q3.Q) (q3.trans r3) r4);exact this
    next hw=>rw[if_neg (by rw[wb (G:=E.G) S_.t hw];simp)];refine⟨fun f _=>vn O Z f,?_⟩;obtain⟨hd,h4⟩:=hx;have hh:(s.put (bare o').dst Qq s.h).h=s.h:=Ed _ _ _ _;exact Lc E hC n _ _ Z _ w h4 (S_.putU hd) Q hp (fun Z' a' w' s1 q1 q2 q3 q4=>hQ Z' a' w' s1 q1 (by rw[hh]at q2;exact q2) (by rw[hh]at q3;exact q3) q4)
    ·exact hx.elim
def Ve7(E:d_ P)(hC:iV P E.G C)(hm:P.follows .mixedOrders=Y){id:Nat}{K:Exit->St->Prop}{s:St}(h:tq E C ops (ops.toList.map bare) (K .normal) ops.size (Array.replicate ops.size J) s) :
  CW P E.G O s.h.Q (.region id ops Y) s K:=by
 intro Z a w S_ _;refine wpIn_mono (Q:=fun e' a' w' => ∃ Z' s',e'=.normal/\K .normal s'/\iC s.h.Q Z Z'/\f_ Z s.h w Z' s'.h w'/\iu E.G Z' s' a' w') ?_ ?_
 ·refine wpIn_region_any hm ?_;have H':bN E.G Z s.h {w with drawn:=w.drawn+1}:=S_.h.same rfl;have S':iu E.G Z s a {w with drawn:=w.drawn+1}:=⟨H',S_.t,S_.ds,S_.okd⟩;refine Lc E hC _ _ s Z a _ h S' _ (fun c a w ⟨_,_,e,_⟩=>by cases e) fun Z' a' w' s1 k1 k2 k3 k4=>⟨Z',s1,rfl,k1,k2,(f_.drew _ _ _ (Nat.le_succ _)).trans k3,k4⟩
 ·rintro e' a' w' ⟨Z',s',rfl,k1,k2,k3,k4⟩;exact⟨Z',.normal,s',k1,rfl,trivial,k2,k3,k4⟩
def tA{l:List Oper}{K:St->Prop}{n:Nat}{listed:Array Bool}{s:St}(i:Nat){o:Oper}{v:V}(h1:gS l i=U o)(h2:takes o=Y)(h3:Region.noSelect ops=Y)(h4:Region.free .any ops listed i=Y)(h5:(Region.ready .any ops listed).contains i=Y)
  (h6:Qg l s.t o=U Y) (h7:iN E s.t s.h o=U (.val v s.h)) (h8:jY s o.dst=Y) {listed':Array Bool} (h9:listed.setIfInBounds i Y=listed') (h:tq E C ops l K n listed' (s.put o.dst v s.h)):tq E C ops l K (n+1) listed s:=by
 subst h9;exact .inr (.inl ⟨i,o,v,h1,h2,h3,h4,h5,h6,h7,h8,h⟩)
def Dh{l:List Oper}{K:St->Prop}{n:Nat}{listed:Array Bool}{s:St}(i:Nat)(h1:Region.ready .any ops listed=[i]){listed':Array Bool}(h9:listed.setIfInBounds i Y=listed')(h:B4 E C l (tq E C ops l K n listed') i s):tq E C ops l K (n+1) listed s:=by
 subst h9;exact .inr (.inr ⟨[i],h1,kA,fun j hj=>by rw[List.mem_singleton]at hj;subst hj;exact h⟩)
def Vg0{l:List Oper}{K:St->Prop}{n:Nat}{listed:Array Bool}{s:St}(i j:Nat)(h1:Region.ready .any ops listed=[i,j]){li lj:Array Bool}(h8:listed.setIfInBounds i Y=li)(h9:listed.setIfInBounds j Y=lj)(hi:B4 E C l (tq E C ops l K n li) i s)(hj:B4 E C l (tq E C ops l K n lj) j s):tq E C ops l K (n+1) listed s:=by
 subst h8 h9;refine .inr (.inr ⟨[i,j],h1,kA,fun k hk => ?_⟩);rcases List.mem_cons.1 hk with rfl | hk
 ·exact hi
 ·rw[List.mem_singleton]at hk;subst hk;exact hj
def J5c{l:List Oper}{K:St->Prop}{n:Nat}{listed:Array Bool}{s:St}(h1:Region.ready .any ops listed=[])(h:K s):tq E C ops l K n listed s:=by
 cases n with
 | zero=>exact⟨h1,h⟩
 | succ n=>exact .inl ⟨h1,h⟩
def wV{l:List Oper}{F:St->Prop}{i:Nat}{o:Oper}{t:Tm}{ds:List Deferred}{h:N}(ho:gS l i=U o):B4 E C l F i ⟨t,ds,h⟩=(match Qg l t o with
  | some Y=>Xu E C O o ⟨t,ds,h⟩ (yf F (fun _ _=>False))
  | some J=>jY ⟨t,ds,h⟩ o.dst=Y/\F (St.put ⟨t,ds,h⟩ o.dst Qq h)
  | none=>False):=by
 unfold B4;rw[ho]
end
def tN(t:Tm)(ds:List Deferred)(l:Nat)(K:Exit->St->Prop)(r:ip)(h:N):Prop:=match tC t ds l (U (r,h))with
 | some (e,s1)=>K e s1
 | none=>False
def By(E:d_ P)(C:iM)(rd:Option Nat)(g:Operand)(ps:Array Tmp)(asn bd:Code)(s:St)(K:Exit->St->Prop):Prop :=
 match g_ E.G s.t g with
 | some (.func (.func f) first hx)=>match E.fn.A f with
  | none=>False
  | some _=>match rd with
   | none=>C.fn f (first.toList ++ [.func (.yield (s.h.Q+1)) #[] #[]]++hx.toList) ((s.h.push (.obj .defs)).push (.obj (.loop .ready O s.t ps asn bd s.h.Q)))
     (tN s.t ({target:=.collected s.h.Q,args:=#[]}::s.ds) (s.h.Q+1) K)
   | some l0=>match s.h.A l0 with
    | some (.obj (.loop _ _ _ _ _ _ d))=>C.fn f (first.toList ++ [.func (.yield s.h.Q) #[] #[]]++hx.toList) (s.h.push (.obj (.loop .ready O s.t ps asn bd d))) (tN s.t s.ds s.h.Q K)
    | _=>False
 | _=>False
def sP(F:St->Prop)(K:Exit->St->Prop)(e:Exit)(s:St):Prop:=match e with
 | .normal=>F s
 | e=>K e s
def qr(id:Nat)(K:Exit->St->Prop)(e:Exit)(s:St):Prop:=match e with
 | .exit hx=>if hx=id then K .normal s else K (.exit hx) s
 | e=>K e s
def X7(F:St->Prop)(K:Exit->St->Prop)(s:St):sP F K .normal s=F s:=rfl
def Xz(F:St->Prop)(K:Exit->St->Prop)(s:St):sP F K .ret s=K .ret s:=rfl
def Xx(F:St->Prop)(K:Exit->St->Prop)(id:Nat)(s:St):sP F K (.exit id) s=K (.exit id) s:=rfl
def Xh(F:St->Prop)(K:Exit->St->Prop)(ch:List PanicEntry)(s:St):sP F K (.panic ch) s=K (.panic ch) s:=rfl
def Qw(id:Nat)(K:Exit->St->Prop)(s:St):qr id K .normal s=K .normal s:=rfl
def Xv(id:Nat)(K:Exit->St->Prop)(s:St):qr id K .ret s=K .ret s:=rfl
def Qz(id:Nat)(K:Exit->St->Prop)(ch:List PanicEntry)(s:St):qr id K (.panic ch) s=K (.panic ch) s:=rfl
def Xj(id hx:Nat)(K:Exit->St->Prop)(s:St):qr id K (.exit hx) s=if hx=id then K .normal s else K (.exit hx) s:=rfl
def OO(body:St->(Exit->St->Prop)->Prop)(s:St)(K:Exit->St->Prop):Prop :=
 ∃ (I_:Nat->St->Prop) (k:Nat),I_ k s/\∀ k s',I_ k s'->s.h.Q<=s'.h.Q->body s' (sP (fun hx => ∃ k',k' < k/\I_ k' hx) K)
def iH{P:Program}(E:d_ P)(C:iM)(D0:b_)(rd:Option Nat):Code->St->(Exit->St->Prop)->Prop
 | .skip,s,K=>K .normal s
 | .label _,s,K=>K .normal s
 | .ret,s,K=>K .ret s
 | .exit id,s,K=>K (.exit id) s
 | .seq x y,s,K=>iH E C D0 rd x s (sP (fun s'=>iH E C D0 rd y s' K) K)
 | .cond c x y,s,K => ∃ b,g_ E.G s.t c=U (.bool b)/\(b=Y->iH E C D0 rd x s K)/\(b=J->iH E C D0 rd y s K)
 | .block id c,s,K=>iH E C D0 rd c s (qr id K)
 | .loop c,s,K=>(∀ l,rd=U l->l < s.h.Q)/\OO (iH E C D0 rd c) s K
 | .region _ ops Y,s,K=>(∃ B s1 R L_,(∀ e ∈ L_,vt P E.G e)/\i' ops.toList []=U B/\ji ops.toList ops.toList B []=Y/\runT E L_ ops.toList B ops.toList 0 s=U (s1,R)/\Zj E R B R B 0=Y/\K .normal s1) ∨
  (C.die=Y/\rd=O/\tq E C ops (ops.toList.map bare) (K .normal) ops.size (Array.replicate ops.size J) s) ∨
  (C.die=Y/\∃ (B:List Nat) (p0 d0 f:Nat) (args:Array Operand) (o:Oper) (c:Call) (l:List V) (s1:St),i' ops.toList []=U B/\ji (mI p0 f args ops.toList B 0) (mI p0 f args ops.toList B 0) B []=Y/\ops.toList[p0]? = U o/\o.op=.call c/\c.callee=.value (.func f)/\c.args=args /\
   o.dst=U d0/\DJ d0 p0 ops.toList 0=Y/\AS E (mI p0 f args ops.toList B 0)=Y/\o8 E D0 O (mI p0 f args ops.toList B 0) (mI p0 f args ops.toList B 0) s=U (.normal,s1)/\s1.t.t.A d0=U (.func (.func f) ⟨l⟩ #[])/\(E.fn.A f).isSome=Y /\
   C.fn f l s.h (TF p0 B ops.size s K))
 | .region _ ops J,s,K=>nP E C rd ops.toList K ops.toList s
 | .rangeFunc g ps hx bd,s,K=>By E C rd g ps hx bd s K
 | _,_,_=>False
def Ig(E:d_ P)(C:iM)(D0:b_)(rd:Option Nat)(y:Code)(K:Exit->St->Prop)(s:St):Prop:=iH E C D0 rd y s K
section
variable{P:Program}{E:d_ P}{C:iM}{rd:Option Nat}{Z:Ren}{s:St}{h:N}{w:World}
def J5u(E:d_ P){C:iM}(hC:iV P E.G C){rd:Option Nat}{g:Operand}{ps:Array Tmp}{asn bd:Code}{K:Exit->St->Prop}(hh:By E C rd g ps asn bd s K) :
  CW P E.G rd s.h.Q (.rangeFunc g ps asn bd) s K:=by
 intro Z a w S_ hl;unfold By at hh;split at hh
 ·rename_i f first hc hg
  obtain⟨g1,g2⟩:=uX S_.h S_.t hg;split at hh
  ·exact hh.elim
  ·rename_i F hF;obtain⟨q1,q2,q3⟩:=E.fnok _ _ hF;have e2:F.body.isNone=J:=by cases hb:F.body <;> simp[hb]at q3 ⊢
   have g3:a.eval g=.func (.func f) (first.map (ren Z)) (hc.map (ren Z)):=by rw[g2];simp[ren,tW,rM]
   simp only[c_,vO]at g1;have hA:∀ (args:Array V) (w:World),(invoke (.fn (.func f) (hc.map (ren Z))) args).run P w=.ok (.enter f (args++hc.map (ren Z))) w:=fun args w=>Pf E hF _ _ w;have go:∀ (Z2:Ren) (w2:World) (h2:N) (l:Nat) (ds:List Deferred) (mark:List Deferred),iC s.h.Q Z Z2->s.h.Q<=h2.Q->bN E.G Z2 h2 w2->f_ Z s.h w Z2 h2 w2->dom Z2 l ->
     (mark++a.defers=ds.map (pK Z2))->(∀ d ∈ ds,uh (dom Z2) d) ->
     C.fn f (first.toList ++ [.func (.yield l) #[] #[]]++hc.toList) h2 (tN s.t ds l K) ->
     CallsIn (kZ rd Z) 0 P f (first.map (ren Z) ++ #[Value.func (.yield (i4 Z2 l)) #[] #[]]++hc.map (ren Z)) w2 (rangePost (kZ rd Z) 0 P (i4 Z2 l)
      (fun e' a' w' => ∃ Z' e0 s',K e0 s'/\e'=pX Z' e0/\qw (dom Z') e0/\iC s.h.Q Z Z'/\f_ Z s.h w Z' s'.h w'/\iu E.G Z' s' a' w') {a with defers:=mark++a.defers}):=by
    intro Z2 w2 h2 l ds mark he hn H2 T2 ls hm e1 hy;have hr:∀ b,dom Z b->Z2 b=Z b:=fun b hb=>he b (lJ S_.h hb);obtain⟨a1,a2⟩:=Jme g1 hr ls rfl;rw[a1];refine HO ((hC.fn _ _ _ _ hy Z2 w2 H2 a2).mono ?_);rintro e' w3 ⟨Z3,r,h3,hk,rfl,k1,k2,k3,k4⟩;unfold tN at hk;split at hk
    ·rename_i e0 s1 es;have hp:∀ b,dom Z2 b->Z3 b=Z2 b:=fun b hb=>k2 b (lJ H2 hb);have m0:dom Z3 l:=(by simpa[dom,hp l ls]using ls);have er:i4 Z2 l=i4 Z3 l:=(rq (hp l ls)).symm;have S3:iu E.G Z3 ⟨s.t,ds,h3⟩ {a with defers:=mark++a.defers} w3:=by
      refine⟨k4,(S_.t.keep hr).keep hp,?_,fun d hd=>El (fun b hb=>by simpa[dom,hp b hb]using hb) (e1 d hd)⟩;show mark++a.defers=_;rw[hm];apply List.map_congr_left;intro d hd;exact(Eu hp (e1 d hd)).symm
     rw[er];refine Jtx es m0 k1 S3 fun w' T' S' hx => ?_;exact⟨Z3,e0,s1,hk,rfl,hx,he.trans k2 hn,(T2.trans k3).trans T',S'⟩
    ·exact hk.elim
   split at hh
   ·refine wpIn_rangeFunc fun fn _ => ?_;obtain⟨Z1,H1,T1,d1,b1,x1⟩:=Jdk S_.h (x:=.defs) (o:=.deferred (U [])) rfl;have S1:=S_.step x1 H1;obtain⟨Z2,H2,T2,d2,b2,x2⟩:=LU (ps:=ps) («as» := asn) (bd:=bd) H1 S1.t d1 fn;have lb:(s.h.push (.obj .defs)).Q=s.h.Q+1:=rfl;have hq:iC s.h.Q Z Z2:=x1.trans x2 jA;have h4:i4 Z2 s.h.Q=w.heap.size:=by rw[rq (x2 _ jA),b1]
    have hz:dom Z2 s.h.Q:=by have:=x2 s.h.Q jA;simpa[dom,this]using d1
    rw[Z5c]at b2;rw[b1]at H2 T2;refine⟨w.heap.size+1,[{target:=.collected w.heap.size,args:=#[]}],(w.alloc (.deferred (U []))).alloc (.loop {state:=.ready,pending:=O,fn:=fn,tmps:=a.tmps,params:=ps,assign:=asn,body:=bd,defers:=w.heap.size}),⟨.fn (.func f) (hc.map (ren Z)),first.map (ren Z) ++ #[.func (.yield (w.heap.size+1)) #[] #[]]⟩,(w.alloc (.deferred (U []))).alloc (.loop {state:=.ready,pending:=O,fn:=fn,tmps:=a.tmps,params:=ps,assign:=asn,body:=bd,defers:=w.heap.size}),f,_,(w.alloc (.deferred (U []))).alloc (.loop {state:=.ready,pending:=O,fn:=fn,tmps:=a.tmps,params:=ps,assign:=asn,body:=bd,defers:=w.heap.size}),?_,?_,?_,hA _ _,by rw[yB];simp,?_⟩
    ·rw[Eo];exact run_enterLoop_outer fn a.tmps ps asn bd
    ·show(Deferred.ofValue (a.eval g) _).run P _=_;rw[g3];simp[Deferred.ofValue,rangeCall,Act.eval]
    ·exact fun f' _=>vn O Z f'
    ·have:=go Z2 _ _ (s.h.Q+1) ({target:=.collected s.h.Q,args:=#[]}::s.ds) [{target:=.collected w.heap.size,args:=#[]}] hq (by show s.h.Q<=s.h.Q+1+1;omega) H2 (T1.trans T2) d2 ?_ ?_ hh
     ·rw[<- lb,b2]at this;exact this
     ·have S2:=S_.step hq H2;simp only[List.map_cons,pK,h4,jk,jT];rw[<- S2.ds];rfl
     ·intro d hd;rcases List.mem_cons.1 hd with rfl | hd
      ·exact⟨hz,by simp[lF,mO]⟩
      ·exact(S_.step hq H2).okd d hd
   ·rename_i l0;split at hh
    ·rename_i DB hB t0 ud p1 hw d0 hu;refine wpIn_rangeFunc fun fn _ => ?_;have v':=hl l0 rfl;obtain⟨r0,r1,_,_,_,_,_,_,hf,r2,_⟩:=BZ S_.h v' hu;obtain⟨Z2,H2,T2,d2,b2,x2⟩:=LU (ps:=ps) («as» := asn) (bd:=bd) S_.h S_.t hf fn;have S2:=S_.step x2 H2;refine⟨w.heap.size,[],w.alloc (.loop {state:=.ready,pending:=O,fn:=fn,tmps:=a.tmps,params:=ps,assign:=asn,body:=bd,defers:=i4 Z d0}),⟨.fn (.func f) (hc.map (ren Z)),first.map (ren Z) ++ #[.func (.yield w.heap.size) #[] #[]]⟩,w.alloc (.loop {state:=.ready,pending:=O,fn:=fn,tmps:=a.tmps,params:=ps,assign:=asn,body:=bd,defers:=i4 Z d0}),f,_,w.alloc (.loop {state:=.ready,pending:=O,fn:=fn,tmps:=a.tmps,params:=ps,assign:=asn,body:=bd,defers:=i4 Z d0}),?_,?_,?_,hA _ _,by rw[yB];simp,?_⟩
     ·rw[Eo];unfold Instr.enterLoop;simp only[Option.map_some,Sem.run_bind,run_getLoop r1,Result.andThen,Sem.run_pure,run_newObj_alloc,r2]
     ·show(Deferred.ofValue (a.eval g) _).run P _=_;rw[g3];simp[Deferred.ofValue,rangeCall,Act.eval]
     ·exact fun f' _=>vn _ Z f'
     ·have:=go Z2 _ _ s.h.Q s.ds [] x2 (by show s.h.Q<=s.h.Q+1;omega) H2 T2 d2 (by simpa using S2.ds) S2.okd hh;rw[b2]at this;exact this
    ·exact hh.elim
 ·exact hh.elim
def zo(E:d_ P){C:iM}(hC:iV P E.G C){D0:b_}(hD:gr P E.G D0)(hL:gp D0)(hm:P.follows .mixedOrders=Y){rd:Option Nat}:∀ (c:Code) (s:St) (K:Exit->St->Prop),iH E C D0 rd c s K->CW P E.G rd s.h.Q c s K
 | .skip,s,K,h=>J0p h
 | .label _,s,K,h=>Jvy h
 | .ret,s,K,h=>Va1 h
 | .exit _,s,K,h=>J57 h
 | .seq x y,s,K,h=>by
  simp only[iH]at h;refine Vbg ((zo E hC hD hL hm x _ _ h).mono (Nat.le_refl _) ?_);intro e s' hk;cases e with
  | normal=>exact zo E hC hD hL hm y _ _ hk
  | _=>exact hk
 | .cond c x y,s,K,h=>by
  simp only[iH]at h;obtain⟨b,h1,h2,h3⟩:=h;refine ZC h1 ?_;cases b with
  | true=>exact zo E hC hD hL hm x _ _ (h2 rfl)
  | false=>exact zo E hC hD hL hm y _ _ (h3 rfl)
 | .block id c,s,K,h=>by
  simp only[iH]at h;refine Jvi ((zo E hC hD hL hm c _ _ h).mono (Nat.le_refl _) ?_);intro e s' hk;cases e <;> exact hk
 | .loop c,s,K,h=>by
  simp only[iH,OO]at h;obtain⟨hc,I_,k,hI,hr⟩:=h;refine J24 (n:=s.h.Q) (fun k s'=>I_ k s'/\s.h.Q<=s'.h.Q) ⟨hI,Nat.le_refl _⟩ hc (Nat.le_refl _) ?_;rintro k s' ⟨h1,h2⟩ _;refine((zo E hC hD hL hm c s' _ (hr k s' h1 h2)).grows).mono h2 ?_;rintro e ls ⟨h3,h4⟩;refine⟨Nat.le_trans h2 h4,fun he => ?_,fun hx => ?_⟩
  ·subst he;obtain⟨k',h5,h6⟩:=h3;exact⟨k',h5,h6,Nat.le_trans h2 h4⟩
  ·cases e <;> first
    | exact absurd rfl hx
    | exact h3
 | .region _ ops Y,s,K,h=>by
  simp only[iH]at h;rcases h with⟨B,s1,R,L_,d1,h1,h2,h3,h4,h5⟩ | ⟨_,h0,h1⟩ | ⟨_,B,p0,d0,f,args,o,c,l,s1,k1,k2,k3,k4,k5,k6,k7,k8,k9,hb,hp,hA,Z'⟩
  ·exact J80 E d1 hm h1 h2 h3 h4 h5
  ·subst h0;exact Ve7 E hC hm h1
  ·exact Vgx E hD hL hm k1 k2 k3 k4 k5 k6 k7 k8 k9 hb hp hA (hC.fn _ _ _ _ Z')
 | .region _ ops J,s,K,h=>by
  simp only[iH]at h;exact Jyk E hC h
 | .rangeFunc ..,s,K,h=>by
  simp only[iH]at h;exact J5u E hC h
 | .scope ..,_,_,h | .goto ..,_,_,h | .refuse ..,_,_,h=>by simp[iH]at h
def Zd{D0:b_}(y:Code)(K:Exit->St->Prop)(t:Tm)(ds:List Deferred)(h:N):Ig E C D0 rd y K ⟨t,ds,h⟩=iH E C D0 rd y ⟨t,ds,h⟩ K:=rfl
def Ja{D0:b_}(s:St)(K:Exit->St->Prop):iH E C D0 rd .skip s K=K .normal s:=rfl
def U0{D0:b_}(s:St)(K:Exit->St->Prop):iH E C D0 rd .ret s K=K .ret s:=rfl
def J9{D0:b_}(id:Nat)(s:St)(K:Exit->St->Prop):iH E C D0 rd (.exit id) s K=K (.exit id) s:=rfl
def Va2{D0:b_}{c:Operand}{x y:Code}{s:St}{K:Exit->St->Prop}{b:Bool}(h:g_ E.G s.t c=U (.bool b))(hk:iH E C D0 rd (if b then x else y) s K):iH E C D0 rd (.cond c x y) s K:=by
 refine⟨b,h,fun hb => ?_,fun hb => ?_⟩
 ·rw[hb]at hk;exact hk
 ·rw[hb]at hk;exact hk
def jE{D0:b_}{c:Code}{s:St}{K:Exit->St->Prop}(I_:Nat->St->Prop)(k:Nat)(hI:I_ k s)(hr:∀ k s',I_ k s'->s.h.Q<=s'.h.Q->iH E C D0 O c s' (sP (fun hx => ∃ k',k' < k/\I_ k' hx) K)):iH E C D0 O (.loop c) s K :=
 ⟨fun _ h=>(by cases h),I_,k,hI,hr⟩
def Vco{D0:b_}{c:Operand}{x y:Code}{s:St}{K:Exit->St->Prop}(h:g_ E.G s.t c=U (.bool Y))(hk:iH E C D0 rd x s K):iH E C D0 rd (.cond c x y) s K:=Va2 (b:=true) h hk
def Var{D0:b_}{c:Operand}{x y:Code}{s:St}{K:Exit->St->Prop}(h:g_ E.G s.t c=U (.bool J))(hk:iH E C D0 rd y s K):iH E C D0 rd (.cond c x y) s K:=Va2 (b:=false) h hk
def J9s{D0:b_}{c:Operand}{x y:Code}{s:St}{K:Exit->St->Prop}(h:g_ E.G s.t c=U (.bool Y)):iH E C D0 rd (.cond c x y) s K=iH E C D0 rd x s K:=by
 refine propext ⟨fun hk => ?_,fun hk=>Vco h hk⟩;simp only[iH]at hk;obtain⟨q,h1,h2, -⟩:=hk;rw[h]at h1;cases h1;exact h2 rfl
def Vaj{D0:b_}{c:Operand}{x y:Code}{s:St}{K:Exit->St->Prop}(h:g_ E.G s.t c=U (.bool J)):iH E C D0 rd (.cond c x y) s K=iH E C D0 rd y s K:=by
 refine propext ⟨fun hk => ?_,fun hk=>Var h hk⟩;simp only[iH]at hk;obtain⟨q,h1, -,h2⟩:=hk;rw[h]at h1;cases h1;exact h2 rfl
def ju{D0:b_}{id:Nat}{ops:Array Oper}{l:List Oper}{B:List Nat}{s s1:St}{R:List (Option iU)}{K:Exit->St->Prop}(L_:List KE)(hL:∀ e ∈ L_,vt P E.G e)(hl:ops.toList.map bare=l)(hB:i' ops.toList []=U B)(hp:ji ops.toList ops.toList B []=Y)
  (hx:runT E L_ l B l 0 s=U (s1,R)) (hc:Zj E R B R B 0=Y) (hk:K .normal s1):iH E C D0 rd (.region id ops Y) s K:=by
 subst hl;rw[Jmq,Option.map_eq_some_iff]at hx;obtain⟨⟨s2,R2⟩,h1,h2⟩:=hx;cases h2;rw[Zfc]at hc;exact .inl ⟨B,s2,R2,L_,hL,hB,hp,h1,hc,hk⟩
def Vfb{D0:b_}{id:Nat}{ops:Array Oper}{lb:List Oper}{B:List Nat}{s s1:St}{K:Exit->St->Prop}{p0 d0 f:Nat}{args:Array Operand}{o:Oper}{c:Call}{l:List V}(h2:C.die=Y)(hl:ops.toList.map bare=lb)(hB:i' ops.toList []=U B)(hp:ji (mI p0 f args ops.toList B 0) (mI p0 f args ops.toList B 0) B []=Y)
  (ho:ops.toList[p0]? = U o) (ls:o.op=.call c) (hk:c.callee=.value (.func f)) (hb:c.args=args) (Z':o.dst=U d0) (h3:DJ d0 p0 ops.toList 0=Y) (hr:AS E (mI p0 f args ops.toList B 0)=Y)
  (hx:o8 E D0 O (mI p0 f args lb B 0) (mI p0 f args lb B 0) s=U (.normal,s1)) (hv:s1.t.t.A d0=U (.func (.func f) ⟨l⟩ #[])) (hA:(E.fn.A f).isSome=Y) (hc:C.fn f l s.h (TF p0 B ops.size s K)):iH E C D0 rd (.region id ops Y) s K:=by
 subst hl;rw[Jfj,Lb]at hx;exact .inr (.inr ⟨h2,B,p0,d0,f,args,o,c,l,s1,hB,hp,ho,ls,hk,hb,Z',h3,hr,hx,hv,hA,hc⟩)
def Vhd{D0:b_}{id:Nat}{ops:Array Oper}{l:List Oper}{s:St}{K:Exit->St->Prop}(hx:C.die=Y)(hl:ops.toList.map bare=l)(h:tq E C ops l (K .normal) ops.size (Array.replicate ops.size J) s):iH E C D0 O (.region id ops Y) s K:=by
 subst hl;exact .inr (.inl ⟨hx,rfl,h⟩)
def Jfq(ops:List Oper):∀ (l:List Oper) (s:St) (K:Exit->St->Prop),nP E C rd (ops.map bare) K (l.map bare) s=nP E C rd ops K l s
 | [],s,K=>rfl
 | o::r,s,K=>by
  have hs:∀ K',Xu E C rd (bare o) s K'=Xu E C rd o s K':=fun _=>rfl;simp only[List.map_cons,nP,Er,hs];have hk:nP E C rd (ops.map bare) K (r.map bare)=nP E C rd ops K r:=by
   funext s';exact Jfq ops r s' K
  rw[hk];split
  ·rfl
  ·show(if jY s o.dst=Y then _ else _)=_;rw[show(s.put (bare o).dst Qq s.h)=s.put o.dst Qq s.h from rfl]
  ·rfl
def Ai{D0:b_}:∀ (c:Code) (s:St) (K:Exit->St->Prop),iH E C D0 rd (Uz c) s K=iH E C D0 rd c s K
 | .seq x y,s,K=>by
  simp only[Uz,iH,Ai x];have : (fun s'=>iH E C D0 rd (Uz y) s' K)=(fun s'=>iH E C D0 rd y s' K):=by funext s';exact Ai y s' K
  rw[this]
 | .cond c x y,s,K=>by simp only[Uz,iH,Ai x,Ai y]
 | .block id c,s,K=>by simp only[Uz,iH,Ai c]
 | .loop c,s,K=>by
  have : iH E C D0 rd (Uz c)=iH E C D0 rd c:=by funext s K;exact Ai c s K
  simp only[Uz,iH,this]
 | .region id ops J,s,K=>by
  simp only[Uz,iH];exact Jfq ops.toList ops.toList s K
 | .region id ops Y,s,K=>rfl
 | .skip,s,K=>rfl
 | .label _,s,K=>rfl
 | .ret,s,K=>rfl
 | .exit _,s,K=>rfl
 | .rangeFunc ..,s,K=>rfl
 | .scope ..,s,K=>rfl
 | .goto ..,s,K=>rfl
 | .refuse ..,s,K=>rfl
def tB{P:Program}(E:d_ P)(D:pL)(fn:Func)(K:ip->N->Prop)(u:FrameMode)(s:St):Prop:=match Qv E D fn s.t s.ds u s.h with
 | some (r,h')=>K r h'
 | none=>False
def uH{P:Program}(E:d_ P)(D:pL)(fn:Func)(K:ip->N->Prop)(e:Exit)(s:St):Prop:=match e with
 | .normal=>tB E D fn K .returning s
 | .ret=>tB E D fn K .returning s
 | .panic ch=>tB E D fn K (.panicking ch) s
 | _=>False
def Jrh(E:d_ P){D:pL}(hD:Cd P E.G D){f:FuncId}{args:List V}{h:N}{fn:Func}{c:Code}{K:ip->N->Prop}(hb:E.fn.A f=U fn)(hx:fn.body=U c)(h3:Nat.ble (L args) fn.ntmps=Y)
  (hr:CW P E.G O h.Q c ⟨Xs fn args,[],h⟩ (fun e s=>uH E D fn K e s)):fx P E.G f args h K:=by
 intro Z w H ha;obtain⟨g1,g2,g3⟩:=E.fnok _ _ hb;have hc:L args<=fn.ntmps:=by simpa using h3
 have S_:iu E.G Z ⟨Xs fn args,[],h⟩ {tmps:=(args.map (ren Z)).toArray++Array.replicate (fn.ntmps-(args.map (ren Z)).toArray.size) undef,defers:=[]} w :=
  ⟨H,Pk hc ha,rfl,fun d hd=>by cases hd⟩
 have lv:∀ (s:St) (u:FrameMode),tB E D fn K u s->∀ a' w' Z',iC h.Q Z Z'->f_ Z h w Z' s.h w'->iu E.G Z' s a' w'->nN (dom Z') u ->
   LeavesInM Fence.wide 0 P fn a'.tmps (fun e w' => ∃ Z' r1 h1,K r1 h1/\e=qo Z' r1/\tw (dom Z') r1/\iC h.Q Z Z'/\f_ Z h w Z' h1 w'/\bN E.G Z' h1 w') a'.defers (l_ Z' u) w':=by
  intro s u hl a' w' Z' q2 q3 q4 hu;unfold tB at hl;split at hl
  case h_2=>exact hl.elim
  next r h' hp=>rw[q4.ds];exact Hy E hD s.ds u s.h Z' w' a'.tmps r h' hp q4.h q4.t q4.okd hu fun h2 hA p1 p2 p3 p4=>⟨h2,r,h',hl,rfl,p4,q2.trans p1 q3.Q,q3.trans p2,p3⟩
 refine callsIn_of_wp_marks g1 hx trivial ?_;refine wpIn_mono (hr Z _ w S_ (fun l hl=>by cases hl)) ?_;rintro e' a' w' ⟨Z',e1,s1,hk,rfl,q1,q2,q3,q4⟩;cases e1 with
 | normal=>exact lv s1 .returning hk a' w' Z' q2 q3 q4 trivial
 | ret=>exact lv s1 .returning hk a' w' Z' q2 q3 q4 trivial
 | panic ch=>exact lv s1 (.panicking ch) hk a' w' Z' q2 q3 q4 q1
 | _=>exact hk.elim
def Xg(E:d_ P)(D:pL)(fn:Func)(K:ip->N->Prop)(s:St):uH E D fn K .normal s=tB E D fn K .returning s:=rfl
def Y3(E:d_ P)(D:pL)(fn:Func)(K:ip->N->Prop)(s:St):uH E D fn K .ret s=tB E D fn K .returning s:=rfl
def Q6(E:d_ P)(D:pL)(fn:Func)(K:ip->N->Prop)(u:FrameMode)(t:Tm)(ds:List Deferred)(h:N):tB E D fn K u ⟨t,ds,h⟩=(match Qv E D fn t ds u h with
 | some (r,h')=>K r h'
 | none=>False):=rfl
def kW(E:d_ P){C:iM}(hC:iV P E.G C){D0:b_}(h2:gr P E.G D0)(hL:gp D0)(hm:P.follows .mixedOrders=Y){D:pL}(hD:Cd P E.G D){f n:Nat}{args:List V}{h:N}{fn:Func}{c cb:Code}{K:ip->N->Prop}
  (hk:E.fn.A f=U fn) (hb:fn.body=U c) (hn:fn.ntmps=n) (hc:Uz c=cb) (hr:Nat.ble (L args) n=Y) (hx:iH E C D0 O cb ⟨⟨n,Xs.putAll 0 args .leaf⟩,[],h⟩ (uH E D fn K)):fx P E.G f args h K:=by
 subst hn hc;rw[Ai]at hx;exact Jrh E hD hk hb hr (zo E hC h2 hL hm c _ _ hx)
end
def wN(l:Nat)(K:ip->N->Prop)(e:Exit)(s2:St):Prop:=match BJ e,s2.h.A l with
 | some j,U (.obj (.loop _ _ t2 h2 hx hc d2))=>K (.ret (.bool j.isNone)) (s2.h.set l (U (.obj (.loop (if j.isNone then .ready else .done) j t2 h2 hx hc d2))))
 | _,_=>False
def DS(E:d_ P)(C:iM)(D0:b_)(l:Nat)(bd:Code)(K:ip->N->Prop)(e:Exit)(s:St):Prop:=match e with
 | .normal=>match s.h.A l with
  | some (.obj (.loop .ready p1 t1 h2 hx hc d1))=>iH E C D0 (U l) bd ⟨s.t,s.ds,s.h.set l (U (.obj (.loop .busy p1 t1 h2 hx hc d1)))⟩ (wN l K)
  | _=>False
 | _=>False
section
variable{P:Program}{E:d_ P}
def Lq(E:d_ P){C:iM}(hC:iV P E.G C){D0:b_}(hD:gr P E.G D0)(hL:gp D0)(hm:P.follows .mixedOrders=Y){l:Nat}{args:List V}{h:N}{K:ip->N->Prop}
  {p0:Option Code} {t0:Tm} {h3:Array Tmp} {hA hk hn hB:Code} {d0:Nat} (m0:h.A l=U (.obj (.loop .ready p0 t0 h3 hA hk d0))) (hp:qv t0.size h3.toList args=Y) (hu:Uz hA=hn) (v':Uz hk=hB)
  (hh:iH E C D0 (U l) hn ⟨qz t0 h3.toList args,[],h⟩ (DS E C D0 l hB K)):zI P E.G l args h K:=by
 intro Z w β rd st p2 t ps eA bd d fn e2 H hl ha hg ht;rw[m0]at hg;cases hg;subst hu;rw[Ai]at hh;refine roundIn_of_wpIn (vn rd β _) ?_;rw[Y4y rd Z β l];have S0:iu E.G Z ⟨qz t0 h3.toList args,[],h⟩ {tmps:=e2,defers:=[]} w:=⟨H,ht,rfl,fun d hd=>by cases hd⟩;refine wpIn_mono ((zo E hC hD hL hm hA _ _ hh).grows Z _ w S0 (fun l' hc=>by cases hc;exact hl)) ?_;rintro e' a1 w1 ⟨Z1,e1,hq,⟨hx,ud⟩,rfl,_,x1,T1,S1⟩;cases e1 with
 | normal =>
  unfold DS at hx;simp only at hx;split at hx
  ·rename_i p1 t1 h5 s' g1 d1 lb;have q2:∀ b,dom Z b->Z1 b=Z b:=fun b hb=>x1 b (lJ H hb);have h2:dom Z1 l:=by simpa[dom,q2 l hl]using hl
   obtain⟨r1,k1,k2,kp,h6,h7,p3,_,_,_,k3⟩:=BZ S1.h h2 lb;subst kp;obtain⟨s1,hz⟩:=k3 .busy r1.pending;have ls:i4 Z1 l=i4 Z l:=rq (q2 l hl);refine⟨_,by rw[<- ls];exact run_beginRound k1 k2,?_⟩;rw[<- ls];have hf:=S1.step (iC.refl _ _) s1;rw[<- (Ey (rd:=U l) (n:=0) S0 x1 (fun l' hc=>by cases hc;exact hl)).1];have hy:iH E C D0 (U l) hk ⟨hq.t,hq.ds,hq.h.set l (U (.obj (.loop .busy r1.pending t1 h5 s' g1 d1)))⟩ (wN l K):=by
    rw[<- v',Ai]at hx;exact hx
   refine wpIn_mono (zo E hC hD hL hm hk _ _ hy Z1 a1 _ hf (fun l' hc=>by cases hc;exact h2)) ?_;rintro e' a2 w2 ⟨Z2,a3,pB,hr,rfl,_,x2,T2,S2⟩;have h4:∀ b,dom Z1 b->Z2 b=Z1 b:=fun b hb=>x2 b (lJ s1 hb);have hw:dom Z2 l:=by simpa[dom,h4 l h2]using h2
   have g2:i4 Z2 l=i4 Z1 l:=rq (h4 l h2);unfold wN at hr;split at hr
   ·rename_i j vz aA t2 q4 e0 g3 d2 hj q3;obtain⟨r2,m1,m2,_,_,_,_,_,_,_,m3⟩:=BZ S2.h hw q3;obtain⟨q1,he⟩:=m3 (if j.isNone then .ready else .done) j;have es:∃ v w',(Instr.endRound (i4 Z1 l) j).run P w2=.ok v w'/\∃ Z' r h',K r h' /\
      Ending.returned v=qo Z' r/\tw (dom Z') r/\iC h.Q Z Z'/\f_ Z h w Z' h' w'/\bN E.G Z' h' w' :=
     ⟨_,_,by rw[<- g2];exact run_endRound j m1,Z2,_,_,hr,by simp[qo],trivial,x1.trans x2 ud,((T1.trans hz).trans T2).trans he,q1⟩
    rw[ls]at es ⊢;exact Zf9 hj es
   ·exact hr.elim
  ·exact hx.elim
 | _=>exact hx.elim
def BP{C:iM}{D0:b_}{g:Operand}{ps:Array Tmp}{asn bd:Code}{t:Tm}{ds:List Deferred}{h:N}{K:Exit->St->Prop}{f:FuncId}{fn:Func}{first captured:Array V}(hg:g_ E.G t g=U (.func (.func f) first captured))(hf:E.fn.A f=U fn)
  (hk:C.fn f (first.toList ++ [.func (.yield (h.Q+1)) #[] #[]]++captured.toList) ((h.push (.obj .defs)).push (.obj (.loop .ready O t ps asn bd h.Q))) (tN t ({target:=.collected h.Q,args:=#[]}::ds) (h.Q+1) K)) :
  iH E C D0 O (.rangeFunc g ps asn bd) ⟨t,ds,h⟩ K:=by
 show By E C O g ps asn bd ⟨t,ds,h⟩ K;unfold By;simp only[hg,hf];exact hk
def Ce{t:Tm}{ds:List Deferred}{l:Nat}{K:Exit->St->Prop}{v:V}{h:N}{t':Tm}{ps:Array Tmp}{asn bd:Code}{d:Nat}{st:LoopState}(hs:st ≠ .busy)(hg:h.A l=U (.obj (.loop st O t' ps asn bd d)))(hk:K .normal ⟨t,ds,h.set l O⟩):tN t ds l K (.ret v) h:=by
 unfold tN tC;simp only[hg];cases st <;> first
  | exact absurd rfl hs
  | exact hk
def Co{C:iM}{D0:b_}{l:Nat}{bd:Code}{K:ip->N->Prop}{t:Tm}{ds:List Deferred}{h:N}:DS E C D0 l bd K .normal ⟨t,ds,h⟩=(match h.A l with
  | some (.obj (.loop .ready p1 t1 h2 hx hc d1))=>iH E C D0 (U l) bd ⟨t,ds,h.set l (U (.obj (.loop .busy p1 t1 h2 hx hc d1)))⟩ (wN l K)
  | _=>False):=rfl
def Cr{l:Nat}{K:ip->N->Prop}{s:St}{st:LoopState}{pe:Option Code}{t2:Tm}{ps2:Array Tmp}{as2 bd2:Code}{d2:Nat}(hg:s.h.A l=U (.obj (.loop st pe t2 ps2 as2 bd2 d2)))(hk:K (.ret (.bool Y)) (s.h.set l (U (.obj (.loop .ready O t2 ps2 as2 bd2 d2))))):wN l K .normal s:=by
 unfold wN;simp only[BJ,hg];exact hk
def Cj:Code->Code
 | .rangeFunc _ _ a _=>a
 | _ => .skip
def Cm:Code->Code
 | .rangeFunc _ _ _ b=>b
 | _ => .skip
end
def BC(P:Program)(G:Bs)(f:FuncId)(args:List V)(h:N)(K:ip->N->Prop):Prop :=
 ∃ r h',fx P G f args h (fun r1 h1=>r1=r/\h1=h')/\h.Q<=h'.Q/\K r h'
def r8(P:Program)(G:Bs)(l:Nat)(args:List V)(h:N)(K:ip->N->Prop):Prop :=
 ∃ r h',zI P G l args h (fun r1 h1=>r1=r/\h1=h')/\h.Q<=h'.Q/\K r h'
def BC.ok{args:List V}{h:N}{K:ip->N->Prop}(hc:BC P G f args h K):fx P G f args h K:=by
 obtain⟨r,h',h1,_,h2⟩:=hc;exact h1.mono fun r1 h1 ⟨e1,e2⟩=>by subst e1;subst e2;exact h2
def BC.mono{args:List V}{h:N}{K K':ip->N->Prop}(hc:BC P G f args h K)(hk:∀ r h',K r h'->K' r h'):BC P G f args h K':=by
 obtain⟨r,h',h1,h2,h3⟩:=hc;exact⟨r,h',h1,h2,hk _ _ h3⟩
def r8.mono{l:Nat}{args:List V}{h:N}{K K':ip->N->Prop}(hc:r8 P G l args h K)(hk:∀ r h',K r h'->K' r h'):r8 P G l args h K':=by
 obtain⟨r,h',h1,h2,h3⟩:=hc;exact⟨r,h',h1,h2,hk _ _ h3⟩
def s7(P:Program)(G:Bs):iM:=⟨BC P G,r8 P G,J⟩
def Z5h(P:Program)(G:Bs):iV P G (s7 P G) :=
 ⟨fun _ _ _ _ h=>h.ok,fun l args h K ⟨r,h',h1,_,h2⟩=>fun Z w β rd st hx t ps hk bd d fn hc a1 a2 a3 a4 a5=>by
  refine(h1 Z w β rd st hx t ps hk bd d fn hc a1 a2 a3 a4 a5).mono ?_;rintro e w' ⟨Z',r1,h3,⟨rfl,rfl⟩,q⟩;exact⟨Z',_,_,h2,q⟩⟩
section
variable{P:Program}{E:d_ P}{G:Bs}{rd:Option Nat}
def Is(e:Exit)(s':St):Exit->St->Prop:=fun e1 s1=>e1=e/\s1=s'
def B3(s:St)(d:Option Tmp)(v:V)(h:N):(s.put d v h).h=h:=Ed _ _ _ _
structure vy (B:St->(Exit->St->Prop)->Prop):Prop where
 mono:∀ s K K',B s K->(∀ e s',K e s'->K' e s')->B s K'
 one:∀ s K,B s K->∃ e s',B s (Is e s')/\s.h.Q<=s'.h.Q/\K e s'
def Vce(o:Oper):vy (fun s K=>Xu E (s7 P G) rd o s K):=by
 refine⟨fun s K K' h hk => ?_,fun s K h => ?_⟩
 ·unfold Xu at h ⊢;split at h
  ·exact h.elim
  ·rename_i hd;rw[if_neg hd];split at h
   ·rename_i c hx;split at h
    ·split at h
     ·exact hk _ _ h
     ·exact h.elim
    ·exact h.elim
   ·rename_i x hc hx;unfold ED at h ⊢;split at h
    ·rcases h with⟨y,h1,h2⟩ | ⟨h0,_⟩
     ·exact .inl ⟨y,h1,hk _ _ h2⟩
     ·cases h0
    ·exact h.elim
   ·rename_i hx;split at h
    ·exact hk _ _ h
    ·exact hk _ _ h
    ·exact hk _ _ h
    ·exact h.mono fun r h' hq=>by cases r <;> exact hk _ _ hq
    ·exact h.mono fun r h' hq=>by cases r <;> exact hk _ _ hq
    ·exact h.elim
 ·unfold Xu at h ⊢;split at h
  ·exact h.elim
  ·rename_i hd;simp only[hd,if_false,Bool.false_eq_true];split at h
   ·rename_i c hx;split at h
    ·split at h
     next d hb=>exact⟨_,_,⟨rfl,rfl⟩,by rw[B3];exact Nat.le_refl _,h⟩
     ·exact h.elim
    ·exact h.elim
   ·rename_i x hc hx;unfold ED at h ⊢;split at h
    ·rcases h with⟨y,h1,h2⟩ | ⟨h0,_⟩
     ·refine⟨_,_,.inl ⟨y,h1,rfl,rfl⟩,?_,h2⟩;rw[B3];exact(Zn5 (by rw[h1];simp)).Q
     ·cases h0
    ·exact h.elim
   ·rename_i hx;split at h
    ·rename_i v h1 hr;refine⟨_,_,⟨rfl,rfl⟩,?_,h⟩
     ·rw[B3];exact(sj hr).Q
    ·rename_i h1 hr;refine⟨_,_,⟨rfl,rfl⟩,?_,h⟩
     ·rw[B3];exact(sj hr).Q
    ·rename_i v h1 hr;refine⟨_,_,⟨rfl,rfl⟩,?_,h⟩
     ·exact(sj hr).Q
    ·rename_i f args h1 hr;obtain⟨r,h',c1,c2,c3⟩:=h;have hn:s.h.Q<=h'.Q:=Nat.le_trans (sj hr).Q c2;cases r with
     | ret v =>
      refine⟨.normal,s.put o.dst v h',?_,by rw[B3];exact hn,c3⟩;exact⟨_,_,c1,c2,rfl,rfl⟩
     | panic ch =>
      refine⟨.panic ch,{s with h:=h' },?_,hn,c3⟩;exact⟨_,_,c1,c2,rfl,rfl⟩
    ·rename_i l args h1 hr;obtain⟨r,h',c1,c2,c3⟩:=h;have hn:s.h.Q<=h'.Q:=Nat.le_trans (sj hr).Q c2;cases r with
     | ret v =>
      refine⟨.normal,s.put o.dst v h',?_,by rw[B3];exact hn,c3⟩;exact⟨_,_,c1,c2,rfl,rfl⟩
     | panic ch =>
      refine⟨.panic ch,{s with h:=h' },?_,hn,c3⟩;exact⟨_,_,c1,c2,rfl,rfl⟩
    ·exact h.elim
def Vam(ops:List Oper):∀ l,vy (fun s K=>nP E (s7 P G) rd ops K l s)
 | []=>⟨fun s K K' h hk=>hk _ _ h,fun s K h=>⟨.normal,s,⟨rfl,rfl⟩,Nat.le_refl _,h⟩⟩
 | o::r=>by
  have ih:=Vam ops r;have st:=Vce (P:=P) (E:=E) (G:=G) (rd:=rd) o;refine⟨fun s K K' h hk => ?_,fun s K h => ?_⟩
  ·simp only[nP]at h ⊢;split at h
   ·rename_i hw;refine st.mono _ _ _ h fun e s' hn => ?_;cases e <;> first
     | exact ih.mono _ _ _ hn hk
     | exact hk _ _ hn
     | exact hn
   ·rename_i hw;split at h
    next hd=>rw[if_pos hd];exact ih.mono _ _ _ h hk
    ·exact h.elim
   ·exact h.elim
  ·simp only[nP]at h;split at h
   ·rename_i hw;obtain⟨e,s1,h1,h2,h3⟩:=st.one _ _ h;cases e with
    | normal =>
     obtain⟨e2,s2,g1,g2,g3⟩:=ih.one _ _ h3;refine⟨e2,s2,?_,Nat.le_trans h2 g2,g3⟩;simp only[nP,hw];refine st.mono _ _ _ h1 ?_;rintro e' s' ⟨rfl,rfl⟩;exact g1
    | panic ch =>
     refine⟨.panic ch,s1,?_,h2,h3⟩;simp only[nP,hw];refine st.mono _ _ _ h1 ?_;rintro e' s' ⟨rfl,rfl⟩;exact⟨rfl,rfl⟩
    | _=>exact h3.elim
   ·rename_i hw;split at h
    next hd=>obtain⟨e2,s2,g1,g2,g3⟩:=ih.one _ _ h;rw[B3]at g2;refine⟨e2,s2,?_,g2,g3⟩;simp only[nP,hw,if_pos hd];exact g1
    ·exact h.elim
   ·exact h.elim
def Vcg{g:Operand}{ps:Array Tmp}{asn bd:Code}:vy (fun s K=>By E (s7 P G) rd g ps asn bd s K):=by
 have hc:∀ {t:Tm} {ds:List Deferred} {l:Nat} {K:Exit->St->Prop} {r:ip} {h:N},tN t ds l K r h->∃ e s1,tN t ds l (Is e s1) r h/\h.Q<=s1.h.Q/\K e s1:=by
  intro t ds l K r h hk;unfold tN at hk ⊢;split at hk
  next e s1 h2=>exact⟨e,s1,⟨rfl,rfl⟩,(Pd h2).Q,hk⟩
  ·exact hk.elim
 have hx:∀ {t:Tm} {ds:List Deferred} {l:Nat} {K K':Exit->St->Prop} {r:ip} {h:N},tN t ds l K r h->(∀ e s',K e s'->K' e s')->tN t ds l K' r h:=by
  intro t ds l K K' r h hk hm;unfold tN at hk ⊢;split at hk
  ·exact hm _ _ hk
  ·exact hk.elim
 refine⟨fun s K K' h hk => ?_,fun s K h => ?_⟩
 ·unfold By at h ⊢;split at h
  ·split at h
   ·exact h.elim
   ·split at h
    ·exact h.mono fun r h' hq=>hx hq hk
    ·split at h
     ·exact h.mono fun r h' hq=>hx hq hk
     ·exact h.elim
  ·exact h.elim
 ·unfold By at h ⊢;split at h
  ·split at h
   ·exact h.elim
   ·split at h
    ·obtain⟨r,h',c1,c2,c3⟩:=h;obtain⟨e,s1,a1,a2,a3⟩:=hc c3;exact⟨e,s1,⟨r,h',c1,c2,a1⟩,Nat.le_trans (Nat.le_trans (show s.h.Q<=s.h.Q+1+1 by omega) c2) a2,a3⟩
    ·split at h
     ·obtain⟨r,h',c1,c2,c3⟩:=h;obtain⟨e,s1,a1,a2,a3⟩:=hc c3;exact⟨e,s1,⟨r,h',c1,c2,a1⟩,Nat.le_trans (Nat.le_trans (show s.h.Q<=s.h.Q+1 by omega) c2) a2,a3⟩
     ·exact h.elim
  ·exact h.elim
def Vdy{body:St->(Exit->St->Prop)->Prop}(hb:vy body):vy (OO body):=by
 have hc:∀ {F F':St->Prop} {K K':Exit->St->Prop} {e:Exit} {s:St},sP F K e s->(F s->F' s)->(K e s->K' e s)->sP F' K' e s:=by
  intro F F' K K' e s h h1 h2;cases e <;> first
   | exact h1 h
   | exact h2 h
 refine⟨fun s K K' ⟨I_,k,hI,hr⟩ hk=>⟨I_,k,hI,fun k s' h1 h2=>hb.mono _ _ _ (hr k s' h1 h2) fun e s2 h=>hc h id (hk _ _)⟩,fun s K ⟨I_,k,hI,hr⟩ => ?_⟩;have hA:∀ k st,I_ k st->s.h.Q<=st.h.Q->∃ e s',OO body st (Is e s')/\st.h.Q<=s'.h.Q/\K e s':=by
  intro k;induction k using Nat.strongRecOn with
  | ind k ih =>
   intro st hy hn;obtain⟨e1,s1,h1,h2,h3⟩:=hb.one _ _ (hr k st hy hn);by_cases he:e1=.normal
   ·subst he;obtain⟨k',ls,Z'⟩:=h3;obtain⟨e,s',⟨J_,m,hJ,hp⟩,g2,g3⟩:=ih k' ls s1 Z' (Nat.le_trans hn h2);refine⟨e,s',⟨fun j x=>(j=m+1/\x=st)∨(J_ j x/\s1.h.Q<=x.h.Q),m+1,.inl ⟨rfl,rfl⟩,?_⟩,Nat.le_trans h2 g2,g3⟩;rintro j x (⟨rfl,rfl⟩ | ⟨hj,hx⟩) _
    ·refine hb.mono _ _ _ h1 ?_;rintro e2 s2 ⟨rfl,rfl⟩;exact⟨m,Nat.lt_succ_self _,.inr ⟨hJ,Nat.le_refl _⟩⟩
    ·obtain⟨e2,s2,b1,b2,b3⟩:=hb.one _ _ (hp j x hj hx);refine hb.mono _ _ _ b1 ?_;rintro e3 s3 ⟨rfl,rfl⟩;exact hc b3 (fun⟨j',q1,q2⟩=>⟨j',q1,.inr ⟨q2,Nat.le_trans hx b2⟩⟩) id
   ·have hK:K e1 s1:=by cases e1 <;> first | exact absurd rfl he | exact h3
    refine⟨e1,s1,⟨fun j x=>x=st,0,rfl,?_⟩,h2,hK⟩;rintro j x rfl _;refine hb.mono _ _ _ h1 ?_;rintro e2 s2 ⟨rfl,rfl⟩;cases e2 <;> first
     | exact absurd rfl he
     | exact⟨rfl,rfl⟩
 exact hA k s hI (Nat.le_refl _)
def vR {D0 : b_} (hL : gp D0) (rd : Option Nat) : ∀ c : Code, vy (fun s K => iH E (s7 P G) D0 rd c s K)
  | .skip => ⟨fun s K K' h hk => hk _ _ h, fun s K h => ⟨_, s, ⟨rfl, rfl⟩, Nat.le_refl _, h⟩⟩
  | .label _ => ⟨fun s K K' h hk => hk _ _ h, fun s K h => ⟨_, s, ⟨rfl, rfl⟩, Nat.le_refl _, h⟩⟩
  | .ret => ⟨fun s K K' h hk => hk _ _ h, fun s K h => ⟨_, s, ⟨rfl, rfl⟩, Nat.le_refl _, h⟩⟩
  | .exit _ => ⟨fun s K K' h hk => hk _ _ h, fun s K h => ⟨_, s, ⟨rfl, rfl⟩, Nat.le_refl _, h⟩⟩
  | .seq x y => by
    have hx := vR hL rd x;have hy := vR hL rd y;refine ⟨fun s K K' h hk => ?_, fun s K h => ?_⟩
    · simp only [iH] at h ⊢
      refine hx.mono _ _ _ h fun e s' q => ?_;cases e <;> first
        | exact hy.mono _ _ _ q hk
        | exact hk _ _ q
    · simp only [iH] at h ⊢
      obtain ⟨e, s1, h1, h2, h3⟩ := hx.one _ _ h;by_cases he : e = .normal
      · subst he
        obtain ⟨e2, s2, g1, g2, g3⟩ := hy.one _ _ h3;refine ⟨e2, s2, hx.mono _ _ _ h1 ?_, Nat.le_trans h2 g2, g3⟩;rintro e' s' ⟨rfl, rfl⟩;exact g1
      · have hK : K e s1 := by cases e <;> first | exact absurd rfl he | exact h3
        refine ⟨e, s1, hx.mono _ _ _ h1 ?_, h2, hK⟩;rintro e' s' ⟨rfl, rfl⟩;cases e' <;> first
          | exact absurd rfl he
          | exact ⟨rfl, rfl⟩
  | .cond c x y => by
    have hx := vR hL rd x;have hy := vR hL rd y;refine ⟨fun s K K' h hk => ?_, fun s K h => ?_⟩
    · simp only [iH] at h ⊢
      obtain ⟨q, h1, h2, h3⟩ := h;exact ⟨q, h1, fun e => hx.mono _ _ _ (h2 e) hk, fun e => hy.mono _ _ _ (h3 e) hk⟩
    · simp only [iH] at h ⊢
      obtain ⟨q, h1, h2, h3⟩ := h;cases q with
      | true =>
        obtain ⟨e, s1, g1, g2, g3⟩ := hx.one _ _ (h2 rfl);exact ⟨e, s1, ⟨Y, h1, fun _ => g1, fun q => by cases q⟩, g2, g3⟩
      | false =>
        obtain ⟨e, s1, g1, g2, g3⟩ := hy.one _ _ (h3 rfl);exact ⟨e, s1, ⟨J, h1, fun q => (by cases q), fun _ => g1⟩, g2, g3⟩
  | .block id c => by
    have hc := vR hL rd c;refine ⟨fun s K K' h hk => ?_, fun s K h => ?_⟩
    · simp only [iH] at h ⊢
      refine hc.mono _ _ _ h fun e s' q => ?_;cases e <;> first
        | exact hk _ _ q
        | (simp only [qr] at q ⊢
           split at q
           · rename_i hq; rw [if_pos hq]; exact hk _ _ q
           · rename_i hq; rw [if_neg hq]; exact hk _ _ q)
    · simp only [iH] at h ⊢
      obtain ⟨e, s1, h1, h2, h3⟩ := hc.one _ _ h;have : ∃ e2, qr id K e s1 = K e2 s1 /\ qr id (Is e2 s1) e s1 := by
        cases e <;> first
          | exact ⟨_, rfl, rfl, rfl⟩
          | (simp only [qr]
             split
             · exact ⟨_, rfl, rfl, rfl⟩
             · exact ⟨_, rfl, rfl, rfl⟩)
      obtain ⟨e2, q1, q2⟩ := this;rw [q1] at h3;refine ⟨e2, s1, hc.mono _ _ _ h1 ?_, h2, h3⟩;rintro e' s' ⟨rfl, rfl⟩;exact q2
  | .loop c => by
    have hl := Vdy (vR hL rd c);refine ⟨fun s K K' h hk => ?_, fun s K h => ?_⟩
    · simp only [iH] at h ⊢
      exact ⟨h.1, hl.mono _ _ _ h.2 hk⟩
    · simp only [iH] at h ⊢
      obtain ⟨e, s1, h1, h2, h3⟩ := hl.one _ _ h.2;exact ⟨e, s1, ⟨h.1, h1⟩, h2, h3⟩
  | .region _ ops Y => by
    refine ⟨fun s K K' h hk => ?_, fun s K h => ?_⟩
    · simp only [iH] at h ⊢
      rcases h with ⟨B, s1, R, L_, d1, h1, h2, h3, h4, h5⟩ | ⟨h1, _⟩ | ⟨h1, _⟩
      · exact .inl ⟨B, s1, R, L_, d1, h1, h2, h3, h4, hk _ _ h5⟩
      · cases h1
      · cases h1
    · simp only [iH] at h ⊢
      rcases h with ⟨B, s1, R, L_, d1, h1, h2, h3, h4, h5⟩ | ⟨h1, _⟩ | ⟨h1, _⟩
      · exact ⟨_, _, .inl ⟨B, s1, R, L_, d1, h1, h2, h3, h4, rfl, rfl⟩, J17 d1 h1 h2 h3 h4, h5⟩
      · cases h1
      · cases h1
  | .region _ ops J => by
    have := Vam (P := P) (E := E) (G := G) (rd := rd) ops.toList ops.toList;exact ⟨fun s K K' h hk => by simp only [iH] at h ⊢; exact this.mono _ _ _ h hk, fun s K h => by simp only [iH] at h ⊢; exact this.one _ _ h⟩
  | .rangeFunc g ps hr bd => by
    have := Vcg (P := P) (E := E) (G := G) (rd := rd) (g := g) (ps := ps) (asn := hr) (bd := bd);exact ⟨fun s K K' h hk => by simp only [iH] at h ⊢; exact this.mono _ _ _ h hk, fun s K h => by simp only [iH] at h ⊢; exact this.one _ _ h⟩
  | .scope .. | .goto .. | .refuse .. => ⟨fun s K K' h _ => by simp [iH] at h, fun s K h => by simp [iH] at h⟩
def Ux(E:d_ P){D0:b_}(hk:gr P E.G D0)(hL:gp D0)(hm:P.follows .mixedOrders=Y){D:pL}(hD:Cd P E.G D)(hr:HC D){f n:Nat}{args:List V}{h:N}{fn:Func}{c cb:Code}{K:ip->N->Prop}
  (hp:E.fn.A f=U fn) (hb:fn.body=U c) (hn:fn.ntmps=n) (hc:Uz c=cb) (hA:Nat.ble (L args) n=Y) (hx:iH E (s7 P E.G) D0 O cb ⟨⟨n,Xs.putAll 0 args .leaf⟩,[],h⟩ (uH E D fn K)):BC P E.G f args h K:=by
 obtain⟨e,s',h1,h2,h3⟩:=(vR (E:=E) (G:=E.G) hL O cb).one _ _ hx;have lv:∀ u,tB E D fn K u s'->∃ r h',tB E D fn (fun r1 h1=>r1=r/\h1=h') u s'/\s'.h.Q<=h'.Q/\K r h':=by
  intro u hu;unfold tB at hu ⊢;split at hu
  next r h' hl=>exact⟨r,h',⟨rfl,rfl⟩,(Ic hr _ _ _ _ _ hl).Q,hu⟩
  ·exact hu.elim
 have : ∃ r h',uH E D fn (fun r1 h1=>r1=r/\h1=h') e s'/\s'.h.Q<=h'.Q/\K r h':=by
  cases e <;> first
   | exact lv _ h3
   | exact h3.elim
 obtain⟨r,h',q1,q2,q3⟩:=this;refine⟨r,h',kW E (Z5h _ _) hk hL hm hD hp hb hn hc hA ((vR (E:=E) (G:=E.G) hL O cb).mono _ _ _ h1 ?_),Nat.le_trans h2 q2,q3⟩;rintro e1 s1 ⟨rfl,rfl⟩;exact q1
end
section
variable{P:Program}{E:d_ P}
def Ow(E:d_ P){D0:b_}(hD:gr P E.G D0)(hL:gp D0)(hm:P.follows .mixedOrders=Y){l:Nat}{args:List V}{h:N}{K:ip->N->Prop}
  {p0:Option Code} {t0:Tm} {hk:Array Tmp} {hr hb hx hc:Code} {d0:Nat} (ls:h.A l=U (.obj (.loop .ready p0 t0 hk hr hb d0))) (hp:qv t0.size hk.toList args=Y) (hA:Uz hr=hx) (Z':Uz hb=hc)
  (hh:iH E (s7 P E.G) D0 (U l) hx ⟨qz t0 hk.toList args,[],h⟩ (DS E (s7 P E.G) D0 l hc K)):r8 P E.G l args h K:=by
 obtain⟨e1,s1,h1,n1,h2⟩:=(vR (E:=E) (G:=E.G) hL (U l) hx).one _ _ hh;cases e1 with
 | normal =>
  unfold DS at h2;simp only at h2;split at h2
  ·rename_i p1 t1 q1 hg hB d1 hy;obtain⟨e2,s2,h3,n3,h4⟩:=(vR (E:=E) (G:=E.G) hL (U l) hc).one _ _ h2;unfold wN at h4;split at h4
   ·rename_i j vz q2 t2 hf hn es d2 hj hq;refine⟨_,_,Lq E (Z5h _ _) hD hL hm ls hp hA Z' ((vR (E:=E) (G:=E.G) hL (U l) hx).mono _ _ _ h1 ?_),?_,h4⟩
    ·rintro e s ⟨rfl,rfl⟩;unfold DS;simp only[hy];refine(vR (E:=E) (G:=E.G) hL (U l) hc).mono _ _ _ h3 ?_;rintro e s ⟨rfl,rfl⟩;unfold wN;simp only[hj,hq];exact⟨trivial,trivial⟩
    ·exact Nat.le_trans n1 n3
   ·exact h4.elim
  ·exact h2.elim
 | _=>exact h2.elim
end
def kn(h:N)(x:Blk):(h.push x).Q=h.Q+1:=Eq.trans rfl rfl
def nJ(h:N)(b:Nat)(x:Option Blk):(h.set b x).Q=h.Q:=Eq.trans rfl rfl
def tZ{c:Nat}{x:Blk}(hn:h.Q≠c):(h.push x).A c=h.A c:=by rw[N.F,if_neg hn]
def tY{c:Nat}{x:Blk}(hn:h.Q=c):(h.push x).A c=U x:=by rw[N.F,if_pos hn]
def t_{c:Nat}{x:Option Blk}(hb:b < h.Q)(hn:b≠c):(h.set b x).A c=h.A c:=by rw[gY hb,if_neg hn]
def ua{c:Nat}{x:Option Blk}(hb:b < h.Q)(hn:b=c):(h.set b x).A c=x:=by rw[gY hb,if_pos hn]
section
variable{P:Program}{E:iS P}{t:TypeId}{r:ib}
structure Kp (E:iS P) (t:TypeId) (r:ib):Prop where
 e:E.ty.A t=U r
 d:jO r.desc=J
 size:r.size=1
variable(T:Kp E t r)
include T
omit T in
theorem Z51:∀ (l:List V) (i:Nat) (v:V),i < L l->mM l i [v]=U (l.set i v)
 | x::l,0,v,_=>by simp[mM,over]
 | x::l,i+1,v,h=>by
  have:=Z51 l i v (by simpa using h);simp[mM,this]
 | [],_,_,h=>by simp at h
omit T in
omit T in
theorem Vbo{f:FuncId}{first captured:List V}:AT (.func f) first captured=U (.func (.func f) first.toArray captured.toArray):=rfl
end
def rY{a b:Nat}(h:a<=b):Nat.ble a b=Y:=by rw[Nat.ble_eq];exact h
def uD:∀ {n:Nat} {l:List V},n<=L l->nF n l=U (l.take n)
 | 0,l,_=>by simp[nF]
 | n+1,v::l,h=>by simp[nF,uD (n:=n) (l:=l) (by simpa using h)]
 | n+1,[],h=>by simp at h
def J37:∀ {c l:List V},L l<=L c->over c l=U (l++c.drop (L l))
 | c,[],_=>by cases c <;> simp[over]
 | x::c,v::l,h=>by simp[over,J37 (c:=c) (l:=l) (by simpa using h)]
 | [],v::l,h=>by simp at h
def vd:∀ {c:List V} {o:Nat} {l:List V},o+L l<=L c->mM c o l=U (c.take o++l++c.drop (o+L l))
 | c,0,l,h=>by simp[mM,J37 (c:=c) (l:=l) jA]
 | x::c,o+1,l,h=>by
  have e:o+1+L l=(o+L l)+1:=jA
  simp[mM,vd (c:=c) (o:=o) (l:=l) (by simp at h;omega),e]
 | [],o+1,l,h=>by simp at h
def Qr(x:Bool):Hd .not (.bool x)=U (.bool (!x)):=by cases x <;> kernel_rfl
def nh(a c:Int):yn J [I X a,I X c]=U (I X (if c < a then c else a)):=kR
def nY(a c:Int):yn Y [I X a,I X c]=U (I X (if c > a then c else a)):=kR
def Jr(h:N)(bk o:Nat):Option V:=match h.A bk with | some (.cells _ _ c)=>c[o]? | _=>O
def iz(h:N)(bk o z:Nat):Option V:=match h.A bk with | some (.cells _ _ c)=>(nF z (c.drop o)).map fun l => .agg ⟨l⟩ | _=>O
def Wp(h:N)(bk o:Nat)(l:List V):Option N:=match h.A bk with | some (S Y sz c)=>(mM c o l).map fun c'=>h.set bk (U (S Y sz c')) | _=>O
def oh:V->Bool
 | .agg _=>J
 | .tuple _=>J
 | _=>Y
def yP{v:V}(h:oh v=Y):lN v=Y/\v.cells = #[v]:=by
 cases v <;> first
  | exact⟨rfl,rfl⟩
  | simp[oh]at h
def Zy{ow:Bool}{c:List V}(hg:h.A bk=U (.cells ow z c)):Jr h bk o=c[o]? := by simp[Jr,hg]
def Uh{k:Nat}{ow:Bool}{c:List V}(hg:h.A bk=U (.cells ow z c))(hl:o+k<=L c):iz h bk o k=U (.agg ⟨(c.drop o).take k⟩):=by
 simp only[iz,hg];rw[uD (by rw[List.length_drop];omega)];rfl
def kI{c l:List V}(hg:h.A bk=U (S Y z c))(hl:o+L l<=L c):Wp h bk o l=U (h.set bk (U (S Y z (c.take o++l++c.drop (o+L l))))):=by
 simp only[Wp,hg,vd hl];rfl
def oF{c:List V}{v:V}(hg:h.A bk=U (S Y z c))(hl:o < L c):Wp h bk o [v]=U (h.set bk (U (S Y z (c.set o v)))):=by
 simp only[Wp,hg,Z51 c o v hl];rfl
section
variable{P:Program}{E:iS P}
def oG{t:TypeId}{r:ib}(he:E.ty.A t=U r)(hd:jO r.desc=J){h:N}{bk o:Nat}:jy E t (.pointer (U ⟨bk,o,O⟩)) h=Jr h bk o:=by
 simp only[jy,he,Bw,hd,Bool.false_eq_true,if_false,Ab.cellsAt,Jr];cases h.A bk with
 | none=>rfl
 | some x =>
  cases x with
  | cells ow z c =>
   show(match nF 1 (c.drop o)with | some [v]=>U v | _=>O)=c[o]?;rcases Nat.lt_or_ge o (L c) with hl | hl
   ·rw[J0s (List.getElem?_eq_getElem hl),List.getElem?_eq_getElem hl]
   ·rw[List.getElem?_eq_none hl,List.drop_eq_nil_of_le hl];rfl
  | _=>rfl
def uZ{t:TypeId}{r:ib}{z:Nat}(he:E.ty.A t=U r)(hd:jO r.desc=Y)(hz:r.size=z){h:N}{bk o:Nat}:jy E t (.pointer (U ⟨bk,o,O⟩)) h=iz h bk o z:=by
 simp only[jy,he,Bw,hd,if_true,Ab.cellsAt,iz,hz];cases h.A bk with
 | none=>rfl
 | some x=>cases x <;> rfl
def rI{t:TypeId}{r:ib}(he:E.ty.A t=U r)(hz:r.size=1){h:N}{bk o:Nat}{v:V}(hv:oh v=Y):j0 E t (.pointer (U ⟨bk,o,O⟩)) v h=Wp h bk o [v]:=by
 obtain⟨h1,h2⟩:=yP hv;simp only[j0,he,BR,h1,h2,hz,storeAt,Wp];rfl
def uU{t:TypeId}{r:ib}(he:E.ty.A t=U r){h:N}{bk o:Nat}{l:List V}(hl:L l=r.size):j0 E t (.pointer (U ⟨bk,o,O⟩)) (.agg ⟨l⟩) h=Wp h bk o l:=by
 have h1:(Value.agg ⟨l⟩).cells=⟨l⟩:=rfl;have h2:(lN (.agg ⟨l⟩) && (Value.agg ⟨l⟩).cells.size == r.size)=Y:=by
  rw[h1];simp[lN,hl]
 simp only[j0,he,BR];rw[if_pos h2];rfl
structure jQ (E:iS P) (te ts:TypeId) (re rs:ib):Prop where
 e:E.ty.A te=U re
 s:E.ty.A ts=U rs
 d:rs.desc=.slice te
structure xS (E:iS P) (n:Nat) (te ts:TypeId) (re rs:ib):Prop where
 e:E.ty.A te=U re
 s:E.ty.A ts=U rs
 d:rs.desc=.array n te
def Cv{te ts:TypeId}{re rs:ib}{z:Nat}(T:jQ E te ts re rs)(hz:re.size=z){bk o n c:Nat}{k:IntKind}{i:Int}(h:0<=i/\i < n):Ug E ts (M (U ⟨bk,o,O⟩) n c) (.int k i)=U (.pointer (U ⟨bk,o+i.toNat*z,O⟩)):=by
 simp only[Ug,T.s,T.d,T.e,hz,if_pos h,r9]
def K8{n:Nat}{te ts:TypeId}{re rs:ib}{z:Nat}(T:xS E n te ts re rs)(hz:re.size=z){bk o:Nat}{k:IntKind}{i:Int}(h:0<=i/\i < n):Ug E ts (.pointer (U ⟨bk,o,O⟩)) (.int k i)=U (.pointer (U ⟨bk,o+i.toNat*z,O⟩)):=by
 simp only[Ug,T.s,T.d,T.e,hz,if_pos h,r9]
end
def Vn:V->Option Nat
 | M (U a) _ _=>U a.block
 | .pointer (U a)=>U a.block
 | .map (U b)=>U b
 | _=>O
def Sl(h:N)(z:Nat)(v:V)(n:Nat)(xs:List V):Prop :=
 (∃ c,v=M O 0 c/\c < iJ/\n=0/\xs=[]) ∨ ∃ bk o c ow z' pre post,v=M (U ⟨bk,o,O⟩) n c/\h.A bk=U (.cells ow z' (pre++xs++post))/\L pre=o/\L xs=n*z/\n<=c/\c<=iJ/\(c=iJ->z'=z/\o % z=0/\(ow=Y∨n=0/\pre++xs++post=[]))
def ig(h:N)(n0 z:Nat)(v:V)(n:Nat)(xs:List V):Prop :=
 (v=M O 0 0/\n=0/\xs=[]) ∨ ∃ bk c z' hx,v=M (U ⟨bk,0,O⟩) n c/\n0<=bk/\h.A bk=U (S Y z' (xs++hx))/\L xs=n*z/\n<=c/\c<=iJ/\(c=iJ/\z'=z∨c≠iJ/\L (xs++hx)=c*z)
def ig.sl{v:V}{xs:List V}(o:ig h n0 z v n xs):Sl h z v n xs:=by
 rcases o with⟨rfl,rfl,rfl⟩ | ⟨bk,c,z',hx,rfl,h1,h2,h3,h4,h5,h6⟩
 ·exact .inl ⟨0,rfl,by simp[iJ],rfl,rfl⟩
 ·refine .inr ⟨bk,0,c,Y,z',[],hx,rfl,by simpa using h2,rfl,h3,h4,h5,fun hc => ?_⟩;rcases h6 with⟨_,h7⟩ | ⟨h7,_⟩
  ·exact⟨h7,Nat.zero_mod _,.inl rfl⟩
  ·exact absurd hc h7
def Sl.len{v:V}{xs:List V}(o:Sl h z v n xs):L xs=n*z:=by
 rcases o with⟨c,rfl,_,rfl,rfl⟩ | ⟨bk,o,c,ow,z',pre,post,rfl,h1,h2,h3,h4⟩
 ·simp
 ·exact h3
def ig.one{v:V}{xs:List V}(o:ig h n0 z v n xs):oh v=Y:=by
 rcases o with⟨rfl,rfl,rfl⟩ | ⟨bk,c,z',hx,rfl,h1,h2,h3,h4⟩ <;> rfl
def Sl.one{v:V}{xs:List V}(o:Sl h z v n xs):oh v=Y:=by
 rcases o with⟨c,rfl,_,rfl,rfl⟩ | ⟨bk,o,c,ow,z',pre,post,rfl,h1,h2,h3⟩ <;> rfl
def ig.keep{v:V}{xs:List V}(o:ig h n0 z v n xs)(hk:∀ c,Vn v=U c->c < h.Q->h'.A c=h.A c):ig h' n0 z v n xs:=by
 rcases o with⟨rfl,rfl,rfl⟩ | ⟨bk,c,z',hx,rfl,h1,h2,h3,h4⟩
 ·exact .inl ⟨rfl,rfl,rfl⟩
 ·exact .inr ⟨bk,c,z',hx,rfl,h1,by rw[hk bk rfl (N.D h2)];exact h2,h3,h4⟩
def Sl.keep{v:V}{xs:List V}(o:Sl h z v n xs)(hk:∀ c,Vn v=U c->c < h.Q->h'.A c=h.A c):Sl h' z v n xs:=by
 rcases o with⟨c,rfl,h0,rfl,rfl⟩ | ⟨bk,o,c,ow,z',pre,post,rfl,h1,h2,h3⟩
 ·exact .inl ⟨c,rfl,h0,rfl,rfl⟩
 ·exact .inr ⟨bk,o,c,ow,z',pre,post,rfl,by rw[hk bk rfl (N.D h1)];exact h1,h2,h3⟩
def ig.low{n1 z n:Nat}{v:V}{xs:List V}(o:ig h n0 z v n xs)(hn:n1<=n0):ig h n1 z v n xs:=by
 rcases o with⟨rfl,rfl,rfl⟩ | ⟨bk,c,z',hx,rfl,h1,h2,h3,h4⟩
 ·exact .inl ⟨rfl,rfl,rfl⟩
 ·exact .inr ⟨bk,c,z',hx,rfl,jA,h2,h3,h4⟩
def ig.from{v:V}{xs:List V}(o:ig h n0 z v n xs){c:Nat}(hc:Vn v=U c):n0<=c/\c < h.Q:=by
 rcases o with⟨rfl,rfl,rfl⟩ | ⟨bk,c',z',hx,rfl,h1,h2,h3,h4⟩
 ·cases hc
 ·cases hc;exact⟨h1,N.D h2⟩
def ig.nil:ig h n0 z (M O 0 0) 0 []:=.inl ⟨rfl,rfl,rfl⟩
def Sl.nil:Sl h z (M O 0 0) 0 []:=.inl ⟨0,rfl,by simp[iJ],rfl,rfl⟩
def ig.new{c z':Nat}{xs:List V}{bk:Nat}(hb:n0<=bk)(hg:h.A bk=U (S Y z' xs))(hx:L xs=n*z)(hn:n < iJ)(hc:c=iJ/\z'=z∨c=n):ig h n0 z (M (U ⟨bk,0,O⟩) n c) n xs:=by
 refine .inr ⟨bk,c,z',[],rfl,hb,by simpa using hg,hx,?_,?_,?_⟩
 ·rcases hc with⟨rfl,_⟩ | rfl <;> omega
 ·rcases hc with⟨rfl,_⟩ | rfl <;> omega
 ·rcases hc with h | rfl
  ·exact .inl h
  ·exact .inr ⟨jA,by simpa using hx⟩
def Sl.blk{v:V}{xs:List V}(o:Sl h z v n xs){c:Nat}(hc:Vn v=U c):c < h.Q:=by
 rcases o with⟨k,rfl,_,rfl,rfl⟩ | ⟨bk,o,k,ow,z',pre,post,rfl,h1,h2,h3⟩
 ·cases hc
 ·cases hc;exact N.D h1
def a_(h h':N):Prop:=h.Q<=h'.Q/\∀ c,c < h.Q->h'.A c=h.A c
def a_.refl(h:N):a_ h h:=⟨Nat.le_refl _,fun _ _=>rfl⟩
def a_.trans{hx:N}(a:a_ h h')(b:a_ h' hx):a_ h hx:=⟨Nat.le_trans a.1 b.1,fun c hc=>by rw[b.2 c (Nat.lt_of_lt_of_le hc a.1),a.2 c hc]⟩
def a_.push(h:N)(x:Blk):a_ h (h.push x):=⟨Nat.le_succ _,fun c hc=>by rw[N.F,if_neg jA]⟩
def a_.push'(a:a_ h h')(x:Blk):a_ h (h'.push x):=a.trans (a_.push _ _)
def a_.set(a:a_ h h'){b:Nat}(x:Option Blk)(h0:h.Q<=b)(h1:b < h'.Q):a_ h (h'.set b x):=⟨a.1,fun c hc=>by rw[gY h1,if_neg jA,a.2 c hc]⟩
def a_.A(a:a_ h h'){c:Nat}{x:Blk}(hc:h.A c=U x):h'.A c=U x:=by rw[a.2 c (N.D hc),hc]
def Sl.R{v:V}{xs:List V}(o:Sl h z v n xs)(a:a_ h h'):Sl h' z v n xs:=o.keep fun c _ hc=>a.2 c hc
def jj(v:V)(h h':N):Prop:=h.Q<=h'.Q/\∀ c,c < h.Q->Vn v≠U c->h'.A c=h.A c
def jj.R{h0 h':N}{n z:Nat}{v:V}{xs:List V}(a:a_ h h0)(o:ig h0 h.Q z v n xs)(b:jj v h0 h'):a_ h h' :=
 ⟨Nat.le_trans a.1 b.1,fun c hc=>by
  rw[b.2 c (Nat.lt_of_lt_of_le hc a.1) (fun e=>by have:=(o.from e).1;omega),a.2 c hc]⟩
def by8(n:Nat):V:=.int .u8 (n:Int)
def jW{z:Int}(h0 : -9223372036854775808<=z)(h1:z<=9223372036854775807):IntKind.i64.wrap z=z:=by
 have : IntKind.i64.wrap z=(if z % 18446744073709551616 ≥ 9223372036854775808 then z % 18446744073709551616-18446744073709551616 else z % 18446744073709551616):=by
  simp[IntKind.wrap,IntKind.bits,IntKind.signed]
 rw[this];split <;> omega
def wS{i:Nat}(h:i < 4611686018427387904):IntKind.i64.wrap ((i:Int)+1)=((i+1:Nat):Int):=by rw[jW jA jA];omega
def Vgk(h:n < 256):IntKind.u8.wrap (n:Int)=n:=by
 show((n:Int) % (2 ^ 8:Int))=n;omega
section
variable{P:Program}{E:iS P}{te ts:TypeId}{re rs:ib}(T:jQ E te ts re rs)
include T
theorem QH{tx:TypeId}{h:N}{n0 z n m:Nat}{v x:V}{xs ys:List V}(hz:re.size=z)(a1:1<=z)(o:ig h n0 z v n xs)(h0:n0<=h.Q)(hn:tn E tx re x h=U (m,ys))(hm:L ys=m*z)
  (hf:(n+m)*re.bytes<=140737488355328) (he:n+m<=140737488355328) :
  ∃ v' h',mR E ts tx v x h=U (v',h')/\ig h' n0 z v' (n+m) (xs++ys)/\jj v h h'/\∀ c,Vn v'=U c->Vn v=U c∨c=h.Q:=by
 have q1:Nat.ble 1 re.size=Y:=by rw[hz];exact rY a1
 have q2:(L ys != m*re.size)=J:=by rw[hz,hm];simp
 have q3:(Nat.ble ((n+m)*re.bytes) 140737488355328 && Nat.ble (n+m) 140737488355328)=Y:=by rw[Bool.and_eq_true];exact⟨rY hf,rY he⟩
 have oO:∀ k:Nat,k<=140737488355328->k≠iJ:=fun k hk=>by unfold iJ;omega
 have Z':∀ hy:List V,L hy=n*z->hy=xs->∀ h1:N,jj v h h1->h1.Q=h.Q->ig (h1.push (S Y re.size (hy++ys))) n0 z (M (U ⟨h1.Q,0,O⟩) (n+m) iJ) (n+m) (xs++ys)/\jj v h (h1.push (S Y re.size (hy++ys))):=by
  rintro hy hl rfl h1 hb g1;refine⟨ig.new jA (by rw[N.F,if_pos rfl,hz]) (by rw[List.length_append,hl,hm,Nat.add_mul]) (by unfold iJ;omega) (.inl ⟨rfl,rfl⟩),?_,fun c hc hq => ?_⟩
  ·show h.Q<=h1.Q+1;omega
  ·rw[N.F,if_neg jA,hb.2 c hc hq]
 have ls:∀ (bk c z':Nat) (h3:List V),v=M (U ⟨bk,0,O⟩) n c->n0<=bk->h.A bk=U (S Y z' (xs++h3))->L xs=n*z->c<=iJ->n+m<=c->(c=iJ/\z'=z∨c≠iJ/\L (xs++h3)=c*z)->L ys<=L h3 ->
   storeAt h ⟨bk,n*z,O⟩ ys=U (h.set bk (U (S Y z' (xs++ys++h3.drop (L ys)))))/\ig (h.set bk (U (S Y z' (xs++ys++h3.drop (L ys))))) n0 z (M (U ⟨bk,0,O⟩) (n+m) c) (n+m) (xs++ys)/\jj v h (h.set bk (U (S Y z' (xs++ys++h3.drop (L ys))))):=by
  intro bk c z' h3 hv hb hg hx hC s' hc hr;refine⟨?_,?_,Nat.le_refl _,fun k hk hq => ?_⟩
  ·simp only[storeAt,hg];rw[vd (by rw[List.length_append,hx];omega),<- hx];simp[List.drop_append,List.drop_eq_nil_of_le (show L xs<=L xs+L ys by omega)]
  ·refine .inr ⟨bk,c,z',h3.drop (L ys),rfl,hb,by rw[gY (N.D hg),if_pos rfl],by rw[List.length_append,hx,hm,Nat.add_mul],s',hC,?_⟩;rcases hc with h1 | ⟨h1,h2⟩
   ·exact .inl h1
   ·refine .inr ⟨h1,?_⟩;rw[<- h2];simp only[List.length_append,List.length_drop];omega
  ·subst hv;rw[gY (N.D hg),if_neg (fun e=>hq (by rw[<- e];rfl))]
 have hA:jj v h h:=⟨Nat.le_refl _,fun _ _ _=>rfl⟩;rcases o with⟨rfl,rfl,rfl⟩ | ⟨bk,c,z',h3,rfl,hb,hg,hx,h4,es,hc⟩
 ·have e0:((0:Nat) != iJ)=Y:=qA
  simp only[mR,T.s,T.d,T.e,q1,Bool.not_true,hn,q2,e0,Bool.true_and,q3];cases ys with
  | nil =>
   have : m=0:=by
    cases m with
    | zero=>rfl
    | succ m=>simp at hm;rw[Nat.add_mul]at hm;omega
   subst this;exact⟨_,_,rfl,ig.nil,hA,fun c hc=>by cases hc⟩
  | cons y ys =>
   have e2:m≠0:=by rintro rfl;simp at hm
   have e1:Nat.ble (0+m) 0=J:=by rw[Bool.eq_false_iff];intro h;rw[Nat.ble_eq]at h;omega
   simp only[e1];obtain⟨p1,p2⟩:=Z' [] kA rfl h hA rfl;exact⟨_,_,rfl,p1,p2,fun c hc => .inr (by cases hc;rfl)⟩
 ·simp only[mR,T.s,T.d,T.e,q1,Bool.not_true,hn,q2,q3];rcases hc with⟨rfl,rfl⟩ | ⟨s1,hB⟩
  ·have e0:(iJ != iJ)=J:=kA
   have e3:(z' == re.size && 0 % z' == 0)=Y:=by simp[hz]
   have e4:((0:Nat) == 0)=Y:=rfl;simp only[e0,Bool.false_and,Bool.false_eq_true,if_false,hg,e3,Bool.not_true,Nat.zero_add,e4,if_true];by_cases hp:(n+m)*z'<=L (xs++h3)
   ·have e5:Nat.ble ((n+m)*z') (L (xs++h3))=Y:=rY hp;have hr:L ys<=L h3:=(by rw[List.length_append,hx,Nat.add_mul]at hp;omega);simp only[e5];obtain⟨p1,p2,p3⟩:=ls bk iJ z' h3 rfl hb hg hx (Nat.le_refl _) (by unfold iJ;omega) (.inl ⟨rfl,rfl⟩) hr;cases ys with
    | nil =>
     refine⟨_,_,rfl,?_,hA,fun c hc => .inl (by cases hc;rfl)⟩;have e2:m=0:=by
      cases m with
      | zero=>rfl
      | succ m=>simp at hm;rw[Nat.add_mul]at hm;omega
     subst e2;exact .inr ⟨bk,iJ,z',h3,rfl,hb,by simpa using hg,by simpa using hx,h4,es,.inl ⟨rfl,rfl⟩⟩
    | cons y ys =>
     have ea:(⟨bk,0,O⟩:Addr).add (n*z')=⟨bk,n*z',O⟩:=by rw[r9,Nat.zero_add]
     refine⟨_,_,?_,p2,p3,fun c hc => .inl (by cases hc;rfl)⟩;simp only[ea,p1];rfl
   ·have e5:Nat.ble ((n+m)*z') (L (xs++h3))=J:=by rw[Bool.eq_false_iff];intro h;rw[Nat.ble_eq]at h;omega
    have e6:nF (n*z') (xs++h3)=U xs:=by
     rw[uD (by rw[List.length_append,hx];omega),<- hx];simp
    simp only[e5,Bool.false_eq_true,if_false,e6];obtain⟨p1,p2⟩:=Z' xs hx rfl (h.set bk O) ⟨Nat.le_refl _,fun c hc hq=>by rw[gY (N.D hg),if_neg (fun e=>hq (by rw[<- e];rfl))]⟩ rfl;rw[hz]at p1 p2;exact⟨_,_,rfl,p1,p2,fun c hc => .inr (by cases hc;rfl)⟩
  ·have e0:(c != iJ)=Y:=by simpa using s1
   simp only[e0,Bool.true_and];by_cases hp:n+m<=c
   ·have e5:Nat.ble (n+m) c=Y:=rY hp;have hr:L ys<=L h3:=by
     have : (n+m)*z<=c*z:=Nat.mul_le_mul_right _ hp;rw[<- hB,List.length_append,hx,Nat.add_mul]at this;omega
    simp only[e5];obtain⟨p1,p2,p3⟩:=ls bk c z' h3 rfl hb hg hx es hp (.inr ⟨s1,hB⟩) hr;cases ys with
    | nil =>
     refine⟨_,_,rfl,?_,hA,fun c hc => .inl (by cases hc;rfl)⟩;have e2:m=0:=by
      cases m with
      | zero=>rfl
      | succ m=>simp at hm;rw[Nat.add_mul]at hm;omega
     subst e2;exact .inr ⟨bk,c,z',h3,rfl,hb,by simpa using hg,by simpa using hx,h4,es,.inr ⟨s1,by simpa using hB⟩⟩
    | cons y ys =>
     have ea:(⟨bk,0,O⟩:Addr).add (n*re.size)=⟨bk,n*z,O⟩:=by rw[r9,Nat.zero_add,hz]
     refine⟨_,_,?_,p2,p3,fun c hc => .inl (by cases hc;rfl)⟩;simp only[ea,p1];rfl
   ·have e5:Nat.ble (n+m) c=J:=by rw[Bool.eq_false_iff];intro h;rw[Nat.ble_eq]at h;omega
    have e6:Ab.cellsAt h ⟨bk,0,O⟩ (n*re.size)=U xs:=by
     simp only[Ab.cellsAt,hg,hz,List.drop_zero];rw[uD (by rw[List.length_append,hx];omega),<- hx];simp
    simp only[e5,Bool.false_eq_true,if_false,e6];obtain⟨p1,p2⟩:=Z' xs hx rfl h hA rfl;exact⟨_,_,rfl,p1,p2,fun c hc => .inr (by cases hc;rfl)⟩
theorem wW{tx:TypeId}{h:N}{n0 z n m:Nat}{v x:V}{xs ys:List V}(hz:re.size=z)(h2:1<=z)(o:ig h n0 z v n xs)(h0:n0<=h.Q)(hn:tn E tx re x h=U (m,ys))(hm:L ys=m*z)
  (hx:(n+m)*re.bytes<=140737488355328) (hc:n+m<=140737488355328) :
  ∃ v' h',mR E ts tx v x h=U (v',h')/\ig h' n0 z v' (n+m) (xs++ys)/\jj v h h':=by
 obtain⟨v',h',k1,k2,k3, -⟩:=QH T hz h2 o h0 hn hm hx hc;exact⟨v',h',k1,k2,k3⟩
theorem uW{h:N}{z n:Nat}{x:V}{ys:List V}(hz:re.size=z)(s:Sl h z x n ys):tn E ts re x h=U (n,ys):=by
 rcases s with⟨c,rfl,_,rfl,rfl⟩ | ⟨bk,o,c,ow,z',pre,post,rfl,h1,h2,h3, -⟩
 ·simp[tn,T.s,T.d,yj,ta]
 ·have : nF (n*re.size) ((pre++ys++post).drop o)=U ys:=by
   rw[hz,<- h2,List.append_assoc,List.drop_left,uD (by rw[List.length_append,h3];omega),<- h3];simp
  simp[tn,T.s,T.d,yj,ta,Ab.cellsAt,h1,this,-List.append_assoc]
theorem o_{h:N}{z n:Nat}{v:V}{xs:List V}(hz:re.size=z)(s:Sl h z v n xs){k:IntKind}{i:Int}(h0:0<=i)(h1:i < n) :
  ∃ bk o,Vn v=U bk/\Ug E ts v (.int k i)=U (.pointer (U ⟨bk,o,O⟩))/\(∀ j,j < z->Jr h bk (o+j)=xs[i.toNat*z+j]?)/\iz h bk o z=U (.agg ⟨(xs.drop (i.toNat*z)).take z⟩):=by
 rcases s with⟨c,rfl,_,rfl,rfl⟩ | ⟨bk,o,c,ow,z',pre,post,rfl,g1,g2,g3, -⟩
 ·omega
 ·have hi:i.toNat*z+z<=n*z:=by
   have : (i.toNat+1)*z<=n*z:=Nat.mul_le_mul_right _ jA;rw[Nat.add_mul]at this;omega
  refine⟨bk,o+i.toNat*z,rfl,Cv T hz ⟨h0,h1⟩,fun j hj => ?_,?_⟩
  ·rw[Zy g1,List.append_assoc,List.getElem?_append_right jA,List.getElem?_append_left jA];congr 1;omega
  ·rw[Uh g1 (by simp only[List.length_append];omega)];congr 3;rw[<- g2,List.append_assoc,List.drop_append,List.drop_eq_nil_of_le jA,List.nil_append,List.drop_append_of_le_length jA,List.take_append_of_le_length (by rw[List.length_drop];omega)];congr 2;omega
theorem J0a{h:N}{z n l hh:Nat}{v:V}{xs:List V}{lo hi:Option V}(hz:re.size=z)(hm:1<=z)(s:Sl h z v n xs)(Z':j_ lo 0 hh=U l)(hp:∀ room,n<=room->j_ hi n room=U hh)(hl:l<=hh)(hn:hh<=n) :
  ∃ v' h',ka E ts v lo hi O h=U (v',h')/\Sl h' z v' (hh-l) ((xs.drop (l*z)).take ((hh-l)*z))/\a_ h h'/\(Vn v'=Vn v/\h'=h∨Vn v'=U h.Q/\hh=l)/\(l=0->h'=h/\∃ a c,v=.slice a n c/\v'=.slice a hh c):=by
 have ml:(hh-l)*z=hh*z-l*z:=Nat.sub_mul _ _ _;have hu:hh*z<=n*z:=Nat.mul_le_mul_right _ hn;have a2:l*z<=hh*z:=Nat.mul_le_mul_right _ hl;have hg:(hi.isNone && (O:Option V).isSome)=J:=kA
 rcases s with⟨c,rfl,h0,rfl,rfl⟩ | ⟨bk,o,c,ow,z',pre,post,rfl,h1,h2,h3,h4,h5,h6⟩
 ·have : hh=0:=jA
  subst this;have : l=0:=jA
  subst this;have e0:(c != iJ)=Y:=by simp;omega
  have e1:(c-0 == iJ)=J:=by simp;omega
  have e2:j_ (O:Option V) c c=U c:=rfl;refine⟨M O 0 c,h,?_,.inl ⟨c,rfl,h0,rfl,kA⟩,a_.refl _,.inl ⟨rfl,rfl⟩,fun _=>⟨rfl,O,c,rfl,rfl⟩⟩;simp only[ka,hg,Bool.false_eq_true,if_false,T.s,T.d,T.e,e0,if_true,e2,hp c (Nat.zero_le _),Z',xL,e1];simp
 ·have hx:(xs.drop (l*z)).take ((hh-l)*z)=((xs.drop (l*z)).take ((hh-l)*z)):=rfl;have hk:∀ k,k=l*z->pre++xs++post=(pre++xs.take k)++(xs.drop k).take ((hh-l)*z)++((xs.drop k).drop ((hh-l)*z)++post):=by
   intro k _;have a1:xs=xs.take k++((xs.drop k).take ((hh-l)*z)++(xs.drop k).drop ((hh-l)*z)):=by rw[List.take_append_drop,List.take_append_drop]
   conv=>lhs;rw[a1]
   simp only[List.append_assoc]
  have hr:L ((xs.drop (l*z)).take ((hh-l)*z))=(hh-l)*z:=by rw[List.length_take,List.length_drop,h3];omega
  by_cases hc:c=iJ
  ·subst hc;obtain⟨rfl,g1,g2⟩:=h6 rfl;have e0:(iJ != iJ)=J:=kA
   have e1:(z' == re.size && o % z' == 0 && Nat.ble 1 z')=Y:=by simp[hz,g1,rY hm]
   have hy:l=0->Sl h z' (M (U ⟨bk,o,O⟩) hh iJ) (hh-l) ((xs.drop (l*z')).take ((hh-l)*z')):=by
    rintro rfl;refine .inr ⟨bk,o,iJ,ow,z',pre,xs.drop (hh*z')++post,rfl,?_,h2,hr,jA,Nat.le_refl _,fun _=>⟨rfl,g1,?_⟩⟩
    ·rw[h1,hk 0 kA];simp
    ·rcases g2 with g | ⟨ga,gb⟩
     ·exact .inl g
     ·refine .inr ⟨jA,?_⟩;have : L xs=0:=(by rw[h3,ga];simp);have s':xs=[]:=List.eq_nil_of_length_eq_zero this;subst s';simpa using gb
   cases ow with
   | false =>
    rcases g2 with g | ⟨ga,gb⟩
    ·cases g
    ·subst ga;have : hh=0:=jA;subst this;have : l=0:=jA;subst this;rw[gb]at h1;simp only[ka,hg,Bool.false_eq_true,if_false,T.s,T.d,T.e,e0,h1,e1,if_true,hp 0 (Nat.le_refl _),Z',beq_self_eq_true];exact⟨_,h,rfl,hy rfl,a_.refl _,.inl ⟨rfl,rfl⟩,fun _=>⟨rfl,_,_,rfl,rfl⟩⟩
   | true =>
    have ls:n<=(L (pre++xs++post)-o) / z':=by
     rw[Nat.le_div_iff_mul_le jA];simp only[List.length_append];omega
    have key:∃ v' h',ka E ts (M (U ⟨bk,o,O⟩) n iJ) lo hi O h=ka.aCut ⟨bk,o,O⟩ z' (L (pre++xs++post)) l hh h/\ka.aCut ⟨bk,o,O⟩ z' (L (pre++xs++post)) l hh h=U (v',h')/\Sl h' z' v' (hh-l) ((xs.drop (l*z')).take ((hh-l)*z'))/\a_ h h'/\(Vn v'=U bk/\h'=h∨Vn v'=U h.Q/\hh=l)/\(l=0->h'=h/\v'=M (U ⟨bk,o,O⟩) hh iJ):=by
     have q1:ka E ts (M (U ⟨bk,o,O⟩) n iJ) lo hi O h=ka.aCut ⟨bk,o,O⟩ z' (L (pre++xs++post)) l hh h:=by
      simp only[ka,hg,Bool.false_eq_true,if_false,T.s,T.d,T.e,e0,h1,e1,if_true];cases hi with
      | none =>
       have : hh=n:=(by have:=hp n (Nat.le_refl _);simp[j_]at this;omega);subst this;simp only[Z']
      | some hv=>simp only[hp _ ls,Z']
     by_cases s1:l=0
     ·subst s1;exact⟨M (U ⟨bk,o,O⟩) hh iJ,h,q1,by simp[ka.aCut],hy rfl,a_.refl _,.inl ⟨rfl,rfl⟩,fun _=>⟨rfl,rfl⟩⟩
     ·have hA:(l == 0)=J:=by simpa using s1
      by_cases hb:o+l*z' < L (pre++xs++post)
      ·have hB:Nat.blt (o+l*z') (L (pre++xs++post))=Y:=by rw[Nat.blt_eq];exact hb
       refine⟨M (U ⟨bk,o+l*z',O⟩) (hh-l) iJ,h,q1,by simp only[ka.aCut,hA,Bool.false_eq_true,if_false,hB,if_true,r9],?_,a_.refl _,.inl ⟨rfl,rfl⟩,fun e=>absurd e s1⟩;refine .inr ⟨bk,o+l*z',iJ,Y,z',pre++xs.take (l*z'),(xs.drop (l*z')).drop ((hh-l)*z')++post,rfl,?_,?_,hr,jA,Nat.le_refl _,fun _=>⟨rfl,?_,.inl rfl⟩⟩
       ·rw[h1,hk _ rfl]
       ·rw[List.length_append,List.length_take,h2];omega
       ·rw[Nat.add_mul_mod_self_right];exact g1
      ·have hB:Nat.blt (o+l*z') (L (pre++xs++post))=J:=by rw[Bool.eq_false_iff];intro h;rw[Nat.blt_eq]at h;omega
       have he:L (pre++xs++post) ≥ o+hh*z':=by simp only[List.length_append];omega
       have hf:hh<=l:=by
        rcases Nat.lt_or_ge l hh with hC | q2
        ·have : (l+1)*z'<=hh*z':=Nat.mul_le_mul_right _ hC;rw[Nat.add_mul]at this;omega
        ·exact q2
       have e9:hh=l:=jA;subst e9;refine⟨M (U ⟨h.Q,0,O⟩) 0 iJ,h.push (S J z' []),q1,by simp only[ka.aCut,hA,Bool.false_eq_true,if_false,hB,rY hf,if_true],?_,a_.push _ _,.inr ⟨rfl,rfl⟩,fun e=>absurd e s1⟩;refine .inr ⟨h.Q,0,iJ,J,z',[],[],?_,?_,rfl,kA,jA,Nat.le_refl _,fun _=>⟨rfl,Nat.zero_mod _,.inr ⟨jA,kA⟩⟩⟩
       ·simp
       ·rw[N.F,if_pos rfl];simp
    obtain⟨v',h',k1,k2,k3,k4,k5,k6⟩:=key;exact⟨v',h',by rw[k1,k2],k3,k4,k5,fun e=>⟨(k6 e).1,_,_,rfl,(k6 e).2⟩⟩
  ·have e0:(c != iJ)=Y:=by simpa using hc
   have e1:(c-l == iJ)=J:=by simp;omega
   have e2:j_ (O:Option V) c c=U c:=rfl;refine⟨.slice (if c=l then U ⟨bk,o,O⟩else(U ⟨bk,o,O⟩:Option Addr).map (·.add (l*re.size))) (hh-l) (c-l),h,?_,?_,a_.refl _,.inl ⟨?_,rfl⟩,?_⟩
   ·simp only[ka,hg,Bool.false_eq_true,if_false,T.s,T.d,T.e,e0,if_true,e2,hp c h4,Z',xL,e1];rfl
   ·by_cases es:c=l
    ·have : hh-l=0:=jA;rw[if_pos es,this];refine .inr ⟨bk,o,c-l,ow,z',pre,xs++post,rfl,by simpa using h1,h2,kA,jA,jA,fun hq => ?_⟩;unfold iJ at hq;omega
    ·rw[if_neg es];simp only[Option.map_some,r9,hz];refine .inr ⟨bk,o+l*z,c-l,ow,z',pre++xs.take (l*z),(xs.drop (l*z)).drop ((hh-l)*z)++post,rfl,?_,?_,hr,jA,jA,fun hq => ?_⟩
     ·rw[h1,hk _ rfl]
     ·rw[List.length_append,List.length_take,h2];omega
     ·exfalso;omega
   ·split <;> simp[Vn,r9]
   ·rintro rfl;refine⟨rfl,U ⟨bk,o,O⟩,c,rfl,?_⟩;split <;> simp[r9]
omit T in
theorem Pj{d n:Nat}{k:IntKind}{i:Int}(h0:0<=i)(h1:i<=n):j_ (U (.int k i)) d n=U i.toNat:=by simp[j_,h0,h1]
theorem J3c{h:N}{z n:Nat}{v:V}{xs:List V}{k:IntKind}{i:Int}(hz:re.size=z)(hx:1<=z)(s:Sl h z v n xs)(h0:0<=i)(h1:i<=n) :
  ∃ v' h',ka E ts v (U (.int k i)) O O h=U (v',h')/\Sl h' z v' (n-i.toNat) (xs.drop (i.toNat*z))/\a_ h h'/\(Vn v'=Vn v/\h'=h∨Vn v'=U h.Q/\n=i.toNat):=by
 obtain⟨v',h',k1,k2,k3,k4, -⟩:=J0a T (lo:=U (.int k i)) (hi:=O) (l:=i.toNat) (hh:=n) hz hx s (Pj h0 h1) (fun _ _=>rfl) jA (Nat.le_refl _);refine⟨v',h',k1,?_,k3,k4⟩;rwa [List.take_of_length_le (by rw[List.length_drop,s.len,Nat.sub_mul];omega)]at k2
theorem Vff{h:N}{z n:Nat}{v:V}{xs:List V}{k:IntKind}{i:Int}(hz:re.size=z)(hx:1<=z)(s:Sl h z v n xs)(h0:0<=i)(h1:i<=n) :
  ∃ v',ka E ts v O (U (.int k i)) O h=U (v',h)/\Sl h z v' i.toNat (xs.take (i.toNat*z))/\Vn v'=Vn v:=by
 obtain⟨v',h',k1,k2,k3,k4,k5⟩:=J0a T (lo:=O) (hi:=U (.int k i)) (l:=0) (hh:=i.toNat) hz hx s rfl (fun room hr=>Pj h0 jA) jA jA;obtain⟨rfl,a,c,rfl,rfl⟩:=k5 rfl;refine⟨_,k1,by simpa using k2,?_⟩;cases a <;> rfl
theorem KA{h:N}{n0 z n:Nat}{v:V}{xs:List V}{k:IntKind}{i:Int}(hz:re.size=z)(hc:1<=z)(s:ig h n0 z v n xs)(h0:0<=i)(h1:i<=n) :
  ∃ v',ka E ts v O (U (.int k i)) O h=U (v',h)/\ig h n0 z v' i.toNat (xs.take (i.toNat*z))/\Vn v'=Vn v:=by
 obtain⟨v',h',k1,k2,k3,k4,k5⟩:=J0a T (lo:=O) (hi:=U (.int k i)) (l:=0) (hh:=i.toNat) hz hc s.sl rfl (fun room hr=>Pj h0 jA) jA jA;obtain⟨rfl,a,c,rfl,rfl⟩:=k5 rfl;refine⟨_,k1,?_,by cases a <;> rfl⟩;rcases s with⟨e,rfl,rfl⟩ | ⟨bk,c',z',hx,e,g1,g2,g3,g4,g5,g6⟩
 ·cases e;have : i.toNat=0:=jA
  rw[this];exact .inl ⟨rfl,rfl,kA⟩
 ·cases e;have hi:i.toNat*z<=n*z:=Nat.mul_le_mul_right _ jA;refine .inr ⟨bk,c,z',xs.drop (i.toNat*z)++hx,rfl,g1,?_,?_,jA,g5,?_⟩
  ·rw[g2];rw[<- List.append_assoc,List.take_append_drop]
  ·rw[List.length_take,g3];omega
  ·rcases g6 with h | ⟨h,h'⟩
   ·exact .inl h
   ·exact .inr ⟨h,by rw[<- List.append_assoc,List.take_append_drop];exact h'⟩
omit T in
theorem Jy9{c l:List V}(h:L l=L c):mM c 0 l=U l:=by
 rw[vd jA];simp[h]
theorem u7{z:Nat}{y:V}{ys:List V}(hz:re.size=z)(hc:1<=z)(h2:z<=16777216)(hy:lN y=Y)(hx:y.cells.toList=ys)(hl:L ys=z){h:N}:Wc E ts 1 [(0,y)] h=U (M (U ⟨h.Q,0,O⟩) 1 1,h.push (S Y 1 ys)):=by
 obtain⟨-,i, -, -, -, -, -, -,hk, -⟩:=E.K _ _ T.e;have e1:(Nat.ble (1*re.size) 16777216 && Nat.ble 1 re.size)=Y:=by rw[hz,Nat.one_mul,rY h2,rY hc];rfl
 have e2:L (kx re.zero.cells.toList 1)=z:=by simp[kx,hk,hz]
 have e3:(lN y && y.cells.size == re.size && Nat.ble (0*re.size+re.size) (L (kx re.zero.cells.toList 1)))=Y:=by
  have : y.cells.size=z:=by rw[<- hl,<- hx];simp
  rw[hy,this,hz,e2,Nat.zero_mul,Nat.zero_add];simp[rY]
 have e4:mM (kx re.zero.cells.toList 1) (0*re.size) ys=U ys:=by rw[Nat.zero_mul];exact Jy9 (hl.trans e2.symm)
 simp only[Wc,T.s,T.d,T.e,e1,if_true,nr,e3,hx,e4,Option.map_some]
theorem Bu{h:N}{n0 z n:Nat}{v:V}{xs ys:List V}(hz:re.size=z)(hk:1<=z)(o:ig h n0 z v n xs)(h0:n0<=h.Q)(hl:L ys=z)(hb:(n+1)*re.bytes<=140737488355328)(hx:n+1<=140737488355328) :
  ∃ v' h',mR E ts ts v (M (U ⟨h.Q,0,O⟩) 1 1) (h.push (S Y 1 ys))=U (v',h')/\ig h' n0 z v' (n+1) (xs++ys)/\jj v h h'/\∀ c,Vn v'=U c->Vn v=U c∨h.Q<=c:=by
 have sl:Sl (h.push (S Y 1 ys)) z (M (U ⟨h.Q,0,O⟩) 1 1) 1 ys:=(ig.new (n0:=0) (z:=z) (Nat.zero_le _) (by rw[N.F,if_pos rfl]) (by simpa using hl) qA (.inr rfl)).sl;obtain⟨v',h',k1,k2,k3,k4⟩:=QH T hz hk (o.keep (h':=h.push (S Y 1 ys)) fun c _ hc=>by rw[N.F,if_neg jA]) (Nat.le_trans h0 (Nat.le_succ _)) (uW T hz sl) (by simpa using hl) hb hx;refine⟨v',h',k1,k2,⟨Nat.le_trans (Nat.le_succ _) k3.1,fun c hc h2 => ?_⟩,fun c hc=>(k4 c hc).imp id fun e=>by rw[e];exact Nat.le_succ _⟩;rw[k3.2 c (Nat.lt_of_lt_of_le hc (Nat.le_succ _)) h2,N.F,if_neg jA]
theorem HM{h:N}{n0 z n:Nat}{v:V}{xs ys:List V}(hz:re.size=z)(hc:1<=z)(o:ig h n0 z v n xs)(h0:n0<=h.Q)(hl:L ys=z)(hb:(n+1)*re.bytes<=140737488355328)(hx:n+1<=140737488355328) :
  ∃ v' h',mR E ts ts v (M (U ⟨h.Q,0,O⟩) 1 1) (h.push (S Y 1 ys))=U (v',h')/\ig h' n0 z v' (n+1) (xs++ys)/\jj v h h':=by
 obtain⟨v',h',k1,k2,k3, -⟩:=Bu T hz hc o h0 hl hb hx;exact⟨v',h',k1,k2,k3⟩
theorem ja{h h1:N}{z n:Nat}{v:V}{xs:List V}(s:Sl h z v n xs):iP E ts v h1=U (I X n):=by
 rcases s with⟨c,rfl,_,rfl,rfl⟩ | ⟨bk,o,c,ow,z',pre,post,rfl,g1,g2,g3, -⟩ <;> simp[iP,T.s,T.d]
end
def Q0(a:Option Addr)(n c:Nat):oh (.slice a n c)=Y:=Eq.trans rfl rfl
def Qb(a:Option Addr):oh (.pointer a)=Y:=Eq.trans rfl rfl
def ig.out{v:V}{xs:List V}(o:ig h n0 z v n xs){c:Nat}(hc:Vn v=U c):c < h.Q:=(o.from hc).2
def PJ{v:V}{xs:List V}(o:ig h n0 z v n xs):vJ (U v) (U v)=Y:=by
 rcases o with⟨rfl,_,_⟩ | ⟨bk,c,z',hx,rfl,_⟩
 ·simp[vJ,AL,A5,AN]
 ·simp[vJ,AL,A5,AN]
def sV{v:V}{xs:List V}(o:Sl h z v n xs):vJ (U v) (U v)=Y:=by
 rcases o with⟨c,rfl,_⟩ | ⟨bk,o,c,ow,z',pre,post,rfl,_⟩
 ·simp[vJ,AL,A5,AN]
 ·simp[vJ,AL,A5,AN]
def pk(hl:L l≠100):jP (.agg ⟨l⟩) h=U (.pointer (U ⟨h.Q,0,O⟩),h.push (S Y 1 l)):=by
 have e:jP (.agg ⟨l⟩) h=U (.pointer (U ⟨h.Q,0,O⟩),h.push (S Y (uF (L l)) l)):=rfl;rw[e,Jzp hl]
open Go.ChangeShapes Go.WideShapes Go.RowKit
structure r7 (W W':World):Prop where
 os:W'.os=W.os
 output:W'.output=W.output
 same:∀ i,i < W.heap.size->W'.heap[i]? = W.heap[i]?
def Jf9{Z Z':Ren}{h h':N}{W W':World}(t:f_ Z h W Z' h' W')(ho:∀ b,h.own b=J):r7 W W' :=
 ⟨t.os,t.output,fun i hi=>t.same i hi (fun b p _ hx=>by rw[ho b]at hx;cases hx)⟩
def r7.kept{W W':World}(h:r7 W W')(hx:MemPlace->Prop):W.keptBut W' hx:=by
 refine⟨h.os,h.output,fun i hi => ?_⟩;rw[h.same i hi];split
 next c1 t1 hc c2 t2 h2 e1 e2=>rw[e1]at e2;cases e2;exact⟨rfl,rfl,rfl,fun _ _=>rfl⟩
 next e1 e2=>rw[e1]at e2;cases e2;exact .inr ⟨rfl,rfl⟩
 ·rfl
def r7.at{W W':World}(h:r7 W W'){p:MemPlace}(hp:p.block < W.heap.size):W.sameAt W' p:=by
 have:=h.same p.block hp;cases p with
 | cell b o =>
  simp only[MemPlace.block]at this;simp only[World.sameAt,World.cell?,this]
 | map b =>
  simp only[MemPlace.block]at this;simp only[World.sameAt,this]
section
variable{P:Program}{H:Type}{enc:TypeId × V->H}
def Trod.same{W W':World}(h:r7 W W'){base:Nat}{spare:Nat->Bool}{held:Bool}:∀ {ts:List TypeId} {vs:List V} {ds:List (DataW H)} {ps:List MemPlace},DataW.TrodAll enc P W base spare held ts vs ds ps->DataW.TrodAll enc P W' base spare held ts vs ds ps
 | [],[],[],_,q=>q
 | _::_,_::_,_::_,_,⟨p,q,⟨n,h1⟩,h2,e⟩=>⟨p,q,⟨n,DataW.trod_carry n _ _ _ h1 (fun x hx=>h.at (DataW.trod_lt n _ _ _ h1 x hx))⟩,Trod.same h h2,e⟩
def Jnt{fn:Func}{s:ChangeSpec}{f:FuncId}{apart fresh hc:Bool}{tb:TypeId}(K:Kids P (· < P.types.size))(hz:∀ t e,t < P.types.size->P.underlying t=U (.slice e)->0 < P.cellsOf e)
  (hp:∀ t ∈ fn.params.toList,t < P.types.size) (hr:fn.resultTypes = #[tb]) (hb:P.underlying tb=U .bool) (hv:s.vars=[])
  {W:World} {args:Array V} {ds gs:List (DataW H)} {h2:List MemPlace} (hW:DataW.Whole enc P fn.params.toList s.vars apart W args.toList ds gs h2)
  (hs:s.fn H ds = {results:=[.lit (.bool Y)],args:=ds})
  (h3:Calls P f args W (fun e W'=>e=.returned (.bool Y)/\r7 W W')) :
  Calls P f args W (fun e W' => ∃ v,e=.returned v/\s.post enc P fn apart fresh hc J W args v W'):=by
 have Z':=hW;obtain⟨p,q,hA,hV,rfl,ls,hy⟩:=hW;rw[hv]at hV;obtain⟨rfl,rfl⟩:gs=[]/\q=[]:=by
  cases gs with
  | nil=>exact⟨rfl,hV⟩
  | cons g r=>exact absurd hV (by intro h;cases h)
 refine h3.mono fun e W' ⟨he,hk⟩ => ?_;refine⟨.bool Y,he,ds,[],_,[],p,[],Z',?_,?_,?_,hk.kept _,fun h=>by cases h⟩
 ·rw[List.append_nil,hs,hr];exact trodAll_mk1 (shut_bool hb Y)
 ·rw[List.append_nil,hs];exact(Trod.same hk hA).respare K hz hp (fun x hx=>by simpa using DataW.TrodAll.lt hA x hx)
 ·rw[List.append_nil,hs,hv];rfl
def Jrs{f:FuncId}{n:Nat}{Z:Ren}{h:N}{vs:List V}{args:Array V}{W:World}(H:bN ⟨n,W.heap.size⟩ Z h W)(ho:∀ b,h.own b=J)(hx:∀ v ∈ vs,c_ (dom Z) v)(ha:args=(vs.map (ren Z)).toArray)
  (hc:fx P ⟨n,W.heap.size⟩ f vs h (fun r _=>r=.ret (.bool Y))):Calls P f args W (fun e W'=>e=.returned (.bool Y)/\r7 W W'):=by
 subst ha;refine callsIn_wide.1 ((hc Z W H hx).mono ?_);rintro e W' ⟨Z',r,h2,rfl,rfl,_,_,t,_⟩;exact⟨by simp[qo],Jf9 t ho⟩
end
open Go.ChangeShapes Go.WideShapes Go.RowKit
section
variable{P:Program}{G:Bs}{Z:Ren}{h:N}{W:World}
def Vfe{n:Int}(h:(Lit.int .u8 n).wf=Y):0<=n/\n < 256:=by
 simp[Lit.wf,IntKind.min,IntKind.max,IntKind.bits,IntKind.signed]at h;omega
end
end Go.Ab
