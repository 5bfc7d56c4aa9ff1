import Derived.Test.YtapodfgjkmddlaaGreatDoorAbF
import Derived.ReadAgain
import Derived.ChangeSlices
set_option linter.all false
noncomputable section
namespace Go.Ab
def bare(o:Oper):Oper:={dst:=o.dst,op:=o.op,type:=0,pos := "",after:=#[],guard:=o.guard}
def U1:Code->Code
 | .seq a b => .seq (U1 a) (U1 b)
 | .cond c a b => .cond c (U1 a) (U1 b)
 | .block id c => .block id (U1 c)
 | .loop c => .loop (U1 c)
 | .region id ops false => .region 0 (ops.toList.map bare).toArray false
 | c=>c
def Z00(id:Nat):Code->Option Code
 | .seq a b=>match Z00 id a with | some c=>some c | none=>Z00 id b
 | .cond _ a b=>match Z00 id a with | some c=>some c | none=>Z00 id b
 | .block _ c=>Z00 id c
 | .loop c=>Z00 id c
 | .region i ops d=>if i == id then some (.region i ops d)else none
 | _=>none
def Qt2(id:Nat)(c:Code):Code:=(Z00 id c).getD .skip
def Z2p:Code->Option Code
 | .seq a b=>match Z2p a with | some c=>some c | none=>Z2p b
 | .cond _ a b=>match Z2p a with | some c=>some c | none=>Z2p b
 | .block _ c=>Z2p c
 | .loop c=>Z2p c
 | .rangeFunc g ps a b=>some (.rangeFunc g ps a b)
 | _=>none
def Qte:Code->Array Oper
 | .region _ ops _=>ops
 | _ => #[]
def Zue(c:Code):Code:=(Z2p c).getD .skip
section
variable{P:Program}{E:Env2 P}{C:CallF}{rd:Option Nat}
def Jaj{A B:Type}(f:A->B):∀ (l:List A) (i:Nat),nth (l.map f) i=(nth l i).map f
 | [],i=>by cases i <;> rfl
 | a::l,0=>rfl
 | a::l,i+1=>by simpa[nth]using Jaj f l i
def Xrq(ops:List Oper)(t:Tm)(o:Oper):Qg (ops.map bare) t (bare o)=Qg ops t o:=by
 unfold Qg;show(match o.guard with | none=>_ | some (j,want)=>_)=_;cases o.guard with
 | none=>rfl
 | some g =>
  obtain⟨j,want⟩:=g;simp only[Jaj];cases nth ops j with
  | none=>rfl
  | some oj=>rfl
def Jdl(o:Oper)(s:St):Yjr E C rd (bare o) s=Yjr E C rd o s:=rfl
def Yxq(ops:List Oper):∀ (l:List Oper) (s:St),Yxv E C rd (ops.map bare) (l.map bare) s=Yxv E C rd ops l s
 | [],s=>rfl
 | o::r,s=>by
  simp only[aE,Yxv,Xrq,Jdl];split
  ·split
   ·exact Yxq ops r _
   ·rfl
   ·rfl
  ·show(if Qoy s o.dst=true then _ else _)=_;split
   ·exact Yxq ops r _
   ·rfl
  ·rfl
def Zhf{f g:St->Option (Exit × St)}(h:∀ s,f s=g s):∀ k s,X0n f k s=X0n g k s
 | 0,_=>rfl
 | k+1,s=>by
  simp only[X0n,h s];split
  ·exact Zhf h k _
  ·rfl
def Q0b{k:Nat}:∀ (c:Code) (s:St),Q4d E C rd k (U1 c) s=Q4d E C rd k c s
 | .seq x y,s=>by
  simp only[U1,Q4d,Q0b x];split
  ·exact Q0b y _
  ·rfl
 | .cond c x y,s=>by
  simp only[U1,Q4d];split
  ·exact Q0b x s
  ·exact Q0b y s
  ·rfl
 | .block id c,s=>by simp only[U1,Q4d,Q0b c]
 | .loop c,s=>by simp only[U1,Q4d];exact Zhf (Q0b c) k s
 | .region id ops false,s=>by
  simp only[U1,Q4d];exact Yxq ops.toList ops.toList s
 | .region id ops true,s=>rfl
 | .skip,s=>rfl
 | .label _,s=>rfl
 | .ret,s=>rfl
 | .exit _,s=>rfl
 | .rangeFunc ..,s=>rfl
 | .scope ..,s=>rfl
 | .goto ..,s=>rfl
 | .refuse ..,s=>rfl
def Qd(n i:Nat)(t:Tr Value)(ds:List Deferred)(h:Heap):Qoy ⟨⟨n,t⟩,ds,h⟩ (some i)=decide (i < n):=by
 show Nat.blt i n=_;by_cases hi:i < n
 ·rw[show Nat.blt i n=true from by simpa using hi];simp[hi]
 ·rw[bJ.2 (fun k:Nat.blt i n=true=>hi (by simpa using k))];simp[hi]
def Qc(s:St):Qoy s none=true:=rfl
def Xj:(0 == Ql9)=false:=by decide
def Qm(t:TypeId)(a b:Int):Qfz (binOp .lss t (.int .i64 a) (.int .i64 b))=some (.bool (decide (a < b))):=kR
def Qp(t:TypeId)(a b:Int):Qfz (binOp .gtr t (.int .i64 a) (.int .i64 b))=some (.bool (decide (a > b))):=kR
def Qn(t:TypeId)(a b:Int):Qfz (binOp .leq t (.int .i64 a) (.int .i64 b))=some (.bool (decide (a<=b))):=kR
def Qo(t:TypeId)(a b:Int):Qfz (binOp .geq t (.int .i64 a) (.int .i64 b))=some (.bool (decide (a ≥ b))):=kR
def Qk(t:TypeId)(a b:Int):Qfz (binOp .add t (.int .i64 a) (.int .i64 b))=some (.int .i64 (IntKind.i64.wrap (a+b))):=kR
def Ql(t:TypeId)(a b:Int):Qfz (binOp .sub t (.int .i64 a) (.int .i64 b))=some (.int .i64 (IntKind.i64.wrap (a-b))):=kR
def Qj(t:TypeId)(a b:Int):Qfz (binOp .mul t (.int .i64 a) (.int .i64 b))=some (.int .i64 (IntKind.i64.wrap (a*b))):=kR
end
def i64(z:Int):Value:=.int .i64 z
structure IntTy {P:Program} (E:Env P) (te ts:TypeId) (re rs:TyRec):Prop where
 e:E.ty.get te=some re
 s:E.ty.get ts=some rs
 ed:re.desc=.int .i64
 sd:rs.desc=.slice te
 size:re.size=1
 zero:re.zero=.int .i64 0
 bytes:re.bytes=8
def Zte{l:List Value}{i:Nat}{v:Value}(h:l[i]? = some v):Q72 1 (l.drop i)=some [v]:=by
 have : l.drop i=v::l.drop (i+1):=by
  rw[bb (List.getElem?_eq_some_iff.1 h).1];congr 1;exact(List.getElem?_eq_some_iff.1 h).2
 rw[this];simp[Q72]
section
variable{P:Program}{E:Env P}{te ts:TypeId}{re rs:TyRec}(T:IntTy E te ts re rs)
include T
theorem Zom{a:Option Addr}{n c:Nat}{h:Heap}:Qkc E ts (.slice a n c) h=some (.int .i64 n):=by
 simp only[Qkc,T.s,T.sd]
end
structure CallP where
 fn:FuncId->List Value->Heap->(AEnd->Heap->Prop)->Prop
 rnd:Nat->List Value->Heap->(AEnd->Heap->Prop)->Prop
 die:Bool
structure CallPSound (P:Program) (G:Bs) (C:CallP):Prop where
 fn:∀ f args h K,C.fn f args h K->CallOK P G f args h K
 rnd:∀ l args h K,C.rnd l args h K->X17 P G l args h K
def Xrd(P:Program)(G:Bs):CallP:=⟨fun f args h K=>CallOK P G f args h K,fun l args h K=>X17 P G l args h K,true⟩
def Vy(P:Program)(G:Bs):CallPSound P G (Xrd P G):=⟨fun _ _ _ _ h=>h,fun _ _ _ _ h=>h⟩
def Jon(d:Option Tmp)(s:St)(K:Exit->St->Prop)(r:AEnd)(h:Heap):Prop:=match r with
 | .ret v=>K .normal (s.put d v h)
 | .panic ch=>K (.panic ch) {s with h:=h}
def Xmg{P:Program}(E:Env2 P)(C:CallP)(x:Operand)(isS:Bool)(d:Option Tmp)(s:St)(K:Exit->St->Prop):Prop:=match aev E.G s.t x with
 | some it=>(∃ y,Qxn it isS s.h=[y]/\K .normal (s.put d y.1 y.2))∨(C.die=true/\Qxn it isS s.h ≠ []/\∀ y ∈ Qxn it isS s.h,K .normal (s.put d y.1 y.2))
 | none=>False
def Xn{P:Program}(E:Env2 P)(C:CallP)(rd:Option Nat)(o:Oper)(s:St)(K:Exit->St->Prop):Prop :=
 if !Qoy s o.dst then False else
 match o.op with
 | .defer c=>match rd with
  | none=>match Y3z E s.t c with
   | some d=>K .normal (({s with ds:=d::s.ds}:St).put o.dst Qt s.h)
   | none=>False
  | some _=>False
 | .next x isS=>Xmg E C x isS o.dst s K
 | _=>match aop E s.t s.h o with
  | some (.val v h)=>K .normal (s.put o.dst v h)
  | some (.skip h)=>K .normal (s.put o.dst Qt h)
  | some (.panic v h)=>K (.panic [{v,recovered:=false}]) {s with h:=h}
  | some (.enter f args h)=>C.fn f args h (Jon o.dst s K)
  | some (.round l args h)=>C.rnd l args h (Jon o.dst s K)
  | _=>False
def Z3r(F:St->Prop)(K:Exit->St->Prop)(e:Exit)(s':St):Prop:=match e with
 | .normal=>F s'
 | .panic ch=>K (.panic ch) s'
 | _=>False
def Yns{P:Program}(E:Env2 P)(C:CallP)(rd:Option Nat)(ops:List Oper)(K:Exit->St->Prop):List Oper->St->Prop
 | [],s=>K .normal s
 | o::r,s=>match Qg ops s.t o with
  | some true=>Xn E C rd o s (Z3r (Yns E C rd ops K r) K)
  | some false=>if Qoy s o.dst then Yns E C rd ops K r (s.put o.dst Qt s.h)else False
  | none=>False
def Xt{P:Program}(E:Env2 P)(C:CallP)(rd:Option Nat)(ops:List Oper)(K:Exit->St->Prop)(t:Tm)(ds:List Deferred)(h:Heap):Yns E C rd ops K [] ⟨t,ds,h⟩=K .normal ⟨t,ds,h⟩:=rfl
def Xl{P:Program}(E:Env2 P)(C:CallP)(rd:Option Nat)(ops:List Oper)(K:Exit->St->Prop)(o:Oper)(r:List Oper)(t:Tm)(ds:List Deferred)(h:Heap):Yns E C rd ops K (o::r) ⟨t,ds,h⟩ =
 (match Qg ops t o with
  | some true=>Xn E C rd o ⟨t,ds,h⟩ (Z3r (Yns E C rd ops K r) K)
  | some false=>if Qoy ⟨t,ds,h⟩ o.dst then Yns E C rd ops K r (St.put ⟨t,ds,h⟩ o.dst Qt h)else False
  | none=>False):=rfl
def Qz(F:St->Prop)(K:Exit->St->Prop)(s:St):Z3r F K .normal s=F s:=rfl
def X7(F:St->Prop)(K:Exit->St->Prop)(ch:List PanicEntry)(s:St):Z3r F K (.panic ch) s=K (.panic ch) s:=rfl
def Xs(d:Option Tmp)(s:St)(K:Exit->St->Prop)(v:Value)(h:Heap):Jon d s K (.ret v) h=K .normal (s.put d v h):=rfl
def Xg(d:Option Tmp)(s:St)(K:Exit->St->Prop)(ch:List PanicEntry)(h:Heap):Jon d s K (.panic ch) h=K (.panic ch) {s with h:=h}:=rfl
section
variable{P:Program}{Z:Ren}{s:St}{a:Act}{w:World}
def Z5u(E:Env2 P){C:CallP}(hC:CallPSound P E.G C){rd:Option Nat}{o:Oper}{K:Exit->St->Prop}(hs:Xn E C rd o s K)(S:SRel E.G Z s a w)
  {next:Act->World->Prop} {Q:Exit->Act->World->Prop}
  (hn:∀ Z' a' w' s1,K .normal s1->Ext s.h.next Z Z'->Turn Z s.h w Z' s1.h w'->SRel E.G Z' s1 a' w'->next a' w')
  (hp:∀ Z' a' w' s1 ch,K (.panic ch) s1->Ext s.h.next Z Z'->Turn Z s.h w Z' s1.h w'->SRel E.G Z' s1 a' w'->Q24 (dom Z') (.panic ch)->Q (Qos Z' (.panic ch)) a' w') :
  o.wpIn (Qvk rd Z) 0 P a w next Q:=by
 refine⟨fun f _=>Q0u rd Z f,?_⟩;unfold Xn at hs;split at hs
 ·exact hs.elim
 ·rename_i hdst;have hdst':Qoy s o.dst=true:=by simpa using hdst
  have hd2:∀ h,Qoy ({s with h:=h}:St) o.dst=true:=fun h=>by cases hd:o.dst <;> simp only[hd,Qoy]at hdst' ⊢;exact hdst'
  have fin:∀ Z' w' v h,K .normal (s.put o.dst v h)->Ext s.h.next Z Z'->Turn Z s.h w Z' h w'->HRel E.G Z' h w'->okV (dom Z') v->next (a.put o.dst (ren Z' v)) w':=by
   intro Z' w' v h hk q2 q3 q4 q1;have S1:=S.step q2 q4;refine hn Z' _ w' _ hk q2 ?_ ?_
   ·rw[Yxm];exact q3
   ·have:=S1.put (d:=o.dst) (v:=v) (hd2 h) q1;rw[eO];exact this
  split at hs
  ·rename_i c hop;split at hs
   ·split at hs
    ·rename_i d hd;obtain⟨d1,d2⟩:=Zxc E S hd o.type;have : (o.semAt (Qvk none Z).round a.eval).run P w=.ok (.defer (Qxs Z d)) w:=by
      rw[Q6a];simp[Oper.semAt,execOp,hop,d2]
     rw[this];refine hn Z _ w _ hs (Ext.refl _ _) ?_ ?_
     ·rw[Yxm];exact Turn.refl _ _ _
     ·have S1:SRel E.G Z {s with ds:=d::s.ds} {a with defers:=Qxs Z d::a.defers} w :=
       ⟨S.h,S.t,by simp[S.ds],fun x hx=>by rcases ap.1 hx with rfl | hx;exact d1;exact S.okd x hx⟩
      exact S1.putU hdst'
    ·exact hs.elim
   ·exact hs.elim
  ·rename_i x isS hop;have hsem:o.semAt (Qvk rd Z).round a.eval=execOp a.eval o:=dC _ _ _ (fun c hc=>by rw[hop]at hc;cases hc);rw[hsem];unfold Xmg at hs;split at hs
   ·rename_i it hit;obtain⟨e1,e2⟩:=Xvk S.h S.t hit;have key:Qxn it isS s.h ≠ []/\∀ y ∈ Qxn it isS s.h,K .normal (s.put o.dst y.1 y.2):=by
     rcases hs with⟨y,h1,h2⟩ | ⟨_,h1,h2⟩
     ·rw[h1];refine⟨by simp,fun z hz => ?_⟩;rw[aw]at hz;subst hz;exact h2
     ·exact⟨h1,h2⟩
    obtain⟨y,hy,Z',w',r1,r2,r3,r4,r5⟩:=Zgp (P:=P) (ty:=o.type) S.h e1 key.1;have hrun:(execOp a.eval o).run P w=.ok (.value (ren Z' y.1)) w':=by
     simp only[execOp,hop,e2];simp[r1]
    rw[hrun];exact fin Z' w' y.1 y.2 (key.2 y hy) r3 r5 r4 r2
   ·exact hs.elim
  ·rename_i hop hop2;have hsem:o.semAt (Qvk rd Z).round a.eval=execOp a.eval o:=dC _ _ _ hop;rw[hsem];split at hs
   ·rename_i v h hr;obtain⟨Z',w',r1,r2,r3,r4,r5⟩:=Q00 E S.h S.t hr;rw[r1];exact fin Z' w' v h hs r3 r5 r4 r2
   ·rename_i h hr;obtain⟨w',r1,r2,r3⟩:=Q00 E S.h S.t hr;rw[r1];have:=fin Z w' Qt h hs (Ext.refl _ _) r3 r2 (by simp[Qt,okV,okA,okL]);have e:ren Z Qt=undef:=(by simp[Qt,undef]);rw[e]at this;exact this
   ·rename_i v h hr;obtain⟨rfl,r1,r2⟩:=Q00 E S.h S.t hr;rw[r1];exact hp Z a w _ _ hs (Ext.refl _ _) (Turn.refl _ _ _) S (by simpa[Q24]using r2)
   ·rename_i f args h hr;obtain⟨rfl,r1,r2⟩:=Q00 E S.h S.t hr;rw[r1,dF];refine⟨by rw[Qrg];simp,Xfy ?_⟩;refine(hC.fn _ _ _ _ hs Z w S.h r2).mono ?_;rintro e' w' ⟨Z',r,h1,hk,rfl,q1,q2,q3,q4⟩;cases r with
    | ret v=>exact fin Z' w' v h1 hk q2 q3 q4 q1
    | panic ch=>exact hp Z' a w' _ ch hk q2 q3 (S.step q2 q4) q1
   ·rename_i l args h hr;obtain⟨rfl,k1,r2,st,pend,t',ps,asn,bd,d,k2,fn,tmps,k3,r1⟩:=Q00 E S.h S.t hr;rw[r1,dE];refine⟨by rw[Qrg];simp,?_⟩;refine(hC.rnd _ _ _ _ hs Z w Z rd _ _ _ _ _ _ _ _ _ S.h k1 r2 k2 k3).mono ?_;rintro e' w' ⟨Z',r,h1,hk,rfl,q1,q2,q3,q4⟩;cases r with
    | ret v=>exact fin Z' w' v h1 hk q2 q3 q4 q1
    | panic ch=>exact hp Z' a w' _ ch hk q2 q3 (S.step q2 q4) q1
   ·exact hs.elim
def Z15(E:Env2 P){C:CallP}(hC:CallPSound P E.G C){rd:Option Nat}{ops:Array Oper}{Q:Exit->Act->World->Prop}{K:Exit->St->Prop}:∀ (l:List Oper) (i:Nat) (s:St) (Z:Ren) (a:Act) (w:World),
  ops.toList.drop i=l->Yns E C rd ops.toList K l s->SRel E.G Z s a w->(∀ l,rd=some l->dom Z l) ->
  (∀ Z' a' w' e s1,K e s1->Ext s.h.next Z Z'->Turn Z s.h w Z' s1.h w'->SRel E.G Z' s1 a' w'->Q24 (dom Z') e->Q (Qos Z' e) a' w') ->
  wpOpsIn (Qvk rd Z) 0 P ops Q (List.range' i l.length) a w
 | [],i,s,Z,a,w,_,h,S,_,hQ=>hQ Z a w .normal s h (Ext.refl _ _) (Turn.refl _ _ _) S trivial
 | o::r,i,s,Z,a,w,hdrop,h,S,hl,hQ=>by
  have ho:ops[i]? = some o:=by
   have:=congrArg (fun l=>l[0]?) hdrop;simpa[List.getElem?_drop]using this
  have hdrop':ops.toList.drop (i+1)=r:=by
   have:=congrArg List.tail hdrop;simpa[dY]using this
  simp only[aS,df,wpOpsIn,ho];simp only[Yns]at h;split at h
  ·rename_i hw;rw[if_pos (Q3h (G:=E.G) S.t hw)];refine Z5u E hC h S (fun Z' a' w' s1 hk h1 h2 h3 => ?_) (fun Z' a' w' s1 ch hk h1 h2 h3 h4=>hQ Z' a' w' _ s1 hk h1 h2 h3 h4);obtain⟨f1,f2,_⟩:=X1m (rd:=rd) (n:=0) S h1 hl;have:=Z15 E hC (Q:=Q) (K:=K) r (i+1) s1 Z' a' w' hdrop' hk h3 f2 (fun Z'' a'' w'' e s2 g0 g2 g3 g4 g5=>hQ Z'' a'' w'' e s2 g0 (h1.trans g2 h2.next) (h2.trans g3) g4 g5);rwa [f1]at this
  ·rename_i hw;rw[if_neg (by rw[Q3h (G:=E.G) S.t hw];simp)];refine⟨fun f _=>Q0u rd Z f,?_⟩;split at h
   ·rename_i hd;have hh:(s.put o.dst Qt s.h).h=s.h:=Yxm _ _ _ _;exact Z15 E hC (Q:=Q) (K:=K) r (i+1) _ Z _ w hdrop' h (S.putU hd) hl (by rw[hh];exact hQ)
   ·exact h.elim
  ·exact h.elim
def Z9g(E:Env2 P){C:CallP}(hC:CallPSound P E.G C){rd:Option Nat}{id:Nat}{ops:Array Oper}{K:Exit->St->Prop}(h:Yns E C rd ops.toList K ops.toList s) :
  CW P E.G rd s.h.next (.region id ops false) s K:=by
 intro Z a w S hl;have:=Z15 E hC (ops:=ops) ops.toList 0 s Z a w rfl h S hl (Q:=Jv5 E.G s.h.next Z s.h w K) (fun Z' a' w' e s1 h0 h2 h3 h4 h5=>⟨Z',e,s1,h0,rfl,h5,h2,h3,h4⟩);rw[dA,<- cU]at this;exact wpIn_region this
def CW.grows{G:Bs}{rd:Option Nat}{n:Nat}{c:Code}{K:Exit->St->Prop}(h:CW P G rd n c s K):CW P G rd n c s (fun e s'=>K e s'/\s.h.next<=s'.h.next):=fun Z a w S hl =>
 wpIn_mono (h Z a w S hl) fun _ _ _ ⟨Z',e,s',h1,h2,h3,h4,h5,h6⟩=>⟨Z',e,s',⟨h1,h5.next⟩,h2,h3,h4,h5,h6⟩
def Jlg{G:Bs}{rd:Option Nat}{x y:Code}{K:Exit->St->Prop}(h:CW P G rd s.h.next x s (fun e s'=>match e with | .normal=>CW P G rd s'.h.next y s' K | e=>K e s')):CW P G rd s.h.next (.seq x y) s K:=by
 refine Jkk (h.grows.mono (ab _) ?_);rintro e s' ⟨h1,h2⟩;refine⟨h2,fun he => ?_,fun hne => ?_⟩
 ·subst he;exact h1
 ·cases e <;> first
   | exact absurd rfl hne
   | exact h1
end
structure LowEq (s s':St):Prop where
 t:s'.t=s.t
 ds:s'.ds=s.ds
 next:s'.h.next=s.h.next
 tr:s'.h.t=s.h.t
def LowEq.get{s s':St}(k:LowEq s s')(b:Nat):s'.h.get b=s.h.get b:=by unfold Heap.get;rw[k.next,k.tr]
section
variable{P:Program}{E:Env2 P}{C:CallF}{G:Bs}{Z:Ren}{a:Act}{w:World}
def Xbr{P:Program}(E:Env2 P)(o:Oper):Bool:=Yq E o || (match o.op with | .load .. => true | _=>false)
def Xy2{P:Program}(E:Env2 P):List Oper->Bool
 | []=>true
 | o::l=>Xbr E o && Xy2 E l
def Jgc:List (Option LRec)->Bool
 | []=>true
 | some (.wr _ _)::_=>false
 | _::l=>Jgc l
def Yp7{R0:List (Option LRec)}{B0:List Nat}:∀ {R:List (Option LRec)} {Bs:List Nat} {i:Nat},Jgc R=true->Yk E R0 B0 R Bs i=true
 | [],_,_,_=>rfl
 | some (.wr _ _)::_,_,_,h=>by simp[Jgc]at h
 | none::l,[],_,_=>rfl
 | none::l,_::_,_,h=>Yp7 (R:=l) (by simpa[Jgc]using h)
 | some (.ld _ _)::l,[],_,_=>rfl
 | some (.ld _ _)::l,_::_,_,h=>Yp7 (R:=l) (by simpa[Jgc]using h)
def SRel.low{s:St}(S:SRel G Z s a w){s':St}(k:LowEq s s'):SRel G Z s' a w:=by
 refine⟨S.h.sub k.next (fun b x hx=>by rw[<- k.get];exact hx),by rw[k.t];exact S.t,by rw[k.ds];exact S.ds,by rw[k.ds];exact S.okd⟩
def Zjh{o:Oper}(hf:Xbr E o=true){t:Tm}{h h':Heap}(hg:∀ b,h'.get b=h.get b){r:Res}(hr:aop E t h o=some r) :
  ∃ v,r=.val v h/\aop E t h' o=some (.val v h')/\(Yq E o=true∨Yl o=true)/\(!Yl o || (loadAt E t o).isSome)=true:=by
 unfold Xbr at hf;rw[bM]at hf;rcases hf with hf | hf
 ·have hnl:Yl o=false:=by
   unfold Yq at hf;unfold Yl;split
   ·rename_i hq;simp[hq]at hf
   ·rename_i hq;simp[hq]at hf
   ·rfl
  have key:∃ v,r=.val v h/\aop E t h' o=some (.val v h'):=by
   unfold Yq at hf;unfold aop at hr ⊢;split at hf <;> first
    | (cases hf;done)
    | skip
   all_goals
    rename_i hop;simp only[hop]at hr ⊢
    try simp only[hf]at hr ⊢
    first
    | (obtain⟨u,hu,rfl⟩:=Qez hr;exact⟨u,rfl,by simp only[g0,hu]⟩)
    | (split at hr <;> first
      | (cases hr;done)
      | (obtain⟨u,hu,rfl⟩:=Qez hr;refine⟨u,rfl,?_⟩;simp only[g0, *];done))
  obtain⟨v,h1,h2⟩:=key;exact⟨v,h1,h2,.inl hf,by simp[hnl]⟩
 ·split at hf
  ·rename_i ty x hop;simp only[aop,hop]at hr ⊢;cases hx:aev E.G t x with
   | none=>simp[hx]at hr
   | some y =>
    simp only[hx]at hr ⊢;obtain⟨u,hu,rfl⟩:=Qez hr;have hu':Qjm E.toEnv ty y h'=some u:=by
     rw[<- hu];simp only[Qjm];split
     ·exact Xdu (hg _) _
     ·rfl
    refine⟨u,rfl,by simp only[hu',g0],.inr (by simp[Yl,hop]),?_⟩;have : (loadAt E t o).isSome=true:=by
     simp only[loadAt,hop,hx];cases y <;> simp only[Qjm]at hu <;> try (cases hu;done)
     rename_i p;cases p with
     | none=>simp at hu
     | some p=>rfl
    simp[this]
  ·cases hf
def Yya{ops:List Oper}{B:List Nat}:∀ (l:List Oper) (i:Nat) (s s1 sx:St),Xy2 E l=true->Yxv E C none ops l s=some (.normal,s1)->LowEq s sx->∃ sy R,Zt0 E C ops B l i sx=some (sy,R)/\LowEq s1 sy/\Jgc R=true
 | [],i,s,s1,sx,_,h,k=>by
  simp only[Yxv,ar,bG,true_and]at h;subst h;exact⟨sx,[],rfl,k,rfl⟩
 | o::r,i,s,s1,sx,hro,h,k=>by
  simp only[Xy2,ao]at hro;obtain⟨hr1,hr2⟩:=hro;have hdst:Qoy sx o.dst=Qoy s o.dst:=by cases o.dst <;> simp[Qoy,k.t]
  have hput:∀ (v:Value) (h h':Heap),h'.next=h.next->h'.t=h.t->LowEq (s.put o.dst v h) (sx.put o.dst v h'):=fun v h h' e1 e2=>by
   cases o.dst with
   | none=>exact⟨k.t,k.ds,e1,e2⟩
   | some d=>exact⟨by simp[St.put,k.t],k.ds,e1,e2⟩
  have hnd:Ys o=true:=by
   unfold Xbr Yq at hr1;unfold Ys;split
   ·rename_i c hop;simp[hop]at hr1
   ·rfl
  simp only[Yxv]at h;have hw:Qg ops sx.t o=Qg ops s.t o:=by rw[k.t]
  split at h
  ·rename_i hwt;split at h
   ·rename_i s' hst;unfold Yjr at hst;split at hst
    ·cases hst
    ·rename_i hd;have hd':Qoy s o.dst=true:=(by simpa using hd);have main:∃ v,s'=s.put o.dst v s.h/\Qx4 E C o sx.t (Qdh sx.h)=some (v,Qdh sx.h)/\(Yq E o=true∨Yl o=true)/\(!Yl o || (loadAt E sx.t o).isSome)=true:=by
      have hop:∀ c,o.op ≠ .defer c:=fun c hc=>by simp[Ys,hc]at hnd
      split at hst
      ·rename_i c hc;exact absurd hc (hop c)
      ·cases hr:aop E s.t s.h o with
       | none=>simp[hr]at hst
       | some res =>
        obtain⟨v,rfl,h2,h3,h4⟩:=Zjh hr1 (h':=Qdh sx.h) (fun b=>k.get b) hr;simp only[hr,ar,bG,true_and]at hst;refine⟨v,hst.symm,?_,h3,by rw[k.t];exact h4⟩;rw[k.t];simp only[Qx4,h2]
     obtain⟨v,rfl,hsv,hkind,hok⟩:=main;obtain⟨sy,R,hy,ky,hR⟩:=Yya (B:=B) r (i+1) (s.put o.dst v s.h) s1 (sx.put o.dst v (X78 sx.h (Qdh sx.h))) hr2 h (hput v _ _ k.next k.tr);refine⟨sy,Ypu E sx o (Qdh sx.h)::R,?_,ky,?_⟩
     ·simp only[Zt0,hw,hwt,hdst,hd',hnd,hsv];have hso:Xlo E ops B i o sx (Qdh sx.h)=true:=by
       unfold Xlo;rw[ao];exact⟨by rcases hkind with h | h <;> simp[h],hok⟩
      simp[hso,hy,Wj]
     ·unfold Ypu;rcases hkind with hf | hl
      ·split
       ·simpa[Jgc]using hR
       ·simpa[Jgc,hf]using hR
      ·simp[hl,Jgc,hR]
   ·cases h
   ·cases h
  ·rename_i hwf;split at h
   ·rename_i hd;obtain⟨sy,R,hy,ky,hR⟩:=Yya (B:=B) r (i+1) _ s1 (sx.put o.dst Qt sx.h) hr2 h (hput Qt _ _ k.next k.tr);refine⟨sy,none::R,?_,ky,by simpa[Jgc]using hR⟩;simp[Zt0,hw,hwf,hdst,hd,hnd,hy,Wj]
   ·cases h
  ·cases h
end
section
variable{P:Program}{E:Env2 P}{C:CallF}{G:Bs}{Z:Ren}{a:Act}{w:World}
def HRel.like{h h1:Heap}(H:HRel G Z h w)(hn:h1.next=h.next)(ht:h1.t=h.t):HRel G Z h1 w :=
 H.sub hn (fun b x hx=>by unfold Heap.get at hx ⊢;rw[<- hn,<- ht];exact hx)
end
structure Hq (h h':Heap):Prop where
 next:h'.next=h.next
 t:h'.t=h.t
def Hq.get{h h':Heap}(q:Hq h h')(b:Nat):h'.get b=h.get b:=by unfold Heap.get;rw[q.next,q.t]
def Hq.push{h h':Heap}(q:Hq h h')(x:Blk):Hq (h.push x) (h'.push x):=⟨by simp[Heap.push,q.next],by simp[Heap.push,q.t,q.next]⟩
def Hq.set{h h':Heap}(q:Hq h h')(b:Nat)(x:Option Blk):Hq (h.set b x) (h'.set b x):=⟨q.next,by simp[Heap.set,q.t]⟩
section
variable{P:Program}{E:Env2 P}{G:Bs}
def Y68{h h':Heap}(q:Hq h h')(a:Addr)(n:Nat):Ab.cellsAt h' a n=Ab.cellsAt h a n:=by simp only[Ab.cellsAt,q.get]
def Yz4{h h' h1:Heap}(q:Hq h h'){a:Addr}{l:List Value}(hs:storeAt h a l=some h1):∃ h1',storeAt h' a l=some h1'/\Hq h1 h1':=by
 unfold storeAt at hs ⊢;rw[q.get];split at hs
 ·rename_i sz c hg;rw[ak]at hs;obtain⟨c',h2,rfl⟩:=hs;rw[hg]at *;exact⟨_,by simp only[h2,ax],q.set _ _⟩
 ·cases hs
def Z5q{E:Env P}{h h':Heap}(q:Hq h h'){t:TypeId}{x:Value}{lo hi mx:Option Value}{h1:Heap}{v:Value}(hv:Qes E t x lo hi mx h=some (v,h1)):∃ h1',Qes E t x lo hi mx h'=some (v,h1')/\Hq h1 h1'/\h1'.low=h'.low:=by
 have hcut:∀ {ad:Addr} {sz used l n:Nat},Qes.aCut ad sz used l n h=some (v,h1)->∃ h1',Qes.aCut ad sz used l n h'=some (v,h1')/\Hq h1 h1'/\h1'.low=h'.low:=by
  intro ad sz used l n hc;unfold Qes.aCut at hc ⊢;split at hc
  ·rename_i e;rw[if_pos e];cases hc;exact⟨_,rfl,q,rfl⟩
  ·rename_i e;rw[if_neg e];split at hc
   ·rename_i e2;rw[if_pos e2];cases hc;exact⟨_,rfl,q,rfl⟩
   ·rename_i e2;rw[if_neg e2];split at hc
    ·rename_i e3;rw[if_pos e3];cases hc;exact⟨_,by rw[q.next],q.push _,rfl⟩
    ·cases hc
 have hmap:∀ {o:Option Value},o.map (fun v=>(v,h))=some (v,h1)->∃ h1',o.map (fun v=>(v,h'))=some (v,h1')/\Hq h1 h1'/\h1'.low=h'.low:=by
  intro o ho;rw[ak]at ho;obtain⟨u,e,hq⟩:=ho;cases hq;exact⟨h',by rw[e];rfl,q,rfl⟩
 unfold Qes at hv ⊢;simp only[q.get];have leaf:∀ {X:Option (Value × Heap)} {Y:Option (Value × Heap)},X=Y->(∃ h1',Y=some (v,h1')/\Hq h1 h1'/\h1'.low=h'.low)->∃ h1',X=some (v,h1')/\Hq h1 h1'/\h1'.low=h'.low:=fun e h=>by rw[e];exact h
 repeat' (first | (cases hv;done) | (refine leaf ?_ (hmap hv);simp only[*,if_true,if_false,av];done) | (refine leaf ?_ (hcut hv);simp only[*,if_true,if_false,av];done) | (cases hv;refine⟨h',?_,q,rfl⟩;simp only[*,if_true,if_false,av];done) | split at hv | simp only at hv)
def RQ(X Y:Option (Value × Heap)):Prop:=∀ v h1,X=some (v,h1)->∃ h1',Y=some (v,h1')/\Hq h1 h1'
def RQ.none{Y:Option (Value × Heap)}:RQ .none Y:=fun _ _ h=>by cases h
def RQ.some{u:Value}{h h':Heap}(q:Hq h h'):RQ (.some (u,h)) (.some (u,h')):=fun _ _ e=>by cases e;exact⟨_,rfl,q⟩
def Jd3{E:Env P}{h h':Heap}(q:Hq h h'){t tx:TypeId}{s x:Value}{h1:Heap}{v:Value}(hv:Qjr E t tx s x h=some (v,h1)):∃ h1',Qjr E t tx s x h'=some (v,h1')/\Hq h1 h1':=by
 have hnews:∀ (re:TyRec),Ybb E tx re x h'=Ybb E tx re x h:=by
  intro re;unfold Ybb Zzn;simp only[Y68 q]
 have hst:∀ {a:Addr} {l:List Value} {u:Value},RQ ((storeAt h a l).map (fun h'=>(u,h'))) ((storeAt h' a l).map (fun h'=>(u,h'))):=by
  intro a l u v h1 ho;rw[ak]at ho;obtain⟨h2,e,hq⟩:=ho;cases hq;obtain⟨h3,e3,q3⟩:=Yz4 q e;exact⟨h3,by rw[e3];rfl,q3⟩
 have hpush:∀ {u:List Value} {n z:Nat},RQ (some (.slice (some ⟨h.next,0,none⟩) n Ql9,h.push (.cells true z u))) (some (.slice (some ⟨h'.next,0,none⟩) n Ql9,h'.push (.cells true z u))):=by
  intro u n z;rw[q.next];exact RQ.some (q.push _)
 have hpush2:∀ {u:List Value} {n z b:Nat},RQ (some (.slice (some ⟨h.next,0,none⟩) n Ql9,(h.set b none).push (.cells true z u))) (some (.slice (some ⟨h'.next,0,none⟩) n Ql9,(h'.set b none).push (.cells true z u))):=by
  intro u n z b;rw[q.next];exact RQ.some ((q.set _ _).push _)
 have main:RQ (Qjr E t tx s x h) (Qjr E t tx s x h'):=by
  unfold Qjr;simp only[q.get,hnews,Y68 q]
  repeat' (first | exact RQ.none | exact hst | exact hpush | exact hpush2 | exact RQ.some q | split)
 exact main _ _ hv
def Jm1{E:Env P}{h h':Heap}(q:Hq h h'){t:TypeId}{d x:Value}{h1:Heap}{v:Value}(hv:Ybj E t d x h=some (v,h1)):∃ h1',Ybj E t d x h'=some (v,h1')/\Hq h1 h1':=by
 have hsrc:∀ z n,Zzn z n x h'=Zzn z n x h:=by
  intro z n;unfold Zzn;simp only[Y68 q]
 have hst:∀ {a:Addr} {l:List Value} {u:Value},RQ ((storeAt h a l).map (fun h'=>(u,h'))) ((storeAt h' a l).map (fun h'=>(u,h'))):=by
  intro a l u v h1 ho;rw[ak]at ho;obtain⟨h2,e,hq⟩:=ho;cases hq;obtain⟨h3,e3,q3⟩:=Yz4 q e;exact⟨h3,by rw[e3];rfl,q3⟩
 have main:RQ (Ybj E t d x h) (Ybj E t d x h'):=by
  unfold Ybj;simp only[hsrc]
  repeat' (first | exact RQ.none | exact hst | exact RQ.some q | split)
 exact main _ _ hv
def Jjh{E:Env P}{h h':Heap}(q:Hq h h'){t:TypeId}{a v:Value}{h1:Heap}(hv:Qbw E t a v h=some h1):∃ h1',Qbw E t a v h'=some h1'/\Hq h1 h1':=by
 unfold Qbw at hv ⊢;split at hv
 ·unfold Yzu at hv ⊢;split at hv
  ·rename_i e;rw[if_pos e];exact Yz4 q hv
  ·cases hv
 ·cases hv
def Zsb{E:Env P}{h h':Heap}(q:Hq h h'){t:TypeId}{m k x:Value}{h1:Heap}(hv:Qgc E t m k x h=some h1):∃ h1',Qgc E t m k x h'=some h1'/\Hq h1 h1':=by
 have main:RQ ((Qgc E t m k x h).map fun h=>(.bool true,h)) ((Qgc E t m k x h').map fun h=>(.bool true,h)):=by
  unfold Qgc;simp only[q.get]
  repeat' (first | exact RQ.none | exact RQ.some (q.set _ _) | split)
 obtain⟨h1',e,q1⟩:=main (.bool true) h1 (by rw[hv];rfl);rw[ak]at e;obtain⟨h2,e2,e3⟩:=e;cases e3;exact⟨_,e2,q1⟩
def Vi{P:Program}(E:Env2 P)(o:Oper):Nat:=if Yq E o || Yl o then 0 else match o.op with
 | .alloc _ | .box _ _ | .buildSlice _ _ _ | .makeSlice _ _ _ | .slice _ _ _ _ _ | .makeMap _ _=>1
 | .store _ _ _ | .mapUpdate _ _ _ _ | .mapEntry _ _ _ | .entryStore _ _ _ _=>2
 | .call c=>match c.callee with
  | .builtin .len | .builtin .max | .builtin .min=>1
  | .builtin .append | .builtin .copy | .builtin .delete=>2
  | .value _=>3
  | _=>9
 | _=>9
def Jp6{o:Oper}(hk:Vi E o=0):Yq E o=true∨Yl o=true:=by
 unfold Vi at hk;split at hk
 ·rename_i h;simpa using h
 ·split at hk <;> try (cases hk;done)
  split at hk <;> cases hk
def X1y{x:Option (Value × Heap)}{r:Res}(h:gv x=some r):∃ v h1,x=some (v,h1)/\r=.val v h1:=by
 unfold gv at h;split at h
 ·cases h;exact⟨_,_,rfl,rfl⟩
 ·cases h
def Jfa{x:Option Value}{h:Heap}{r:Res}(hr:Ab.g0 h x=some r):∃ v,x=some v/\r=.val v h:=by
 unfold Ab.g0 at hr;split at hr
 ·cases hr;exact⟨_,rfl,rfl⟩
 ·cases hr
def Jbo{x:Option Heap}{r:Res}(hr:gs x=some r):∃ h,x=some h/\r=.skip h:=by
 unfold gs at hr;split at hr
 ·cases hr;exact⟨_,rfl,rfl⟩
 ·cases hr
def Jt3 {o : Oper} (hk : Vi E o = 1) {t : Tm} {h h' : Heap} (q : Hq h h') {r : Res} (hr : aop E t h o = some r) : ∃ v h1 h1', r = .val v h1 /\ aop E t h' o = some (.val v h1') /\ Hq h1 h1' /\ h1'.low = h'.low /\ ∀ c, c < h.next -> h1.get c = h.get c := by
  have old : ∀ x : Blk, ∀ c, c < h.next -> (h.push x).get c = h.get c := fun x c hc => by rw [Heap.get_push, if_neg (by omega)]
  unfold Vi at hk;split at hk
  · cases hk
  · split at hk
    · rename_i ty hop
      simp only [aop,hop] at hr ⊢;obtain ⟨v, h1, e, rfl⟩ := X1y hr;unfold Qbx at e ⊢;split at e
      · rename_i r hty
        cases e;exact ⟨_, _, _, rfl, by simp only [hty,gv,q.next], q.push _, rfl, old _⟩
      · cases e
    · rename_i ty x hop
      simp only [aop,hop] at hr ⊢;cases hx : aev E.G t x with
      | none => simp [hx] at hr
      | some y =>
        simp only [hx] at hr ⊢;obtain ⟨v, h1, e, rfl⟩ := X1y hr;unfold Zzo at e ⊢;split at e
        · rename_i hn
          cases e;exact ⟨_, _, _, rfl, by simp only [hn,if_true,gv,q.next], q.push _, rfl, old _⟩
        · cases e
    · rename_i ty n ps hop
      simp only [aop,hop] at hr ⊢;cases hx : Qh E.G t ps.toList with
      | none => simp [hx] at hr
      | some y =>
        simp only [hx] at hr ⊢;obtain ⟨v, h1, e, rfl⟩ := X1y hr;unfold W7 at e ⊢;split at e
        · cases e
        · split at e
          · split at e
            · split at e
              · rename_i hq
                rw [ak] at e;obtain ⟨c, hc, e⟩ := e;cases e;exact ⟨_, _, _, rfl, by rw [if_pos hq, hc]; simp only [ax,gv,q.next], q.push _, rfl, old _⟩
              · cases e
            · cases e
          · cases e
    · rename_i ty n c hop
      simp only [aop,hop] at hr ⊢;cases hx : aev E.G t n with
      | none => simp [hx] at hr
      | some y =>
        cases hy : aev E.G t c with
        | none => simp [hx,hy] at hr
        | some z =>
          simp only [hx,hy] at hr ⊢;obtain ⟨v, h1, e, rfl⟩ := X1y hr;unfold Qpf at e ⊢;split at e
          · split at e
            · split at e
              · split at e
                · rename_i hq
                  cases e;exact ⟨_, _, _, rfl, by rw [if_pos hq]; simp only [gv,q.next], q.push _, rfl, old _⟩
                · cases e
              · cases e
            · cases e
          · cases e
    · rename_i ty x lo hi mx hop
      simp only [aop,hop] at hr ⊢;cases h1 : aev E.G t x with
      | none => simp [h1] at hr
      | some v1 =>
        cases h2 : evO E.G t lo with
        | none => simp [h1,h2] at hr
        | some v2 =>
          cases h3 : evO E.G t hi with
          | none => simp [h1,h2,h3] at hr
          | some v3 =>
            cases h4 : evO E.G t mx with
            | none => simp [h1,h2,h3,h4] at hr
            | some v4 =>
              simp only [h1,h2,h3,h4] at hr ⊢;obtain ⟨v, g1, e, rfl⟩ := X1y hr;obtain ⟨g1', e1, e2, e3⟩ := Z5q q e;refine ⟨v, g1, g1', rfl, by rw [e1]; rfl, e2, e3, fun c hc => ?_⟩;obtain ⟨g2, f1, f2, f3⟩ := Z5q (E := E.toEnv) (h := h) (h' := { h with low := h.next }) ⟨rfl, rfl⟩ e;have := (Zgz f1).same c hc (by rw [f3]; exact hc);rw [f2.get] at this;exact this
    · rename_i ty x hop
      simp only [aop,hop] at hr ⊢;cases h1 : evO E.G t x with
      | none => simp [h1] at hr
      | some v1 =>
        simp only [h1] at hr ⊢;obtain ⟨v, g1, e, rfl⟩ := X1y hr;unfold Q3w at e ⊢;split at e
        · split at e
          · cases e
            exact ⟨_, _, _, rfl, by simp only [gv,q.next], q.push _, rfl, old _⟩
          · cases e
            exact ⟨_, _, _, rfl, by simp only [gv,q.next], q.push _, rfl, old _⟩
          · cases e
        · cases e
    · cases hk
    · cases hk
    · cases hk
    · cases hk
    · rename_i c hop
      simp only [aop,hop] at hr ⊢;cases ha : evs E.G t c.args.toList with
      | none => simp [ha] at hr
      | some args =>
        simp only [ha] at hr ⊢;split at hk <;> first
          | (cases hk; done)
          | (rename_i hc
             simp only [hc,Q7] at hr ⊢
             first
             | (obtain ⟨v, e, rfl⟩ := Jfa hr
                exact ⟨v, h, h', rfl, by simp only [e,Ab.g0], q, rfl, fun _ _ => rfl⟩)
             | (split at hr <;> first
               | contradiction
               | (cases hr; done)
               | (obtain ⟨v, e, rfl⟩ := Jfa hr
                  refine ⟨v, h, h', rfl, ?_, q, rfl, fun _ _ => rfl⟩;have e2 : ∀ ty x, Qkc E.toEnv ty x h' = Qkc E.toEnv ty x h := fun ty x => by unfold Qkc; simp only [q.get]
                  simp only [e2,e,Ab.g0])))
    · cases hk
def Jbl{h h':Heap}(q:Hq h h'){ty:TypeId}{m k v:Value}{h1:Heap}(e:Ydq E.toEnv ty m k h=some (v,h1)):∃ h1',Ydq E.toEnv ty m k h'=some (v,h1')/\Hq h1 h1':=by
 unfold Ydq at e ⊢;split at e
 ·rename_i r b hr;simp only[q.get];split at e
  ·split at e
   ·split at e
    ·cases e;exact⟨_,rfl,q.set _ _⟩
    ·cases e;exact⟨_,rfl,q.set _ _⟩
    ·cases e
   ·cases e
  ·cases e
 ·cases e
def Zzr{h h':Heap}(q:Hq h h'){ty:TypeId}{m k v:Value}{h1:Heap}(e:Qpu E.toEnv ty m k h=some (v,h1)):∃ h1',Qpu E.toEnv ty m k h'=some (v,h1')/\Hq h1 h1':=by
 unfold Qpu at e ⊢;split at e
 ·rename_i r b hr;simp only[q.get];split at e
  ·split at e
   ·split at e
    ·cases e;exact⟨_,rfl,q.set _ _⟩
    ·split at e
     ·cases e;exact⟨_,rfl,q.set _ _⟩
     ·cases e
    ·cases e
   ·cases e
  ·cases e
 ·cases e
def Zof{h h':Heap}(q:Hq h h'){m st x:Value}{h1:Heap}(e:Qir m st x h=some h1):∃ h1',Qir m st x h'=some h1'/\Hq h1 h1':=by
 unfold Qir at e ⊢;split at e
 ·simp only[q.get];split at e
  ·split at e
   ·cases e;exact⟨_,rfl,q.set _ _⟩
   ·cases e
  ·cases e
 ·cases e
def Jqn {o : Oper} (hk : Vi E o = 2) {t : Tm} {h h' : Heap} (q : Hq h h') {r : Res} (hr : aop E t h o = some r) : (∃ v h1 h1', r = .val v h1 /\ aop E t h' o = some (.val v h1') /\ Hq h1 h1') ∨ ∃ h1 h1', r = .skip h1 /\ aop E t h' o = some (.skip h1') /\ Hq h1 h1' := by
  unfold Vi at hk;split at hk
  · cases hk
  · split at hk <;> try (cases hk; done)
    · rename_i ty a v hop
      right;simp only [aop,hop] at hr ⊢;cases hx : aev E.G t a with
      | none => simp [hx] at hr
      | some y =>
        cases hy : aev E.G t v with
        | none => simp [hx,hy] at hr
        | some z =>
          simp only [hx,hy] at hr ⊢;obtain ⟨h1, e, rfl⟩ := Jbo hr;obtain ⟨h1', e1, q1⟩ := Jjh q e;exact ⟨h1, h1', rfl, by rw [e1]; rfl, q1⟩
    · rename_i ty m k x hop
      right;simp only [aop,hop] at hr ⊢;cases hx : aev E.G t m with
      | none => simp [hx] at hr
      | some y =>
        cases hy : aev E.G t k with
        | none => simp [hx,hy] at hr
        | some z =>
          cases hz : aev E.G t x with
          | none => simp [hx,hy,hz] at hr
          | some u =>
            simp only [hx,hy,hz] at hr ⊢;obtain ⟨h1, e, rfl⟩ := Jbo hr;obtain ⟨h1', e1, q1⟩ := Zsb q e;exact ⟨h1, h1', rfl, by rw [e1]; rfl, q1⟩
    · rename_i ty m k hop
      left;simp only [aop,hop] at hr ⊢;cases hx : aev E.G t m with
      | none => simp [hx] at hr
      | some y =>
        cases hy : aev E.G t k with
        | none => simp [hx,hy] at hr
        | some z =>
          simp only [hx,hy] at hr ⊢;obtain ⟨v, h1, e, rfl⟩ := X1y hr;obtain ⟨h1', e1, q1⟩ := Zzr q e;exact ⟨v, h1, h1', rfl, by rw [e1]; rfl, q1⟩
    · rename_i ty m k x hop
      right;simp only [aop,hop] at hr ⊢;cases hx : aev E.G t m with
      | none => simp [hx] at hr
      | some y =>
        cases hy : aev E.G t k with
        | none => simp [hx,hy] at hr
        | some z =>
          cases hz : aev E.G t x with
          | none => simp [hx,hy,hz] at hr
          | some u =>
            simp only [hx,hy,hz] at hr ⊢;obtain ⟨h1, e, rfl⟩ := Jbo hr;obtain ⟨h1', e1, q1⟩ := Zof q e;exact ⟨h1, h1', rfl, by rw [e1]; rfl, q1⟩
    · rename_i c hop
      left;simp only [aop,hop] at hr ⊢;cases ha : evs E.G t c.args.toList with
      | none => simp [ha] at hr
      | some args =>
        simp only [ha] at hr ⊢;split at hk <;> try (cases hk; done)
        · rename_i hc
          simp only [hc,Q7] at hr ⊢;split at hr <;> first
            | contradiction
            | (cases hr; done)
            | (obtain ⟨v, h1, e, rfl⟩ := X1y hr
               obtain ⟨h1', e1, q1⟩ := Jd3 q e;exact ⟨v, h1, h1', rfl, by rw [e1]; rfl, q1⟩)
        · rename_i hc
          simp only [hc,Q7] at hr ⊢;split at hr <;> first
            | contradiction
            | (cases hr; done)
            | (obtain ⟨v, h1, e, rfl⟩ := X1y hr
               obtain ⟨h1', e1, q1⟩ := Jm1 q e;exact ⟨v, h1, h1', rfl, by rw [e1]; rfl, q1⟩)
        · rename_i hc
          simp only [hc,Q7] at hr ⊢;split at hr <;> first
            | contradiction
            | (cases hr; done)
            | (obtain ⟨v, h1, e, rfl⟩ := X1y hr
               obtain ⟨h1', e1, q1⟩ := Jbl q e;exact ⟨v, h1, h1', rfl, by rw [e1]; rfl, q1⟩)
def Jtv{o:Oper}(hk:Vi E o=3){t:Tm}{h h1 h':Heap}{f:FuncId}{args:List Value}(hr:aop E t h o=some (.enter f args h1)):h1=h/\aop E t h' o=some (.enter f args h'):=by
 unfold Vi at hk;split at hk
 ·cases hk
 ·split at hk <;> try (cases hk;done)
  rename_i c hop;split at hk <;> try (cases hk;done)
  rename_i fo hc;simp only[aop,hop,hc]at hr ⊢;cases ha:evs E.G t c.args.toList with
  | none=>simp[ha]at hr
  | some l =>
   simp only[ha]at hr ⊢;cases hf:aev E.G t fo with
   | none=>simp[hf]at hr
   | some fv =>
    simp only[hf]at hr ⊢;cases hcal:Qi fv l with
    | none =>
     simp only[hcal]at hr;unfold Yr0 at hr;split at hr
     ·split at hr
      ·split at hr <;> cases hr
      ·cases hr
     ·cases hr
    | some fl =>
     obtain⟨f2,l2⟩:=fl;simp only[hcal]at hr ⊢;cases hF:E.fn.get f2 with
     | none =>
      simp only[hF]at hr;split at hr
      ·obtain⟨_,_,_,e⟩:=X1y hr;cases e
      ·cases hr
     | some F =>
      simp only[hF]at hr ⊢;cases hr;exact⟨rfl,rfl⟩
end
structure KE where
 f:FuncId
 args:List Value
 h0:Heap
 v:Value
 h1:Heap
 q:Bool
def Ja6(h:Heap)(l:Nat):Heap:={h with low:=l}
open Classical in
def X6o:List KE->FuncId->List Value->Heap->Option KE
 | [],_,_,_=>none
 | e::l,f,args,h=>if e.f=f/\e.args=args/\h.next=e.h0.next/\h.t=e.h0.t then some e else X6o l f args h
def Zc(f:FuncId)(args:List Value)(h0:Heap)(v:Value)(h1:Heap)(q:Bool)(l:List KE):X6o (⟨f,args,h0,v,h1,q⟩::l) f args h0=some ⟨f,args,h0,v,h1,q⟩:=by simp[X6o]
def Qud{f f':FuncId}{args args':List Value}{h0 h v h1 q}{l:List KE}(hf:f≠f'):X6o (⟨f,args,h0,v,h1,q⟩::l) f' args' h=X6o l f' args' h:=by simp[X6o,hf]
def Yop:∀ {l:List KE} {f:FuncId} {args:List Value} {h:Heap} {e:KE},X6o l f args h=some e->e ∈ l/\e.f=f/\e.args=args/\Hq e.h0 h
 | [],_,_,_,_,h=>by cases h
 | x::l,f,args,h,e,hx=>by
  simp only[X6o]at hx;split at hx
  ·rename_i hc;cases hx;exact⟨by simp,hc.1,hc.2.1,hc.2.2.1,hc.2.2.2⟩
  ·obtain⟨h1,h2⟩:=Yop hx;exact⟨by simp[h1],h2⟩
def Jkw{l:List KE}{f:FuncId}{args:List Value}{h h':Heap}(q:Hq h h'):X6o l f args h'=X6o l f args h:=by
 induction l with
 | nil=>rfl
 | cons x l ih =>
  have e:(x.f=f/\x.args=args/\h'.next=x.h0.next/\h'.t=x.h0.t)↔(x.f=f/\x.args=args/\h.next=x.h0.next/\h.t=x.h0.t):=by rw[q.next,q.t]
  simp only[X6o,ih];by_cases hc:x.f=f/\x.args=args/\h.next=x.h0.next/\h.t=x.h0.t
  ·rw[if_pos hc,if_pos (e.2 hc)]
  ·rw[if_neg hc,if_neg (fun h=>hc (e.1 h))]
def kC(L:List KE):CallF:={fn:=fun f args h=>match X6o L f args h with | some e=>some (.ret e.v,Ja6 e.h1 (if e.q then min h.low h.next else 0)) | none=>none,rnd:=fun _ _ _=>none}
structure KEok (P:Program) (G:Bs) (e:KE):Prop where
 call:CallOK P G e.f e.args e.h0 (fun r h1=>r=.ret e.v/\h1=e.h1)
 next:e.h0.next<=e.h1.next
 old:e.q=true->∀ c,c < e.h0.next->e.h1.get c=e.h0.get c
section
variable{P:Program}{E:Env2 P}{G:Bs}
def Hq.own{h h':Heap}(q:Hq h h')(b:Nat):h'.own b=h.own b:=Qpw (q.get b)
def Jt6{L:List KE}(hL:∀ e ∈ L,KEok P G e):CallsSound P G (kC L):=by
 refine⟨fun f args h r h' hx => ?_,fun l args h r h' hx=>by cases hx⟩;simp only[kC]at hx;split at hx
 ·rename_i e he;obtain⟨hm,rfl,rfl,q⟩:=Yop he;cases hx;intro Z w H hok;refine((hL e hm).call Z w (H.like q.next.symm q.t.symm) hok).mono ?_;rintro e' w' ⟨Z',r,h1,⟨rfl,rfl⟩,q1,q2,q3,q4,q5⟩;refine⟨Z',_,_,⟨rfl,rfl⟩,q1,q2,by rw[q.next];exact q3,?_,q5.like rfl rfl⟩;exact⟨q4.size,fun k hk hne=>q4.same k hk (fun b p hb ho=>hne b p hb (by rw[q.own];exact ho)),fun b p hb ho=>by
   rcases q4.owns b p hb ho with h | ⟨c,q',h1,h2,h3⟩
   ·exact .inl h
   ·exact .inr ⟨c,q',h1,by rw[q.own];exact h2,h3⟩,q4.tape,q4.os,q4.output,q4.drawn,by rw[q.next];exact(hL e hm).next⟩
 ·cases hx
def Jko{L:List KE}(hL:∀ e ∈ L,KEok P G e):CallsLow (kC L):=by
 refine⟨fun f args h r h' hx => ?_,fun l args h r h' hx=>by cases hx⟩;simp only[kC]at hx;split at hx
 ·rename_i e he;obtain⟨hm,rfl,rfl,q⟩:=Yop he;cases hx;refine⟨by rw[q.next];exact(hL e hm).next,?_,fun b hb hl => ?_⟩
  ·show(if e.q then min h.low h.next else 0)<=h.low;split
   ·exact dS _ _
   ·exact bn _
  ·have hl':b < (if e.q then min h.low h.next else 0):=hl;split at hl'
   ·rename_i hq;have:=(hL e hm).old hq b (by rw[<- q.next];exact hb);show e.h1.get b=h.get b;rw[this,q.get]
   ·omega
 ·cases hx
def runT{P:Program}(E:Env2 P)(L:List KE)(ops:List Oper)(B:List Nat):List Oper->Nat->St->Option (St × List (Option LRec))
 | [],_,s=>some (s,[])
 | o::r,i,s =>
  if !(Qoy s o.dst && Ys o)then none else
  match Qg ops s.t o with
  | none=>none
  | some false=>Wj none (runT E L ops B r (i+1) (s.put o.dst Qt s.h))
  | some true=>match Vi E o,aop E s.t s.h o with
   | 0,some (.val v h1)=>if !Yl o || (loadAt E s.t o).isSome then Wj (if Yl o then some (.ld s.t o)else none) (runT E L ops B r (i+1) (s.put o.dst v h1))else none
   | 1,some (.val v h1)=>Wj none (runT E L ops B r (i+1) (s.put o.dst v h1))
   | 2,some (.val v h1)=>if Uz E i ((nth B i).getD 0) ops B 0 then Wj (some (.wr s.h h1)) (runT E L ops B r (i+1) (s.put o.dst v h1))else none
   | 2,some (.skip h1)=>if Uz E i ((nth B i).getD 0) ops B 0 then Wj (some (.wr s.h h1)) (runT E L ops B r (i+1) (s.put o.dst Qt h1))else none
   | 3,some (.enter f args h1)=>match X6o L f args h1 with
    | some e=>if e.q || Uz E i ((nth B i).getD 0) ops B 0 then Wj (if e.q then none else some (.wr s.h e.h1)) (runT E L ops B r (i+1) (s.put o.dst e.v e.h1))else none
    | none=>none
   | _,_=>none
def Jsl:Option LRec->Option LRec->Prop
 | none,none=>True
 | some (.ld t o),some (.ld t' o')=>t=t'/\o=o'
 | some (.wr _ _),none=>True
 | some (.wr h0 h1),some (.wr g0 g1)=>Hq h0 g0/\Hq h1 g1
 | _,_=>False
def Joq:List (Option LRec)->List (Option LRec)->Prop
 | [],[]=>True
 | x::l,y::r=>Jsl x y/\Joq l r
 | _,_=>False
def Jp4{h h':Heap}(q:Hq h h')(t:Tm)(o:Oper):ldv E t o h'=ldv E t o h:=by
 unfold ldv;split
 ·split
  ·simp only[Qjm];split
   ·exact Xdu (q.get _) _
   ·rfl
  ·rfl
 ·split
  ·rename_i a b _ _;unfold Qjo;have : Q51 a h'=Q51 a h:=by
    unfold Q51;simp only[q.get]
   simp only[this]
  ·rfl
 ·rfl
def Z9x{i bi:Nat}{h0 h1 g0 g1:Heap}(q0:Hq h0 g0)(q1:Hq h1 g1)(R:List (Option LRec)):∀ (Ry:List (Option LRec)) (Bs:List Nat) (k:Nat),Joq R Ry->Y1 E i bi h0 h1 R Bs k=true->Y1 E i bi g0 g1 Ry Bs k=true:=by
 induction R with
 | nil =>
  intro Ry Bs k hr _;cases Ry with
  | nil=>rfl
  | cons y Ry=>exact hr.elim
 | cons x R ih =>
  intro Ry Bs k hr h;cases Ry with
  | nil=>exact hr.elim
  | cons y Ry =>
   obtain⟨hx,hr⟩:=hr;cases Bs with
   | nil=>cases y with
    | none=>rfl
    | some y=>cases y <;> rfl
   | cons b Bs =>
    cases x with
    | none =>
     cases y with
     | none=>exact ih Ry Bs (k+1) hr h
     | some y=>exact hx.elim
    | some x =>
     cases x with
     | ld t o =>
      cases y with
      | none=>exact hx.elim
      | some y =>
       cases y with
       | ld t' o' =>
        obtain⟨rfl,rfl⟩:=hx;simp only[Y1,ao]at h ⊢;rw[Jp4 q0,Jp4 q1];exact⟨h.1,ih Ry Bs (k+1) hr h.2⟩
       | wr _ _=>exact hx.elim
     | wr a c =>
      cases y with
      | none=>exact ih Ry Bs (k+1) hr h
      | some y =>
       cases y with
       | ld _ _=>exact hx.elim
       | wr _ _=>exact ih Ry Bs (k+1) hr h
def Jc3{R0 Ry0:List (Option LRec)}{B0:List Nat}(hr0:Joq R0 Ry0)(R:List (Option LRec)):∀ (Ry:List (Option LRec)) (Bs:List Nat) (i:Nat),Joq R Ry->Yk E R0 B0 R Bs i=true->Yk E Ry0 B0 Ry Bs i=true:=by
 induction R with
 | nil =>
  intro Ry Bs k hr _;cases Ry with
  | nil=>rfl
  | cons y Ry=>exact hr.elim
 | cons x R ih =>
  intro Ry Bs k hr h;cases Ry with
  | nil=>exact hr.elim
  | cons y Ry =>
   obtain⟨hx,hr⟩:=hr;cases Bs with
   | nil=>cases y with
    | none=>rfl
    | some y=>cases y <;> rfl
   | cons b Bs =>
    cases x with
    | none =>
     cases y with
     | none=>exact ih Ry Bs (k+1) hr h
     | some y=>exact hx.elim
    | some x =>
     cases x with
     | ld t o =>
      cases y with
      | none=>exact hx.elim
      | some y =>
       cases y with
       | ld t' o'=>exact ih Ry Bs (k+1) hr h
       | wr _ _=>exact hx.elim
     | wr a c =>
      simp only[Yk,ao]at h;cases y with
      | none=>exact ih Ry Bs (k+1) hr h.2
      | some y =>
       cases y with
       | ld _ _=>exact hx.elim
       | wr g0 g1 =>
        simp only[Yk,ao];exact⟨Z9x hx.1 hx.2 _ _ _ _ hr0 h.1,ih Ry Bs (k+1) hr h.2⟩
def Xcv{x:Option LRec}{y:Option (St × List (Option LRec))}{s1:St}{R:List (Option LRec)}(h:Wj x y=some (s1,R)):∃ R',y=some (s1,R')/\R=x::R':=by
 cases y with
 | none=>cases h
 | some y=>cases h;exact⟨_,rfl,rfl⟩
def Jt4{o:Oper}(hk:Vi E o=0){t:Tm}{h h':Heap}(q:Hq h h'){v:Value}{h1:Heap}(hr:aop E t h o=some (.val v h1)):h1=h/\aop E t h' o=some (.val v h'):=by
 rcases Jp6 hk with hf | hf
 ·obtain⟨u,e,h2, -, -⟩:=Zjh (E:=E) (o:=o) (by unfold Xbr;rw[hf];rfl) (h':=h') q.get hr;cases e;exact⟨rfl,h2⟩
 ·unfold Yl at hf;split at hf
  ·rename_i ty a hop;obtain⟨u,e,h2, -, -⟩:=Zjh (E:=E) (o:=o) (by unfold Xbr;simp[hop]) (h':=h') q.get hr;cases e;exact⟨rfl,h2⟩
  ·rename_i ty x k ok hop;simp only[aop,hop]at hr ⊢;cases hx:aev E.G t x with
   | none=>simp[hx]at hr
   | some y =>
    cases hy:aev E.G t k with
    | none=>simp[hx,hy]at hr
    | some z =>
     simp only[hx,hy]at hr ⊢;obtain⟨u,e,e2⟩:=Jfa hr;cases e2;have : Qjo E.toEnv ty y z ok h'=Qjo E.toEnv ty y z ok h:=by
      unfold Qjo;have : Q51 y h'=Q51 y h:=by
       unfold Q51;simp only[q.get]
      simp only[this]
     rw[this,e];exact⟨rfl,rfl⟩
  ·cases hf
def Jng{L:List KE}{ops:List Oper}{B:List Nat}:∀ (l:List Oper) (i:Nat) (s s1 sx:St) (R:List (Option LRec)),runT E L ops B l i s=some (s1,R)->LowEq s sx->∃ sy Ry,Zt0 E (kC L) ops B l i sx=some (sy,Ry)/\LowEq s1 sy/\Joq R Ry
 | [],i,s,s1,sx,R,h,k=>by
  simp only[runT,ar,bG]at h;obtain⟨rfl,rfl⟩:=h;exact⟨sx,[],rfl,k,trivial⟩
 | o::r,i,s,s1,sx,R,h,k=>by
  have hdst:Qoy sx o.dst=Qoy s o.dst:=by cases o.dst <;> simp[Qoy,k.t]
  have hput:∀ (v:Value) (h h':Heap),Hq h h'->LowEq (s.put o.dst v h) (sx.put o.dst v h'):=fun v h h' q=>by
   cases o.dst with
   | none=>exact⟨k.t,k.ds,q.next,q.t⟩
   | some d=>exact⟨by simp[St.put,k.t],k.ds,q.next,q.t⟩
  have hw:Qg ops sx.t o=Qg ops s.t o:=by rw[k.t]
  have kq:Hq s.h sx.h:=⟨k.next,k.tr⟩;have kr:Hq s.h (Qdh sx.h):=⟨k.next,k.tr⟩;simp only[runT]at h;split at h
  ·cases h
  ·rename_i hd;have hd':(Qoy sx o.dst && Ys o)=true:=by rw[hdst];simpa using hd
   split at h
   ·cases h
   ·rename_i hwf;obtain⟨R',h',rfl⟩:=Xcv h;obtain⟨sy,Ry,e1,e2,e3⟩:=Jng r (i+1) _ _ (sx.put o.dst Qt sx.h) _ h' (hput Qt _ _ kq);exact⟨sy,none::Ry,by simp only[Zt0,hd',bV,av,if_false,hw,hwf,e1,Wj],e2,trivial,e3⟩
   ·rename_i hwt;have go:∀ (v:Value) (h1 h1':Heap) (x:Option LRec),Qx4 E (kC L) o sx.t (Qdh sx.h)=some (v,h1')->Hq h1 h1'->Xlo E ops B i o sx h1'=true->Jsl x (Ypu E sx o h1')->∀ R',runT E L ops B r (i+1) (s.put o.dst v h1)=some (s1,R') ->
      ∃ sy Ry,Zt0 E (kC L) ops B (o::r) i sx=some (sy,Ry)/\LowEq s1 sy/\Joq (x::R') Ry:=by
     intro v h1 h1' x f1 f2 f3 f4 R' h';obtain⟨sy,Ry,e1,e2,e3⟩:=Jng r (i+1) _ _ (sx.put o.dst v (X78 sx.h h1')) _ h' (hput v _ _ ⟨f2.next,f2.t⟩);exact⟨sy,Ypu E sx o h1'::Ry,by simp only[Zt0,hd',bV,av,if_false,hw,hwt,f1,f3,if_true,e1,Wj],e2,f4,e3⟩
    split at h
    ·
     rename_i v h1 hk ha;split at h
     ·rename_i hl;obtain⟨R',h',rfl⟩:=Xcv h;obtain⟨rfl,a2⟩:=Jt4 hk kr ha;refine go v s.h (Qdh sx.h) _ (by rw[k.t];simp only[Qx4,a2]) kr ?_ ?_ R' h'
      ·unfold Xlo;rw[ao];exact⟨by simp[Qdh],by rw[k.t];exact hl⟩
      ·unfold Ypu;split
       ·exact⟨k.t.symm,rfl⟩
       ·rename_i hlo;rcases Jp6 hk with hf | hf
        ·rw[if_pos hf];trivial
        ·exact absurd hf hlo
     ·cases h
    ·
     rename_i v h1 hk ha;obtain⟨R',h',rfl⟩:=Xcv h;obtain⟨v2,g1,g1',b1,b2,b3,b4, -⟩:=Jt3 hk kr ha;cases b1;have hnf:Yq E o=false/\Yl o=false:=by
      unfold Vi at hk;split at hk
      ·cases hk
      ·rename_i hq;simpa using hq
     have Ja6:Nat.ble sx.h.next g1'.low=true:=(by rw[b4];simp[Qdh]);refine go v h1 g1' none (by rw[k.t];simp only[Qx4,b2]) b3 ?_ ?_ R' h'
     ·unfold Xlo;rw[ao];exact⟨by simp[Ja6],by simp[hnf.2]⟩
     ·unfold Ypu;simp[hnf.1,hnf.2,Ja6,Jsl]
    ·
     rename_i v h1 hk ha;split at h
     ·rename_i hfull;obtain⟨R',h',rfl⟩:=Xcv h;have hnf:Yq E o=false/\Yl o=false:=by
       unfold Vi at hk;split at hk
       ·cases hk
       ·rename_i hq;simpa using hq
      rcases Jqn hk kr ha with⟨v2,g1,g1',b1,b2,b3⟩ | ⟨g1,g1',b1, -, -⟩
      ·cases b1;refine go v h1 g1' _ (by rw[k.t];simp only[Qx4,b2]) b3 ?_ ?_ R' h'
       ·unfold Xlo;rw[ao];exact⟨by simp[hfull],by simp[hnf.2]⟩
       ·unfold Ypu;simp only[hnf.1,hnf.2,av,if_false];split
        ·trivial
        ·exact⟨kq,b3⟩
      ·cases b1
     ·cases h
    ·rename_i h1 hk ha;split at h
     ·rename_i hfull;obtain⟨R',h',rfl⟩:=Xcv h;have hnf:Yq E o=false/\Yl o=false:=by
       unfold Vi at hk;split at hk
       ·cases hk
       ·rename_i hq;simpa using hq
      rcases Jqn hk kr ha with⟨v2,g1,g1',b1, -, -⟩ | ⟨g1,g1',b1,b2,b3⟩
      ·cases b1
      ·cases b1;refine go Qt h1 g1' _ (by rw[k.t];simp only[Qx4,b2]) b3 ?_ ?_ R' h'
       ·unfold Xlo;rw[ao];exact⟨by simp[hfull],by simp[hnf.2]⟩
       ·unfold Ypu;simp only[hnf.1,hnf.2,av,if_false];split
        ·trivial
        ·exact⟨kq,b3⟩
     ·cases h
    ·
     rename_i f args h1 hk ha;split at h
     ·rename_i e he;split at h
      ·rename_i hfull;obtain⟨R',h',rfl⟩:=Xcv h;have hnf:Yq E o=false/\Yl o=false:=by
        unfold Vi at hk;split at hk
        ·cases hk
        ·rename_i hq;simpa using hq
       obtain⟨rfl,b2⟩:=Jtv (h':=Qdh sx.h) hk ha;have he':X6o L f args (Qdh sx.h)=some e:=by rw[Jkw kr];exact he
       refine go e.v e.h1 (Ja6 e.h1 (if e.q then min (Qdh sx.h).low (Qdh sx.h).next else 0)) _ (by rw[k.t];simp only[Qx4,b2,kC,he']) ⟨rfl,rfl⟩ ?_ ?_ R' h'
       ·unfold Xlo;rw[ao];refine⟨?_,by simp[hnf.2]⟩;cases hq:e.q with
        | true=>simp[Qdh,Ja6]
        | false=>rw[hq]at hfull;simp at hfull;simp[hfull]
       ·unfold Ypu;simp only[hnf.1,hnf.2,av,if_false];cases hq:e.q with
        | true=>simp[Qdh,Ja6,Jsl]
        | false =>
         simp only[av,if_false];split
         ·trivial
         ·exact⟨kq,⟨rfl,rfl⟩⟩
      ·cases h
     ·cases h
    ·cases h
def Zsr{L:List KE}{ops:List Oper}{B:List Nat}{s s1:St}{R:List (Option LRec)}(hB:Q25 ops []=some B)(hp:Qa4 ops ops B []=true)(hx:runT E L ops B ops 0 s=some (s1,R))(hc:Yk E R B R B 0=true):∃ sy,Ybv E (kC L) ops s=some sy/\LowEq s1 sy:=by
 obtain⟨sy,Ry,h1,h2,h3⟩:=Jng ops 0 s s1 s R hx ⟨rfl,rfl,rfl,rfl⟩;exact⟨sy,by unfold Ybv;simp only[hB,hp,if_true,h1,Jc3 h3 _ _ _ _ h3 hc],h2⟩
def Jip(E:Env2 P){L:List KE}(hL:∀ e ∈ L,KEok P E.G e)(hm:P.follows .mixedOrders=true){rd:Option Nat}{id:Nat}{ops:Array Oper}{B:List Nat}{K:Exit->St->Prop}{s s1:St}{R:List (Option LRec)}(hB:Q25 ops.toList []=some B)(hp:Qa4 ops.toList ops.toList B []=true)
  (hx:runT E L ops.toList B ops.toList 0 s=some (s1,R)) (hc:Yk E R B R B 0=true) (hk:K .normal s1):CW P E.G rd s.h.next (.region id ops true) s K:=by
 obtain⟨sy,hd,h2⟩:=Zsr hB hp hx hc;refine fun Z a w S hl=>wpIn_mono (X83 E (Jt6 hL) (Jko hL) hm hd (Q:=fun e s'=>e=.normal/\s'=sy) ⟨rfl,rfl⟩ Z a w S hl) ?_;rintro e' a' w' ⟨Z',e,s',⟨rfl,rfl⟩,h4,h5,h6,h7,h8⟩;have k2:LowEq s' s1:=⟨h2.t.symm,h2.ds.symm,h2.next.symm,h2.tr.symm⟩;refine⟨Z',.normal,s1,hk,h4,h5,h6,?_,h8.low k2⟩;have hown:∀ b,s1.h.own b=s'.h.own b:=fun b=>Qpw (k2.get b);exact⟨h7.size,h7.same,fun b p hb ho=>h7.owns b p hb (by rw[<- hown];exact ho),h7.tape,h7.os,h7.output,h7.drawn,by rw[k2.next];exact h7.next⟩
def Jc9{L:List KE}(hL:∀ e ∈ L,KEok P G e){ops:List Oper}{B:List Nat}{s s1:St}{R:List (Option LRec)}(hB:Q25 ops []=some B)(hp:Qa4 ops ops B []=true)(hx:runT E L ops B ops 0 s=some (s1,R))(hc:Yk E R B R B 0=true):s.h.next<=s1.h.next:=by
 obtain⟨sy,hd,h2⟩:=Zsr hB hp hx hc;have:=(Zw4 (Jko hL) hd).next;rw[h2.next]at this;exact this
def Zk4:Option LRec->Option LRec
 | some (.ld t o)=>some (.ld t (bare o))
 | x=>x
def Yr8{j bj:Nat}:∀ (l:List Oper) (B:List Nat) (i:Nat),Uz E j bj (l.map bare) B i=Uz E j bj l B i
 | [],_,_=>rfl
 | o::r,[],_=>rfl
 | o::r,b::B,i=>by
  simp only[aE,Uz,Yr8 r B];rfl
def Q2w{x:Option LRec}{y:Option (St × List (Option LRec))}:(Wj x y).map (fun p=>(p.1,p.2.map Zk4))=Wj (Zk4 x) (y.map fun p=>(p.1,p.2.map Zk4)):=by
 cases y <;> rfl
def Zy7{L:List KE}{ops:List Oper}{B:List Nat}:∀ (l:List Oper) (i:Nat) (s:St),runT E L (ops.map bare) B (l.map bare) i s=(runT E L ops B l i s).map (fun p=>(p.1,p.2.map Zk4))
 | [],i,s=>rfl
 | o::r,i,s=>by
  have e1:Vi E (bare o)=Vi E o:=rfl;have e2:aop E s.t s.h (bare o)=aop E s.t s.h o:=rfl;have e3:Yl (bare o)=Yl o:=rfl;have e4:loadAt E s.t (bare o)=loadAt E s.t o:=rfl;have e5:(bare o).dst=o.dst:=rfl;have e6:Ys (bare o)=Ys o:=rfl;simp only[aE,runT,Xrq,Yr8,Zy7 r,e1,e2,e3,e4,e5,e6];split
  ·rfl
  ·split
   ·rfl
   ·rw[Q2w];rfl
   ·split <;> first
     | rfl
     | (split <;> first
       | rfl
       | (rw[Q2w];done)
       | (rw[Q2w];rfl)
       | (rw[Q2w];congr 1;split <;> rfl)
       | (split <;> first
         | rfl
         | (rw[Q2w];done)
         | (rw[Q2w];rfl)
         | (rw[Q2w];congr 1;split <;> rfl)))
     | (rw[Q2w];done)
     | (rw[Q2w];rfl)
def Yfh{i bi:Nat}{h0 h1:Heap}:∀ (R:List (Option LRec)) (Bs:List Nat) (k:Nat),Y1 E i bi h0 h1 (R.map Zk4) Bs k=Y1 E i bi h0 h1 R Bs k
 | [],_,_=>rfl
 | x::R,[],_=>by cases x with
  | none=>rfl
  | some x=>cases x <;> rfl
 | x::R,b::Bs,k=>by
  have:=Yfh R Bs (k+1) (i:=i) (bi:=bi) (h0:=h0) (h1:=h1);cases x with
  | none=>exact this
  | some x=>cases x with
   | ld t o=>simp only[aE,Zk4,Y1,this];rfl
   | wr a c=>exact this
def Yrh{R0:List (Option LRec)}{B0:List Nat}:∀ (R:List (Option LRec)) (Bs:List Nat) (i:Nat),Yk E (R0.map Zk4) B0 (R.map Zk4) Bs i=Yk E R0 B0 R Bs i
 | [],_,_=>rfl
 | x::R,[],_=>by cases x with
  | none=>rfl
  | some x=>cases x <;> rfl
 | x::R,b::Bs,i=>by
  have:=Yrh (R0:=R0) (B0:=B0) R Bs (i+1);cases x with
  | none=>exact this
  | some x=>cases x with
   | ld t o=>exact this
   | wr a c=>simp only[aE,Zk4,Yk,this,Yfh]
end
section
variable{P:Program}{E:Env2 P}{C:CallF}{ops ops':Array Oper}{B:List Nat}{σ:Nat->St}
variable{Z0 Z:Ren}{w0 w:World}{listed:Array Bool}{a:Act}{T:Tm}{p:Nat}
def Zgw(hsz:ops'.size=ops.size)(haf:∀ i:Nat,(ops'[i]?).map (·.after)=(ops[i]?).map (·.after)):Region.ready .any ops' listed=Region.ready .any ops listed:=by
 unfold Region.ready;rw[hsz];congr 1;funext j;have:=haf j;cases h1:ops'[j]? with
 | none =>
  cases h2:ops[j]? with
  | none=>rfl
  | some o2=>rw[h1,h2]at this;cases this
 | some o1 =>
  cases h2:ops[j]? with
  | none=>rw[h1,h2]at this;cases this
  | some o2 =>
   rw[h1,h2]at this;simp only[ax,ar]at this;simp only[ax,this]
def Jl3{Q:Exit->Act->World->Prop}{β:Ren}{p0:Nat}(hsz:ops'.size=ops.size)(haf:∀ i:Nat,(ops'[i]?).map (·.after)=(ops[i]?).map (·.after))(hds:∀ i:Nat,(ops'[i]?).map (·.dst)=(ops[i]?).map (·.dst))
  (c:Canon E C ops' B σ) (hC:CallsSound P E.G C) (hL:CallsLow C) (hwf:∀ i,i<=ops'.size->∃ Z' w' tmps',HRel E.G Z' (σ i).h w'/\TRel Z' (σ i).t tmps') (hp0:p0 < ops'.size)
  (hsame:∀ (i b:Nat),B[i]? = some b->i≠p0->b.testBit p0=false->ops'[i]? = ops[i]?)
  (hdie:∀ (listed:Array Bool) (Z:Ren) (a:Act) (w:World) (T:Tm) (p:Nat),Inv E ops' B σ Z0 w0 listed Z a w T p->¬ Did listed p0->(∀ o,ops'[p0]? = some o->∀ e ∈ o.after.toList,Region.binds .any e=true->Did listed e.on)->∀ K,wpOpIn (Qvk none β) 0 P ops Q p0 K a w) :
  ∀ (fuel:Nat) (listed:Array Bool) (Z:Ren) (a:Act) (w:World) (T:Tm) (p:Nat),listed.size=ops'.size->listed.toList.count false<=fuel->Inv E ops' B σ Z0 w0 listed Z a w T p->¬ Did listed p0->wpAnyIn (Qvk none β) 0 P .any ops Q fuel listed a w:=by
 have hy:∀ (tmps:Array Value),yielded ops tmps=yielded ops' tmps:=by
  intro tmps;funext j;have:=hds j;unfold yielded;cases h1:ops'[j]? with
  | none =>
   cases h2:ops[j]? with
   | none=>rfl
   | some o2=>rw[h1,h2]at this;cases this
  | some o1 =>
   cases h2:ops[j]? with
   | none=>rw[h1,h2]at this;cases this
   | some o2 =>
    rw[h1,h2]at this;simp only[ax,ar]at this;simp only[dc];rw[this]
 intro fuel;induction fuel with
 | zero =>
  intro listed Z a w T p hl hc I hn;exfalso;have hil:p0 < listed.toList.length:=by simpa[hl]using hp0
  have hz:listed.toList.count false=0:=by omega
  rw[List.count_eq_zero]at hz;refine hz ?_;have : listed.toList[p0]=false:=by
   simp only[Did,Array.getD_eq_getD_getElem?]at hn;rw[Array.getElem?_eq_getElem (by omega)]at hn;simpa using hn
  rw[<- this];exact cP hil
 | succ fuel ih =>
  intro listed Z a w T p hl hc I hn;refine⟨fun hnil=>absurd (Y00 c hl (by rw[Zgw hsz haf];exact hnil) p0 hp0) hn,fun i hi => ?_⟩;rw[<- Zgw hsz haf]at hi;obtain⟨o,ho,hni,hr⟩:=Y44 hl hi;by_cases hip:i=p0
  ·subst hip;exact hdie listed Z a w T p I hn (fun o' ho'=>by rw[ho]at ho';cases ho';exact hr) _
  ·obtain⟨bi,hbi⟩:=Zi8 c (Q0g ho);have hbt:bi.testBit p0=false:=by
    cases hb:bi.testBit p0 with
    | false=>rfl
    | true=>exact absurd (X2i c I.down ho hr hbi hb) hn
   have he:=hsame i bi hbi hip hbt;have hop:∀ K,wpOpIn (Qvk none β) 0 P ops' Q i K a w->wpOpIn (Qvk none β) 0 P ops Q i K a w:=by
    intro K h;unfold wpOpIn at h ⊢;rw[<- he,hy];exact h
   refine hop _ (Z57 c hC hL hwf I ho hni hr hl fun Z' a' w' T' p' I'=>ih _ Z' a' w' T' p' (by simpa using hl) ?_ I' ?_)
   ·have hil:i < listed.toList.length:=(by have:=Q0g ho;simpa[hl]using this);have : listed.toList[i]=false:=by
     simp only[Did,Array.getD_eq_getD_getElem?]at hni;rw[Array.getElem?_eq_getElem (by simpa using hil)]at hni;simpa using hni
    rw[Array.toList_setIfInBounds,List.count_set hil,this];have hpos:0 < listed.toList.count false:=by
     rw[List.count_pos_iff,<- this];exact cP hil
    rw[if_pos (by rfl),if_neg (by decide)];omega
   ·rw[Z4b (by have:=Q0g ho;omega)];rintro(h | h)
    ·exact hip h.symm
    ·exact hn h
def Z8v(p0:Nat)(f:FuncId)(args:Array Operand)(i b:Nat)(o:Oper):Oper :=
 if i=p0 then {o with op:=.makeFunc (.func f) args #[]} else if b.testBit p0 then {o with op:=.assign (.const (.bool false))} else o
def X8o(p0:Nat)(f:FuncId)(args:Array Operand):List Oper->List Nat->Nat->List Oper
 | o::l,b::B,i=>Z8v p0 f args i b o::X8o p0 f args l B (i+1)
 | _,_,_=>[]
def Ypr(d0 p0:Nat):List Oper->Nat->Bool
 | [],_=>true
 | o::l,i=>(i == p0 || (match o.dst with | some d=>d != d0 | none=>true)) && Ypr d0 p0 l (i+1)
variable{p0 d0:Nat}{f:FuncId}{args:Array Operand}
def Yok(i b:Nat)(o:Oper):(Z8v p0 f args i b o).after=o.after/\(Z8v p0 f args i b o).dst=o.dst/\(Z8v p0 f args i b o).guard=o.guard:=by
 unfold Z8v;split
 ·exact⟨rfl,rfl,rfl⟩
 ·split <;> exact⟨rfl,rfl,rfl⟩
def Jds(i b:Nat)(o:Oper):Z8v p0 f args i b (bare o)=bare (Z8v p0 f args i b o):=by
 unfold Z8v;split
 ·rfl
 ·split <;> rfl
def Zr5:∀ (l:List Oper) (B:List Nat) (i:Nat),X8o p0 f args (l.map bare) B i=(X8o p0 f args l B i).map bare
 | [],_,_=>by simp[X8o]
 | o::l,[],_=>by simp[X8o]
 | o::l,b::B,i=>by simp only[aE,X8o,Zr5 l,Jds]
def Z4v:∀ (l:List Oper) (B:List Nat) (i:Nat),B.length=l.length->(X8o p0 f args l B i).length=l.length/\∀ k:Nat,(X8o p0 f args l B i)[k]? = match l[k]?,B[k]? with | some o,some b=>some (Z8v p0 f args (i+k) b o) | _,_=>none
 | [],[],_,_=>⟨rfl,fun k=>by simp[X8o]⟩
 | [],b::B,_,h=>by simp at h
 | o::l,[],_,h=>by simp at h
 | o::l,b::B,i,h=>by
  obtain⟨h1,h2⟩:=Z4v l B (i+1) (by simpa using h);refine⟨by simp[X8o,h1],fun k => ?_⟩;cases k with
  | zero=>simp[X8o]
  | succ k =>
   have:=h2 k;simp only[X8o,List.getElem?_cons_succ];rw[this,show i+1+k=i+(k+1) by omega]
def Z5p:∀ (l:List Oper) (B0 B:List Nat),Q25 l B0=some B->B.length=B0.length+l.length
 | [],B0,B,h=>by simp only[Q25,ar]at h;simp[h]
 | o::l,B0,B,h=>by
  simp only[Q25]at h;split at h
  ·have:=Z5p l _ _ h;simp only[ae,aS,cd]at this ⊢;omega
  ·cases h
def Z63:∀ (l:List Oper) (Bs:List Nat) (i:Nat) (B0:List Nat),Bs.length=l.length->Q25 (X8o p0 f args l Bs i) B0=Q25 l B0
 | [],[],_,_,_=>rfl
 | [],b::B,_,_,h=>by simp at h
 | o::l,[],_,_,h=>by simp at h
 | o::l,b::B,i,B0,h=>by
  simp only[X8o,Q25,(Yok i b o).1];split
  ·exact Z63 l B _ _ (by simpa using h)
  ·rfl
def Y1x:∀ (l:List Oper) (i:Nat),Ypr d0 p0 l i=true->∀ (k:Nat) (o:Oper),l[k]? = some o->i+k≠p0->o.dst≠some d0
 | [],_,_,k,o,h,_=>by simp at h
 | x::l,i,hd,k,o,h,hne=>by
  simp only[Ypr,ao,bM,beq_iff_eq]at hd;cases k with
  | zero =>
   simp only[List.getElem?_cons_zero,ar]at h;subst h;intro e;rcases hd.1 with h1 | h1
   ·exact hne (by omega)
   ·rw[e]at h1;simp at h1
  | succ k=>exact Y1x l (i+1) hd.2 k o (by simpa using h) (by omega)
def Z4c{l l':List Oper}{t:Tm}{o o':Oper}(hg:o'.guard=o.guard)(hd:∀ i:Nat,(nth l' i).map (·.dst)=(nth l i).map (·.dst)):Qg l' t o'=Qg l t o:=by
 unfold Qg;rw[hg];cases o.guard with
 | none=>rfl
 | some g =>
  obtain⟨j,want⟩:=g;have:=hd j;show(match nth l' j with | none=>_ | some oj=>_)=(match nth l j with | none=>_ | some oj=>_);cases h1:nth l' j with
  | none =>
   cases h2:nth l j with
   | none=>rfl
   | some o2=>rw[h1,h2]at this;cases this
  | some o1 =>
   cases h2:nth l j with
   | none=>rw[h1,h2]at this;cases this
   | some o2 =>
    rw[h1,h2]at this;simp only[ax,ar]at this;simp only[this]
def Zme(c:Canon E C ops' B σ){i:Nat}{o:Oper}(ho:ops'[i]? = some o)(hr:Xbr E o=true):Zmo E ops' σ i:=by
 refine⟨o,ho,?_⟩;by_cases hf:Yq E o=true
 ·exact .inl hf
 ·simp only[Xbr,bM]at hr;have hl:Yl o=true:=by
   rcases hr with h | h
   ·exact absurd h hf
   ·unfold Yl;split at h
    ·rename_i hop;rw[hop]
    ·cases h
  obtain⟨_,_,h⟩:=c.step i o ho;rcases h with⟨h,_⟩ | ⟨_,v,h1,hv,_,hs⟩
  ·exact .inr (.inl h)
  ·simp only[Xlo,ao]at hs;exact .inr (.inr (Ykq hl hs.2))
def Y4s:∀ (l:List Oper),Xy2 E l=true->∀ (k:Nat) (o:Oper),l[k]? = some o->Xbr E o=true
 | [],_,k,o,h=>by simp at h
 | x::l,hr,k,o,h=>by
  simp only[Xy2,ao]at hr;cases k with
  | zero=>simp only[List.getElem?_cons_zero,ar]at h;subst h;exact hr.1
  | succ k=>exact Y4s l hr.2 k o (by simpa using h)
def Zyf{ops:Array Oper}{B:List Nat}{s s1:St}(hB:Q25 ops.toList []=some B)(h:Ybv E C ops.toList s=some s1):∃ σ,Canon E C ops B σ/\σ 0=s/\σ ops.size=s1:=by
 unfold Ybv at h;simp only[hB]at h;split at h
 ·rename_i hp;split at h
  ·rename_i s2 R hR;split at h
   ·rename_i hx;cases h;obtain⟨σ,e1,e2,e3,e4⟩:=Yck _ _ _ _ _ hR;have hbef:BefOk ops.toList B:=by
     have:=Yzr ops.toList [] [] B hB ⟨rfl,fun j o h=>by simp at h,fun j o b h=>by simp at h⟩;simpa using this
    refine⟨σ,⟨hbef,fun j i oj oi b hj hi hb hij => ?_,fun i o ho => ?_,R,hx,fun k o ho => ?_⟩,e1,by simpa using e2⟩
    ·have:=Xxn hp j oj b (by simpa using hj) hb i oi (by simpa using hij) (by simpa using hi);exact this
    ·have:=e3 i o (by simpa using ho);simpa using this
    ·have:=e4 k o (by simpa using ho);simpa using this
   ·cases h
  ·cases h
 ·cases h
def Jqm(E:Env2 P){D0:CallF}(hD:CallsSound P E.G D0)(hL:CallsLow D0)(hm:P.follows .mixedOrders=true){id:Nat}{ops:Array Oper}{B:List Nat}{s s1:St}{K:Exit->St->Prop}{o:Oper}{c:Call}{l:List Value}{ch:List PanicEntry}{h':Heap}
  (hB:Q25 ops.toList []=some B) (hp:Qa4 (X8o p0 f args ops.toList B 0) (X8o p0 f args ops.toList B 0) B []=true) (ho:ops.toList[p0]? = some o) (hop:o.op=.call c) (hc1:c.callee=.value (.func f)) (hc2:c.args=args) (hod:o.dst=some d0) (hdo:Ypr d0 p0 ops.toList 0=true)
  (hr:Xy2 E (X8o p0 f args ops.toList B 0)=true) (hx:Yxv E D0 none (X8o p0 f args ops.toList B 0) (X8o p0 f args ops.toList B 0) s=some (.normal,s1)) (hv:s1.t.t.get d0=some (.func (.func f) ⟨l⟩ #[])) (hfn:(E.fn.get f).isSome=true)
  (hcall:CallOK P E.G f l s.h (fun r h1=>r=.panic ch/\h1=h')) (hk:∀ T:Tm,T.size=s.t.size->K (.panic ch) ⟨T,s.ds,h'⟩):CW P E.G none s.h.next (.region id ops true) s K:=by
 have hBl:B.length=ops.toList.length:=by simpa using Z5p _ _ _ hB
 obtain⟨hlen,hget⟩:=Z4v (p0:=p0) (f:=f) (args:=args) ops.toList B 0 hBl;obtain⟨ops',hops'⟩:∃ ops':Array Oper,ops'.toList=X8o p0 f args ops.toList B 0:=⟨(X8o p0 f args ops.toList B 0).toArray,rfl⟩;rw[<- hops']at hp hr hx hlen;have hB':Q25 ops'.toList []=some B:=by rw[hops',Z63 _ _ _ _ hBl,hB]
 have hgA:∀ k:Nat,ops'[k]? = match ops[k]?,B[k]? with | some o,some b=>some (Z8v p0 f args k b o) | _,_=>none:=by
  intro k;have:=hget k;rw[<- hops']at this;simpa using this
 have hsz:ops'.size=ops.size:=by simpa using hlen
 have hBk:∀ (k:Nat),k < ops.size->∃ b,B[k]? = some b:=fun k hk=>⟨B[k]'(by rw[hBl];simpa using hk),List.getElem?_eq_getElem _⟩;have hmap:∀ {A:Type} (g:Oper->A),(∀ k b o,g (Z8v p0 f args k b o)=g o)->∀ i:Nat,(ops'[i]?).map g=(ops[i]?).map g:=by
  intro A g hg i;rw[hgA i];cases h1:ops[i]? with
  | none=>simp
  | some o1 =>
   obtain⟨b,hb⟩:=hBk i (Q0g h1);simp[hb,hg]
 have haf:=hmap (·.after) fun k b o=>(Yok k b o).1;have hds:=hmap (·.dst) fun k b o=>(Yok k b o).2.1;obtain⟨sy,R,h1,h2,h3⟩:=Yya (B:=B) ops'.toList 0 s s1 s hr hx ⟨rfl,rfl,rfl,rfl⟩;have hd:Ybv E D0 ops'.toList s=some sy:=by
  unfold Ybv;simp only[hB',hp,if_true,h1,Yp7 h3]
 obtain⟨σ,cn,e0,e1⟩:=Zyf hB' hd;have hfree:∀ j,j < ops'.size->Zmo E ops' σ j:=fun j hj=>Zme cn (by simp[hj]) (Y4s _ hr j ops'[j] (by simp[hj]));have hpos:p0 < ops.size:=Q0g (by simpa using ho);obtain⟨b0,hb0⟩:=hBk p0 hpos;have ho2:ops[p0]? = some o:=by simpa using ho
 have ho':ops'[p0]? = some {o with op:=.makeFunc (.func f) args #[]}:=by
  rw[hgA p0,ho2];simp[hb0,Z8v]
 have hp0':p0 < ops'.size:=by omega
 have keep:∀ k,p0+1+k<=ops'.size->(σ (p0+1+k)).t.t.get d0=(σ (p0+1)).t.t.get d0:=by
  intro k;induction k with
  | zero=>intro _;rfl
  | succ k ih =>
   intro hk';have hlt:p0+1+k < ops'.size:=by omega
   have hne:(ops'[p0+1+k]'hlt).dst≠some d0:=by
    have h9:=hds (p0+1+k);have hlt2:p0+1+k < ops.size:=(by omega);rw[Array.getElem?_eq_getElem hlt,Array.getElem?_eq_getElem hlt2]at h9;simp only[ax,ar]at h9;rw[h9];exact Y1x _ 0 hdo (p0+1+k) _ (by simp[hlt2]) (by omega)
   obtain⟨_,_,h⟩:=cn.step (p0+1+k) (ops'[p0+1+k]'hlt) (by simp[hlt]);rw[show p0+1+(k+1)=p0+1+k+1 by omega];rcases h with⟨_,h⟩ | ⟨_,v',h',_,h,_⟩ <;> (rw[h,Z2j _ _ _ _ _ hne];exact ih (by omega))
 have hvp:(σ (p0+1)).t.t.get d0=some (.func (.func f) ⟨l⟩ #[]):=by
  have:=keep (ops'.size-(p0+1)) (by omega);rw[show p0+1+(ops'.size-(p0+1))=ops'.size by omega,e1]at this;rw[<- this,show sy.t=s1.t from h2.t];exact hv
 obtain⟨hdst,_,hst⟩:=cn.step p0 _ ho';have hst':Qg ops'.toList (σ p0).t {o with op:=.makeFunc (.func f) args #[]}=some true/\evs E.G (σ p0).t args.toList=some l:=by
  rcases hst with⟨_,h⟩ | ⟨hw,v',h9,hv',h,_⟩
  ·rw[h]at hvp;simp only[hod]at hvp;rw[Xzn]at hvp;simp[Qt]at hvp
  ·refine⟨hw,?_⟩;rw[h]at hvp;simp only[hod]at hvp;rw[Xzn]at hvp;simp only[ar]at hvp;subst hvp;simp only[Qx4,aop]at hv';cases he:evs E.G (σ p0).t args.toList with
   | none=>simp[he]at hv'
   | some x =>
    simp only[he,evs,g0,X93]at hv';simp at hv';rw[<- hv'.1]
 intro Z a w S _;refine wpIn_region_any hm ?_;have H':HRel E.G Z s.h {w with drawn:=w.drawn+1}:=S.h.same rfl;have S':SRel E.G Z s a {w with drawn:=w.drawn+1}:=⟨H',S.t,S.ds,S.okd⟩;subst e0;refine Jl3 (B:=B) (σ:=σ) (ops':=ops') (E:=E) (C:=D0) (Z0:=Z) (w0:={w with drawn:=w.drawn+1}) (p0:=p0) hsz haf hds cn hD hL (cn.wf hD H' S.t) hp0' ?_ ?_ _ _ _ _ _ _ 0 (by simp[hsz]) (by simp[hsz]) (by rw[<- hsz];exact Ztt cn rfl S') ?_
 ·intro i b hb hne hbt;rw[hgA i];cases h7:ops[i]? with
  | none=>simp
  | some oi=>simp[hb,Z8v,hne,hbt]
 ·intro listed Z1 a1 w1 T p I hn hafter K0;have hp:p=0:=by
   rcases I.last with h | ⟨j,h3,h4,_⟩
   ·exact h
   ·exact absurd (hfree j (I.small j h3)) h4
  subst hp;have hlook:=I.looks cn ho' hn (fun e he hbd=>hafter _ ho' e he hbd);obtain⟨hl1,hl2⟩:=Zqk (ops:=ops'.toList) (o:={o with op:=.makeFunc (.func f) args #[]}) (G:=E.G) hlook;have hw:Qg ops.toList T o=some true:=by
   rw[<- Z4c (l:=ops.toList) (l':=ops'.toList) (o:=o) (o':={o with op:=.makeFunc (.func f) args #[]}) rfl ?_]
   ·exact hl2.trans hst'.1
   ·intro i;have:=hds i;simpa[Xv5]using this
  have hev:evs E.G T args.toList=some l:=by
   rw[X1s (t':=(σ p0).t) fun x hx=>hl1 x (by simpa[Op.operands]using hx)];exact hst'.2
  unfold wpOpIn;rw[ho2];simp only;rw[if_pos (Q3h (G:=E.G) I.t hw)];have S1:SRel E.G Z1 ⟨T,(σ 0).ds,(σ 0).h⟩ a1 w1:=⟨I.h,I.t,I.ds,I.okd⟩;have hstep:Xn E (Xrd P E.G) none o ⟨T,(σ 0).ds,(σ 0).h⟩ (fun e s'=>e=.panic ch/\s'=⟨T,(σ 0).ds,h'⟩):=by
   obtain⟨fn,hfn⟩:=az.1 hfn;have hd9:Qoy ⟨T,(σ 0).ds,(σ 0).h⟩ o.dst=true:=by
    have h8:Qoy (σ p0) o.dst=true:=hdst;rw[hod]at h8 ⊢;simp only[Qoy]at h8 ⊢;rw[I.ts,<- cn.size (i:=p0) (by omega)];exact h8
   have ha:aop E T (σ 0).h o=some (.enter f l (σ 0).h):=by
    simp only[aop,hop,hc2,hev,hc1,aev,Qi,hfn];simp
   simp only[Xn,hd9,hop,ha];exact hcall.mono fun r h1 ⟨q1,q2⟩=>by subst q1 q2;exact⟨rfl,rfl⟩
  refine Z5u E (Vy _ _) hstep S1 (fun _ _ _ _ h=>by cases h.1) ?_;rintro Z2 a2 w2 s2 ch2 ⟨q1,q2⟩ q3 q4 q5 q6;cases q1;subst q2;refine⟨Z2,.panic ch,⟨T,(σ 0).ds,h'⟩,hk T (by rw[I.ts]),rfl,q6,I.ext.trans q3 (ab _),?_,q5⟩;exact(Turn.drew _ _ _ (bH _)).trans (I.turn.trans q4)
 ·intro hj;simp only[Did,Array.getD_eq_getD_getElem?,Array.getElem?_replicate]at hj;split at hj <;> simp at hj
end
section
variable{P:Program}{E:Env2 P}{C:CallP}{ops:Array Oper}
end
def Z7n(t:Tm)(ds:List Deferred)(l:Nat)(K:Exit->St->Prop)(r:AEnd)(h:Heap):Prop:=match Xid t ds l (some (r,h))with
 | some (e,s1)=>K e s1
 | none=>False
def Zra{P:Program}(E:Env2 P)(C:CallP)(rd:Option Nat)(g:Operand)(ps:Array Tmp)(asn bd:Code)(s:St)(K:Exit->St->Prop):Prop :=
 match aev E.G s.t g with
 | some (.func (.func f) first captured)=>match E.fn.get f with
  | none=>False
  | some _=>match rd with
   | none=>C.fn f (first.toList ++ [.func (.yield (s.h.next+1)) #[] #[]]++captured.toList) ((s.h.push (.obj .defs)).push (.obj (.loop .ready none s.t ps asn bd s.h.next)))
     (Z7n s.t ({target:=.collected s.h.next,args:=#[]}::s.ds) (s.h.next+1) K)
   | some l0=>match s.h.get l0 with
    | some (.obj (.loop _ _ _ _ _ _ d))=>C.fn f (first.toList ++ [.func (.yield s.h.next) #[] #[]]++captured.toList) (s.h.push (.obj (.loop .ready none s.t ps asn bd d))) (Z7n s.t s.ds s.h.next K)
    | _=>False
 | _=>False
def X3j(F:St->Prop)(K:Exit->St->Prop)(e:Exit)(s:St):Prop:=match e with
 | .normal=>F s
 | e=>K e s
def Xae(id:Nat)(K:Exit->St->Prop)(e:Exit)(s:St):Prop:=match e with
 | .exit id'=>if id'=id then K .normal s else K (.exit id') s
 | e=>K e s
def X0(F:St->Prop)(K:Exit->St->Prop)(s:St):X3j F K .normal s=F s:=rfl
def Xk(F:St->Prop)(K:Exit->St->Prop)(s:St):X3j F K .ret s=K .ret s:=rfl
def Xh(F:St->Prop)(K:Exit->St->Prop)(id:Nat)(s:St):X3j F K (.exit id) s=K (.exit id) s:=rfl
def X6(F:St->Prop)(K:Exit->St->Prop)(ch:List PanicEntry)(s:St):X3j F K (.panic ch) s=K (.panic ch) s:=rfl
def Qu(id:Nat)(K:Exit->St->Prop)(s:St):Xae id K .normal s=K .normal s:=rfl
def Xf(id:Nat)(K:Exit->St->Prop)(s:St):Xae id K .ret s=K .ret s:=rfl
def Qy(id:Nat)(K:Exit->St->Prop)(ch:List PanicEntry)(s:St):Xae id K (.panic ch) s=K (.panic ch) s:=rfl
def X8(id id':Nat)(K:Exit->St->Prop)(s:St):Xae id K (.exit id') s=if id'=id then K .normal s else K (.exit id') s:=rfl
def Jhj(body:St->(Exit->St->Prop)->Prop)(s:St)(K:Exit->St->Prop):Prop :=
 ∃ (I:Nat->St->Prop) (k:Nat),I k s/\∀ k s',I k s'->s.h.next<=s'.h.next->body s' (X3j (fun s'' => ∃ k',k' < k/\I k' s'') K)
def Qac{P:Program}(E:Env2 P)(C:CallP)(D0:CallF)(rd:Option Nat):Code->St->(Exit->St->Prop)->Prop
 | .skip,s,K=>K .normal s
 | .label _,s,K=>K .normal s
 | .ret,s,K=>K .ret s
 | .exit id,s,K=>K (.exit id) s
 | .seq x y,s,K=>Qac E C D0 rd x s (X3j (fun s'=>Qac E C D0 rd y s' K) K)
 | .cond c x y,s,K => ∃ b,aev E.G s.t c=some (.bool b)/\(b=true->Qac E C D0 rd x s K)/\(b=false->Qac E C D0 rd y s K)
 | .block id c,s,K=>Qac E C D0 rd c s (Xae id K)
 | .loop c,s,K=>(∀ l,rd=some l->l < s.h.next)/\Jhj (Qac E C D0 rd c) s K
 | .region _ ops true,s,K=>(∃ B s1 R L,(∀ e ∈ L,KEok P E.G e)/\Q25 ops.toList []=some B/\Qa4 ops.toList ops.toList B []=true/\runT E L ops.toList B ops.toList 0 s=some (s1,R)/\Yk E R B R B 0=true/\K .normal s1) ∨
  (C.die=true/\rd=none/\∃ (B:List Nat) (p0 d0 f:Nat) (args:Array Operand) (o:Oper) (c:Call) (l:List Value) (s1:St) (ch:List PanicEntry) (h':Heap),Q25 ops.toList []=some B/\Qa4 (X8o p0 f args ops.toList B 0) (X8o p0 f args ops.toList B 0) B []=true/\ops.toList[p0]? = some o/\o.op=.call c/\c.callee=.value (.func f)/\c.args=args /\
   o.dst=some d0/\Ypr d0 p0 ops.toList 0=true/\Xy2 E (X8o p0 f args ops.toList B 0)=true/\Yxv E D0 none (X8o p0 f args ops.toList B 0) (X8o p0 f args ops.toList B 0) s=some (.normal,s1)/\s1.t.t.get d0=some (.func (.func f) ⟨l⟩ #[])/\(E.fn.get f).isSome=true /\
   C.fn f l s.h (fun r h1=>r=.panic ch/\h1=h')/\∀ T:Tm,T.size=s.t.size->K (.panic ch) ⟨T,s.ds,h'⟩)
 | .region _ ops false,s,K=>Yns E C rd ops.toList K ops.toList s
 | .rangeFunc g ps asn bd,s,K=>Zra E C rd g ps asn bd s K
 | _,_,_=>False
def Js2{P:Program}(E:Env2 P)(C:CallP)(D0:CallF)(rd:Option Nat)(y:Code)(K:Exit->St->Prop)(s:St):Prop:=Qac E C D0 rd y s K
section
variable{P:Program}{E:Env2 P}{C:CallP}{rd:Option Nat}{Z:Ren}{s:St}{h:Heap}{w:World}
def Jgp(E:Env2 P){C:CallP}(hC:CallPSound P E.G C){rd:Option Nat}{g:Operand}{ps:Array Tmp}{asn bd:Code}{K:Exit->St->Prop}(hh:Zra E C rd g ps asn bd s K) :
  CW P E.G rd s.h.next (.rangeFunc g ps asn bd) s K:=by
 intro Z a w S hl;unfold Zra at hh;split at hh
 ·rename_i f first captured hg
  obtain⟨g1,g2⟩:=Xvk S.h S.t hg;split at hh
  ·exact hh.elim
  ·rename_i F hF;obtain⟨q1,q2,q3⟩:=E.fnok _ _ hF;have hbody:F.body.isNone=false:=by cases hb:F.body <;> simp[hb]at q3 ⊢
   have g3:a.eval g=.func (.func f) (first.map (ren Z)) (captured.map (ren Z)):=by rw[g2];simp[ren,Ykn,Qub]
   simp only[okV,Q8x]at g1;have hinv:∀ (args:Array Value) (w:World),(invoke (.fn (.func f) (captured.map (ren Z))) args).run P w=.ok (.enter f (args++captured.map (ren Z))) w:=fun args w=>Y4i E hF _ _ w;have go:∀ (Z2:Ren) (w2:World) (h2:Heap) (l:Nat) (ds:List Deferred) (mark:List Deferred),Ext s.h.next Z Z2->s.h.next<=h2.next->HRel E.G Z2 h2 w2->Turn Z s.h w Z2 h2 w2->dom Z2 l ->
     (mark++a.defers=ds.map (Qxs Z2))->(∀ d ∈ ds,Yes (dom Z2) d) ->
     C.fn f (first.toList ++ [.func (.yield l) #[] #[]]++captured.toList) h2 (Z7n s.t ds l K) ->
     CallsIn (Qvk rd Z) 0 P f (first.map (ren Z) ++ #[Value.func (.yield (W8 Z2 l)) #[] #[]]++captured.map (ren Z)) w2 (rangePost (Qvk rd Z) 0 P (W8 Z2 l)
      (fun e' a' w' => ∃ Z' e0 s',K e0 s'/\e'=Qos Z' e0/\Q24 (dom Z') e0/\Ext s.h.next Z Z'/\Turn Z s.h w Z' s'.h w'/\SRel E.G Z' s' a' w') {a with defers:=mark++a.defers}):=by
    intro Z2 w2 h2 l ds mark he hn H2 T2 hl2 hds hok haft;have hcongr:∀ b,dom Z b->Z2 b=Z b:=fun b hb=>he b (Qkr S.h hb);obtain⟨a1,a2⟩:=Zxt g1 hcongr hl2 rfl;rw[a1];refine Xfy ((hC.fn _ _ _ _ haft Z2 w2 H2 a2).mono ?_);rintro e' w3 ⟨Z3,r,h3,hk,rfl,k1,k2,k3,k4⟩;unfold Z7n at hk;split at hk
    ·rename_i e0 s1 haf;have hc3:∀ b,dom Z2 b->Z3 b=Z2 b:=fun b hb=>k2 b (Qkr H2 hb);have hl3:dom Z3 l:=(by simpa[dom,hc3 l hl2]using hl2);have er:W8 Z2 l=W8 Z3 l:=(Qc5 (hc3 l hl2)).symm;have S3:SRel E.G Z3 ⟨s.t,ds,h3⟩ {a with defers:=mark++a.defers} w3:=by
      refine⟨k4,(S.t.keep hcongr).keep hc3,?_,fun d hd=>Xct (fun b hb=>by simpa[dom,hc3 b hb]using hb) (hok d hd)⟩;show mark++a.defers=_;rw[hds];apply bA;intro d hd;exact(Q23 hc3 (hok d hd)).symm
     rw[er];refine Z4x haf hl3 k1 S3 fun w' T' S' hx => ?_;exact⟨Z3,e0,s1,hk,rfl,hx,he.trans k2 hn,(T2.trans k3).trans T',S'⟩
    ·exact hk.elim
   split at hh
   ·refine wpIn_rangeFunc fun fn _ => ?_;obtain⟨Z1,H1,T1,d1,b1,x1⟩:=Zow S.h (x:=.defs) (o:=.deferred (some [])) rfl;have S1:=S.step x1 H1;obtain⟨Z2,H2,T2,d2,b2,x2⟩:=Yjd (ps:=ps) («as» := asn) (bd:=bd) H1 S1.t d1 fn;have hn1:(s.h.push (.obj .defs)).next=s.h.next+1:=rfl;have x12:Ext s.h.next Z Z2:=x1.trans x2 (by omega);have hb2:W8 Z2 s.h.next=w.heap.size:=by rw[Qc5 (x2 _ (by omega)),b1]
    have hd2:dom Z2 s.h.next:=by have:=x2 s.h.next (by omega);simpa[dom,this]using d1
    rw[Zhx]at b2;rw[b1]at H2 T2;refine⟨w.heap.size+1,[{target:=.collected w.heap.size,args:=#[]}],(w.alloc (.deferred (some []))).alloc (.loop {state:=.ready,pending:=none,fn:=fn,tmps:=a.tmps,params:=ps,assign:=asn,body:=bd,defers:=w.heap.size}),⟨.fn (.func f) (captured.map (ren Z)),first.map (ren Z) ++ #[.func (.yield (w.heap.size+1)) #[] #[]]⟩,(w.alloc (.deferred (some []))).alloc (.loop {state:=.ready,pending:=none,fn:=fn,tmps:=a.tmps,params:=ps,assign:=asn,body:=bd,defers:=w.heap.size}),f,_,(w.alloc (.deferred (some []))).alloc (.loop {state:=.ready,pending:=none,fn:=fn,tmps:=a.tmps,params:=ps,assign:=asn,body:=bd,defers:=w.heap.size}),?_,?_,?_,hinv _ _,by rw[Qrg];simp,?_⟩
    ·rw[Q6a];exact run_enterLoop_outer fn a.tmps ps asn bd
    ·show(Deferred.ofValue (a.eval g) _).run P _=_;rw[g3];simp[Deferred.ofValue,rangeCall,Act.eval]
    ·exact fun f' _=>Q0u none Z f'
    ·have:=go Z2 _ _ (s.h.next+1) ({target:=.collected s.h.next,args:=#[]}::s.ds) [{target:=.collected w.heap.size,args:=#[]}] x12 (by show s.h.next<=s.h.next+1+1;omega) H2 (T1.trans T2) d2 ?_ ?_ hh
     ·rw[<- hn1,b2]at this;exact this
     ·have S2:=S.step x12 H2;simp only[aE,Qxs,hb2,renA,renL];rw[<- S2.ds];rfl
     ·intro d hd;rcases ap.1 hd with rfl | hd
      ·exact⟨hd2,by simp[okA,okL]⟩
      ·exact(S.step x12 H2).okd d hd
   ·rename_i l0;split at hh
    ·rename_i st0 pend0 t0 ps0 as0 bd0 d0 hg0;refine wpIn_rangeFunc fun fn _ => ?_;have hl0:=hl l0 rfl;obtain⟨r0,r1,_,_,_,_,_,_,hd0,r2,_⟩:=Xu3 S.h hl0 hg0;obtain⟨Z2,H2,T2,d2,b2,x2⟩:=Yjd (ps:=ps) («as» := asn) (bd:=bd) S.h S.t hd0 fn;have S2:=S.step x2 H2;refine⟨w.heap.size,[],w.alloc (.loop {state:=.ready,pending:=none,fn:=fn,tmps:=a.tmps,params:=ps,assign:=asn,body:=bd,defers:=W8 Z d0}),⟨.fn (.func f) (captured.map (ren Z)),first.map (ren Z) ++ #[.func (.yield w.heap.size) #[] #[]]⟩,w.alloc (.loop {state:=.ready,pending:=none,fn:=fn,tmps:=a.tmps,params:=ps,assign:=asn,body:=bd,defers:=W8 Z d0}),f,_,w.alloc (.loop {state:=.ready,pending:=none,fn:=fn,tmps:=a.tmps,params:=ps,assign:=asn,body:=bd,defers:=W8 Z d0}),?_,?_,?_,hinv _ _,by rw[Qrg];simp,?_⟩
     ·rw[Q6a];unfold Instr.enterLoop;simp only[ax,aq,run_getLoop r1,Result.andThen,aJ,run_newObj_alloc,r2]
     ·show(Deferred.ofValue (a.eval g) _).run P _=_;rw[g3];simp[Deferred.ofValue,rangeCall,Act.eval]
     ·exact fun f' _=>Q0u _ Z f'
     ·have:=go Z2 _ _ s.h.next s.ds [] x2 (by show s.h.next<=s.h.next+1;omega) H2 T2 d2 (by simpa using S2.ds) S2.okd hh;rw[b2]at this;exact this
    ·exact hh.elim
 ·exact hh.elim
def Xcc(E:Env2 P){C:CallP}(hC:CallPSound P E.G C){D0:CallF}(hD:CallsSound P E.G D0)(hL:CallsLow D0)(hm:P.follows .mixedOrders=true){rd:Option Nat}:∀ (c:Code) (s:St) (K:Exit->St->Prop),Qac E C D0 rd c s K->CW P E.G rd s.h.next c s K
 | .skip,s,K,h=>Jbp h
 | .label _,s,K,h=>Z6l h
 | .ret,s,K,h=>Jka h
 | .exit _,s,K,h=>Jfw h
 | .seq x y,s,K,h=>by
  simp only[Qac]at h;refine Jlg ((Xcc E hC hD hL hm x _ _ h).mono (ab _) ?_);intro e s' hk;cases e with
  | normal=>exact Xcc E hC hD hL hm y _ _ hk
  | _=>exact hk
 | .cond c x y,s,K,h=>by
  simp only[Qac]at h;obtain⟨b,h1,h2,h3⟩:=h;refine Z3y h1 ?_;cases b with
  | true=>exact Xcc E hC hD hL hm x _ _ (h2 rfl)
  | false=>exact Xcc E hC hD hL hm y _ _ (h3 rfl)
 | .block id c,s,K,h=>by
  simp only[Qac]at h;refine Z69 ((Xcc E hC hD hL hm c _ _ h).mono (ab _) ?_);intro e s' hk;cases e <;> exact hk
 | .loop c,s,K,h=>by
  simp only[Qac,Jhj]at h;obtain⟨hrd,I,k,hI,hr⟩:=h;refine Jd7 (n:=s.h.next) (fun k s'=>I k s'/\s.h.next<=s'.h.next) ⟨hI,ab _⟩ hrd (ab _) ?_;rintro k s' ⟨h1,h2⟩ _;refine((Xcc E hC hD hL hm c s' _ (hr k s' h1 h2)).grows).mono h2 ?_;rintro e s'' ⟨h3,h4⟩;refine⟨ai h2 h4,fun he => ?_,fun hne => ?_⟩
  ·subst he;obtain⟨k',h5,h6⟩:=h3;exact⟨k',h5,h6,ai h2 h4⟩
  ·cases e <;> first
    | exact absurd rfl hne
    | exact h3
 | .region _ ops true,s,K,h=>by
  simp only[Qac]at h;rcases h with⟨B,s1,R,L,d1,h1,h2,h3,h4,h5⟩ | ⟨_,h0,B,p0,d0,f,args,o,c,l,s1,ch,h',k1,k2,k3,k4,k5,k6,k7,k8,k9,k10,k11,k12,k13,k14⟩
  ·exact Jip E d1 hm h1 h2 h3 h4 h5
  ·subst h0;exact Jqm E hD hL hm k1 k2 k3 k4 k5 k6 k7 k8 k9 k10 k11 k12 (hC.fn _ _ _ _ k13) k14
 | .region _ ops false,s,K,h=>by
  simp only[Qac]at h;exact Z9g E hC h
 | .rangeFunc ..,s,K,h=>by
  simp only[Qac]at h;exact Jgp E hC h
 | .scope ..,_,_,h | .goto ..,_,_,h | .refuse ..,_,_,h=>by simp[Qac]at h
def Xw{D0:CallF}(y:Code)(K:Exit->St->Prop)(t:Tm)(ds:List Deferred)(h:Heap):Js2 E C D0 rd y K ⟨t,ds,h⟩=Qac E C D0 rd y ⟨t,ds,h⟩ K:=rfl
def Yh{D0:CallF}(s:St)(K:Exit->St->Prop):Qac E C D0 rd .skip s K=K .normal s:=rfl
def Zx{D0:CallF}(s:St)(K:Exit->St->Prop):Qac E C D0 rd .ret s K=K .ret s:=rfl
def Yg{D0:CallF}(id:Nat)(s:St)(K:Exit->St->Prop):Qac E C D0 rd (.exit id) s K=K (.exit id) s:=rfl
def Jkc{D0:CallF}{c:Operand}{x y:Code}{s:St}{K:Exit->St->Prop}{b:Bool}(h:aev E.G s.t c=some (.bool b))(hk:Qac E C D0 rd (if b then x else y) s K):Qac E C D0 rd (.cond c x y) s K:=by
 refine⟨b,h,fun hb => ?_,fun hb => ?_⟩
 ·rw[hb]at hk;exact hk
 ·rw[hb]at hk;exact hk
def Qdf{D0:CallF}{c:Code}{s:St}{K:Exit->St->Prop}(I:Nat->St->Prop)(k:Nat)(hI:I k s)(hr:∀ k s',I k s'->s.h.next<=s'.h.next->Qac E C D0 none c s' (X3j (fun s'' => ∃ k',k' < k/\I k' s'') K)):Qac E C D0 none (.loop c) s K :=
 ⟨fun _ h=>(by cases h),I,k,hI,hr⟩
def Jmn{D0:CallF}{c:Operand}{x y:Code}{s:St}{K:Exit->St->Prop}(h:aev E.G s.t c=some (.bool true))(hk:Qac E C D0 rd x s K):Qac E C D0 rd (.cond c x y) s K:=Jkc (b:=true) h hk
def Jkz{D0:CallF}{c:Operand}{x y:Code}{s:St}{K:Exit->St->Prop}(h:aev E.G s.t c=some (.bool false))(hk:Qac E C D0 rd y s K):Qac E C D0 rd (.cond c x y) s K:=Jkc (b:=false) h hk
def Jpw{D0:CallF}{c:Operand}{x y:Code}{s:St}{K:Exit->St->Prop}(h:aev E.G s.t c=some (.bool true)):Qac E C D0 rd (.cond c x y) s K=Qac E C D0 rd x s K:=by
 refine propext ⟨fun hk => ?_,fun hk=>Jmn h hk⟩;simp only[Qac]at hk;obtain⟨q,h1,h2, -⟩:=hk;rw[h]at h1;cases h1;exact h2 rfl
def Jry{D0:CallF}{c:Operand}{x y:Code}{s:St}{K:Exit->St->Prop}(h:aev E.G s.t c=some (.bool false)):Qac E C D0 rd (.cond c x y) s K=Qac E C D0 rd y s K:=by
 refine propext ⟨fun hk => ?_,fun hk=>Jkz h hk⟩;simp only[Qac]at hk;obtain⟨q,h1, -,h2⟩:=hk;rw[h]at h1;cases h1;exact h2 rfl
def Qem{D0:CallF}{id:Nat}{ops:Array Oper}{l:List Oper}{B:List Nat}{s s1:St}{R:List (Option LRec)}{K:Exit->St->Prop}(L:List KE)(hL:∀ e ∈ L,KEok P E.G e)(hl:ops.toList.map bare=l)(hB:Q25 ops.toList []=some B)(hp:Qa4 ops.toList ops.toList B []=true)
  (hx:runT E L l B l 0 s=some (s1,R)) (hc:Yk E R B R B 0=true) (hk:K .normal s1):Qac E C D0 rd (.region id ops true) s K:=by
 subst hl;rw[Zy7,ak]at hx;obtain⟨⟨s2,R2⟩,h1,h2⟩:=hx;cases h2;rw[Yrh]at hc;exact .inl ⟨B,s2,R2,L,hL,hB,hp,h1,hc,hk⟩
def Jsx{D0:CallF}{id:Nat}{ops:Array Oper}{lb:List Oper}{B:List Nat}{s s1:St}{K:Exit->St->Prop}{p0 d0 f:Nat}{args:Array Operand}{o:Oper}{c:Call}{l:List Value}{ch:List PanicEntry}{h':Heap}(hdie:C.die=true)(hl:ops.toList.map bare=lb)(hB:Q25 ops.toList []=some B)(hp:Qa4 (X8o p0 f args ops.toList B 0) (X8o p0 f args ops.toList B 0) B []=true)
  (ho:ops.toList[p0]? = some o) (hop:o.op=.call c) (hc1:c.callee=.value (.func f)) (hc2:c.args=args) (hod:o.dst=some d0) (hdo:Ypr d0 p0 ops.toList 0=true) (hr:Xy2 E (X8o p0 f args ops.toList B 0)=true)
  (hx:Yxv E D0 none (X8o p0 f args lb B 0) (X8o p0 f args lb B 0) s=some (.normal,s1)) (hv:s1.t.t.get d0=some (.func (.func f) ⟨l⟩ #[])) (hfn:(E.fn.get f).isSome=true) (hcall:C.fn f l s.h (fun r h1=>r=.panic ch/\h1=h')) (hk:∀ T:Tm,T.size=s.t.size->K (.panic ch) ⟨T,s.ds,h'⟩):Qac E C D0 none (.region id ops true) s K:=by
 subst hl;rw[Zr5,Yxq]at hx;exact .inr ⟨hdie,rfl,B,p0,d0,f,args,o,c,l,s1,ch,h',hB,hp,ho,hop,hc1,hc2,hod,hdo,hr,hx,hv,hfn,hcall,hk⟩
def Zrd(ops:List Oper):∀ (l:List Oper) (s:St) (K:Exit->St->Prop),Yns E C rd (ops.map bare) K (l.map bare) s=Yns E C rd ops K l s
 | [],s,K=>rfl
 | o::r,s,K=>by
  have hs:∀ K',Xn E C rd (bare o) s K'=Xn E C rd o s K':=fun _=>rfl;simp only[aE,Yns,Xrq,hs];have hk:Yns E C rd (ops.map bare) K (r.map bare)=Yns E C rd ops K r:=by
   funext s';exact Zrd ops r s' K
  rw[hk];split
  ·rfl
  ·show(if Qoy s o.dst=true then _ else _)=_;rw[show(s.put (bare o).dst Qt s.h)=s.put o.dst Qt s.h from rfl]
  ·rfl
def Qy1{D0:CallF}:∀ (c:Code) (s:St) (K:Exit->St->Prop),Qac E C D0 rd (U1 c) s K=Qac E C D0 rd c s K
 | .seq x y,s,K=>by
  simp only[U1,Qac,Qy1 x];have : (fun s'=>Qac E C D0 rd (U1 y) s' K)=(fun s'=>Qac E C D0 rd y s' K):=by funext s';exact Qy1 y s' K
  rw[this]
 | .cond c x y,s,K=>by simp only[U1,Qac,Qy1 x,Qy1 y]
 | .block id c,s,K=>by simp only[U1,Qac,Qy1 c]
 | .loop c,s,K=>by
  have : Qac E C D0 rd (U1 c)=Qac E C D0 rd c:=by funext s K;exact Qy1 c s K
  simp only[U1,Qac,this]
 | .region id ops false,s,K=>by
  simp only[U1,Qac];exact Zrd ops.toList ops.toList s K
 | .region id ops true,s,K=>rfl
 | .skip,s,K=>rfl
 | .label _,s,K=>rfl
 | .ret,s,K=>rfl
 | .exit _,s,K=>rfl
 | .rangeFunc ..,s,K=>rfl
 | .scope ..,s,K=>rfl
 | .goto ..,s,K=>rfl
 | .refuse ..,s,K=>rfl
def Xep{P:Program}(E:Env2 P)(D:Qwn)(fn:Func)(K:AEnd->Heap->Prop)(u:FrameMode)(s:St):Prop:=match X2 E D fn s.t s.ds u s.h with
 | some (r,h')=>K r h'
 | none=>False
def Zh4{P:Program}(E:Env2 P)(D:Qwn)(fn:Func)(K:AEnd->Heap->Prop)(e:Exit)(s:St):Prop:=match e with
 | .normal=>Xep E D fn K .returning s
 | .ret=>Xep E D fn K .returning s
 | .panic ch=>Xep E D fn K (.panicking ch) s
 | _=>False
def Z2c(E:Env2 P){D:Qwn}(hD:Q1s P E.G D){f:FuncId}{args:List Value}{h:Heap}{fn:Func}{c:Code}{K:AEnd->Heap->Prop}(hfn:E.fn.get f=some fn)(hbody:fn.body=some c)(hle:Nat.ble args.length fn.ntmps=true)
  (hcw:CW P E.G none h.next c ⟨Xm fn args,[],h⟩ (fun e s=>Zh4 E D fn K e s)):CallOK P E.G f args h K:=by
 intro Z w H ha;obtain⟨g1,g2,g3⟩:=E.fnok _ _ hfn;have hle':args.length<=fn.ntmps:=by simpa using hle
 have S:SRel E.G Z ⟨Xm fn args,[],h⟩ {tmps:=(args.map (ren Z)).toArray++Array.replicate (fn.ntmps-(args.map (ren Z)).toArray.size) undef,defers:=[]} w :=
  ⟨H,Y2r hle' ha,rfl,fun d hd=>by cases hd⟩
 have lv:∀ (s:St) (u:FrameMode),Xep E D fn K u s->∀ a' w' Z',Ext h.next Z Z'->Turn Z h w Z' s.h w'->SRel E.G Z' s a' w'->okM (dom Z') u ->
   LeavesInM Fence.wide 0 P fn a'.tmps (fun e w' => ∃ Z' r1 h1,K r1 h1/\e=Qz1 Z' r1/\Xy1 (dom Z') r1/\Ext h.next Z Z'/\Turn Z h w Z' h1 w'/\HRel E.G Z' h1 w') a'.defers (Xyt Z' u) w':=by
  intro s u hl a' w' Z' q2 q3 q4 hu;unfold Xep at hl;split at hl
  case h_2=>exact hl.elim
  ·rename_i r h' hlv;rw[q4.ds];exact Xzm E hD s.ds u s.h Z' w' a'.tmps r h' hlv q4.h q4.t q4.okd hu fun Z'' w'' p1 p2 p3 p4=>⟨Z'',r,h',hl,rfl,p4,q2.trans p1 q3.next,q3.trans p2,p3⟩
 refine callsIn_of_wp_marks g1 hbody trivial ?_;refine wpIn_mono (hcw Z _ w S (fun l hl=>by cases hl)) ?_;rintro e' a' w' ⟨Z',e1,s1,hk,rfl,q1,q2,q3,q4⟩;cases e1 with
 | normal=>exact lv s1 .returning hk a' w' Z' q2 q3 q4 trivial
 | ret=>exact lv s1 .returning hk a' w' Z' q2 q3 q4 trivial
 | panic ch=>exact lv s1 (.panicking ch) hk a' w' Z' q2 q3 q4 q1
 | _=>exact hk.elim
def X5(E:Env2 P)(D:Qwn)(fn:Func)(K:AEnd->Heap->Prop)(s:St):Zh4 E D fn K .normal s=Xep E D fn K .returning s:=rfl
def Xr(E:Env2 P)(D:Qwn)(fn:Func)(K:AEnd->Heap->Prop)(s:St):Zh4 E D fn K .ret s=Xep E D fn K .returning s:=rfl
def Q6(E:Env2 P)(D:Qwn)(fn:Func)(K:AEnd->Heap->Prop)(u:FrameMode)(t:Tm)(ds:List Deferred)(h:Heap):Xep E D fn K u ⟨t,ds,h⟩=(match X2 E D fn t ds u h with
 | some (r,h')=>K r h'
 | none=>False):=rfl
def Qh3(E:Env2 P){C:CallP}(hC:CallPSound P E.G C){D0:CallF}(hD0:CallsSound P E.G D0)(hL:CallsLow D0)(hm:P.follows .mixedOrders=true){D:Qwn}(hD:Q1s P E.G D){f n:Nat}{args:List Value}{h:Heap}{fn:Func}{c cb:Code}{K:AEnd->Heap->Prop}
  (hfn:E.fn.get f=some fn) (hb:fn.body=some c) (hn:fn.ntmps=n) (hc:U1 c=cb) (hle:Nat.ble args.length n=true) (hx:Qac E C D0 none cb ⟨⟨n,Xm.putAll 0 args .leaf⟩,[],h⟩ (Zh4 E D fn K)):CallOK P E.G f args h K:=by
 subst hn hc;rw[Qy1]at hx;exact Z2c E hD hfn hb hle (Xcc E hC hD0 hL hm c _ _ hx)
end
def Ymj(l:Nat)(K:AEnd->Heap->Prop)(e:Exit)(s2:St):Prop:=match Zi6 e,s2.h.get l with
 | some j,some (.obj (.loop _ _ t2 ps2 as2 bd2 d2))=>K (.ret (.bool j.isNone)) (s2.h.set l (some (.obj (.loop (if j.isNone then .ready else .done) j t2 ps2 as2 bd2 d2))))
 | _,_=>False
def Z1g{P:Program}(E:Env2 P)(C:CallP)(D0:CallF)(l:Nat)(bd:Code)(K:AEnd->Heap->Prop)(e:Exit)(s:St):Prop:=match e with
 | .normal=>match s.h.get l with
  | some (.obj (.loop .ready p1 t1 ps1 as1 bd1 d1))=>Qac E C D0 (some l) bd ⟨s.t,s.ds,s.h.set l (some (.obj (.loop .busy p1 t1 ps1 as1 bd1 d1)))⟩ (Ymj l K)
  | _=>False
 | _=>False
section
variable{P:Program}{E:Env2 P}
def Jlk(E:Env2 P){C:CallP}(hC:CallPSound P E.G C){D0:CallF}(hD:CallsSound P E.G D0)(hL:CallsLow D0)(hm:P.follows .mixedOrders=true){l:Nat}{args:List Value}{h:Heap}{K:AEnd->Heap->Prop}
  {p0:Option Code} {t0:Tm} {ps0:Array Tmp} {as0 bd0 cas cbd:Code} {d0:Nat} (hg0:h.get l=some (.obj (.loop .ready p0 t0 ps0 as0 bd0 d0))) (hp:Z70 t0.size ps0.toList args=true) (has:U1 as0=cas) (hbd:U1 bd0=cbd)
  (hh:Qac E C D0 (some l) cas ⟨Yms t0 ps0.toList args,[],h⟩ (Z1g E C D0 l cbd K)):X17 P E.G l args h K:=by
 intro Z w β rd st pend t ps asn bd d fn tmps H hl ha hg ht;rw[hg0]at hg;cases hg;subst has;rw[Qy1]at hh;refine roundIn_of_wpIn (Q0u rd β _) ?_;rw[Yh6 rd Z β l];have S0:SRel E.G Z ⟨Yms t0 ps0.toList args,[],h⟩ {tmps:=tmps,defers:=[]} w:=⟨H,ht,rfl,fun d hd=>by cases hd⟩;refine wpIn_mono ((Xcc E hC hD hL hm as0 _ _ hh).grows Z _ w S0 (fun l' hl'=>by cases hl';exact hl)) ?_;rintro e' a1 w1 ⟨Z1,e1,s1',⟨hk1,hn1⟩,rfl,_,x1,T1,S1⟩;cases e1 with
 | normal =>
  unfold Z1g at hk1;simp only at hk1;split at hk1
  ·rename_i p1 t1 ps1 as1 bd1 d1 hg1;have hc1:∀ b,dom Z b->Z1 b=Z b:=fun b hb=>x1 b (Qkr H hb);have hl1:dom Z1 l:=by simpa[dom,hc1 l hl]using hl
   obtain⟨r1,k1,k2,kp,kps,kas,kbd,_,_,_,k3⟩:=Xu3 S1.h hl1 hg1;subst kp;obtain⟨H1',T1'⟩:=k3 .busy r1.pending;have er1:W8 Z1 l=W8 Z l:=Qc5 (hc1 l hl);refine⟨_,by rw[<- er1];exact run_beginRound k1 k2,?_⟩;rw[<- er1];have S1':=S1.step (Ext.refl _ _) H1';rw[<- (X1m (rd:=some l) (n:=0) S0 x1 (fun l' hl'=>by cases hl';exact hl)).1];have hk1':Qac E C D0 (some l) bd0 ⟨s1'.t,s1'.ds,s1'.h.set l (some (.obj (.loop .busy r1.pending t1 ps1 as1 bd1 d1)))⟩ (Ymj l K):=by
    rw[<- hbd,Qy1]at hk1;exact hk1
   refine wpIn_mono (Xcc E hC hD hL hm bd0 _ _ hk1' Z1 a1 _ S1' (fun l' hl'=>by cases hl';exact hl1)) ?_;rintro e' a2 w2 ⟨Z2,e2',s2',hk2,rfl,_,x2,T2,S2⟩;have hc2:∀ b,dom Z1 b->Z2 b=Z1 b:=fun b hb=>x2 b (Qkr H1' hb);have hl2:dom Z2 l:=by simpa[dom,hc2 l hl1]using hl1
   have er2:W8 Z2 l=W8 Z1 l:=Qc5 (hc2 l hl1);unfold Ymj at hk2;split at hk2
   ·rename_i j st2 pe2 t2 ps2 as2 bd2 d2 hj hg2;obtain⟨r2,m1,m2,_,_,_,_,_,_,_,m3⟩:=Xu3 S2.h hl2 hg2;obtain⟨H2',T2'⟩:=m3 (if j.isNone then .ready else .done) j;have fin:∃ v w',(Instr.endRound (W8 Z1 l) j).run P w2=.ok v w'/\∃ Z' r h',K r h' /\
      Ending.returned v=Qz1 Z' r/\Xy1 (dom Z') r/\Ext h.next Z Z'/\Turn Z h w Z' h' w'/\HRel E.G Z' h' w' :=
     ⟨_,_,by rw[<- er2];exact run_endRound j m1,Z2,_,_,hk2,by simp[Qz1],trivial,x1.trans x2 hn1,((T1.trans T1').trans T2).trans T2',H2'⟩
    rw[er1]at fin ⊢;exact Yrf hj fin
   ·exact hk2.elim
  ·exact hk1.elim
 | _=>exact hk1.elim
def Jpn{C:CallP}{D0:CallF}{g:Operand}{ps:Array Tmp}{asn bd:Code}{t:Tm}{ds:List Deferred}{h:Heap}{K:Exit->St->Prop}{f:FuncId}{fn:Func}{first captured:Array Value}(hg:aev E.G t g=some (.func (.func f) first captured))(hf:E.fn.get f=some fn)
  (hk:C.fn f (first.toList ++ [.func (.yield (h.next+1)) #[] #[]]++captured.toList) ((h.push (.obj .defs)).push (.obj (.loop .ready none t ps asn bd h.next))) (Z7n t ({target:=.collected h.next,args:=#[]}::ds) (h.next+1) K)) :
  Qac E C D0 none (.rangeFunc g ps asn bd) ⟨t,ds,h⟩ K:=by
 show Zra E C none g ps asn bd ⟨t,ds,h⟩ K;unfold Zra;simp only[hg,hf];exact hk
def Z01{t:Tm}{ds:List Deferred}{l:Nat}{K:Exit->St->Prop}{v:Value}{h:Heap}{t':Tm}{ps:Array Tmp}{asn bd:Code}{d:Nat}{st:LoopState}(hs:st ≠ .busy)(hg:h.get l=some (.obj (.loop st none t' ps asn bd d)))(hk:K .normal ⟨t,ds,h.set l none⟩):Z7n t ds l K (.ret v) h:=by
 unfold Z7n Xid;simp only[hg];cases st <;> first
  | exact absurd rfl hs
  | exact hk
def Zej{C:CallP}{D0:CallF}{l:Nat}{bd:Code}{K:AEnd->Heap->Prop}{t:Tm}{ds:List Deferred}{h:Heap}:Z1g E C D0 l bd K .normal ⟨t,ds,h⟩=(match h.get l with
  | some (.obj (.loop .ready p1 t1 ps1 as1 bd1 d1))=>Qac E C D0 (some l) bd ⟨t,ds,h.set l (some (.obj (.loop .busy p1 t1 ps1 as1 bd1 d1)))⟩ (Ymj l K)
  | _=>False):=rfl
def Zbl{l:Nat}{K:AEnd->Heap->Prop}{s:St}{st:LoopState}{pe:Option Code}{t2:Tm}{ps2:Array Tmp}{as2 bd2:Code}{d2:Nat}(hg:s.h.get l=some (.obj (.loop st pe t2 ps2 as2 bd2 d2)))(hk:K (.ret (.bool true)) (s.h.set l (some (.obj (.loop .ready none t2 ps2 as2 bd2 d2))))):Ymj l K .normal s:=by
 unfold Ymj;simp only[Zi6,hg];exact hk
def Jvu:Code->Code
 | .rangeFunc _ _ a _=>a
 | _ => .skip
def Jvn:Code->Code
 | .rangeFunc _ _ _ b=>b
 | _ => .skip
end
def FnK(P:Program)(G:Bs)(f:FuncId)(args:List Value)(h:Heap)(K:AEnd->Heap->Prop):Prop :=
 ∃ r h',CallOK P G f args h (fun r1 h1=>r1=r/\h1=h')/\h.next<=h'.next/\K r h'
def RndK(P:Program)(G:Bs)(l:Nat)(args:List Value)(h:Heap)(K:AEnd->Heap->Prop):Prop :=
 ∃ r h',X17 P G l args h (fun r1 h1=>r1=r/\h1=h')/\h.next<=h'.next/\K r h'
def FnK.ok{P:Program}{G:Bs}{f:FuncId}{args:List Value}{h:Heap}{K:AEnd->Heap->Prop}(hc:FnK P G f args h K):CallOK P G f args h K:=by
 obtain⟨r,h',h1,_,h2⟩:=hc;exact h1.mono fun r1 h1 ⟨e1,e2⟩=>by subst e1;subst e2;exact h2
def FnK.mono{P:Program}{G:Bs}{f:FuncId}{args:List Value}{h:Heap}{K K':AEnd->Heap->Prop}(hc:FnK P G f args h K)(hk:∀ r h',K r h'->K' r h'):FnK P G f args h K':=by
 obtain⟨r,h',h1,h2,h3⟩:=hc;exact⟨r,h',h1,h2,hk _ _ h3⟩
def RndK.mono{P:Program}{G:Bs}{l:Nat}{args:List Value}{h:Heap}{K K':AEnd->Heap->Prop}(hc:RndK P G l args h K)(hk:∀ r h',K r h'->K' r h'):RndK P G l args h K':=by
 obtain⟨r,h',h1,h2,h3⟩:=hc;exact⟨r,h',h1,h2,hk _ _ h3⟩
def Q5r(P:Program)(G:Bs):CallP:=⟨FnK P G,RndK P G,false⟩
def Z96(P:Program)(G:Bs):CallPSound P G (Q5r P G) :=
 ⟨fun _ _ _ _ h=>h.ok,fun l args h K ⟨r,h',h1,_,h2⟩=>fun Z w β rd st pend t ps asn bd d fn tmps a1 a2 a3 a4 a5=>by
  refine(h1 Z w β rd st pend t ps asn bd d fn tmps a1 a2 a3 a4 a5).mono ?_;rintro e w' ⟨Z',r1,h3,⟨rfl,rfl⟩,q⟩;exact⟨Z',_,_,h2,q⟩⟩
section
variable{P:Program}{E:Env2 P}{G:Bs}{rd:Option Nat}
def Is(e:Exit)(s':St):Exit->St->Prop:=fun e1 s1=>e1=e/\s1=s'
def Xt7(s:St)(d:Option Tmp)(v:Value)(h:Heap):(s.put d v h).h=h:=Yxm _ _ _ _
structure Fun1 (B:St->(Exit->St->Prop)->Prop):Prop where
 mono:∀ s K K',B s K->(∀ e s',K e s'->K' e s')->B s K'
 one:∀ s K,B s K->∃ e s',B s (Is e s')/\s.h.next<=s'.h.next/\K e s'
def Jmd(o:Oper):Fun1 (fun s K=>Xn E (Q5r P G) rd o s K):=by
 refine⟨fun s K K' h hk => ?_,fun s K h => ?_⟩
 ·unfold Xn at h ⊢;split at h
  ·exact h.elim
  ·rename_i hd;rw[if_neg hd];split at h
   ·rename_i c hop;split at h
    ·split at h
     ·exact hk _ _ h
     ·exact h.elim
    ·exact h.elim
   ·rename_i x isS hop;unfold Xmg at h ⊢;split at h
    ·rcases h with⟨y,h1,h2⟩ | ⟨h0,_⟩
     ·exact .inl ⟨y,h1,hk _ _ h2⟩
     ·cases h0
    ·exact h.elim
   ·rename_i hop;split at h
    ·exact hk _ _ h
    ·exact hk _ _ h
    ·exact hk _ _ h
    ·exact h.mono fun r h' hq=>by cases r <;> exact hk _ _ hq
    ·exact h.mono fun r h' hq=>by cases r <;> exact hk _ _ hq
    ·exact h.elim
 ·unfold Xn at h ⊢;split at h
  ·exact h.elim
  ·rename_i hd;simp only[hd,if_false,av];split at h
   ·rename_i c hop;split at h
    ·split at h
     ·rename_i d hd2;exact⟨_,_,⟨rfl,rfl⟩,by rw[Xt7];exact ab _,h⟩
     ·exact h.elim
    ·exact h.elim
   ·rename_i x isS hop;unfold Xmg at h ⊢;split at h
    ·rcases h with⟨y,h1,h2⟩ | ⟨h0,_⟩
     ·refine⟨_,_,.inl ⟨y,h1,rfl,rfl⟩,?_,h2⟩;rw[Xt7];exact(Yyx (by rw[h1];simp)).next
     ·cases h0
    ·exact h.elim
   ·rename_i hop;split at h
    ·rename_i v h1 hr;refine⟨_,_,⟨rfl,rfl⟩,?_,h⟩
     ·rw[Xt7];exact(Qxw hr).next
    ·rename_i h1 hr;refine⟨_,_,⟨rfl,rfl⟩,?_,h⟩
     ·rw[Xt7];exact(Qxw hr).next
    ·rename_i v h1 hr;refine⟨_,_,⟨rfl,rfl⟩,?_,h⟩
     ·exact(Qxw hr).next
    ·rename_i f args h1 hr;obtain⟨r,h',c1,c2,c3⟩:=h;have hn:s.h.next<=h'.next:=ai (Qxw hr).next c2;cases r with
     | ret v =>
      refine⟨.normal,s.put o.dst v h',?_,by rw[Xt7];exact hn,c3⟩;exact⟨_,_,c1,c2,rfl,rfl⟩
     | panic ch =>
      refine⟨.panic ch,{s with h:=h' },?_,hn,c3⟩;exact⟨_,_,c1,c2,rfl,rfl⟩
    ·rename_i l args h1 hr;obtain⟨r,h',c1,c2,c3⟩:=h;have hn:s.h.next<=h'.next:=ai (Qxw hr).next c2;cases r with
     | ret v =>
      refine⟨.normal,s.put o.dst v h',?_,by rw[Xt7];exact hn,c3⟩;exact⟨_,_,c1,c2,rfl,rfl⟩
     | panic ch =>
      refine⟨.panic ch,{s with h:=h' },?_,hn,c3⟩;exact⟨_,_,c1,c2,rfl,rfl⟩
    ·exact h.elim
def Jku(ops:List Oper):∀ l,Fun1 (fun s K=>Yns E (Q5r P G) rd ops K l s)
 | []=>⟨fun s K K' h hk=>hk _ _ h,fun s K h=>⟨.normal,s,⟨rfl,rfl⟩,ab _,h⟩⟩
 | o::r=>by
  have ih:=Jku ops r;have st:=Jmd (P:=P) (E:=E) (G:=G) (rd:=rd) o;refine⟨fun s K K' h hk => ?_,fun s K h => ?_⟩
  ·simp only[Yns]at h ⊢;split at h
   ·rename_i hw;refine st.mono _ _ _ h fun e s' hn => ?_;cases e <;> first
     | exact ih.mono _ _ _ hn hk
     | exact hk _ _ hn
     | exact hn
   ·rename_i hw;split at h
    ·rename_i hd;rw[if_pos hd];exact ih.mono _ _ _ h hk
    ·exact h.elim
   ·exact h.elim
  ·simp only[Yns]at h;split at h
   ·rename_i hw;obtain⟨e,s1,h1,h2,h3⟩:=st.one _ _ h;cases e with
    | normal =>
     obtain⟨e2,s2,g1,g2,g3⟩:=ih.one _ _ h3;refine⟨e2,s2,?_,ai h2 g2,g3⟩;simp only[Yns,hw];refine st.mono _ _ _ h1 ?_;rintro e' s' ⟨rfl,rfl⟩;exact g1
    | panic ch =>
     refine⟨.panic ch,s1,?_,h2,h3⟩;simp only[Yns,hw];refine st.mono _ _ _ h1 ?_;rintro e' s' ⟨rfl,rfl⟩;exact⟨rfl,rfl⟩
    | _=>exact h3.elim
   ·rename_i hw;split at h
    ·rename_i hd;obtain⟨e2,s2,g1,g2,g3⟩:=ih.one _ _ h;rw[Xt7]at g2;refine⟨e2,s2,?_,g2,g3⟩;simp only[Yns,hw,if_pos hd];exact g1
    ·exact h.elim
   ·exact h.elim
def Jmf{g:Operand}{ps:Array Tmp}{asn bd:Code}:Fun1 (fun s K=>Zra E (Q5r P G) rd g ps asn bd s K):=by
 have aft:∀ {t:Tm} {ds:List Deferred} {l:Nat} {K:Exit->St->Prop} {r:AEnd} {h:Heap},Z7n t ds l K r h->∃ e s1,Z7n t ds l (Is e s1) r h/\h.next<=s1.h.next/\K e s1:=by
  intro t ds l K r h hk;unfold Z7n at hk ⊢;split at hk
  ·rename_i e s1 haf;exact⟨e,s1,⟨rfl,rfl⟩,(Y56 haf).next,hk⟩
  ·exact hk.elim
 have aftm:∀ {t:Tm} {ds:List Deferred} {l:Nat} {K K':Exit->St->Prop} {r:AEnd} {h:Heap},Z7n t ds l K r h->(∀ e s',K e s'->K' e s')->Z7n t ds l K' r h:=by
  intro t ds l K K' r h hk hm;unfold Z7n at hk ⊢;split at hk
  ·exact hm _ _ hk
  ·exact hk.elim
 refine⟨fun s K K' h hk => ?_,fun s K h => ?_⟩
 ·unfold Zra at h ⊢;split at h
  ·split at h
   ·exact h.elim
   ·split at h
    ·exact h.mono fun r h' hq=>aftm hq hk
    ·split at h
     ·exact h.mono fun r h' hq=>aftm hq hk
     ·exact h.elim
  ·exact h.elim
 ·unfold Zra at h ⊢;split at h
  ·split at h
   ·exact h.elim
   ·split at h
    ·obtain⟨r,h',c1,c2,c3⟩:=h;obtain⟨e,s1,a1,a2,a3⟩:=aft c3;exact⟨e,s1,⟨r,h',c1,c2,a1⟩,ai (ai (show s.h.next<=s.h.next+1+1 by omega) c2) a2,a3⟩
    ·split at h
     ·obtain⟨r,h',c1,c2,c3⟩:=h;obtain⟨e,s1,a1,a2,a3⟩:=aft c3;exact⟨e,s1,⟨r,h',c1,c2,a1⟩,ai (ai (show s.h.next<=s.h.next+1 by omega) c2) a2,a3⟩
     ·exact h.elim
  ·exact h.elim
def Jny{body:St->(Exit->St->Prop)->Prop}(hb:Fun1 body):Fun1 (Jhj body):=by
 have thenm:∀ {F F':St->Prop} {K K':Exit->St->Prop} {e:Exit} {s:St},X3j F K e s->(F s->F' s)->(K e s->K' e s)->X3j F' K' e s:=by
  intro F F' K K' e s h h1 h2;cases e <;> first
   | exact h1 h
   | exact h2 h
 refine⟨fun s K K' ⟨I,k,hI,hr⟩ hk=>⟨I,k,hI,fun k s' h1 h2=>hb.mono _ _ _ (hr k s' h1 h2) fun e s2 h=>thenm h id (hk _ _)⟩,fun s K ⟨I,k,hI,hr⟩ => ?_⟩;have main:∀ k st,I k st->s.h.next<=st.h.next->∃ e s',Jhj body st (Is e s')/\st.h.next<=s'.h.next/\K e s':=by
  intro k;induction k using Nat.strongRecOn with
  | ind k ih =>
   intro st hst hn;obtain⟨e1,s1,h1,h2,h3⟩:=hb.one _ _ (hr k st hst hn);by_cases he:e1=.normal
   ·subst he;obtain⟨k',hk',hI'⟩:=h3;obtain⟨e,s',⟨J,m,hJ,hstep⟩,g2,g3⟩:=ih k' hk' s1 hI' (ai hn h2);refine⟨e,s',⟨fun j x=>(j=m+1/\x=st)∨(J j x/\s1.h.next<=x.h.next),m+1,.inl ⟨rfl,rfl⟩,?_⟩,ai h2 g2,g3⟩;rintro j x (⟨rfl,rfl⟩ | ⟨hj,hx⟩) _
    ·refine hb.mono _ _ _ h1 ?_;rintro e2 s2 ⟨rfl,rfl⟩;exact⟨m,bD _,.inr ⟨hJ,ab _⟩⟩
    ·obtain⟨e2,s2,b1,b2,b3⟩:=hb.one _ _ (hstep j x hj hx);refine hb.mono _ _ _ b1 ?_;rintro e3 s3 ⟨rfl,rfl⟩;exact thenm b3 (fun⟨j',q1,q2⟩=>⟨j',q1,.inr ⟨q2,ai hx b2⟩⟩) id
   ·have hK:K e1 s1:=by cases e1 <;> first | exact absurd rfl he | exact h3
    refine⟨e1,s1,⟨fun j x=>x=st,0,rfl,?_⟩,h2,hK⟩;rintro j x rfl _;refine hb.mono _ _ _ h1 ?_;rintro e2 s2 ⟨rfl,rfl⟩;cases e2 <;> first
     | exact absurd rfl he
     | exact⟨rfl,rfl⟩
 exact main k s hI (ab _)
def Xxt {D0 : CallF} (hL : CallsLow D0) (rd : Option Nat) : ∀ c : Code, Fun1 (fun s K => Qac E (Q5r P G) D0 rd c s K)
  | .skip => ⟨fun s K K' h hk => hk _ _ h, fun s K h => ⟨_, s, ⟨rfl, rfl⟩, ab _, h⟩⟩
  | .label _ => ⟨fun s K K' h hk => hk _ _ h, fun s K h => ⟨_, s, ⟨rfl, rfl⟩, ab _, h⟩⟩
  | .ret => ⟨fun s K K' h hk => hk _ _ h, fun s K h => ⟨_, s, ⟨rfl, rfl⟩, ab _, h⟩⟩
  | .exit _ => ⟨fun s K K' h hk => hk _ _ h, fun s K h => ⟨_, s, ⟨rfl, rfl⟩, ab _, h⟩⟩
  | .seq x y => by
    have hx := Xxt hL rd x;have hy := Xxt hL rd y;refine ⟨fun s K K' h hk => ?_, fun s K h => ?_⟩
    · simp only [Qac] at h ⊢
      refine hx.mono _ _ _ h fun e s' q => ?_;cases e <;> first
        | exact hy.mono _ _ _ q hk
        | exact hk _ _ q
    · simp only [Qac] at h ⊢
      obtain ⟨e, s1, h1, h2, h3⟩ := hx.one _ _ h;by_cases he : e = .normal
      · subst he
        obtain ⟨e2, s2, g1, g2, g3⟩ := hy.one _ _ h3;refine ⟨e2, s2, hx.mono _ _ _ h1 ?_, ai h2 g2, g3⟩;rintro e' s' ⟨rfl, rfl⟩;exact g1
      · have hK : K e s1 := by cases e <;> first | exact absurd rfl he | exact h3
        refine ⟨e, s1, hx.mono _ _ _ h1 ?_, h2, hK⟩;rintro e' s' ⟨rfl, rfl⟩;cases e' <;> first
          | exact absurd rfl he
          | exact ⟨rfl, rfl⟩
  | .cond c x y => by
    have hx := Xxt hL rd x;have hy := Xxt hL rd y;refine ⟨fun s K K' h hk => ?_, fun s K h => ?_⟩
    · simp only [Qac] at h ⊢
      obtain ⟨q, h1, h2, h3⟩ := h;exact ⟨q, h1, fun e => hx.mono _ _ _ (h2 e) hk, fun e => hy.mono _ _ _ (h3 e) hk⟩
    · simp only [Qac] at h ⊢
      obtain ⟨q, h1, h2, h3⟩ := h;cases q with
      | true =>
        obtain ⟨e, s1, g1, g2, g3⟩ := hx.one _ _ (h2 rfl);exact ⟨e, s1, ⟨true, h1, fun _ => g1, fun q => by cases q⟩, g2, g3⟩
      | false =>
        obtain ⟨e, s1, g1, g2, g3⟩ := hy.one _ _ (h3 rfl);exact ⟨e, s1, ⟨false, h1, fun q => (by cases q), fun _ => g1⟩, g2, g3⟩
  | .block id c => by
    have hc := Xxt hL rd c;refine ⟨fun s K K' h hk => ?_, fun s K h => ?_⟩
    · simp only [Qac] at h ⊢
      refine hc.mono _ _ _ h fun e s' q => ?_;cases e <;> first
        | exact hk _ _ q
        | (simp only [Xae] at q ⊢
           split at q
           · rename_i hq; rw [if_pos hq]; exact hk _ _ q
           · rename_i hq; rw [if_neg hq]; exact hk _ _ q)
    · simp only [Qac] at h ⊢
      obtain ⟨e, s1, h1, h2, h3⟩ := hc.one _ _ h;have : ∃ e2, Xae id K e s1 = K e2 s1 /\ Xae id (Is e2 s1) e s1 := by
        cases e <;> first
          | exact ⟨_, rfl, rfl, rfl⟩
          | (simp only [Xae]
             split
             · exact ⟨_, rfl, rfl, rfl⟩
             · exact ⟨_, rfl, rfl, rfl⟩)
      obtain ⟨e2, q1, q2⟩ := this;rw [q1] at h3;refine ⟨e2, s1, hc.mono _ _ _ h1 ?_, h2, h3⟩;rintro e' s' ⟨rfl, rfl⟩;exact q2
  | .loop c => by
    have hl := Jny (Xxt hL rd c);refine ⟨fun s K K' h hk => ?_, fun s K h => ?_⟩
    · simp only [Qac] at h ⊢
      exact ⟨h.1, hl.mono _ _ _ h.2 hk⟩
    · simp only [Qac] at h ⊢
      obtain ⟨e, s1, h1, h2, h3⟩ := hl.one _ _ h.2;exact ⟨e, s1, ⟨h.1, h1⟩, h2, h3⟩
  | .region _ ops true => by
    refine ⟨fun s K K' h hk => ?_, fun s K h => ?_⟩
    · simp only [Qac] at h ⊢
      rcases h with ⟨B, s1, R, L, d1, h1, h2, h3, h4, h5⟩ | ⟨h1, _⟩
      · exact .inl ⟨B, s1, R, L, d1, h1, h2, h3, h4, hk _ _ h5⟩
      · cases h1
    · simp only [Qac] at h ⊢
      rcases h with ⟨B, s1, R, L, d1, h1, h2, h3, h4, h5⟩ | ⟨h1, _⟩
      · exact ⟨_, _, .inl ⟨B, s1, R, L, d1, h1, h2, h3, h4, rfl, rfl⟩, Jc9 d1 h1 h2 h3 h4, h5⟩
      · cases h1
  | .region _ ops false => by
    have := Jku (P := P) (E := E) (G := G) (rd := rd) ops.toList ops.toList;exact ⟨fun s K K' h hk => by simp only [Qac] at h ⊢; exact this.mono _ _ _ h hk, fun s K h => by simp only [Qac] at h ⊢; exact this.one _ _ h⟩
  | .rangeFunc g ps asn bd => by
    have := Jmf (P := P) (E := E) (G := G) (rd := rd) (g := g) (ps := ps) (asn := asn) (bd := bd);exact ⟨fun s K K' h hk => by simp only [Qac] at h ⊢; exact this.mono _ _ _ h hk, fun s K h => by simp only [Qac] at h ⊢; exact this.one _ _ h⟩
  | .scope .. | .goto .. | .refuse .. => ⟨fun s K K' h _ => by simp [Qac] at h, fun s K h => by simp [Qac] at h⟩
def U2(E:Env2 P){D0:CallF}(hD0:CallsSound P E.G D0)(hL:CallsLow D0)(hm:P.follows .mixedOrders=true){D:Qwn}(hD:Q1s P E.G D)(hDL:Xy3 D){f n:Nat}{args:List Value}{h:Heap}{fn:Func}{c cb:Code}{K:AEnd->Heap->Prop}
  (hfn:E.fn.get f=some fn) (hb:fn.body=some c) (hn:fn.ntmps=n) (hc:U1 c=cb) (hle:Nat.ble args.length n=true) (hx:Qac E (Q5r P E.G) D0 none cb ⟨⟨n,Xm.putAll 0 args .leaf⟩,[],h⟩ (Zh4 E D fn K)):FnK P E.G f args h K:=by
 obtain⟨e,s',h1,h2,h3⟩:=(Xxt (E:=E) (G:=E.G) hL none cb).one _ _ hx;have lv:∀ u,Xep E D fn K u s'->∃ r h',Xep E D fn (fun r1 h1=>r1=r/\h1=h') u s'/\s'.h.next<=h'.next/\K r h':=by
  intro u hu;unfold Xep at hu ⊢;split at hu
  ·rename_i r h' hl;exact⟨r,h',⟨rfl,rfl⟩,(Xmm hDL _ _ _ _ _ hl).next,hu⟩
  ·exact hu.elim
 have : ∃ r h',Zh4 E D fn (fun r1 h1=>r1=r/\h1=h') e s'/\s'.h.next<=h'.next/\K r h':=by
  cases e <;> first
   | exact lv _ h3
   | exact h3.elim
 obtain⟨r,h',q1,q2,q3⟩:=this;refine⟨r,h',Qh3 E (Z96 _ _) hD0 hL hm hD hfn hb hn hc hle ((Xxt (E:=E) (G:=E.G) hL none cb).mono _ _ _ h1 ?_),ai h2 q2,q3⟩;rintro e1 s1 ⟨rfl,rfl⟩;exact q1
end
def Qmo(h:Heap)(x:Blk):(h.push x).next=h.next+1:=Eq.trans rfl rfl
def X2h(h:Heap)(b:Nat)(x:Option Blk):(h.set b x).next=h.next:=Eq.trans rfl rfl
def Jqy{h:Heap}{c:Nat}{x:Blk}(hn:h.next≠c):(h.push x).get c=h.get c:=by rw[Heap.get_push,if_neg hn]
def Jr4{h:Heap}{c:Nat}{x:Blk}(hn:h.next=c):(h.push x).get c=some x:=by rw[Heap.get_push,if_pos hn]
def Jqf{h:Heap}{b c:Nat}{x:Option Blk}(hb:b < h.next)(hn:b≠c):(h.set b x).get c=h.get c:=by rw[gY hb,if_neg hn]
def Jq3{h:Heap}{b c:Nat}{x:Option Blk}(hb:b < h.next)(hn:b=c):(h.set b x).get c=x:=by rw[gY hb,if_pos hn]
section
variable{P:Program}{E:Env P}{t:TypeId}{r:TyRec}
structure OneTy (E:Env P) (t:TypeId) (r:TyRec):Prop where
 e:E.ty.get t=some r
 d:Qea r.desc=false
 size:r.size=1
variable(T:OneTy E t r)
include T
theorem Jqq{h:Heap}{b i z:Nat}{o:Bool}{l:List Value}{v:Value}(hg:h.get b=some (.cells o z l))(hv:l[i]? = some v):Qjm E t (.pointer (some ⟨b,i,none⟩)) h=some v:=by
 simp only[Qjm,T.e,Zlf,T.d,av,if_false,cellsAt,hg,Zte hv]
omit T in
theorem Zhn:∀ (l:List Value) (i:Nat) (v:Value),i < l.length->Qlj l i [v]=some (l.set i v)
 | x::l,0,v,_=>by simp[Qlj,over]
 | x::l,i+1,v,h=>by
  have:=Zhn l i v (by simpa using h);simp[Qlj,this]
 | [],_,_,h=>by simp at h
omit T in
omit T in
theorem Jln{f:FuncId}{first captured:List Value}:X93 (.func f) first captured=some (.func (.func f) first.toArray captured.toArray):=rfl
end
def Xhw{a b:Nat}(h:a<=b):Nat.ble a b=true:=by rw[bU];exact h
def Q2o:∀ {n:Nat} {l:List Value},n<=l.length->Q72 n l=some (l.take n)
 | 0,l,_=>by simp[Q72]
 | n+1,v::l,h=>by simp[Q72,Q2o (n:=n) (l:=l) (by simpa using h)]
 | n+1,[],h=>by simp at h
def Je5:∀ {c l:List Value},l.length<=c.length->over c l=some (l++c.drop l.length)
 | c,[],_=>by cases c <;> simp[over]
 | x::c,v::l,h=>by simp[over,Je5 (c:=c) (l:=l) (by simpa using h)]
 | [],v::l,h=>by simp at h
def Qq8:∀ {c:List Value} {o:Nat} {l:List Value},o+l.length<=c.length->Qlj c o l=some (c.take o++l++c.drop (o+l.length))
 | c,0,l,h=>by simp[Qlj,Je5 (c:=c) (l:=l) (by omega)]
 | x::c,o+1,l,h=>by
  have e:o+1+l.length=(o+l.length)+1:=by omega
  simp[Qlj,Qq8 (c:=c) (o:=o) (l:=l) (by simp at h;omega),e]
 | [],o+1,l,h=>by simp at h
def Qv(x:Bool):aUn .not (.bool x)=some (.bool (!x)):=by cases x <;> kernel_rfl
def Yw(h:Heap)(bk o:Nat):Option Value:=match h.get bk with | some (.cells _ _ c)=>c[o]? | _=>none
def Wy(h:Heap)(bk o z:Nat):Option Value:=match h.get bk with | some (.cells _ _ c)=>(Q72 z (c.drop o)).map fun l => .agg ⟨l⟩ | _=>none
def Ur(h:Heap)(bk o:Nat)(l:List Value):Option Heap:=match h.get bk with | some (.cells true sz c)=>(Qlj c o l).map fun c'=>h.set bk (some (.cells true sz c')) | _=>none
def Xxl:Value->Bool
 | .agg _=>false
 | .tuple _=>false
 | _=>true
def Q29{v:Value}(h:Xxl v=true):Qid v=true/\v.cells = #[v]:=by
 cases v <;> first
  | exact⟨rfl,rfl⟩
  | simp[Xxl]at h
def Yi{h:Heap}{bk o z:Nat}{ow:Bool}{c:List Value}(hg:h.get bk=some (.cells ow z c)):Yw h bk o=c[o]? := by simp[Yw,hg]
def V2{h:Heap}{bk o z k:Nat}{ow:Bool}{c:List Value}(hg:h.get bk=some (.cells ow z c))(hl:o+k<=c.length):Wy h bk o k=some (.agg ⟨(c.drop o).take k⟩):=by
 simp only[Wy,hg];rw[Q2o (by rw[bm];omega)];rfl
def Wh{h:Heap}{bk o z:Nat}{c l:List Value}(hg:h.get bk=some (.cells true z c))(hl:o+l.length<=c.length):Ur h bk o l=some (h.set bk (some (.cells true z (c.take o++l++c.drop (o+l.length))))):=by
 simp only[Ur,hg,Qq8 hl];rfl
def Qeu{h:Heap}{bk o z:Nat}{c:List Value}{v:Value}(hg:h.get bk=some (.cells true z c))(hl:o < c.length):Ur h bk o [v]=some (h.set bk (some (.cells true z (c.set o v)))):=by
 simp only[Ur,hg,Zhn c o v hl];rfl
section
variable{P:Program}{E:Env P}
def Qz0{t:TypeId}{r:TyRec}(he:E.ty.get t=some r)(hd:Qea r.desc=false){h:Heap}{bk o:Nat}:Qjm E t (.pointer (some ⟨bk,o,none⟩)) h=Yw h bk o:=by
 simp only[Qjm,he,Zlf,hd,av,if_false,Ab.cellsAt,Yw];cases h.get bk with
 | none=>rfl
 | some x =>
  cases x with
  | cells ow z c =>
   show(match Q72 1 (c.drop o)with | some [v]=>some v | _=>none)=c[o]?;rcases aU o c.length with hl | hl
   ·rw[Zte (List.getElem?_eq_getElem hl),List.getElem?_eq_getElem hl]
   ·rw[List.getElem?_eq_none hl,bI hl];rfl
  | _=>rfl
def Xv9{t:TypeId}{r:TyRec}{z:Nat}(he:E.ty.get t=some r)(hd:Qea r.desc=true)(hz:r.size=z){h:Heap}{bk o:Nat}:Qjm E t (.pointer (some ⟨bk,o,none⟩)) h=Wy h bk o z:=by
 simp only[Qjm,he,Zlf,hd,if_true,Ab.cellsAt,Wy,hz];cases h.get bk with
 | none=>rfl
 | some x=>cases x <;> rfl
def Q3k{t:TypeId}{r:TyRec}(he:E.ty.get t=some r)(hz:r.size=1){h:Heap}{bk o:Nat}{v:Value}(hv:Xxl v=true):Qbw E t (.pointer (some ⟨bk,o,none⟩)) v h=Ur h bk o [v]:=by
 obtain⟨h1,h2⟩:=Q29 hv;simp only[Qbw,he,Yzu,h1,h2,hz,storeAt,Ur];rfl
def Qx2{t:TypeId}{r:TyRec}(he:E.ty.get t=some r){h:Heap}{bk o:Nat}{l:List Value}(hl:l.length=r.size):Qbw E t (.pointer (some ⟨bk,o,none⟩)) (.agg ⟨l⟩) h=Ur h bk o l:=by
 have h1:(Value.agg ⟨l⟩).cells=⟨l⟩:=rfl;have h2:(Qid (.agg ⟨l⟩) && (Value.agg ⟨l⟩).cells.size == r.size)=true:=by
  rw[h1];simp[Qid,hl]
 simp only[Qbw,he,Yzu];rw[if_pos h2];rfl
structure SlTy (E:Env P) (te ts:TypeId) (re rs:TyRec):Prop where
 e:E.ty.get te=some re
 s:E.ty.get ts=some rs
 d:rs.desc=.slice te
structure ArTy (E:Env P) (n:Nat) (te ts:TypeId) (re rs:TyRec):Prop where
 e:E.ty.get te=some re
 s:E.ty.get ts=some rs
 d:rs.desc=.array n te
def Qsf{te ts:TypeId}{re rs:TyRec}{z:Nat}(T:SlTy E te ts re rs)(hz:re.size=z){bk o n c:Nat}{k:IntKind}{i:Int}(h:0<=i/\i < n):V5 E ts (.slice (some ⟨bk,o,none⟩) n c) (.int k i)=some (.pointer (some ⟨bk,o+i.toNat*z,none⟩)):=by
 simp only[V5,T.s,T.d,T.e,hz,if_pos h,Qq7]
def Yxs{n:Nat}{te ts:TypeId}{re rs:TyRec}{z:Nat}(T:ArTy E n te ts re rs)(hz:re.size=z){bk o:Nat}{k:IntKind}{i:Int}(h:0<=i/\i < n):V5 E ts (.pointer (some ⟨bk,o,none⟩)) (.int k i)=some (.pointer (some ⟨bk,o+i.toNat*z,none⟩)):=by
 simp only[V5,T.s,T.d,T.e,hz,if_pos h,Qq7]
end
def J4:Value->Option Nat
 | .slice (some a) _ _=>some a.block
 | .pointer (some a)=>some a.block
 | .map (some b)=>some b
 | _=>none
def Sl(h:Heap)(z:Nat)(v:Value)(n:Nat)(xs:List Value):Prop :=
 (∃ c,v=.slice none 0 c/\c < Ql9/\n=0/\xs=[]) ∨ ∃ bk o c ow z' pre post,v=.slice (some ⟨bk,o,none⟩) n c/\h.get bk=some (.cells ow z' (pre++xs++post))/\pre.length=o/\xs.length=n*z/\n<=c/\c<=Ql9/\(c=Ql9->z'=z/\o % z=0/\(ow=true∨n=0/\pre++xs++post=[]))
def Own(h:Heap)(n0 z:Nat)(v:Value)(n:Nat)(xs:List Value):Prop :=
 (v=.slice none 0 0/\n=0/\xs=[]) ∨ ∃ bk c z' rest,v=.slice (some ⟨bk,0,none⟩) n c/\n0<=bk/\h.get bk=some (.cells true z' (xs++rest))/\xs.length=n*z/\n<=c/\c<=Ql9/\(c=Ql9/\z'=z∨c≠Ql9/\(xs++rest).length=c*z)
def Own.sl{h:Heap}{n0 z n:Nat}{v:Value}{xs:List Value}(o:Own h n0 z v n xs):Sl h z v n xs:=by
 rcases o with⟨rfl,rfl,rfl⟩ | ⟨bk,c,z',rest,rfl,h1,h2,h3,h4,h5,h6⟩
 ·exact .inl ⟨0,rfl,by simp[Ql9],rfl,rfl⟩
 ·refine .inr ⟨bk,0,c,true,z',[],rest,rfl,by simpa using h2,rfl,h3,h4,h5,fun hc => ?_⟩;rcases h6 with⟨_,h7⟩ | ⟨h7,_⟩
  ·exact⟨h7,Nat.zero_mod _,.inl rfl⟩
  ·exact absurd hc h7
def Own.len{h:Heap}{n0 z n:Nat}{v:Value}{xs:List Value}(o:Own h n0 z v n xs):xs.length=n*z:=by
 rcases o with⟨rfl,rfl,rfl⟩ | ⟨bk,c,z',rest,rfl,h1,h2,h3,h4⟩
 ·simp
 ·exact h3
def Sl.len{h:Heap}{z n:Nat}{v:Value}{xs:List Value}(o:Sl h z v n xs):xs.length=n*z:=by
 rcases o with⟨c,rfl,_,rfl,rfl⟩ | ⟨bk,o,c,ow,z',pre,post,rfl,h1,h2,h3,h4⟩
 ·simp
 ·exact h3
def Own.one{h:Heap}{n0 z n:Nat}{v:Value}{xs:List Value}(o:Own h n0 z v n xs):Xxl v=true:=by
 rcases o with⟨rfl,rfl,rfl⟩ | ⟨bk,c,z',rest,rfl,h1,h2,h3,h4⟩ <;> rfl
def Sl.one{h:Heap}{z n:Nat}{v:Value}{xs:List Value}(o:Sl h z v n xs):Xxl v=true:=by
 rcases o with⟨c,rfl,_,rfl,rfl⟩ | ⟨bk,o,c,ow,z',pre,post,rfl,h1,h2,h3⟩ <;> rfl
def Own.keep{h h':Heap}{n0 z n:Nat}{v:Value}{xs:List Value}(o:Own h n0 z v n xs)(hk:∀ c,J4 v=some c->c < h.next->h'.get c=h.get c):Own h' n0 z v n xs:=by
 rcases o with⟨rfl,rfl,rfl⟩ | ⟨bk,c,z',rest,rfl,h1,h2,h3,h4⟩
 ·exact .inl ⟨rfl,rfl,rfl⟩
 ·exact .inr ⟨bk,c,z',rest,rfl,h1,by rw[hk bk rfl (Heap.get_lt h2)];exact h2,h3,h4⟩
def Sl.keep{h h':Heap}{z n:Nat}{v:Value}{xs:List Value}(o:Sl h z v n xs)(hk:∀ c,J4 v=some c->c < h.next->h'.get c=h.get c):Sl h' z v n xs:=by
 rcases o with⟨c,rfl,h0,rfl,rfl⟩ | ⟨bk,o,c,ow,z',pre,post,rfl,h1,h2,h3⟩
 ·exact .inl ⟨c,rfl,h0,rfl,rfl⟩
 ·exact .inr ⟨bk,o,c,ow,z',pre,post,rfl,by rw[hk bk rfl (Heap.get_lt h1)];exact h1,h2,h3⟩
def Own.low{h:Heap}{n0 n1 z n:Nat}{v:Value}{xs:List Value}(o:Own h n0 z v n xs)(hn:n1<=n0):Own h n1 z v n xs:=by
 rcases o with⟨rfl,rfl,rfl⟩ | ⟨bk,c,z',rest,rfl,h1,h2,h3,h4⟩
 ·exact .inl ⟨rfl,rfl,rfl⟩
 ·exact .inr ⟨bk,c,z',rest,rfl,by omega,h2,h3,h4⟩
def Own.from{h:Heap}{n0 z n:Nat}{v:Value}{xs:List Value}(o:Own h n0 z v n xs){c:Nat}(hc:J4 v=some c):n0<=c/\c < h.next:=by
 rcases o with⟨rfl,rfl,rfl⟩ | ⟨bk,c',z',rest,rfl,h1,h2,h3,h4⟩
 ·cases hc
 ·cases hc;exact⟨h1,Heap.get_lt h2⟩
def Own.nil{h:Heap}{n0 z:Nat}:Own h n0 z (.slice none 0 0) 0 []:=.inl ⟨rfl,rfl,rfl⟩
def Sl.nil{h:Heap}{z:Nat}:Sl h z (.slice none 0 0) 0 []:=.inl ⟨0,rfl,by simp[Ql9],rfl,rfl⟩
def Own.new{h:Heap}{n0 z n c z':Nat}{xs:List Value}{bk:Nat}(hb:n0<=bk)(hg:h.get bk=some (.cells true z' xs))(hx:xs.length=n*z)(hn:n < Ql9)(hc:c=Ql9/\z'=z∨c=n):Own h n0 z (.slice (some ⟨bk,0,none⟩) n c) n xs:=by
 refine .inr ⟨bk,c,z',[],rfl,hb,by simpa using hg,hx,?_,?_,?_⟩
 ·rcases hc with⟨rfl,_⟩ | rfl <;> omega
 ·rcases hc with⟨rfl,_⟩ | rfl <;> omega
 ·rcases hc with h | rfl
  ·exact .inl h
  ·exact .inr ⟨by omega,by simpa using hx⟩
def Sl.blk{h:Heap}{z n:Nat}{v:Value}{xs:List Value}(o:Sl h z v n xs){c:Nat}(hc:J4 v=some c):c < h.next:=by
 rcases o with⟨k,rfl,_,rfl,rfl⟩ | ⟨bk,o,k,ow,z',pre,post,rfl,h1,h2,h3⟩
 ·cases hc
 ·cases hc;exact Heap.get_lt h1
def Old(h h':Heap):Prop:=h.next<=h'.next/\∀ c,c < h.next->h'.get c=h.get c
def Old.refl(h:Heap):Old h h:=⟨ab _,fun _ _=>rfl⟩
def Old.trans{h h' h'':Heap}(a:Old h h')(b:Old h' h''):Old h h'':=⟨ai a.1 b.1,fun c hc=>by rw[b.2 c (au hc a.1),a.2 c hc]⟩
def Old.push(h:Heap)(x:Blk):Old h (h.push x):=⟨bH _,fun c hc=>by rw[Heap.get_push,if_neg (by omega)]⟩
def Old.push' {h h':Heap}(a:Old h h')(x:Blk):Old h (h'.push x):=a.trans (Old.push _ _)
def Old.set{h h':Heap}(a:Old h h'){b:Nat}(x:Option Blk)(h0:h.next<=b)(h1:b < h'.next):Old h (h'.set b x):=⟨a.1,fun c hc=>by rw[gY h1,if_neg (by omega),a.2 c hc]⟩
def Old.get{h h':Heap}(a:Old h h'){c:Nat}{x:Blk}(hc:h.get c=some x):h'.get c=some x:=by rw[a.2 c (Heap.get_lt hc),hc]
def Sl.old{h h':Heap}{z n:Nat}{v:Value}{xs:List Value}(o:Sl h z v n xs)(a:Old h h'):Sl h' z v n xs:=o.keep fun c _ hc=>a.2 c hc
def Beyond(v:Value)(h h':Heap):Prop:=h.next<=h'.next/\∀ c,c < h.next->J4 v≠some c->h'.get c=h.get c
def Beyond.old{h h0 h':Heap}{n z:Nat}{v:Value}{xs:List Value}(a:Old h h0)(o:Own h0 h.next z v n xs)(b:Beyond v h0 h'):Old h h' :=
 ⟨ai a.1 b.1,fun c hc=>by
  rw[b.2 c (au hc a.1) (fun e=>by have:=(o.from e).1;omega),a.2 c hc]⟩
def by8(n:Nat):Value:=.int .u8 (n:Int)
def Uq{z:Int}(h0 : -9223372036854775808<=z)(h1:z<=9223372036854775807):IntKind.i64.wrap z=z:=by
 have : IntKind.i64.wrap z=(if z % 18446744073709551616 ≥ 9223372036854775808 then z % 18446744073709551616-18446744073709551616 else z % 18446744073709551616):=by
  simp[IntKind.wrap,IntKind.bits,IntKind.signed]
 rw[this];split <;> omega
def wS{i:Nat}(h:i < 4611686018427387904):IntKind.i64.wrap ((i:Int)+1)=((i+1:Nat):Int):=by rw[Uq (by omega) (by omega)];omega
def Jhz{n:Nat}(h:n < 256):IntKind.u8.wrap (n:Int)=n:=by
 show((n:Int) % (2 ^ 8:Int))=n;omega
section
variable{P:Program}{E:Env P}{te ts:TypeId}{re rs:TyRec}(T:SlTy E te ts re rs)
include T
theorem Yc8{tx:TypeId}{h:Heap}{n0 z n m:Nat}{v x:Value}{xs ys:List Value}(hz:re.size=z)(hz1:1<=z)(o:Own h n0 z v n xs)(h0:n0<=h.next)(hn:Ybb E tx re x h=some (m,ys))(hm:ys.length=m*z)
  (hb1:(n+m)*re.bytes<=140737488355328) (hb2:n+m<=140737488355328) :
  ∃ v' h',Qjr E ts tx v x h=some (v',h')/\Own h' n0 z v' (n+m) (xs++ys)/\Beyond v h h'/\∀ c,J4 v'=some c->J4 v=some c∨c=h.next:=by
 have q1:Nat.ble 1 re.size=true:=by rw[hz];exact Xhw hz1
 have q2:(ys.length != m*re.size)=false:=by rw[hz,hm];simp
 have q3:(Nat.ble ((n+m)*re.bytes) 140737488355328 && Nat.ble (n+m) 140737488355328)=true:=by rw[ao];exact⟨Xhw hb1,Xhw hb2⟩
 have oO:∀ k:Nat,k<=140737488355328->k≠Ql9:=fun k hk=>by unfold Ql9;omega
 have pushed:∀ olds:List Value,olds.length=n*z->olds=xs->∀ h1:Heap,Beyond v h h1->h1.next=h.next->Own (h1.push (.cells true re.size (olds++ys))) n0 z (.slice (some ⟨h1.next,0,none⟩) (n+m) Ql9) (n+m) (xs++ys)/\Beyond v h (h1.push (.cells true re.size (olds++ys))):=by
  rintro olds hl rfl h1 hb hnx;refine⟨Own.new (by omega) (by rw[Heap.get_push,if_pos rfl,hz]) (by rw[ae,hl,hm,bF]) (by unfold Ql9;omega) (.inl ⟨rfl,rfl⟩),?_,fun c hc hne => ?_⟩
  ·show h.next<=h1.next+1;omega
  ·rw[Heap.get_push,if_neg (by omega),hb.2 c hc hne]
 have inplace:∀ (bk c z':Nat) (rest:List Value),v=.slice (some ⟨bk,0,none⟩) n c->n0<=bk->h.get bk=some (.cells true z' (xs++rest))->xs.length=n*z->c<=Ql9->n+m<=c->(c=Ql9/\z'=z∨c≠Ql9/\(xs++rest).length=c*z)->ys.length<=rest.length ->
   storeAt h ⟨bk,n*z,none⟩ ys=some (h.set bk (some (.cells true z' (xs++ys++rest.drop ys.length))))/\Own (h.set bk (some (.cells true z' (xs++ys++rest.drop ys.length)))) n0 z (.slice (some ⟨bk,0,none⟩) (n+m) c) (n+m) (xs++ys)/\Beyond v h (h.set bk (some (.cells true z' (xs++ys++rest.drop ys.length)))):=by
  intro bk c z' rest hv hb hg hx hc0 hnm hc hr;refine⟨?_,?_,ab _,fun k hk hne => ?_⟩
  ·simp only[storeAt,hg];rw[Qq8 (by rw[ae,hx];omega),<- hx];simp[dh,bI (show xs.length<=xs.length+ys.length by omega)]
  ·refine .inr ⟨bk,c,z',rest.drop ys.length,rfl,hb,by rw[gY (Heap.get_lt hg),if_pos rfl],by rw[ae,hx,hm,bF],hnm,hc0,?_⟩;rcases hc with h1 | ⟨h1,h2⟩
   ·exact .inl h1
   ·refine .inr ⟨h1,?_⟩;rw[<- h2];simp only[ae,bm];omega
  ·subst hv;rw[gY (Heap.get_lt hg),if_neg (fun e=>hne (by rw[<- e];rfl))]
 have hrefl:Beyond v h h:=⟨ab _,fun _ _ _=>rfl⟩;rcases o with⟨rfl,rfl,rfl⟩ | ⟨bk,c,z',rest,rfl,hb,hg,hx,hnc,hcO,hc⟩
 ·have e0:((0:Nat) != Ql9)=true:=by decide
  simp only[Qjr,T.s,T.d,T.e,q1,bV,hn,q2,e0,cT,q3];cases ys with
  | nil =>
   have : m=0:=by
    cases m with
    | zero=>rfl
    | succ m=>simp at hm;rw[bF]at hm;omega
   subst this;exact⟨_,_,rfl,Own.nil,hrefl,fun c hc=>by cases hc⟩
  | cons y ys =>
   have hm0:m≠0:=by rintro rfl;simp at hm
   have e1:Nat.ble (0+m) 0=false:=by rw[bJ];intro h;rw[bU]at h;omega
   simp only[e1];obtain⟨p1,p2⟩:=pushed [] (by simp) rfl h hrefl rfl;exact⟨_,_,rfl,p1,p2,fun c hc => .inr (by cases hc;rfl)⟩
 ·simp only[Qjr,T.s,T.d,T.e,q1,bV,hn,q2,q3];rcases hc with⟨rfl,rfl⟩ | ⟨hc1,hc2⟩
  ·have e0:(Ql9 != Ql9)=false:=by simp
   have e3:(z' == re.size && 0 % z' == 0)=true:=by simp[hz]
   have e4:((0:Nat) == 0)=true:=rfl;simp only[e0,Bool.false_and,av,if_false,hg,e3,bV,ba,e4,if_true];by_cases hroom:(n+m)*z'<=(xs++rest).length
   ·have e5:Nat.ble ((n+m)*z') (xs++rest).length=true:=Xhw hroom;have hr:ys.length<=rest.length:=(by rw[ae,hx,bF]at hroom;omega);simp only[e5];obtain⟨p1,p2,p3⟩:=inplace bk Ql9 z' rest rfl hb hg hx (ab _) (by unfold Ql9;omega) (.inl ⟨rfl,rfl⟩) hr;cases ys with
    | nil =>
     refine⟨_,_,rfl,?_,hrefl,fun c hc => .inl (by cases hc;rfl)⟩;have hm0:m=0:=by
      cases m with
      | zero=>rfl
      | succ m=>simp at hm;rw[bF]at hm;omega
     subst hm0;exact .inr ⟨bk,Ql9,z',rest,rfl,hb,by simpa using hg,by simpa using hx,hnc,hcO,.inl ⟨rfl,rfl⟩⟩
    | cons y ys =>
     have ea:(⟨bk,0,none⟩:Addr).add (n*z')=⟨bk,n*z',none⟩:=by rw[Qq7,ba]
     refine⟨_,_,?_,p2,p3,fun c hc => .inl (by cases hc;rfl)⟩;simp only[ea,p1];rfl
   ·have e5:Nat.ble ((n+m)*z') (xs++rest).length=false:=by rw[bJ];intro h;rw[bU]at h;omega
    have e6:Q72 (n*z') (xs++rest)=some xs:=by
     rw[Q2o (by rw[ae,hx];omega),<- hx];simp
    simp only[e5,av,if_false,e6];obtain⟨p1,p2⟩:=pushed xs hx rfl (h.set bk none) ⟨ab _,fun c hc hne=>by rw[gY (Heap.get_lt hg),if_neg (fun e=>hne (by rw[<- e];rfl))]⟩ rfl;rw[hz]at p1 p2;exact⟨_,_,rfl,p1,p2,fun c hc => .inr (by cases hc;rfl)⟩
  ·have e0:(c != Ql9)=true:=by simpa using hc1
   simp only[e0,cT];by_cases hroom:n+m<=c
   ·have e5:Nat.ble (n+m) c=true:=Xhw hroom;have hr:ys.length<=rest.length:=by
     have : (n+m)*z<=c*z:=bC _ hroom;rw[<- hc2,ae,hx,bF]at this;omega
    simp only[e5];obtain⟨p1,p2,p3⟩:=inplace bk c z' rest rfl hb hg hx hcO hroom (.inr ⟨hc1,hc2⟩) hr;cases ys with
    | nil =>
     refine⟨_,_,rfl,?_,hrefl,fun c hc => .inl (by cases hc;rfl)⟩;have hm0:m=0:=by
      cases m with
      | zero=>rfl
      | succ m=>simp at hm;rw[bF]at hm;omega
     subst hm0;exact .inr ⟨bk,c,z',rest,rfl,hb,by simpa using hg,by simpa using hx,hnc,hcO,.inr ⟨hc1,by simpa using hc2⟩⟩
    | cons y ys =>
     have ea:(⟨bk,0,none⟩:Addr).add (n*re.size)=⟨bk,n*z,none⟩:=by rw[Qq7,ba,hz]
     refine⟨_,_,?_,p2,p3,fun c hc => .inl (by cases hc;rfl)⟩;simp only[ea,p1];rfl
   ·have e5:Nat.ble (n+m) c=false:=by rw[bJ];intro h;rw[bU]at h;omega
    have e6:Ab.cellsAt h ⟨bk,0,none⟩ (n*re.size)=some xs:=by
     simp only[Ab.cellsAt,hg,hz,bB];rw[Q2o (by rw[ae,hx];omega),<- hx];simp
    simp only[e5,av,if_false,e6];obtain⟨p1,p2⟩:=pushed xs hx rfl h hrefl rfl;exact⟨_,_,rfl,p1,p2,fun c hc => .inr (by cases hc;rfl)⟩
theorem Xcu{tx:TypeId}{h:Heap}{n0 z n m:Nat}{v x:Value}{xs ys:List Value}(hz:re.size=z)(hz1:1<=z)(o:Own h n0 z v n xs)(h0:n0<=h.next)(hn:Ybb E tx re x h=some (m,ys))(hm:ys.length=m*z)
  (hb1:(n+m)*re.bytes<=140737488355328) (hb2:n+m<=140737488355328) :
  ∃ v' h',Qjr E ts tx v x h=some (v',h')/\Own h' n0 z v' (n+m) (xs++ys)/\Beyond v h h':=by
 obtain⟨v',h',k1,k2,k3, -⟩:=Yc8 T hz hz1 o h0 hn hm hb1 hb2;exact⟨v',h',k1,k2,k3⟩
theorem Ymy{h:Heap}{z n:Nat}{x:Value}{ys:List Value}(hz:re.size=z)(s:Sl h z x n ys):Ybb E ts re x h=some (n,ys):=by
 rcases s with⟨c,rfl,_,rfl,rfl⟩ | ⟨bk,o,c,ow,z',pre,post,rfl,h1,h2,h3, -⟩
 ·simp[Ybb,T.s,T.d,X7n,Zzn]
 ·have : Q72 (n*re.size) ((pre++ys++post).drop o)=some ys:=by
   rw[hz,<- h2,aM,bZ,Q2o (by rw[ae,h3];omega),<- h3];simp
  simp[Ybb,T.s,T.d,X7n,Zzn,Ab.cellsAt,h1,this,-List.append_assoc]
theorem Q7o{h:Heap}{z n:Nat}{v:Value}{xs:List Value}(hz:re.size=z)(s:Sl h z v n xs){k:IntKind}{i:Int}(h0:0<=i)(h1:i < n) :
  ∃ bk o,J4 v=some bk/\V5 E ts v (.int k i)=some (.pointer (some ⟨bk,o,none⟩))/\(∀ j,j < z->Yw h bk (o+j)=xs[i.toNat*z+j]?)/\Wy h bk o z=some (.agg ⟨(xs.drop (i.toNat*z)).take z⟩):=by
 rcases s with⟨c,rfl,_,rfl,rfl⟩ | ⟨bk,o,c,ow,z',pre,post,rfl,g1,g2,g3, -⟩
 ·omega
 ·have hi:i.toNat*z+z<=n*z:=by
   have : (i.toNat+1)*z<=n*z:=bC _ (by omega);rw[bF]at this;omega
  refine⟨bk,o+i.toNat*z,rfl,Qsf T hz ⟨h0,h1⟩,fun j hj => ?_,?_⟩
  ·rw[Yi g1,aM,List.getElem?_append_right (by omega),List.getElem?_append_left (by omega)];congr 1;omega
  ·rw[V2 g1 (by simp only[ae];omega)];congr 3;rw[<- g2,aM,dh,bI (by omega),dU,List.drop_append_of_le_length (by omega),aF (by rw[bm];omega)];congr 2;omega
theorem Jb8{h:Heap}{z n l hh:Nat}{v:Value}{xs:List Value}{lo hi:Option Value}(hz:re.size=z)(hz1:1<=z)(s:Sl h z v n xs)(hlo:Qhl lo 0 hh=some l)(hhi:∀ room,n<=room->Qhl hi n room=some hh)(hl:l<=hh)(hn:hh<=n) :
  ∃ v' h',Qes E ts v lo hi none h=some (v',h')/\Sl h' z v' (hh-l) ((xs.drop (l*z)).take ((hh-l)*z))/\Old h h'/\(J4 v'=J4 v/\h'=h∨J4 v'=some h.next/\hh=l)/\(l=0->h'=h/\∃ a c,v=.slice a n c/\v'=.slice a hh c):=by
 have ml:(hh-l)*z=hh*z-l*z:=eu _ _ _;have hnz:hh*z<=n*z:=bC _ hn;have hlz:l*z<=hh*z:=bC _ hl;have e00:(hi.isNone && (none:Option Value).isSome)=false:=by simp
 rcases s with⟨c,rfl,h0,rfl,rfl⟩ | ⟨bk,o,c,ow,z',pre,post,rfl,h1,h2,h3,h4,h5,h6⟩
 ·have : hh=0:=by omega
  subst this;have : l=0:=by omega
  subst this;have e0:(c != Ql9)=true:=by simp;omega
  have e1:(c-0 == Ql9)=false:=by simp;omega
  have e2:Qhl (none:Option Value) c c=some c:=rfl;refine⟨.slice none 0 c,h,?_,.inl ⟨c,rfl,h0,rfl,by simp⟩,Old.refl _,.inl ⟨rfl,rfl⟩,fun _=>⟨rfl,none,c,rfl,rfl⟩⟩;simp only[Qes,e00,av,if_false,T.s,T.d,T.e,e0,if_true,e2,hhi c (bn _),hlo,Jkm,e1];simp
 ·have hx:(xs.drop (l*z)).take ((hh-l)*z)=((xs.drop (l*z)).take ((hh-l)*z)):=rfl;have split3:∀ k,k=l*z->pre++xs++post=(pre++xs.take k)++(xs.drop k).take ((hh-l)*z)++((xs.drop k).drop ((hh-l)*z)++post):=by
   intro k _;have a1:xs=xs.take k++((xs.drop k).take ((hh-l)*z)++(xs.drop k).drop ((hh-l)*z)):=by rw[bf,bf]
   conv=>lhs;rw[a1]
   simp only[aM]
  have lenm:((xs.drop (l*z)).take ((hh-l)*z)).length=(hh-l)*z:=by rw[br,bm,h3];omega
  by_cases hc:c=Ql9
  ·subst hc;obtain⟨rfl,g1,g2⟩:=h6 rfl;have e0:(Ql9 != Ql9)=false:=by simp
   have e1:(z' == re.size && o % z' == 0 && Nat.ble 1 z')=true:=by simp[hz,g1,Xhw hz1]
   have stay:l=0->Sl h z' (.slice (some ⟨bk,o,none⟩) hh Ql9) (hh-l) ((xs.drop (l*z')).take ((hh-l)*z')):=by
    rintro rfl;refine .inr ⟨bk,o,Ql9,ow,z',pre,xs.drop (hh*z')++post,rfl,?_,h2,lenm,by omega,ab _,fun _=>⟨rfl,g1,?_⟩⟩
    ·rw[h1,split3 0 (by simp)];simp
    ·rcases g2 with g | ⟨ga,gb⟩
     ·exact .inl g
     ·refine .inr ⟨by omega,?_⟩;have : xs.length=0:=(by rw[h3,ga];simp);have hxs:xs=[]:=aY this;subst hxs;simpa using gb
   cases ow with
   | false =>
    rcases g2 with g | ⟨ga,gb⟩
    ·cases g
    ·subst ga;have : hh=0:=(by omega);subst this;have : l=0:=(by omega);subst this;rw[gb]at h1;simp only[Qes,e00,av,if_false,T.s,T.d,T.e,e0,h1,e1,if_true,hhi 0 (ab _),hlo,beq_self_eq_true];exact⟨_,h,rfl,stay rfl,Old.refl _,.inl ⟨rfl,rfl⟩,fun _=>⟨rfl,_,_,rfl,rfl⟩⟩
   | true =>
    have hroom:n<=((pre++xs++post).length-o) / z':=by
     rw[Nat.le_div_iff_mul_le (by omega)];simp only[ae];omega
    have key:∃ v' h',Qes E ts (.slice (some ⟨bk,o,none⟩) n Ql9) lo hi none h=Qes.aCut ⟨bk,o,none⟩ z' (pre++xs++post).length l hh h/\Qes.aCut ⟨bk,o,none⟩ z' (pre++xs++post).length l hh h=some (v',h')/\Sl h' z' v' (hh-l) ((xs.drop (l*z')).take ((hh-l)*z'))/\Old h h'/\(J4 v'=some bk/\h'=h∨J4 v'=some h.next/\hh=l)/\(l=0->h'=h/\v'=.slice (some ⟨bk,o,none⟩) hh Ql9):=by
     have q1:Qes E ts (.slice (some ⟨bk,o,none⟩) n Ql9) lo hi none h=Qes.aCut ⟨bk,o,none⟩ z' (pre++xs++post).length l hh h:=by
      simp only[Qes,e00,av,if_false,T.s,T.d,T.e,e0,h1,e1,if_true];cases hi with
      | none =>
       have : hh=n:=(by have:=hhi n (ab _);simp[Qhl]at this;omega);subst this;simp only[hlo]
      | some hv=>simp only[hhi _ hroom,hlo]
     by_cases hl0:l=0
     ·subst hl0;exact⟨.slice (some ⟨bk,o,none⟩) hh Ql9,h,q1,by simp[Qes.aCut],stay rfl,Old.refl _,.inl ⟨rfl,rfl⟩,fun _=>⟨rfl,rfl⟩⟩
     ·have hl0':(l == 0)=false:=by simpa using hl0
      by_cases hb:o+l*z' < (pre++xs++post).length
      ·have hb':Nat.blt (o+l*z') (pre++xs++post).length=true:=by rw[cu];exact hb
       refine⟨.slice (some ⟨bk,o+l*z',none⟩) (hh-l) Ql9,h,q1,by simp only[Qes.aCut,hl0',av,if_false,hb',if_true,Qq7],?_,Old.refl _,.inl ⟨rfl,rfl⟩,fun e=>absurd e hl0⟩;refine .inr ⟨bk,o+l*z',Ql9,true,z',pre++xs.take (l*z'),(xs.drop (l*z')).drop ((hh-l)*z')++post,rfl,?_,?_,lenm,by omega,ab _,fun _=>⟨rfl,?_,.inl rfl⟩⟩
       ·rw[h1,split3 _ rfl]
       ·rw[ae,br,h2];omega
       ·rw[Nat.add_mul_mod_self_right];exact g1
      ·have hb':Nat.blt (o+l*z') (pre++xs++post).length=false:=by rw[bJ];intro h;rw[cu]at h;omega
       have hlen:(pre++xs++post).length ≥ o+hh*z':=by simp only[ae];omega
       have hle:hh<=l:=by
        rcases aU l hh with hlt | hge
        ·have : (l+1)*z'<=hh*z':=bC _ hlt;rw[bF]at this;omega
        ·exact hge
       have e9:hh=l:=(by omega);subst e9;refine⟨.slice (some ⟨h.next,0,none⟩) 0 Ql9,h.push (.cells false z' []),q1,by simp only[Qes.aCut,hl0',av,if_false,hb',Xhw hle,if_true],?_,Old.push _ _,.inr ⟨rfl,rfl⟩,fun e=>absurd e hl0⟩;refine .inr ⟨h.next,0,Ql9,false,z',[],[],?_,?_,rfl,by simp,by omega,ab _,fun _=>⟨rfl,Nat.zero_mod _,.inr ⟨by omega,by simp⟩⟩⟩
       ·simp
       ·rw[Heap.get_push,if_pos rfl];simp
    obtain⟨v',h',k1,k2,k3,k4,k5,k6⟩:=key;exact⟨v',h',by rw[k1,k2],k3,k4,k5,fun e=>⟨(k6 e).1,_,_,rfl,(k6 e).2⟩⟩
  ·have e0:(c != Ql9)=true:=by simpa using hc
   have e1:(c-l == Ql9)=false:=by simp;omega
   have e2:Qhl (none:Option Value) c c=some c:=rfl;refine⟨.slice (if c=l then some ⟨bk,o,none⟩else(some ⟨bk,o,none⟩:Option Addr).map (·.add (l*re.size))) (hh-l) (c-l),h,?_,?_,Old.refl _,.inl ⟨?_,rfl⟩,?_⟩
   ·simp only[Qes,e00,av,if_false,T.s,T.d,T.e,e0,if_true,e2,hhi c h4,hlo,Jkm,e1];rfl
   ·by_cases hcl:c=l
    ·have : hh-l=0:=(by omega);rw[if_pos hcl,this];refine .inr ⟨bk,o,c-l,ow,z',pre,xs++post,rfl,by simpa using h1,h2,by simp,by omega,by omega,fun hq => ?_⟩;unfold Ql9 at hq;omega
    ·rw[if_neg hcl];simp only[ax,Qq7,hz];refine .inr ⟨bk,o+l*z,c-l,ow,z',pre++xs.take (l*z),(xs.drop (l*z)).drop ((hh-l)*z)++post,rfl,?_,?_,lenm,by omega,by omega,fun hq => ?_⟩
     ·rw[h1,split3 _ rfl]
     ·rw[ae,br,h2];omega
     ·exfalso;omega
   ·split <;> simp[J4,Qq7]
   ·rintro rfl;refine⟨rfl,some ⟨bk,o,none⟩,c,rfl,?_⟩;split <;> simp[Qq7]
omit T in
theorem Yi7{d n:Nat}{k:IntKind}{i:Int}(h0:0<=i)(h1:i<=n):Qhl (some (.int k i)) d n=some i.toNat:=by simp[Qhl,h0,h1]
theorem Jn6{h:Heap}{z n:Nat}{v:Value}{xs:List Value}{k:IntKind}{i:Int}(hz:re.size=z)(hz1:1<=z)(s:Sl h z v n xs)(h0:0<=i)(h1:i<=n) :
  ∃ v' h',Qes E ts v (some (.int k i)) none none h=some (v',h')/\Sl h' z v' (n-i.toNat) (xs.drop (i.toNat*z))/\Old h h'/\(J4 v'=J4 v/\h'=h∨J4 v'=some h.next/\n=i.toNat):=by
 obtain⟨v',h',k1,k2,k3,k4, -⟩:=Jb8 T (lo:=some (.int k i)) (hi:=none) (l:=i.toNat) (hh:=n) hz hz1 s (Yi7 h0 h1) (fun _ _=>rfl) (by omega) (ab _);refine⟨v',h',k1,?_,k3,k4⟩;rwa [aj (by rw[bm,s.len,eu];omega)]at k2
theorem Jt0{h:Heap}{z n:Nat}{v:Value}{xs:List Value}{k:IntKind}{i:Int}(hz:re.size=z)(hz1:1<=z)(s:Sl h z v n xs)(h0:0<=i)(h1:i<=n) :
  ∃ v',Qes E ts v none (some (.int k i)) none h=some (v',h)/\Sl h z v' i.toNat (xs.take (i.toNat*z))/\J4 v'=J4 v:=by
 obtain⟨v',h',k1,k2,k3,k4,k5⟩:=Jb8 T (lo:=none) (hi:=some (.int k i)) (l:=0) (hh:=i.toNat) hz hz1 s rfl (fun room hr=>Yi7 h0 (by omega)) (by omega) (by omega);obtain⟨rfl,a,c,rfl,rfl⟩:=k5 rfl;refine⟨_,k1,by simpa using k2,?_⟩;cases a <;> rfl
theorem Zvv{h:Heap}{n0 z n:Nat}{v:Value}{xs:List Value}{k:IntKind}{i:Int}(hz:re.size=z)(hz1:1<=z)(s:Own h n0 z v n xs)(h0:0<=i)(h1:i<=n) :
  ∃ v',Qes E ts v none (some (.int k i)) none h=some (v',h)/\Own h n0 z v' i.toNat (xs.take (i.toNat*z))/\J4 v'=J4 v:=by
 obtain⟨v',h',k1,k2,k3,k4,k5⟩:=Jb8 T (lo:=none) (hi:=some (.int k i)) (l:=0) (hh:=i.toNat) hz hz1 s.sl rfl (fun room hr=>Yi7 h0 (by omega)) (by omega) (by omega);obtain⟨rfl,a,c,rfl,rfl⟩:=k5 rfl;refine⟨_,k1,?_,by cases a <;> rfl⟩;rcases s with⟨e,rfl,rfl⟩ | ⟨bk,c',z',rest,e,g1,g2,g3,g4,g5,g6⟩
 ·cases e;have : i.toNat=0:=by omega
  rw[this];exact .inl ⟨rfl,rfl,by simp⟩
 ·cases e;have hi:i.toNat*z<=n*z:=bC _ (by omega);refine .inr ⟨bk,c,z',xs.drop (i.toNat*z)++rest,rfl,g1,?_,?_,by omega,g5,?_⟩
  ·rw[g2];rw[<- aM,bf]
  ·rw[br,g3];omega
  ·rcases g6 with h | ⟨h,h'⟩
   ·exact .inl h
   ·exact .inr ⟨h,by rw[<- aM,bf];exact h'⟩
omit T in
theorem Z8z{c l:List Value}(h:l.length=c.length):Qlj c 0 l=some l:=by
 rw[Qq8 (by omega)];simp[h]
theorem Xlx{z:Nat}{y:Value}{ys:List Value}(hz:re.size=z)(hz1:1<=z)(hz2:z<=16777216)(hy:Qid y=true)(hys:y.cells.toList=ys)(hl:ys.length=z){h:Heap}:W7 E ts 1 [(0,y)] h=some (.slice (some ⟨h.next,0,none⟩) 1 1,h.push (.cells true 1 ys)):=by
 obtain⟨-,i, -, -, -, -, -, -,hzc, -⟩:=E.tyok _ _ T.e;have e1:(Nat.ble (1*re.size) 16777216 && Nat.ble 1 re.size)=true:=by rw[hz,Nat.one_mul,Xhw hz2,Xhw hz1];rfl
 have e2:(Qc2 re.zero.cells.toList 1).length=z:=by simp[Qc2,hzc,hz]
 have e3:(Qid y && y.cells.size == re.size && Nat.ble (0*re.size+re.size) (Qc2 re.zero.cells.toList 1).length)=true:=by
  have : y.cells.size=z:=by rw[<- hl,<- hys];simp
  rw[hy,this,hz,e2,di,ba];simp[Xhw]
 have e4:Qlj (Qc2 re.zero.cells.toList 1) (0*re.size) ys=some ys:=by rw[di];exact Z8z (hl.trans e2.symm)
 simp only[W7,T.s,T.d,T.e,e1,if_true,Xsb,e3,hys,e4,ax]
theorem Qtj{h:Heap}{n0 z n:Nat}{v:Value}{xs ys:List Value}(hz:re.size=z)(hz1:1<=z)(o:Own h n0 z v n xs)(h0:n0<=h.next)(hl:ys.length=z)(hb:(n+1)*re.bytes<=140737488355328)(hb2:n+1<=140737488355328) :
  ∃ v' h',Qjr E ts ts v (.slice (some ⟨h.next,0,none⟩) 1 1) (h.push (.cells true 1 ys))=some (v',h')/\Own h' n0 z v' (n+1) (xs++ys)/\Beyond v h h'/\∀ c,J4 v'=some c->J4 v=some c∨h.next<=c:=by
 have sl:Sl (h.push (.cells true 1 ys)) z (.slice (some ⟨h.next,0,none⟩) 1 1) 1 ys:=(Own.new (n0:=0) (z:=z) (bn _) (by rw[Heap.get_push,if_pos rfl]) (by simpa using hl) (by decide) (.inr rfl)).sl;obtain⟨v',h',k1,k2,k3,k4⟩:=Yc8 T hz hz1 (o.keep (h':=h.push (.cells true 1 ys)) fun c _ hc=>by rw[Heap.get_push,if_neg (by omega)]) (ai h0 (bH _)) (Ymy T hz sl) (by simpa using hl) hb hb2;refine⟨v',h',k1,k2,⟨ai (bH _) k3.1,fun c hc hne => ?_⟩,fun c hc=>(k4 c hc).imp id fun e=>by rw[e];exact bH _⟩;rw[k3.2 c (au hc (bH _)) hne,Heap.get_push,if_neg (by omega)]
theorem Zj8{h:Heap}{n0 z n:Nat}{v:Value}{xs ys:List Value}(hz:re.size=z)(hz1:1<=z)(o:Own h n0 z v n xs)(h0:n0<=h.next)(hl:ys.length=z)(hb:(n+1)*re.bytes<=140737488355328)(hb2:n+1<=140737488355328) :
  ∃ v' h',Qjr E ts ts v (.slice (some ⟨h.next,0,none⟩) 1 1) (h.push (.cells true 1 ys))=some (v',h')/\Own h' n0 z v' (n+1) (xs++ys)/\Beyond v h h':=by
 obtain⟨v',h',k1,k2,k3, -⟩:=Qtj T hz hz1 o h0 hl hb hb2;exact⟨v',h',k1,k2,k3⟩
theorem Qa0{h h1:Heap}{z n:Nat}{v:Value}{xs:List Value}(s:Sl h z v n xs):Qkc E ts v h1=some (.int .i64 n):=by
 rcases s with⟨c,rfl,_,rfl,rfl⟩ | ⟨bk,o,c,ow,z',pre,post,rfl,g1,g2,g3, -⟩ <;> simp[Qkc,T.s,T.d]
end
def Q0(a:Option Addr)(n c:Nat):Xxl (.slice a n c)=true:=Eq.trans rfl rfl
def Own.out{h:Heap}{n0 z n:Nat}{v:Value}{xs:List Value}(o:Own h n0 z v n xs){c:Nat}(hc:J4 v=some c):c < h.next:=(o.from hc).2
def Ynf(z:Int):Jdg z z=true:=by cases z <;> simp[Jdg]
def Qwt(k:IntKind)(z:Int):Xzz (some (.int k z)) (some (.int k z))=true:=by simp[Xzz,Zfo,Xf6,Ynf]
def Xxx{h:Heap}{n0 z n:Nat}{v:Value}{xs:List Value}(o:Own h n0 z v n xs):Xzz (some v) (some v)=true:=by
 rcases o with⟨rfl,_,_⟩ | ⟨bk,c,z',rest,rfl,_⟩
 ·simp[Xzz,Zfo,Xf6,X74]
 ·simp[Xzz,Zfo,Xf6,X74]
def Xpl{h:Heap}{z n:Nat}{v:Value}{xs:List Value}(o:Sl h z v n xs):Xzz (some v) (some v)=true:=by
 rcases o with⟨c,rfl,_⟩ | ⟨bk,o,c,ow,z',pre,post,rfl,_⟩
 ·simp[Xzz,Zfo,Xf6,X74]
 ·simp[Xzz,Zfo,Xf6,X74]
open Go.ChangeShapes Go.WideShapes Go.RowKit
structure Same (W W':World):Prop where
 os:W'.os=W.os
 output:W'.output=W.output
 same:∀ i,i < W.heap.size->W'.heap[i]? = W.heap[i]?
def Zqn{Z Z':Ren}{h h':Heap}{W W':World}(t:Turn Z h W Z' h' W')(ho:∀ b,h.own b=false):Same W W' :=
 ⟨t.os,t.output,fun i hi=>t.same i hi (fun b p _ ho'=>by rw[ho b]at ho';cases ho')⟩
def Same.kept{W W':World}(h:Same W W')(may:MemPlace->Prop):W.keptBut W' may:=by
 refine⟨h.os,h.output,fun i hi => ?_⟩;rw[h.same i hi];split
 ·rename_i c1 t1 fr1 c2 t2 fr2 e1 e2;rw[e1]at e2;cases e2;exact⟨rfl,rfl,rfl,fun _ _=>rfl⟩
 ·rename_i e1 e2;rw[e1]at e2;cases e2;exact .inr ⟨rfl,rfl⟩
 ·rfl
def Same.at{W W':World}(h:Same W W'){p:MemPlace}(hp:p.block < W.heap.size):W.sameAt W' p:=by
 have:=h.same p.block hp;cases p with
 | cell b o =>
  simp only[MemPlace.block]at this;simp only[World.sameAt,World.cell?,this]
 | map b =>
  simp only[MemPlace.block]at this;simp only[World.sameAt,this]
section
variable{P:Program}{H:Type}{enc:TypeId × Value->H}
def Trod.same{W W':World}(h:Same W W'){base:Nat}{spare:Nat->Bool}{held:Bool}:∀ {ts:List TypeId} {vs:List Value} {ds:List (DataW H)} {ps:List MemPlace},DataW.TrodAll enc P W base spare held ts vs ds ps->DataW.TrodAll enc P W' base spare held ts vs ds ps
 | [],[],[],_,q=>q
 | _::_,_::_,_::_,_,⟨p,q,⟨n,h1⟩,h2,e⟩=>⟨p,q,⟨n,DataW.trod_carry n _ _ _ h1 (fun x hx=>h.at (DataW.trod_lt n _ _ _ h1 x hx))⟩,Trod.same h h2,e⟩
def Zz3{fn:Func}{s:ChangeSpec}{f:FuncId}{apart fresh handsOn:Bool}{tb:TypeId}(K:Kids P (· < P.types.size))(hz:∀ t e,t < P.types.size->P.underlying t=some (.slice e)->0 < P.cellsOf e)
  (hp:∀ t ∈ fn.params.toList,t < P.types.size) (hr:fn.resultTypes = #[tb]) (hb:P.underlying tb=some .bool) (hv:s.vars=[])
  {W:World} {args:Array Value} {ds gs:List (DataW H)} {before:List MemPlace} (hW:DataW.Whole enc P fn.params.toList s.vars apart W args.toList ds gs before)
  (hs:s.fn H ds = {results:=[.lit (.bool true)],args:=ds})
  (hcall:Calls P f args W (fun e W'=>e=.returned (.bool true)/\Same W W')) :
  Calls P f args W (fun e W' => ∃ v,e=.returned v/\s.post enc P fn apart fresh handsOn false W args v W'):=by
 have hW0:=hW;obtain⟨p,q,hA,hV,rfl,hfz,hnd⟩:=hW;rw[hv]at hV;obtain⟨rfl,rfl⟩:gs=[]/\q=[]:=by
  cases gs with
  | nil=>exact⟨rfl,hV⟩
  | cons g r=>exact absurd hV (by intro h;cases h)
 refine hcall.mono fun e W' ⟨he,hk⟩ => ?_;refine⟨.bool true,he,ds,[],_,[],p,[],hW0,?_,?_,?_,hk.kept _,fun h=>by cases h⟩
 ·rw[bP,hs,hr];exact trodAll_mk1 (shut_bool hb true)
 ·rw[bP,hs];exact(Trod.same hk hA).respare K hz hp (fun x hx=>by simpa using DataW.TrodAll.lt hA x hx)
 ·rw[bP,hs,hv];rfl
def Z2k{f:FuncId}{n:Nat}{Z:Ren}{h:Heap}{vs:List Value}{args:Array Value}{W:World}(H:HRel ⟨n,W.heap.size⟩ Z h W)(ho:∀ b,h.own b=false)(hok:∀ v ∈ vs,okV (dom Z) v)(ha:args=(vs.map (ren Z)).toArray)
  (hc:CallOK P ⟨n,W.heap.size⟩ f vs h (fun r _=>r=.ret (.bool true))):Calls P f args W (fun e W'=>e=.returned (.bool true)/\Same W W'):=by
 subst ha;refine callsIn_wide.1 ((hc Z W H hok).mono ?_);rintro e W' ⟨Z',r,h2,rfl,rfl,_,_,t,_⟩;exact⟨by simp[Qz1],Zqn t ho⟩
end
open Go.ChangeShapes Go.WideShapes Go.RowKit
section
variable{P:Program}{G:Bs}{Z:Ren}{h:Heap}{W:World}
end
end Go.Ab
