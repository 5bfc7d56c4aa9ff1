import Derived.Test.YtbhojjejgmfgmaaGreatDoorAbE
import Derived.Handed
import Derived.ChangeShapes
import Derived.RowKitTokens
import Derived.Lay
import Derived.JoinedOf
set_option linter.all false
open List renaming length→L
open Option renaming some→U,none→O
open Bool renaming true→Y,false→J
open Go renaming Value→V
open Go.Value renaming int→I,slice→M
open Go.IntKind renaming i64→X
open Go.Ab.Blk renaming cells→S
noncomputable section
namespace Go.Ab
abbrev xP:=Nat->Option Nat
def xP.ren(ρ:xP)(Z:Ren):Ren:=fun i=>match ρ i with | some b=>Z b | none=>O
def gw{ρ:xP}{Z:Ren}{i:Nat}{p:Place}(h:ρ.ren Z i=U p):∃ b,ρ i=U b/\Z b=U p:=by
 unfold xP.ren at h;split at h
 next b C=>exact⟨b,C,h⟩
 ·cases h
def gz{ρ:xP}{Z:Ren}{i b:Nat}(h:ρ i=U b):ρ.ren Z i=Z b:=by simp[xP.ren,h]
def OG(T x:Blk):Prop:=∃ C o sz c,T=.cells C sz c/\x=.cells o sz c/\(C=Y->o=Y)/\(C=J->o=Y∨c ≠ [])/\∀ v ∈ c,flat v=Y/\v.oneCell'=Y
structure Fit (G:Bs) (ρ:xP) (h0 h:N):Prop where
 lt:∀ i b,ρ i=U b->i < h0.Q
 inj:∀ i j b,ρ i=U b->ρ j=U b->i=j
 like:∀ i b x0,ρ i=U b->h0.A i=U x0->∃ x,h.A b=U x/\OG x0 x
 glob:∀ g,g < G.n->ρ g=U g/\h0.own g=J
 globs:G.n<=h0.Q
 all:∀ i x0,h0.A i=U x0->∃ o sz c,x0=.cells o sz c/\∀ v ∈ c,flat v=Y/\v.oneCell'=Y
def AR(ρ:xP)(args0 args:List V):Prop :=
 ∀ Z:Ren,(∀ v ∈ args,c_ (dom Z) v)->args.map (ren Z)=args0.map (ren (ρ.ren Z))/\∀ v ∈ args0,c_ (dom (ρ.ren Z)) v
section
variable{P:Program}{G:Bs}{Z:Ren}{ρ:xP}{h0 h:N}{w:World}
def gJ{p:Place}{x0 x:Blk}{β:Ren}(hl:OG x0 x)(hf:kM Z p w x):kM β p w x0:=by
 obtain⟨o0,o,sz,c,rfl,rfl,h1,h2,h3⟩:=hl;obtain⟨hx,hf⟩:=hf;refine⟨hx,?_⟩;rcases hf with⟨rfl,rfl⟩ | ⟨C,e,lo,hi,k1,k2,k3⟩
 ·left;refine⟨?_,rfl⟩;cases o0 with
  | false=>rfl
  | true=>exact absurd (h1 rfl) kA
 ·right;refine⟨C,e,lo,hi,k1,fun i v hv => ?_,fun ho=>k3 (h1 ho)⟩;have T:=h3 v (List.mem_of_getElem? hv);obtain⟨m1,m2,m3⟩:=k2 i v hv;rw[oz _ T.1]at m1;exact⟨by rw[m1,oz _ T.1],iK _ v T.1,m3⟩
def J50{C x:Blk}(hl:OG C x)(ho:C.own=Y):x.own=Y:=by
 obtain⟨o0,o,sz,c,rfl,rfl,h1,h2,T⟩:=hl;exact h1 ho
def QL{C x:Blk}(hl:OG C x)(ho:C.solid=Y):x.solid=Y:=by
 obtain⟨T,o,sz,c,rfl,rfl,h1,h2,h3⟩:=hl;cases o with
 | true=>rfl
 | false =>
  cases c with
  | nil =>
   cases T with
   | true=>exact absurd (h1 rfl) kA
   | false=>simp[Blk.solid]at ho
  | cons _ _=>rfl
def Fit.rel(F:Fit G ρ h0 h)(H:bN G Z h w){b':Nat}(hk:∀ i b p C,ρ i=U b->Z b=U p->h0.A i=U C->(C.own=Y->b'<=p.blk/\p.spot=O)/\(C.own=J->C.solid=Y->p.blk < b'/\p.spot=O))(h3:b'<=w.heap.size) :
  bN ⟨G.n,b'⟩ (ρ.ren Z) h0 w:=by
 refine⟨fun i p hi => ?_,fun i p C hi hx => ?_,fun i j p q hi hj e1 ho hl => ?_,fun g hg=>⟨?_,(F.glob g hg).2⟩,F.globs,fun i C hx => ?_,fun i p C hi hx => ?_,h3⟩
 ·obtain⟨b,T,hp⟩:=gw hi;exact⟨F.lt i b T,(H.dom b p hp).2⟩
 ·obtain⟨b,T,hp⟩:=gw hi;obtain⟨x,hn,hl⟩:=F.like i b C T hx;exact gJ hl (H.fits b p x hp hn)
 ·obtain⟨b,T,hp⟩:=gw hi;obtain⟨c,hc,hq⟩:=gw hj;obtain⟨C,hB,es⟩:=vS ho;obtain⟨x,hx,ls⟩:=F.like i b C T hB;have hA:b≠c:=fun e=>e1 (F.inj i j b T (e ▸ hc));unfold N.live at hl;cases hr:h0.A j with
  | none=>simp[hr]at hl
  | some y0 =>
   simp only[hr]at hl;obtain⟨y,hy,e2⟩:=F.like j c y0 hc hr;exact H.apart b c p q hp hq hA (by rw[rH hx];exact J50 ls es) (by rw[DK hy];exact QL e2 hl)
 ·rw[gz (F.glob g hg).1];exact(H.glob g hg).1
 ·obtain⟨o,sz,c,rfl,h1⟩:=F.all i C hx;exact fun v hv=>⟨iK _ v (h1 v hv).1,(h1 v hv).2⟩
 ·obtain⟨b,T,hp⟩:=gw hi;exact hk i b p C T hp hx
def Jyt{f:FuncId}{args0 args:List V}{v0:V}(F:Fit G ρ h0 h)(hr:∀ i,h0.own i=J)(ha:AR ρ args0 args)(hv:flat v0=Y)
  (C:∀ b,∃ hc,fx P ⟨G.n,b⟩ f args0 h0 (fun r h1=>r=.ret v0/\h1=hc)):fx P G f args h (fun r h1=>r=.ret v0/\h1=h):=by
 intro Z w H hA;obtain⟨hc,C⟩:=C w.heap.size;obtain⟨a1,a2⟩:=ha Z hA;have H0:bN ⟨G.n,w.heap.size⟩ (ρ.ren Z) h0 w:=F.rel H (fun i b p x0 hi hp hx=>⟨fun ho=>(by have:=hr i;rw[rH hx,ho]at this;cases this),fun _ hs=>by obtain⟨x,h3,hl⟩:=F.like i b x0 hi hx;exact⟨H.blk_lt hp h3 (QL hl hs),H.spot hp h3 (QL hl hs)⟩⟩) (ac _);rw[a1];refine(C (ρ.ren Z) w H0 a2).mono ?_;rintro e w' ⟨Z',r,h2,⟨rfl,rfl⟩,rfl,_,_,t,_⟩;have T:∀ k,k < w.heap.size->w'.heap[k]? = w.heap[k]? := fun k hk=>t.same k hk (fun b p _ ho=>by rw[hr b]at ho;cases ho);refine⟨Z,_,_,⟨rfl,rfl⟩,by simp[qo,oz _ hv],iK _ v0 hv,iC.refl _ _,⟨t.size,fun k hk _=>T k hk,fun b p hb ho => .inr ⟨b,p,hb,ho,rfl⟩,t.tape,t.os,t.output,t.drawn,ac _⟩,?_⟩;exact⟨fun b p hb=>H.dom b p hb,fun b p x hb hx=>(H.fits b p x hb hx).keepS (fun _ _=>rfl) fun hs=>T _ (H.blk_lt hb hx hs),H.apart,H.glob,H.globs,H.wf,H.base,ak H.bsz t.size⟩
def Jhi{f:FuncId}{args0 args:List V}{v0:V}{hz:N}{i0 b0 sz:Nat}{c:List V}(F:Fit G ρ h0 h)(hr:∀ i b x0 x,ρ i=U b->h0.A i=U x0->h.A b=U x->x0=x)(ha:AR ρ args0 args)(hv:flat v0=Y)
  (hi:ρ i0=U b0) (ho:h0.own i0=Y) (hg:hz.A i0=U (S Y sz c)) (hc:∀ v ∈ c,flat v=Y/\v.oneCell'=Y)
  (q1:∀ i,i≠i0->h0.own i=Y->hz.A i=h0.A i)
  (q2:fx P ⟨G.n,G.b⟩ f args0 h0 (fun r h1=>r=.ret v0/\h1=hz)):fx P G f args h (fun r h1=>r=.ret v0/\h1=h.set b0 (U (S Y sz c))):=by
 intro Z w H m0;obtain⟨a1,a2⟩:=ha Z m0;have H0:bN ⟨G.n,G.b⟩ (ρ.ren Z) h0 w:=F.rel H (fun i b p x0 hA hp C=>by
  obtain⟨x,hB,_⟩:=F.like i b x0 hA C;have:=hr i b x0 x hA C hB;subst this;exact H.base b p x0 hp hB) H.bsz
 rw[a1];refine(q2 (ρ.ren Z) w H0 a2).mono ?_;rintro e w' ⟨Z',r,h2,⟨rfl,e2⟩,rfl,_,x1,t,H'⟩;subst e2;have hy:∀ i p,ρ.ren Z i=U p->h0.own i=Y->∃ b,ρ i=U b/\Z b=U p/\h.own b=Y:=by
  intro i p hC ls;obtain⟨b,hb,hp⟩:=gw hC;obtain⟨x0,T,es⟩:=vS ls;obtain⟨x,C,_⟩:=F.like i b x0 hb T;have:=hr i b x0 x hb T C;subst this;exact⟨b,hb,hp,by rw[rH C];exact es⟩
 have hf:∀ k,k < w.heap.size->(∀ b p,Z b=U p->h.own b=Y->p.blk≠k)->w'.heap[k]? = w.heap[k]? := fun k hk hm =>
  t.same k hk (fun i p hC ls=>by obtain⟨b,_,hp,h3⟩:=hy i p hC ls;exact hm b p hp h3)
 have hn:h.own b0=Y:=by
  obtain⟨x0,T,es⟩:=vS ho;obtain⟨x,C,_⟩:=F.like i0 b0 x0 hi T;have:=hr i0 b0 x0 x hi T C;subst this;rw[rH C];exact es
 have e1:b0 < h.Q:=by obtain⟨x,C,_⟩:=vS hn;exact N.D C
 have h4:∀ p,Z b0=U p->kM Z p w' (S Y sz c):=by
  intro p hp;have hZ:Z' i0=U p:=by rw[x1 i0 (F.lt i0 b0 hi),gz hi,hp]
  exact gJ ⟨Y,Y,sz,c,rfl,rfl,fun _=>rfl,(fun h=>by cases h),hc⟩ (H'.fits i0 p _ hZ hg)
 refine⟨Z,_,_,⟨rfl,rfl⟩,by simp[qo,oz _ hv],iK _ v0 hv,iC.refl _ _,⟨t.size,fun k hk hm=>hf k hk hm,fun b p hb h3 => .inr ⟨b,p,hb,?_,rfl⟩,t.tape,t.os,t.output,t.drawn,ac _⟩,?_⟩
 ·rw[own_set e1]at h3;split at h3
  next e=>exact e ▸ hn
  ·exact h3
 ·refine⟨fun b p hb=>H.dom b p hb,fun b p x hb C => ?_,fun b d q r hb hd s' h3 hl => ?_,fun g he=>⟨(H.glob g he).1,?_⟩,H.globs,fun b x C => ?_,fun b p x hb C => ?_,ak H.bsz t.size⟩
  ·rw[gY e1]at C;split at C
   next e=>subst e;cases C;exact h4 p hb
   ·rename_i s';cases hs:x.solid with
    | false =>
     cases x with
     | cells o z l=>cases o <;> cases l <;> simp[Blk.solid]at hs;exact⟨(H.fits b p _ hb C).1,.inl ⟨rfl,rfl⟩⟩
     | map _ _=>simp[Blk.solid]at hs
     | obj _=>simp[Blk.solid]at hs
    | true =>
     by_cases re:∃ i,ρ i=U b/\h0.own i=Y
     ·obtain⟨i,hA,ls⟩:=re;obtain⟨x0,T,es⟩:=vS ls;obtain⟨x',hB,hl⟩:=F.like i b x0 hA T;have:=hr i b x0 x' hA T hB;subst this;rw[C]at hB;cases hB;have hu:i≠i0:=fun e=>s' (by subst e;rw[hi]at hA;cases hA;rfl);have hZ:Z' i=U p:=(by rw[x1 i (F.lt i b hA),gz hA,hb]);have:=H'.fits i p x hZ (by rw[q1 i hu ls];exact T);exact gJ hl this
     ·refine(H.fits b p x hb C).keep (fun _ _=>rfl) (t.same _ (H.blk_lt hb C hs) fun i q v' ls => ?_);obtain⟨d,hd,hq,g2⟩:=hy i q v' ls;have g1:d≠b:=fun e=>re ⟨i,e ▸ hd,ls⟩;exact H.apart d b q p hq hb g1 g2 (by rw[DK C];exact hs)
  ·have h1:h.own b=Y:=by
    rw[own_set e1]at h3;split at h3
    next e=>exact e ▸ hn
    ·exact h3
   have h2:h.live d=Y:=by
    rw[K6 e1]at hl;split at hl
    next e=>exact e ▸ K7 hn
    ·exact hl
   exact H.apart b d q r hb hd s' h1 h2
  ·rw[own_set e1];split
   next e=>subst e;rw[(H.glob b0 he).2]at hn;cases hn
   ·exact(H.glob g he).2
  ·rw[gY e1]at C;split at C
   ·cases C;exact fun v hv=>⟨iK _ v (hc v hv).1,(hc v hv).2⟩
   ·exact H.wf b x C
  ·rw[gY e1]at C;split at C
   next e=>subst e;cases C;obtain⟨x0,T,es⟩:=vS hn;exact⟨fun _=>(H.base b0 p x0 hb T).1 es,fun h0=>by cases h0⟩
   ·exact H.base b p x hb C
def oW(n:Nat)(bs:List Nat):xP:=fun i=>if i < n then U i else bs[i-n]?
def Dv(own:Bool):List (Nat × List V)->N->N
 | [],h=>h
 | x::l,h=>Dv own l (h.push (.cells own x.1 x.2))
def mZ(n:Nat)(laid:List (Nat × List V))(own:Bool)(rows:List (Nat × List V)):N:=Dv own rows (rE n laid)
def Z4e(own:Bool):∀ (rows:List (Nat × List V)) (h:N),(Dv own rows h).Q=h.Q+L rows
 | [],h=>rfl
 | x::l,h=>by rw[Dv,Z4e own l];simp[N.push];omega
def Hp(own:Bool):∀ (rows:List (Nat × List V)) (h:N) (i:Nat),(Dv own rows h).A i=if i < h.Q then h.A i else(rows[i-h.Q]?).map fun x => .cells own x.1 x.2
 | [],h,i=>by
  simp only[Dv];split
  ·rfl
  ·rw[N.get_none jA];simp
 | x::l,h,i=>by
  rw[Dv,Hp own l];have C:(h.push (.cells own x.1 x.2)).Q=h.Q+1:=rfl;rw[C,N.F];by_cases h1:i < h.Q
  ·rw[if_pos jA,if_neg jA,if_pos h1]
  ·rw[if_neg h1];by_cases h2:i=h.Q
   ·subst h2;simp
   ·rw[if_neg jA];have : i-h.Q=(i-(h.Q+1))+1:=jA
    rw[this];simp
def A9{n:Nat}{laid:List (Nat × List V)}{own:Bool}{rows:List (Nat × List V)}{i:Nat}{x:Blk}(h:(mZ n laid own rows).A i=U x) :
  (i < n/\∃ c,(i,c) ∈ laid/\x=S J 0 c)∨(n<=i/\∃ r,rows[i-n]? = U r/\x=.cells own r.1 r.2):=by
 unfold mZ at h;rw[Hp]at h;have T:(rE n laid).Q=n:=rfl;rw[T]at h;split at h
 ·rename_i hi;left;refine⟨hi,?_⟩;unfold N.A at h;split at h
  ·exact Lz laid i x h
  ·cases h
 ·right;refine⟨jA,?_⟩;cases C:rows[i-n]? with
  | none=>rw[C]at h;cases h
  | some r=>rw[C]at h;cases h;exact⟨r,rfl,rfl⟩
def Pg{n:Nat}{laid:List (Nat × List V)}{own:Bool}{bs:List Nat}{rows:List (Nat × List V)}(H:bN G Z h w)(hn:G.n=n)
  (ls:∀ x ∈ laid,x.2 ≠ []/\h.A x.1=U (S J 0 x.2)/\∀ v ∈ x.2,flat v=Y/\v.oneCell'=Y) (hy:L bs=L rows)
  (hA:∀ (k b:Nat) (r:Nat × List V),bs[k]? = U b->rows[k]? = U r->h.A b=U (S Y r.1 r.2)/\∀ v ∈ r.2,flat v=Y/\v.oneCell'=Y) (hB:bs.Nodup) :
  Fit G (oW n bs) (mZ n laid own rows) h:=by
 subst hn;have T:(mZ G.n laid own rows).Q=G.n+L rows:=Z4e own rows _;have C:∀ i b,oW G.n bs i=U b->(i < G.n/\b=i)∨(G.n<=i/\bs[i-G.n]? = U b):=by
  intro i b hi;unfold oW at hi;split at hi
  ·cases hi;exact .inl ⟨by assumption,rfl⟩
  ·exact .inr ⟨jA,hi⟩
 have hq:∀ (k b:Nat),bs[k]? = U b->G.n<=b:=by
  intro k b hb;have hk:k < L rows:=by rw[<- hy];exact(List.getElem?_eq_some_iff.1 hb).1
  obtain⟨r,hr⟩:∃ r,rows[k]? = U r:=⟨rows[k],List.getElem?_eq_getElem hk⟩;have h1:=(hA k b r hb hr).1;rcases bJ b G.n with h2 | h2
  ·have:=(H.glob b h2).2;rw[rH h1]at this;cases this
  ·exact h2
 refine⟨fun i b hi => ?_,fun i j b hi hj => ?_,fun i b x0 hi hx => ?_,fun g hg=>⟨by simp[oW,hg],?_⟩,by rw[T];omega,fun i x0 hx => ?_⟩
 ·rcases C i b hi with⟨h1,_⟩ | ⟨h1,h2⟩
  ·rw[T];omega
  ·have:=(List.getElem?_eq_some_iff.1 h2).1;rw[T,<- hy];omega
 ·rcases C i b hi with⟨h1,rfl⟩ | ⟨h1,h2⟩ <;> rcases C j b hj with⟨h3,h4⟩ | ⟨h3,h4⟩
  ·exact h4
  ·have:=hq _ _ h4;omega
  ·subst h4;have:=hq _ _ h2;omega
  ·obtain⟨l1,e1⟩:=List.getElem?_eq_some_iff.1 h2;obtain⟨l2,e2⟩:=List.getElem?_eq_some_iff.1 h4;have hp:=fL.1 hB;rcases di (i-G.n) (j-G.n)with h5 | h5 | h5
   ·exact absurd (e1.trans e2.symm) (hp _ _ l1 l2 h5)
   ·omega
   ·exact absurd (e2.trans e1.symm) (hp _ _ l2 l1 h5)
 ·rcases A9 hx with⟨h1,c,hc,rfl⟩ | ⟨h1,r,hr,rfl⟩
  ·rcases C i b hi with⟨_,rfl⟩ | ⟨h3,_⟩
   ·obtain⟨k1,k2,k3⟩:=ls _ hc;exact⟨_,k2,J,J,0,c,rfl,rfl,id,fun _ => .inr k1,k3⟩
   ·omega
  ·rcases C i b hi with⟨h3,_⟩ | ⟨_,h4⟩
   ·omega
   ·obtain⟨k1,k2⟩:=hA _ b r h4 hr;exact⟨_,k1,own,Y,r.1,r.2,rfl,rfl,fun _=>rfl,fun _ => .inl rfl,k2⟩
 ·unfold N.own;cases hx:(mZ G.n laid own rows).A g with
  | none=>rfl
  | some x =>
   rcases A9 hx with⟨_,c,_,rfl⟩ | ⟨h1,_⟩
   ·rfl
   ·omega
 ·rcases A9 hx with⟨h1,c,hc,rfl⟩ | ⟨h1,r,hr,rfl⟩
  ·exact⟨J,0,c,rfl,(ls _ hc).2.2⟩
  ·have hk:i-G.n < L bs:=by rw[hy];exact(List.getElem?_eq_some_iff.1 hr).1
   exact⟨own,r.1,r.2,rfl,(hA _ bs[i-G.n] r (List.getElem?_eq_getElem hk) hr).2⟩
def D9(ρ:xP)(C x:V):Prop:=∀ Z:Ren,c_ (dom Z) x->ren Z x=ren (ρ.ren Z) C/\c_ (dom (ρ.ren Z)) C
def Rb:AR ρ [] []:=fun _ _=>⟨rfl,fun _ h=>by cases h⟩
def vg{x0 x:V}{T l:List V}(h:D9 ρ x0 x)(k:AR ρ T l):AR ρ (x0::T) (x::l):=fun Z C=>by
 obtain⟨a1,a2⟩:=h Z (C x kA);obtain⟨b1,b2⟩:=k Z (fun v hv=>C v (by simp[hv]));exact⟨by simp[a1,b1],fun v hv=>by rcases ao.1 hv with rfl | hv;exact a2;exact b2 v hv⟩
def An{x:V}(h:flat x=Y):D9 ρ x x:=fun Z _=>⟨by rw[oz _ h,oz _ h],iK _ x h⟩
def Qe{i b off:Nat}(h:ρ i=U b):D9 ρ (.pointer (U ⟨i,off,O⟩)) (.pointer (U ⟨b,off,O⟩)):=fun Z C=>by
 simp only[c_]at C ⊢;obtain⟨p,T⟩:=aJ.1 C.1;have e:ρ.ren Z i=U p:=by rw[gz h,T]
 refine⟨by simp[ren,jv,T,e],?_,trivial⟩;show(ρ.ren Z i).isSome=Y;rw[e];rfl
end
end Go.Ab
namespace Go.Ab.Bl
def w32(x:Nat):Nat:=Nat.mod x 4294967296
def rot(x n:Nat):Nat:=w32 (Nat.lor (w32 (w32 (Nat.mul x (Nat.pow 2 (Nat.sub 32 n))))) (w32 (Nat.div x (Nat.pow 2 n))))
def xr(a b:Nat):Nat:=w32 (Nat.xor (w32 a) (w32 b))
def orr(a b:Nat):Nat:=w32 (Nat.lor (w32 a) (w32 b))
def half{A:Type}(a b c d x n m:Nat)(K:Nat->Nat->Nat->Nat->A):A :=
 (fun C=>(fun d'=>(fun T=>K C (rot (xr b T) m) T d') (w32 (Nat.add c d'))) (rot (xr d C) n)) (w32 (Nat.add a (w32 (Nat.add b x))))
def stir{A:Type}(a b c d x y:Nat)(K:Nat->Nat->Nat->Nat->A):A :=
 half a b c d x 16 12 fun a b c d=>half a b c d y 8 7 K
def round{A:Type}(p0 C T p3 p4 p5 p6 p7 p8 p9 pA pB pC pD pE pF m0 m1 m2 m3 m4 m5 m6 m7 m8 m9 mA mB mC mD mE mF:Nat)
  (K:Nat->Nat->Nat->Nat->Nat->Nat->Nat->Nat->Nat->Nat->Nat->Nat->Nat->Nat->Nat->Nat->A):A :=
 stir p0 p4 p8 pC m0 m1 fun p0 p4 p8 pC=>stir C p5 p9 pD m2 m3 fun C p5 p9 pD =>
 stir T p6 pA pE m4 m5 fun T p6 pA pE=>stir p3 p7 pB pF m6 m7 fun p3 p7 pB pF =>
 stir p0 p5 pA pF m8 m9 fun p0 p5 pA pF=>stir C p6 pB pC mA mB fun C p6 pB pC =>
 stir T p7 p8 pD mC mD fun T p7 p8 pD=>stir p3 p4 p9 pE mE mF fun p3 p4 p9 pE =>
 K p0 C T p3 p4 p5 p6 p7 p8 p9 pA pB pC pD pE pF
def rounds{A:Type}(p0 C T p3 p4 p5 p6 p7 p8 p9 pA pB pC pD pE pF m0 m1 m2 m3 m4 m5 m6 m7 m8 m9 mA mB mC mD mE mF:Nat)
  (K:Nat->Nat->Nat->Nat->Nat->Nat->Nat->Nat->Nat->Nat->Nat->Nat->Nat->Nat->Nat->Nat->A):A :=
 round p0 C T p3 p4 p5 p6 p7 p8 p9 pA pB pC pD pE pF m0 m1 m2 m3 m4 m5 m6 m7 m8 m9 mA mB mC mD mE mF fun p0 C T p3 p4 p5 p6 p7 p8 p9 pA pB pC pD pE pF =>
 round p0 C T p3 p4 p5 p6 p7 p8 p9 pA pB pC pD pE pF mE mA m4 m8 m9 mF mD m6 m1 mC m0 m2 mB m7 m5 m3 fun p0 C T p3 p4 p5 p6 p7 p8 p9 pA pB pC pD pE pF =>
 round p0 C T p3 p4 p5 p6 p7 p8 p9 pA pB pC pD pE pF mB m8 mC m0 m5 m2 mF mD mA mE m3 m6 m7 m1 m9 m4 fun p0 C T p3 p4 p5 p6 p7 p8 p9 pA pB pC pD pE pF =>
 round p0 C T p3 p4 p5 p6 p7 p8 p9 pA pB pC pD pE pF m7 m9 m3 m1 mD mC mB mE m2 m6 m5 mA m4 m0 mF m8 fun p0 C T p3 p4 p5 p6 p7 p8 p9 pA pB pC pD pE pF =>
 round p0 C T p3 p4 p5 p6 p7 p8 p9 pA pB pC pD pE pF m9 m0 m5 m7 m2 m4 mA mF mE m1 mB mC m6 m8 m3 mD fun p0 C T p3 p4 p5 p6 p7 p8 p9 pA pB pC pD pE pF =>
 round p0 C T p3 p4 p5 p6 p7 p8 p9 pA pB pC pD pE pF m2 mC m6 mA m0 mB m8 m3 m4 mD m7 m5 mF mE m1 m9 fun p0 C T p3 p4 p5 p6 p7 p8 p9 pA pB pC pD pE pF =>
 round p0 C T p3 p4 p5 p6 p7 p8 p9 pA pB pC pD pE pF mC m5 m1 mF mE mD m4 mA m0 m7 m6 m3 m9 m2 m8 mB fun p0 C T p3 p4 p5 p6 p7 p8 p9 pA pB pC pD pE pF =>
 round p0 C T p3 p4 p5 p6 p7 p8 p9 pA pB pC pD pE pF mD mB m7 mE mC m1 m3 m9 m5 m0 mF m4 m8 m6 m2 mA fun p0 C T p3 p4 p5 p6 p7 p8 p9 pA pB pC pD pE pF =>
 round p0 C T p3 p4 p5 p6 p7 p8 p9 pA pB pC pD pE pF m6 mF mE m9 mB m3 m0 m8 mC m2 mD m7 m1 m4 mA m5 fun p0 C T p3 p4 p5 p6 p7 p8 p9 pA pB pC pD pE pF =>
 round p0 C T p3 p4 p5 p6 p7 p8 p9 pA pB pC pD pE pF mA m2 m8 m4 m7 m6 m1 m5 mF mB m9 mE m3 mC mD m0 fun p0 C T p3 p4 p5 p6 p7 p8 p9 pA pB pC pD pE pF =>
 K p0 C T p3 p4 p5 p6 p7 p8 p9 pA pB pC pD pE pF
structure P8 where
 (h0 h1 h2 h3 h4 h5 h6 h7:Nat)
def begins:P8:=⟨1779033703,3144134277,1013904242,2773480762,1359893119,2600822924,528734635,1541459225⟩
def le4(a b c d:Nat):Nat:=orr (orr (orr (w32 a) (w32 (Nat.mul (w32 b) 256))) (w32 (Nat.mul (w32 c) 65536))) (w32 (Nat.mul (w32 d) 16777216))
def nx{A:Type}(l:List Nat)(K:Nat->List Nat->A):A:=match l with
 | a::b::c::d::l=>K (le4 a b c d) l
 | [a,b,c]=>K (le4 a b c 0) []
 | [a,b]=>K (le4 a b 0 0) []
 | [a]=>K (le4 a 0 0 0) []
 | []=>K (le4 0 0 0 0) []
def words{A:Type}(l:List Nat)(K:Nat->Nat->Nat->Nat->Nat->Nat->Nat->Nat->Nat->Nat->Nat->Nat->Nat->Nat->Nat->Nat->A):A :=
 nx l fun C l=>nx l fun T l=>nx l fun m2 l=>nx l fun m3 l=>nx l fun m4 l=>nx l fun m5 l=>nx l fun m6 l=>nx l fun m7 l =>
 nx l fun m8 l=>nx l fun m9 l=>nx l fun mA l=>nx l fun mB l=>nx l fun mC l=>nx l fun mD l=>nx l fun mE l=>nx l fun mF _ =>
 K C T m2 m3 m4 m5 m6 m7 m8 m9 mA mB mC mD mE mF
def take(h:P8)(l:List Nat)(count:Nat)(last:Bool):P8 :=
 match h with
 | ⟨h0,h1,h2,C,T,h5,h6,h7⟩ =>
  words l fun m0 m1 m2 m3 m4 m5 m6 m7 m8 m9 mA mB mC mD mE mF =>
  rounds h0 h1 h2 C T h5 h6 h7 1779033703 3144134277 1013904242 2773480762 (xr 1359893119 (w32 count)) (xr 2600822924 (w32 (Nat.div count 4294967296))) (match last with | true=>xr 4294967295 528734635 | false=>528734635) 1541459225
   m0 m1 m2 m3 m4 m5 m6 m7 m8 m9 mA mB mC mD mE mF fun p0 p1 p2 p3 p4 p5 p6 p7 p8 p9 pA pB pC pD pE pF =>
   ⟨xr h0 (xr p0 p8),xr h1 (xr p1 p9),xr h2 (xr p2 pA),xr C (xr p3 pB),xr T (xr p4 pC),xr h5 (xr p5 pD),xr h6 (xr p6 pE),xr h7 (xr p7 pF)⟩
def by4(x:Nat):List Nat:=[Nat.mod x 256,Nat.mod (Nat.div x 256) 256,Nat.mod (Nat.div x 65536) 256,Nat.mod (Nat.div x 16777216) 256]
def out:P8->List Nat
 | ⟨h0,h1,h2,C,T,h5,h6,h7⟩=>by4 h0++by4 h1++by4 h2++by4 C++by4 T++by4 h5++by4 h6++by4 h7
def blocks:Nat->P8->List Nat->Nat->P8
 | 0,h,_,_=>h
 | n+1,h,text,count =>
  match Nat.ble (L text) 64 with
  | true=>take h text (Nat.add count (L text)) Y
  | false=>blocks n (take h (text.take 64) (Nat.add count 64) J) (text.drop 64) (Nat.add count 64)
def start(k:Nat):P8:={begins with h0:=Nat.xor 1779033703 (Nat.xor 16842784 (Nat.shiftLeft k 8))}
def zeros:Nat->List Nat
 | 0=>[]
 | n+1=>0::zeros n
def textOf(key b:List Nat):List Nat:=match key with
 | []=>b
 | _=>key++(zeros (Nat.sub 64 (L key))++b)
def keyed1(key b:List Nat):List Nat:=out (blocks (L (textOf key b)).succ (start (L key)) (textOf key b) 0)
def keyed(key b:List Nat):List Nat:=match Nat.ble (L key) 32 with
 | true=>keyed1 key b
 | false=>keyed1 (keyed1 [] key) b
end Go.Ab.Bl
noncomputable section
namespace Go.Ab
def M9(a b:Int):Int:=IntKind.wrap .u32 (a+b)
def lY(a b:Int):Int:=IntKind.wrap .u32 ((BitVec.ofInt 32 a ^^^ BitVec.ofInt 32 b).toNat:Nat)
def TE(x:Int)(s:Nat):Int:=IntKind.wrap .u32 ((BitVec.ofInt 32 (IntKind.wrap .u32 (x*2 ^ s)) ||| BitVec.ofInt 32 (x.fdiv (2 ^ (32-s)))).toNat:Nat)
def KX(a b:Int):Int:=IntKind.wrap .u32 ((BitVec.ofInt 32 a ||| BitVec.ofInt 32 b).toNat:Nat)
def za(n:Nat):Int:=IntKind.wrap .u32 (.ofNat n)
def MW(a:Int)(s:Nat):Int:=IntKind.wrap .u32 (a*2 ^ s)
def mz(a b c d:Nat):Int:=KX (KX (KX (za a) (MW (za b) 8)) (MW (za c) 16)) (MW (za d) 24)
def OK{A:Type}(a b c d x:Int)(s t:Nat)(K:Int->Int->Int->Int->A):A :=
 (fun C=>(fun d'=>(fun T=>K C (TE (lY b T) t) T d') (M9 c d')) (TE (lY d C) s)) (M9 a (M9 b x))
def zJ(n:Nat):IntKind.wrap .u32 (n:Int)=((Bl.w32 n:Nat):Int):=by
 show(n:Int) % (2 ^ 32:Int)=((n % 4294967296:Nat):Int);omega
def J7i(a b:Nat):M9 (.ofNat a) (.ofNat b)=.ofNat (Bl.w32 (Nat.add a b)):=by
 show IntKind.wrap .u32 ((a:Int)+(b:Int))=_;rw[<- Int.natCast_add,zJ];rfl
def EC(n:Nat):(BitVec.ofInt 32 (n:Int)).toNat=Bl.w32 n:=by
 rw[BitVec.toNat_ofInt];show((n:Int) % ((2 ^ 32:Nat):Int)).toNat=n % 4294967296;omega
def AV(a b:Nat):lY (.ofNat a) (.ofNat b)=.ofNat (Bl.xr a b):=by
 show IntKind.wrap .u32 (((BitVec.ofInt 32 (a:Int) ^^^ BitVec.ofInt 32 (b:Int)).toNat:Nat):Int)=_;rw[zJ,BitVec.toNat_xor,EC,EC];rfl
def Jv9(x s:Nat)(hs:s<=32):TE (.ofNat x) s=.ofNat (Bl.rot x (32-s)):=by
 show IntKind.wrap .u32 (((BitVec.ofInt 32 (IntKind.wrap .u32 ((x:Int)*2 ^ s)) ||| BitVec.ofInt 32 ((x:Int).fdiv (2 ^ (32-s)))).toNat:Nat):Int)=_;have C:(x:Int)*2 ^ s=((x*2 ^ s:Nat):Int):=kA
 have T:(x:Int).fdiv (2 ^ (32-s))=((x / 2 ^ (32-s):Nat):Int):=by
  rw[dq _ (Int.pow_nonneg qA)];simp
 rw[C,T,zJ,zJ,BitVec.toNat_or,EC,EC];have : Nat.sub 32 (32-s)=s:=by show 32-(32-s)=s;omega
 unfold Bl.rot;rw[this];rfl
def Vbh(a b:Nat):KX (.ofNat a) (.ofNat b)=.ofNat (Bl.orr a b):=by
 show IntKind.wrap .u32 (((BitVec.ofInt 32 (a:Int) ||| BitVec.ofInt 32 (b:Int)).toNat:Nat):Int)=_;rw[zJ,BitVec.toNat_or,EC,EC];rfl
def O'(n:Nat):za n=.ofNat (Bl.w32 n):=zJ n
def J76(a s:Nat):MW (.ofNat a) s=.ofNat (Bl.w32 (Nat.mul a (2 ^ s))):=by
 show IntKind.wrap .u32 ((a:Int)*2 ^ s)=_;have C:(a:Int)*2 ^ s=((a*2 ^ s:Nat):Int):=kA
 rw[C,zJ];rfl
def Jvt(a b c d:Nat):mz a b c d=.ofNat (Bl.le4 a b c d):=by
 simp only[mz,O',J76,Vbh,Bl.le4]
 try rfl
def Jiz{A:Type}(a b c d x:Nat)(s t:Nat)(hs:s<=32)(C:t<=32)(K:Int->Int->Int->Int->A) :
  OK (.ofNat a) (.ofNat b) (.ofNat c) (.ofNat d) (.ofNat x) s t K=Bl.half a b c d x (32-s) (32-t) (fun a b c d=>K (.ofNat a) (.ofNat b) (.ofNat c) (.ofNat d)):=by
 simp only[OK,Bl.half,J7i,AV,Jv9 _ _ hs,Jv9 _ _ C]
def Jw6(a:Nat):Int.fdiv (.ofNat a) (2 ^ 32)=((Nat.div a 4294967296:Nat):Int):=by
 show Int.fdiv (a:Int) (2 ^ 32)=_;rw[dq _ qA]
 first | rfl | (show(a:Int) / (2 ^ 32)=((a / 4294967296:Nat):Int);omega)
def Oi(b:Nat):Option (ip × N)->Option (V × List V)
 | some (.ret v,h)=>match h.A b with
  | some (S Y 1 c)=>U (v,c)
  | _=>O
 | _=>O
def J2l{b:Nat}{r:Option (ip × N)}{v:V}{c:List V}(h:Oi b r=U (v,c)):∃ h',r=U (.ret v,h')/\h'.A b=U (S Y 1 c):=by
 unfold Oi at h;split at h
 ·split at h
  next C=>cases h;exact⟨_,rfl,C⟩
  ·cases h
 ·cases h
def Ba:Option (ip × N)->Option V
 | some (.ret v,_)=>U v
 | _=>O
def Vaq{r:Option (ip × N)}{v:V}(h:Ba r=U v):∃ h',r=U (.ret v,h'):=by
 unfold Ba at h;split at h
 ·cases h;exact⟨_,rfl⟩
 ·cases h
def ir(n:Nat):V:=.int .u32 (.ofNat n)
def sJ(c:List V):Prop:=∀ v ∈ c,flat v=Y/\v.oneCell'=Y
def J59:List V->Bool
 | []=>Y
 | v::l=>flat v && v.oneCell' && J59 l
def EA:∀ {l:List V},J59 l=Y->sJ l
 | [],_=>fun v hv=>by cases hv
 | v::l,h=>fun x C=>by
  simp only[J59,au]at h;rcases ao.1 C with rfl | C
  ·exact h.1
  ·exact EA h.2 x C
def Ou(b d:Nat):Option (ip × N)->Option (V × List V × List V)
 | some (.ret v,h)=>match h.A b,h.A d with
  | some (S Y 1 c),U (S Y 1 e)=>U (v,c,e)
  | _,_=>O
 | _=>O
def Jwx{b d:Nat}{r:Option (ip × N)}{v:V}{c e:List V}(h:Ou b d r=U (v,c,e)) :
  ∃ h',r=U (.ret v,h')/\h'.A b=U (S Y 1 c)/\h'.A d=U (S Y 1 e):=by
 unfold Ou at h;split at h
 ·split at h
  next h1 h2=>cases h;exact⟨_,rfl,h1,h2⟩
  ·cases h
 ·cases h
section
variable{P:Program}{X_:vN}{n k m:Nat}{f:FuncId}{args0 args:List V}{v0:V}{h:N}
def KC(hm:P.follows .mixedOrders=Y)(hX:∀ b,A8 P ⟨n,b⟩ X_)(hL:zr X_){h0 C:N}{r:ip}{b:Nat}(T:(oQ P (oV P n b) X_ k m).fn f args0 h0=U (r,C)) :
  fx P ⟨n,b⟩ f args0 h0 (fun r1 h1=>r1=r/\h1=C):=by
 rw[Jjq]at T;exact(QA (oV P n b) (hX b) hL hm k m).fn _ _ _ _ _ T
def Z5j(n:Nat)(l:List (Nat × List V))(b:Nat):(rE n l).own b=J:=by
 unfold N.own;cases C:(rE n l).A b with
 | none=>rfl
 | some x =>
  unfold N.A at C;split at C
  ·obtain⟨c,_,rfl⟩:=Lz l b x C;rfl
  ·cases C
def J3k(hm:P.follows .mixedOrders=Y)(hX:∀ b,A8 P ⟨n,b⟩ X_)(hL:zr X_){c c':List V}{blk:Nat}
  (hk:∀ b,Oi n ((oQ P (oV P n b) X_ k m).fn f args0 (mZ n [] Y [(1,c)]))=U (v0,c')) (hv:flat v0=Y) (hc:sJ c) (h3:sJ c')
  (hg:h.A blk=U (S Y 1 c)) (ha:AR (oW n [blk]) args0 args) {b:Nat}:fx P ⟨n,b⟩ f args h (fun r h1=>r=.ret v0/\h1=h.set blk (U (S Y 1 c'))):=by
 intro Z w H hA;have F:Fit ⟨n,b⟩ (oW n [blk]) (mZ n [] Y [(1,c)]) h:=Pg H rfl (fun x hx=>by cases hx) rfl (fun i d r hd C=>by
  cases i with
  | zero=>simp at hd C;subst hd;subst C;exact⟨hg,hc⟩
  | succ i=>simp at hd) kA
 have hp:(mZ n [] Y [(1,c)]).A n=U (S Y 1 c):=by
  unfold mZ;rw[Hp];simp[rE]
 obtain⟨ls,e1,e2⟩:=J2l (hk b);refine Jhi F (fun i d x0 x hi hb hx => ?_) ha hv (i0:=n) (by simp[oW]) (by rw[rH hp];rfl) e2 h3 (fun i hy ho => ?_) (KC hm hX hL e1) Z w H hA
 ·rcases A9 hb with⟨_,c0,T,_⟩ | ⟨h1,r,C,rfl⟩
  ·cases T
  ·have : i=n:=by
    cases hq:i-n with
    | zero=>omega
    | succ q=>rw[hq]at C;simp at C
   subst this;simp at C;subst C;simp[oW]at hi;subst hi;rw[hg]at hx;cases hx;rfl
 ·obtain⟨x0,hb,hn⟩:=vS ho;rcases A9 hb with⟨_,c0,T,_⟩ | ⟨h1,r,C,rfl⟩
  ·cases T
  ·exfalso;cases hq:i-n with
   | zero=>omega
   | succ q=>rw[hq]at C;simp at C
def Jxl(hm:P.follows .mixedOrders=Y)(hX:∀ b,A8 P ⟨n,b⟩ X_)(hL:zr X_){c c' c2:List V}{blk T:Nat}
  (hA:∀ b,Ou n (n+1) ((oQ P (oV P n b) X_ k m).fn f args0 (mZ n [] Y [(1,c),(1,c2)]))=U (v0,c',c2)) (hv:flat v0=Y) (hc:sJ c) (hn:sJ c') (hB:sJ c2)
  (hg:h.A blk=U (S Y 1 c)) (hy:h.A T=U (S Y 1 c2)) (es:blk≠T) (ha:AR (oW n [blk,T]) args0 args) {b:Nat} :
  fx P ⟨n,b⟩ f args h (fun r h1=>r=.ret v0/\h1=h.set blk (U (S Y 1 c'))):=by
 intro Z w H h4;have F:Fit ⟨n,b⟩ (oW n [blk,T]) (mZ n [] Y [(1,c),(1,c2)]) h:=Pg H rfl (fun x hx=>by cases hx) rfl (fun i d r hd C=>by
  cases i with
  | zero=>simp at hd C;subst hd;subst C;exact⟨hg,hc⟩
  | succ i =>
   cases i with
   | zero=>simp at hd C;subst hd;subst C;exact⟨hy,hB⟩
   | succ i=>simp at hd) (by simp[es])
 have q2:(mZ n [] Y [(1,c),(1,c2)]).A n=U (S Y 1 c):=by
  unfold mZ;rw[Hp];simp[rE]
 have hp:(mZ n [] Y [(1,c),(1,c2)]).A (n+1)=U (S Y 1 c2):=by
  unfold mZ;rw[Hp,if_neg (show ¬ n+1 < (rE n []).Q from by show ¬ n+1 < n;omega)];simp[rE]
 obtain⟨q1,e1,e2,e3⟩:=Jwx (hA b);have hk:∀ i (r:Nat × List V),n<=i -> [(1,c),(1,c2)][i-n]? = U r->(i=n/\r=(1,c))∨(i=n+1/\r=(1,c2)):=by
  intro i r h1 C;cases hq:i-n with
  | zero=>rw[hq]at C;simp at C;exact .inl ⟨jA,C.symm⟩
  | succ q =>
   rw[hq]at C;cases q with
   | zero=>simp at C;exact .inr ⟨jA,C.symm⟩
   | succ q=>simp at C
 refine Jhi F (fun i d x0 x hi ls hx => ?_) ha hv (i0:=n) (by simp[oW]) (by rw[rH q2];rfl) e2 hn (fun i h3 ho => ?_) (KC hm hX hL e1) Z w H h4
 ·rcases A9 ls with⟨_,c0,hb,_⟩ | ⟨h1,r,C,rfl⟩
  ·cases hb
  ·rcases hk i r h1 C with⟨rfl,rfl⟩ | ⟨rfl,rfl⟩
   ·simp[oW]at hi;subst hi;rw[hg]at hx;cases hx;rfl
   ·unfold oW at hi;rw[if_neg jA]at hi;simp at hi;subst hi;rw[hy]at hx;cases hx;rfl
 ·obtain⟨x0,ls,hf⟩:=vS ho;rcases A9 ls with⟨_,c0,hb,_⟩ | ⟨h1,r,C,rfl⟩
  ·cases hb
  ·rcases hk i r h1 C with⟨rfl,rfl⟩ | ⟨rfl,rfl⟩
   ·exact absurd rfl h3
   ·rw[e3,hp]
def Zo9{laid rows:List (Nat × List V)}(i:Nat):(mZ n laid J rows).own i=J:=by
 unfold N.own;cases C:(mZ n laid J rows).A i with
 | none=>rfl
 | some x=>rcases A9 C with⟨_,c,_,rfl⟩ | ⟨_,r,_,rfl⟩ <;> rfl
def LaidIn(h:N)(laid:List (Nat × List V)):Prop:=∀ x ∈ laid,h.A x.1=U (S J 0 x.2)
def Jz4(hm:P.follows .mixedOrders=Y)(hX:∀ b,A8 P ⟨n,b⟩ X_)(hL:zr X_){laid rows:List (Nat × List V)}{bs:List Nat}
  (hk:∀ b,Ba ((oQ P (oV P n b) X_ k m).fn f args0 (mZ n laid J rows))=U v0) (hv:flat v0=Y) (C:LaidIn h laid) (hr:∀ x ∈ laid,x.2 ≠ []/\sJ x.2) (hc:L bs=L rows) (h3:bs.Nodup)
  (T:∀ (k b:Nat) (r:Nat × List V),bs[k]? = U b->rows[k]? = U r->h.A b=U (S Y r.1 r.2)/\sJ r.2) (ha:AR (oW n bs) args0 args) {b:Nat} :
  fx P ⟨n,b⟩ f args h (fun r h1=>r=.ret v0/\h1=h):=by
 intro Z w H hp;have F:Fit ⟨n,b⟩ (oW n bs) (mZ n laid J rows) h:=Pg H rfl (fun x hx=>⟨(hr x hx).1,C x hx,(hr x hx).2⟩) hc T h3;refine Jyt F Zo9 ha hv (fun b' => ?_) Z w H hp;obtain⟨hb,e1⟩:=Vaq (hk b');exact⟨hb,KC hm hX hL e1⟩
end
def EK:List V->Option (List Nat)
 | []=>U []
 | .int .u32 (.ofNat n)::l=>match EK l with | some r=>U (n::r) | none=>O
 | _=>O
def Ls:∀ {l:List V} {r:List Nat},EK l=U r->l=r.map ir
 | [],r,h=>by cases h;rfl
 | v::l,r,h=>by
  unfold EK at h;split at h
  next C=>cases C
  ·rename_i n l' hv;cases hv;split at h
   next r' T=>cases h;rw[Ls T];rfl
   ·cases h
  ·cases h
def ax(n:Nat):V:=.int .u8 (.ofNat n)
def Il:List V->Option (List Nat)
 | []=>U []
 | I X (.ofNat n)::l=>match Il l with | some r=>U (n::r) | none=>O
 | _=>O
def yT(n:Nat):V:=I X (.ofNat n)
def J1w:∀ {l:List V} {r:List Nat},Il l=U r->l=r.map yT
 | [],r,h=>by cases h;rfl
 | v::l,r,h=>by
  unfold Il at h;split at h
  next C=>cases C
  ·rename_i n l' hv;cases hv;split at h
   next r' T=>cases h;rw[J1w T];rfl
   ·cases h
  ·cases h
def Hx(l:List Nat):sJ (l.map ir):=fun v hv=>by
 obtain⟨n,_,rfl⟩:=am.1 hv;exact⟨rfl,rfl⟩
def J8f(l:List Nat):sJ (l.map ax):=fun v hv=>by
 obtain⟨n,_,rfl⟩:=am.1 hv;exact⟨rfl,rfl⟩
def oH:List Nat->List Nat->Bool
 | [],[]=>Y
 | a::l,b::r=>bq (Nat.beq a b) (oH l r) J
 | _,_=>J
def wF:∀ {l r:List Nat},oH l r=Y->l=r
 | [],[],_=>rfl
 | a::l,b::r,h=>by
  simp only[oH]at h;cases C:Nat.beq a b with
  | false=>rw[C]at h;cases h
  | true=>rw[C]at h;rw[aT C,wF h]
 | [],_::_,h=>by simp[oH]at h
 | _::_,[],h=>by simp[oH]at h
def Ky(h:N):V->Option (Nat × List V)
 | .pointer (U ⟨b,0,O⟩)=>match h.A b with
  | some (S Y 1 c)=>U (b,c)
  | _=>O
 | _=>O
def HA{h:N}{v:V}{b:Nat}{c:List V}(C:Ky h v=U (b,c)):v=.pointer (U ⟨b,0,O⟩)/\h.A b=U (S Y 1 c):=by
 unfold Ky at C;split at C
 ·split at C
  next T=>cases C;exact⟨rfl,T⟩
  ·cases C
 ·cases C
def Wu{A:Type}{l:List A}{n:Nat}(h:L l=n+1):∃ a t,l=a::t/\L t=n:=by
 cases l with
 | nil=>simp at h
 | cons a t=>exact⟨a,t,rfl,by simpa using h⟩
def rJ{A B:Type}{x:Option A}{f:A->Option B}{y:B}(h:ob x f=U y):∃ a,x=U a/\f a=U y:=by
 cases x with
 | none=>cases h
 | some a=>exact⟨a,rfl,h⟩
def Ly{A:Type}{b:Bool}{x:Option A}{y:A}(h:bq b x O=U y):b=Y/\x=U y:=by
 cases b with
 | true=>exact⟨rfl,h⟩
 | false=>cases h
def N7(s:ByteArray):List Nat:=s.data.toList.map UInt8.toNat
def Jyx{s t:ByteArray}(h:N7 s=N7 t):s=t:=by
 have h2:s.data.toList=t.data.toList:=(List.map_inj_right (fun x y h=>fw.1 h)).1 h;cases s;cases t;simp only[ByteArray.mk.injEq];exact bR h2
def OL:V->V->Bool
 | .int k (.ofNat a),.int j (.ofNat b)=>bq (decide (k=j)) (Nat.beq a b) J
 | .string s,.string t=>oH (N7 s) (N7 t)
 | _,_=>J
def J91{x y:V}(h:OL x y=Y):x=y:=by
 unfold OL at h;split at h
 ·rename_i k a j b;cases C:decide (k=j)with
  | false=>rw[C]at h;cases h
  | true =>
   rw[C]at h;have h1:=of_decide_eq_true C;subst h1;rw[aT h]
 ·rw[Jyx (wF h)]
 ·cases h
def Dm:List V->List V->Bool
 | [],[]=>Y
 | a::l,b::r=>bq (OL a b) (Dm l r) J
 | _,_=>J
def Jvx:∀ {l r:List V},Dm l r=Y->l=r
 | [],[],_=>rfl
 | a::l,b::r,h=>by
  simp only[Dm]at h;cases C:OL a b with
  | false=>rw[C]at h;cases h
  | true=>rw[C]at h;rw[J91 C,Jvx h]
 | [],_::_,h=>by simp[Dm]at h
 | _::_,[],h=>by simp[Dm]at h
def T6(h:N):List (Nat × List V)->Bool
 | []=>Y
 | x::l=>bq (match h.A x.1 with
  | some (S J 0 c)=>Dm c x.2
  | _=>J) (T6 h l) J
def Jw8{h:N}:∀ {l:List (Nat × List V)},T6 h l=Y->LaidIn h l
 | [],_=>fun x hx=>by cases hx
 | x::l,C=>fun y T=>by
  simp only[T6]at C;split at C
  ·rename_i c hg;cases hs:Dm c x.2 with
   | false=>rw[hs]at C;cases C
   | true =>
    rw[hs]at C;rcases ao.1 T with rfl | T
    ·rw[hg,Jvx hs]
    ·exact Jw8 C y T
  ·cases C
def uL(h:Bl.P8):V:=.agg ⟨[ir h.h0,ir h.h1,ir h.h2,ir h.h3,ir h.h4,ir h.h5,ir h.h6,ir h.h7]⟩
def A_:Nat->Code->Code
 | 0,.seq a _=>a
 | n+1,.seq a b => .seq a (A_ n b)
 | _,c=>c
def Nb:Nat->Code->Code
 | 0,.seq _ b=>b
 | n+1,.seq _ b=>Nb n b
 | _,_ => .skip
def UA:Nat->Code->Bool
 | 0,.seq _ _=>Y
 | n+1,.seq _ b=>UA n b
 | _,_=>J
def Joc{P:Program}(E:d_ P)(C:b_)(r:Option Nat)(k:Nat):∀ (n:Nat) (c:Code) (s:St),UA n c=Y->pu P E C r k c s=ob (pu P E C r k (A_ n c) s) (yb (pu P E C r k (Nb n c)))
 | 0,.seq x y,s,_=>rfl
 | n+1,.seq x y,s,h=>by
  have ih:=Joc E C r k n y;show ob (pu P E C r k x s) (yb (pu P E C r k y))=ob (ob (pu P E C r k x s) (yb (pu P E C r k (A_ n y)))) (yb (pu P E C r k (Nb n y)));rcases pu P E C r k x s with _ | ⟨e,T⟩
  ·rfl
  ·simp only[jf];cases e <;> first | rfl | skip
   rw[Md,Md];exact ih T h
def Vlv(P:Program)(E:d_ P)(D:pL)(fn:Func)(r:XS):Option (ip × N):=match r with
 | some (.normal,s) | some (.ret,s)=>Qv E D fn s.t s.ds .returning s.h
 | some (.panic C,s)=>Qv E D fn s.t s.ds (.panicking C) s.h
 | _=>O
def Juv{P:Program}{E:d_ P}{X_:vN}{k n f n0:Nat}{args:List V}{h:N}{F:Func}{c:Code}(hX:X_ f args h=O)(T:E.fn.A f=U F)(hb:F.body=U c)(C:Nat.ble (L args) F.ntmps=Y)(hc:UA n0 c=Y) :
  (oQ P E X_ k (n+1)).fn f args h=Vlv P E (vM E (oQ P E X_ k n) k) F (ob (pu P E (oQ P E X_ k n) O k (A_ n0 c) ⟨Xs F args,[],h⟩) (yb (pu P E (oQ P E X_ k n) O k (Nb n0 c)))):=by
 show(Option.rec (motive:=fun _=>Option (ip × N)) (G2 P E (oQ P E X_ k n) (vM E (oQ P E X_ k n) k) k f args h) (fun r=>U r) (X_ f args h))=_;rw[hX];simp only[G2,T,jf,hb,C,oY];rw[Joc E _ O k n0 c _ hc];rfl
def Od(b:Nat)(c:List V)(r:XS):XS:=match r with
 | some (e,s)=>U (e,{t:=s.t,ds:=s.ds,h:={Q:=s.h.Q,low:=s.h.low,t:=s.h.t.put b (U (S Y 1 c))} })
 | none=>O
open Go.ChangeShapes Go.WideShapes Go.RowKit
def J0h{P:Program}{W:World}{laid:List (String × DataW Unit)}{n:Nat}{l:List (Nat × List V)}(h:laidMet P laid W)(hl:J3u P laid n l):∀ x ∈ l,x.1 < W.heap.size:=by
 intro x hx;obtain⟨_,hf,name,t,d,k,hm,hg,ht,hd⟩:=hl x hx;obtain⟨g,t',cs,hc,p,h1,h2,T,h4⟩:=Lib.laidMet.reads h hm;obtain rfl:=Option.some.inj (hg.symm.trans h1);unfold World.var? at T;rw[hg]at T;simp only[Option.bind_some]at T;split at T
 next C e fr hC=>exact(Array.getElem?_eq_some_iff.1 hC).1
 ·cases T
section
variable{P:Program}{Z:Ren}{s:St}{a:Act}{w:World}
def Ed(s:St)(d:Option Tmp)(v:V)(h:N):(s.put d v h).h=h:=by cases d <;> rfl
end
section
variable{P:Program}{Z:Ren}{s:St}{h:N}{w:World}
end
section
variable{P:Program}{G:Bs}{Z:Ren}{h:N}{w:World}
end
section
variable{P:Program}
end
section
variable{P:Program}{G:Bs}{Z Z':Ren}{h h1 h2:N}{w w':World}{s s1 sF:St}{a:Act}
def bN.sub(H:bN G Z h w)(hn:h1.Q=h.Q)(hb:∀ b x,h1.A b=U x->h.A b=U x):bN G Z h1 w:=by
 have T:∀ b,h1.own b=Y->h.own b=Y:=fun b ho=>by
  obtain⟨x,C,hr⟩:=vS ho;rw[rH (hb b x C)];exact hr
 have hc:∀ b,h1.live b=Y->h.live b=Y:=fun b ho=>by
  unfold N.live at ho;split at ho
  next x C=>rw[DK (hb b x C)];exact ho
  ·cases ho
 refine⟨fun b p hp=>by rw[hn];exact H.dom b p hp,fun b p x hp C=>H.fits b p x hp (hb b x C),fun b c p q hp hq hk ho hl=>H.apart b c p q hp hq hk (T b ho) (hc c hl),fun g hg=>⟨(H.glob g hg).1,?_⟩,by rw[hn];exact H.globs,fun b x C => ?_,fun b p x hp C=>H.base b p x hp (hb b x C),H.bsz⟩
 ·cases ho:h1.own g with
  | false=>rfl
  | true=>have:=T g ho;rw[(H.glob g hg).2]at this;cases this
 ·rw[hn];exact H.wf b x (hb b x C)
end
structure Mile where
 size:Nat
 Q:Nat
 temps:List (Nat × V)
 blks:List (Nat × Blk)
def mY(r:ip)(_:N):Bool:=match r with
 | .ret (.bool Y)=>Y
 | _=>J
section
variable{P:Program}
end
end Go.Ab
