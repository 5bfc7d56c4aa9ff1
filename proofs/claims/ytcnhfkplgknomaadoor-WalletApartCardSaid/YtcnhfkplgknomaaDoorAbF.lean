import Derived.Test.YtcnhfkplgknomaaDoorAbE
import Derived.Handed
import Derived.ChangeShapes
import Derived.RowKitTokens
import Derived.Lay
import Derived.JoinedOf
set_option linter.all false
noncomputable section
namespace Go.Ab
abbrev Emb:=Nat->Option Nat
def Emb.ren(ρ:Emb)(α:Ren):Ren:=fun i=>match ρ i with | some b=>α b | none=>none
theorem Emb.ren_some{ρ:Emb}{α:Ren}{i:Nat}{p:Place}(h:ρ.ren α i=some p):∃ b,ρ i=some b/\α b=some p:=by
 unfold Emb.ren at h
 split at h
 ·rename_i b hb;exact⟨b,hb,h⟩
 ·cases h
theorem Emb.ren_at{ρ:Emb}{α:Ren}{i b:Nat}(h:ρ i=some b):ρ.ren α i=α b:=by simp[Emb.ren,h]
def Yp9(x0 x:Blk):Prop:=∃ o0 o sz c,x0=.cells o0 sz c/\x=.cells o sz c/\(o0=true->o=true)/\(o0=false->o=true∨c ≠ [])/\∀ v ∈ c,flat v=true/\v.oneCell'=true
structure Fit (G:Bs) (ρ:Emb) (h0 h:Heap):Prop where
 lt:∀ i b,ρ i=some b->i < h0.next
 inj:∀ i j b,ρ i=some b->ρ j=some b->i=j
 like:∀ i b x0,ρ i=some b->h0.get i=some x0->∃ x,h.get b=some x/\Yp9 x0 x
 glob:∀ g,g < G.n->ρ g=some g/\h0.own g=false
 globs:G.n<=h0.next
 all:∀ i x0,h0.get i=some x0->∃ o sz c,x0=.cells o sz c/\∀ v ∈ c,flat v=true/\v.oneCell'=true
def Q6z(ρ:Emb)(args0 args:List Value):Prop :=
 ∀ α:Ren,(∀ v ∈ args,okV (dom α) v)->args.map (ren α)=args0.map (ren (ρ.ren α))/\∀ v ∈ args0,okV (dom (ρ.ren α)) v
section
variable{P:Program}{G:Bs}{α:Ren}{ρ:Emb}{h0 h:Heap}{w:World}
theorem Fits.likes{p:Place}{x0 x:Blk}{β:Ren}(hl:Yp9 x0 x)(hf:Fits α p w x):Fits β p w x0:=by
 obtain⟨o0,o,sz,c,rfl,rfl,h1,h2,h3⟩:=hl
 obtain⟨hsz,hf⟩:=hf
 refine⟨hsz,?_⟩
 rcases hf with⟨rfl,rfl⟩ | ⟨C,e,lo,hi,k1,k2,k3⟩
 ·left
  refine⟨?_,rfl⟩
  cases o0 with
  | false=>rfl
  | true=>exact absurd (h1 rfl) (by simp)
 ·right
  refine⟨C,e,lo,hi,k1,fun i v hv => ?_,fun ho=>k3 (h1 ho)⟩
  have hfl:=h3 v (List.mem_of_getElem? hv)
  obtain⟨m1,m2,m3⟩:=k2 i v hv
  rw[Qdd _ hfl.1]at m1
  exact⟨by rw[m1,Qdd _ hfl.1],flat_ok _ v hfl.1,m3⟩
theorem Yna{x0 x:Blk}(hl:Yp9 x0 x)(ho:x0.own=true):x.own=true:=by
 obtain⟨o0,o,sz,c,rfl,rfl,h1,h2,h3⟩:=hl
 exact h1 ho
theorem Q2y{x0 x:Blk}(hl:Yp9 x0 x)(ho:x0.solid=true):x.solid=true:=by
 obtain⟨o0,o,sz,c,rfl,rfl,h1,h2,h3⟩:=hl
 cases o with
 | true=>rfl
 | false =>
  cases c with
  | nil =>
   cases o0 with
   | true=>exact absurd (h1 rfl) (by simp)
   | false=>simp[Blk.solid]at ho
  | cons _ _=>rfl
theorem Fit.rel(F:Fit G ρ h0 h)(H:HRel G α h w){b':Nat}(hbase:∀ i b p x0,ρ i=some b->α b=some p->h0.get i=some x0->(x0.own=true->b'<=p.blk/\p.spot=none)/\(x0.own=false->x0.solid=true->p.blk < b'/\p.spot=none))(hb':b'<=w.heap.size) :
  HRel ⟨G.n,b'⟩ (ρ.ren α) h0 w:=by
 refine⟨fun i p hi => ?_,fun i p x0 hi hx => ?_,fun i j p q hi hj hne ho hl => ?_,fun g hg=>⟨?_,(F.glob g hg).2⟩,F.globs,fun i x0 hx => ?_,fun i p x0 hi hx => ?_,hb'⟩
 ·obtain⟨b,hb,hp⟩:=Emb.ren_some hi
  exact⟨F.lt i b hb,(H.dom b p hp).2⟩
 ·obtain⟨b,hb,hp⟩:=Emb.ren_some hi
  obtain⟨x,hx',hl⟩:=F.like i b x0 hb hx
  exact Fits.likes hl (H.fits b p x hp hx')
 ·obtain⟨b,hb,hp⟩:=Emb.ren_some hi
  obtain⟨c,hc,hq⟩:=Emb.ren_some hj
  obtain⟨x0,hx0,hxo⟩:=Qwy ho
  obtain⟨x,hx,hlx⟩:=F.like i b x0 hb hx0
  have hbc:b≠c:=fun e=>hne (F.inj i j b hb (e ▸ hc))
  unfold Heap.live at hl
  cases hy0:h0.get j with
  | none=>simp[hy0]at hl
  | some y0 =>
   simp only[hy0]at hl
   obtain⟨y,hy,hly⟩:=F.like j c y0 hc hy0
   exact H.apart b c p q hp hq hbc (by rw[Qpo hx];exact Yna hlx hxo) (by rw[Xlx hy];exact Q2y hly hl)
 ·rw[Emb.ren_at (F.glob g hg).1];exact(H.glob g hg).1
 ·obtain⟨o,sz,c,rfl,h1⟩:=F.all i x0 hx
  exact fun v hv=>⟨flat_ok _ v (h1 v hv).1,(h1 v hv).2⟩
 ·obtain⟨b,hb,hp⟩:=Emb.ren_some hi
  exact hbase i b p x0 hb hp hx
theorem X2e{f:FuncId}{args0 args:List Value}{v0:Value}(F:Fit G ρ h0 h)(hro:∀ i,h0.own i=false)(ha:Q6z ρ args0 args)(hv:flat v0=true)
  (hcall:∀ b,∃ h0',CallOK P ⟨G.n,b⟩ f args0 h0 (fun r h1=>r=.ret v0/\h1=h0')):CallOK P G f args h (fun r h1=>r=.ret v0/\h1=h):=by
 intro α w H hok
 obtain⟨h0',hcall⟩:=hcall w.heap.size
 obtain⟨a1,a2⟩:=ha α hok
 have H0:HRel ⟨G.n,w.heap.size⟩ (ρ.ren α) h0 w:=F.rel H (fun i b p x0 hi hp hx=>⟨fun ho=>(by have:=hro i;rw[Qpo hx,ho]at this;cases this),fun _ hs=>by obtain⟨x,hx',hl⟩:=F.like i b x0 hi hx;exact⟨H.blk_lt hp hx' (Q2y hl hs),H.spot hp hx' (Q2y hl hs)⟩⟩) (Nat.le_refl _)
 rw[a1]
 refine(hcall (ρ.ren α) w H0 a2).mono ?_
 rintro e w' ⟨α',r,h2,⟨rfl,rfl⟩,rfl,_,_,t,_⟩
 have hsame:∀ k,k < w.heap.size->w'.heap[k]? = w.heap[k]? := fun k hk=>t.same k hk (fun b p _ ho=>by rw[hro b]at ho;cases ho)
 refine⟨α,_,_,⟨rfl,rfl⟩,by simp[Qkk,Qdd _ hv],flat_ok _ v0 hv,Ext.refl _ _,⟨t.size,fun k hk _=>hsame k hk,fun b p hb ho => .inr ⟨b,p,hb,ho,rfl⟩,t.tape,t.os,t.output,Nat.le_refl _⟩,?_⟩
 exact⟨fun b p hb=>H.dom b p hb,fun b p x hb hx=>(H.fits b p x hb hx).keepS (fun _ _=>rfl) fun hs=>hsame _ (H.blk_lt hb hx hs),H.apart,H.glob,H.globs,H.wf,H.base,Nat.le_trans H.bsz t.size⟩
theorem Ykx{f:FuncId}{args0 args:List Value}{sz:Nat}{c:List Value}(F:Fit G ρ h0 h)(hro:∀ i,h0.own i=false)(ha:Q6z ρ args0 args)(hc:∀ v ∈ c,flat v=true/\v.oneCell'=true)
  (hcall:∀ b,∃ j h0',h0.next<=j/\h0'.get j=some (.cells true sz c)/\CallOK P ⟨G.n,b⟩ f args0 h0 (fun r h1=>r=.ret (.pointer (some ⟨j,0,none⟩))/\h1=h0')) :
  CallOK P G f args h (fun r h1=>r=.ret (.pointer (some ⟨h.next,0,none⟩))/\h1=h.push (.cells true sz c)):=by
 intro α w H hok
 obtain⟨j,h0',hj,hg,hcall⟩:=hcall w.heap.size
 obtain⟨a1,a2⟩:=ha α hok
 have H0:HRel ⟨G.n,w.heap.size⟩ (ρ.ren α) h0 w:=F.rel H (fun i b p x0 hi hp hx=>⟨fun ho=>(by have:=hro i;rw[Qpo hx,ho]at this;cases this),fun _ hs=>by obtain⟨x,hx',hl⟩:=F.like i b x0 hi hx;exact⟨H.blk_lt hp hx' (Q2y hl hs),H.spot hp hx' (Q2y hl hs)⟩⟩) (Nat.le_refl _)
 rw[a1]
 refine(hcall (ρ.ren α) w H0 a2).mono ?_
 rintro e w' ⟨α',r,h2,⟨rfl,rfl⟩,rfl,hvok,_,t,H'⟩
 have hsame:∀ k,k < w.heap.size->w'.heap[k]? = w.heap[k]? := fun k hk=>t.same k hk (fun b p _ ho=>by rw[hro b]at ho;cases ho)
 simp only[Xaa,okV]at hvok
 obtain⟨p,hp⟩:=Option.isSome_iff_exists.1 hvok.1
 have hfit:=H'.fits j p _ hp hg
 have hown:h2.own j=true:=by rw[Qpo hg];rfl
 have hpn:w.heap.size<=p.blk:=by
  rcases t.owns j p hp hown with h3 | ⟨c',q,_,ho,_⟩
  ·exact h3
  ·rw[hro c']at ho;cases ho
 have hb0:p.base=0:=by
  obtain⟨_,hf | ⟨C,e,lo,hi,_,_,k3⟩⟩:=hfit
  ·cases hf.1
  ·exact(k3 rfl).1
 have Hw:HRel G α h w':=⟨fun b q hb=>H.dom b q hb,fun b q x hb hx=>(H.fits b q x hb hx).keepS (fun _ _=>rfl) fun hs=>hsame _ (H.blk_lt hb hx hs),H.apart,H.glob,H.globs,H.wf,H.base,Nat.le_trans H.bsz t.size⟩
 have hcase:∀ c q,Ren.add α h.next p c=some q->(c=h.next/\q=p)∨(c < h.next/\α c=some q):=by
  intro c q hc
  unfold Ren.add at hc
  split at hc
  ·cases hc;exact .inl ⟨by assumption,rfl⟩
  ·exact .inr ⟨(H.dom c q hc).1,hc⟩
 have hnd:ren α' (.pointer (some ⟨j,0,none⟩))=ren (Ren.add α h.next p) (.pointer (some ⟨h.next,0,none⟩)):=by
  simp[ren,J6,hp,Ren.add_same]
 refine⟨Ren.add α h.next p,_,_,⟨rfl,rfl⟩,by simp only[Qkk,hnd],?_,Ren.add_ext _ _ _,⟨t.size,fun k hk _=>hsame k hk,fun b q hb ho => ?_,t.tape,t.os,t.output,Nat.le_succ _⟩,?_⟩
 ·simp only[Xaa,okV,and_true]
  show(Ren.add _ _ _ _).isSome=true
  rw[Ren.add_same];rfl
 ·rcases hcase b q hb with⟨rfl,rfl⟩ | ⟨h1,h2⟩
  ·exact .inl hpn
  ·rw[Qn3,if_neg (by omega)]at ho
   exact .inr ⟨b,q,h2,ho,rfl⟩
 ·refine⟨fun b q hb => ?_,fun b q x hb hx => ?_,fun b d q r hb hd hne ho hl => ?_,fun g hg' => ?_,Nat.le_succ_of_le H.globs,fun b x hx => ?_,fun b q x hb hx => ?_,Hw.bsz⟩
  ·rcases hcase b q hb with⟨rfl,rfl⟩ | ⟨h1,h2⟩
   ·exact⟨Nat.lt_succ_self _,(H'.dom j q hp).2⟩
   ·exact⟨Nat.lt_succ_of_lt h1,(Hw.dom b q h2).2⟩
  ·rw[Heap.get_push]at hx
   rcases hcase b q hb with⟨rfl,rfl⟩ | ⟨h1,h2⟩
   ·simp only[if_true]at hx;cases hx
    exact Fits.likes ⟨true,true,sz,c,rfl,rfl,fun _=>rfl,(fun h=>by cases h),hc⟩ hfit
   ·rw[if_neg (by omega)]at hx
    exact(Hw.fits b q x h2 hx).keep (H.add_dom p) rfl
  ·rw[Qn3]at ho
   rw[Xfl]at hl
   rcases hcase b q hb with⟨rfl,rfl⟩ | ⟨h1,h2⟩
   ·rcases hcase d r hd with⟨rfl,rfl⟩ | ⟨h3,h4⟩
    ·exact absurd rfl hne
    ·rw[if_neg (by omega)]at hl
     have:=H.blk_live h4 hl;omega
   ·rcases hcase d r hd with⟨rfl,rfl⟩ | ⟨h3,h4⟩
    ·rw[if_neg (by omega)]at ho
     have:=H.blk_own h2 ho;omega
    ·rw[if_neg (by omega)]at ho
     rw[if_neg (by omega)]at hl
     exact H.apart b d q r h2 h4 hne ho hl
  ·have:=H.globs
   refine⟨by rw[Ren.add_ext α h.next p g (by omega)];exact(H.glob g hg').1,?_⟩
   rw[Qn3,if_neg (by omega)]
   exact(H.glob g hg').2
  ·rw[Heap.get_push]at hx
   split at hx
   ·cases hx;exact fun v hv=>⟨flat_ok _ v (hc v hv).1,(hc v hv).2⟩
   ·exact Q1v (fun c hc=>Nat.lt_succ_of_lt hc) (H.wf b x hx)
  ·rw[Heap.get_push]at hx
   rcases hcase b q hb with⟨rfl,rfl⟩ | ⟨h1,h2⟩
   ·simp only[if_true]at hx;cases hx
    exact⟨fun _=>⟨Nat.le_trans H.bsz hpn,H'.spot hp hg rfl⟩,fun h0=>by cases h0⟩
   ·rw[if_neg (by omega)]at hx
    exact H.base b q x h2 hx
theorem X75{f:FuncId}{args0 args:List Value}{v0:Value}{h0':Heap}{i0 b0 sz:Nat}{c:List Value}(F:Fit G ρ h0 h)(hsame:∀ i b x0 x,ρ i=some b->h0.get i=some x0->h.get b=some x->x0=x)(ha:Q6z ρ args0 args)(hv:flat v0=true)
  (hi:ρ i0=some b0) (ho:h0.own i0=true) (hg:h0'.get i0=some (.cells true sz c)) (hc:∀ v ∈ c,flat v=true/\v.oneCell'=true)
  (hrest:∀ i,i≠i0->h0.own i=true->h0'.get i=h0.get i)
  (hcall:CallOK P ⟨G.n,G.b⟩ f args0 h0 (fun r h1=>r=.ret v0/\h1=h0')):CallOK P G f args h (fun r h1=>r=.ret v0/\h1=h.set b0 (some (.cells true sz c))):=by
 intro α w H hok
 obtain⟨a1,a2⟩:=ha α hok
 have H0:HRel ⟨G.n,G.b⟩ (ρ.ren α) h0 w:=F.rel H (fun i b p x0 hib hp hx=>by
  obtain⟨x,hx',_⟩:=F.like i b x0 hib hx
  have:=hsame i b x0 x hib hx hx'
  subst this
  exact H.base b p x0 hp hx') H.bsz
 rw[a1]
 refine(hcall (ρ.ren α) w H0 a2).mono ?_
 rintro e w' ⟨α',r,h2,⟨rfl,e2⟩,rfl,_,x1,t,H'⟩
 subst e2
 have hownb:∀ i p,ρ.ren α i=some p->h0.own i=true->∃ b,ρ i=some b/\α b=some p/\h.own b=true:=by
  intro i p hip hio
  obtain⟨b,hb,hp⟩:=Emb.ren_some hip
  obtain⟨x0,hx0,hxo⟩:=Qwy hio
  obtain⟨x,hx,_⟩:=F.like i b x0 hb hx0
  have:=hsame i b x0 x hb hx0 hx
  subst this
  exact⟨b,hb,hp,by rw[Qpo hx];exact hxo⟩
 have hstay:∀ k,k < w.heap.size->(∀ b p,α b=some p->h.own b=true->p.blk≠k)->w'.heap[k]? = w.heap[k]? := fun k hk hno =>
  t.same k hk (fun i p hip hio=>by obtain⟨b,_,hp,hbo⟩:=hownb i p hip hio;exact hno b p hp hbo)
 have hob:h.own b0=true:=by
  obtain⟨x0,hx0,hxo⟩:=Qwy ho
  obtain⟨x,hx,_⟩:=F.like i0 b0 x0 hi hx0
  have:=hsame i0 b0 x0 x hi hx0 hx
  subst this
  rw[Qpo hx];exact hxo
 have hlt:b0 < h.next:=by obtain⟨x,hx,_⟩:=Qwy hob;exact Heap.get_lt hx
 have hfit0:∀ p,α b0=some p->Fits α p w' (.cells true sz c):=by
  intro p hp
  have hα:α' i0=some p:=by rw[x1 i0 (F.lt i0 b0 hi),Emb.ren_at hi,hp]
  exact Fits.likes ⟨true,true,sz,c,rfl,rfl,fun _=>rfl,(fun h=>by cases h),hc⟩ (H'.fits i0 p _ hα hg)
 refine⟨α,_,_,⟨rfl,rfl⟩,by simp[Qkk,Qdd _ hv],flat_ok _ v0 hv,Ext.refl _ _,⟨t.size,fun k hk hno=>hstay k hk hno,fun b p hb hbo => .inr ⟨b,p,hb,?_,rfl⟩,t.tape,t.os,t.output,Nat.le_refl _⟩,?_⟩
 ·rw[Q2o hlt]at hbo
  split at hbo
  ·rename_i e;exact e ▸ hob
  ·exact hbo
 ·refine⟨fun b p hb=>H.dom b p hb,fun b p x hb hx => ?_,fun b d q r hb hd hne hbo hl => ?_,fun g hg'=>⟨(H.glob g hg').1,?_⟩,H.globs,fun b x hx => ?_,fun b p x hb hx => ?_,Nat.le_trans H.bsz t.size⟩
  ·rw[Heap.get_set _ _ _ _ hlt]at hx
   split at hx
   ·rename_i e;subst e;cases hx;exact hfit0 p hb
   ·rename_i hne
    cases hs:x.solid with
    | false =>
     cases x with
     | cells o z l=>cases o <;> cases l <;> simp[Blk.solid]at hs;exact⟨(H.fits b p _ hb hx).1,.inl ⟨rfl,rfl⟩⟩
     | map _ _=>simp[Blk.solid]at hs
     | obj _=>simp[Blk.solid]at hs
    | true =>
     by_cases him:∃ i,ρ i=some b/\h0.own i=true
     ·obtain⟨i,hib,hio⟩:=him
      obtain⟨x0,hx0,hxo⟩:=Qwy hio
      obtain⟨x',hx',hl⟩:=F.like i b x0 hib hx0
      have:=hsame i b x0 x' hib hx0 hx'
      subst this
      rw[hx]at hx';cases hx'
      have hii:i≠i0:=fun e=>hne (by subst e;rw[hi]at hib;cases hib;rfl)
      have hα:α' i=some p:=by rw[x1 i (F.lt i b hib),Emb.ren_at hib,hb]
      have:=H'.fits i p x hα (by rw[hrest i hii hio];exact hx0)
      exact Fits.likes hl this
     ·refine(H.fits b p x hb hx).keep (fun _ _=>rfl) (t.same _ (H.blk_lt hb hx hs) fun i q hiq hio => ?_)
      obtain⟨d,hd,hq,hdo⟩:=hownb i q hiq hio
      have hdb:d≠b:=fun e=>him ⟨i,e ▸ hd,hio⟩
      exact H.apart d b q p hq hb hdb hdo (by rw[Xlx hx];exact hs)
  ·have h1:h.own b=true:=by
    rw[Q2o hlt]at hbo
    split at hbo
    ·rename_i e;exact e ▸ hob
    ·exact hbo
   have h2:h.live d=true:=by
    rw[Xtt hlt]at hl
    split at hl
    ·rename_i e;exact e ▸ Xtk hob
    ·exact hl
   exact H.apart b d q r hb hd hne h1 h2
  ·rw[Q2o hlt]
   split
   ·rename_i e;subst e;rw[(H.glob b0 hg').2]at hob;cases hob
   ·exact(H.glob g hg').2
  ·rw[Heap.get_set _ _ _ _ hlt]at hx
   split at hx
   ·cases hx;exact fun v hv=>⟨flat_ok _ v (hc v hv).1,(hc v hv).2⟩
   ·exact H.wf b x hx
  ·rw[Heap.get_set _ _ _ _ hlt]at hx
   split at hx
   ·rename_i e;subst e;cases hx
    obtain⟨x0,hx0,hxo⟩:=Qwy hob
    exact⟨fun _=>(H.base b0 p x0 hb hx0).1 hxo,fun h0=>by cases h0⟩
   ·exact H.base b p x hb hx
def emb(n:Nat)(bs:List Nat):Emb:=fun i=>if i < n then some i else bs[i-n]?
def X7d(own:Bool):List (Nat × List Value)->Heap->Heap
 | [],h=>h
 | x::l,h=>X7d own l (h.push (.cells own x.1 x.2))
def Qdl(n:Nat)(laid:List (Nat × List Value))(own:Bool)(rows:List (Nat × List Value)):Heap:=X7d own rows (Q0v n laid)
theorem Xr7(own:Bool):∀ (rows:List (Nat × List Value)) (h:Heap),(X7d own rows h).next=h.next+rows.length
 | [],h=>rfl
 | x::l,h=>by rw[X7d,Xr7 own l];simp[Heap.push];omega
theorem Xg1(own:Bool):∀ (rows:List (Nat × List Value)) (h:Heap) (i:Nat),(X7d own rows h).get i=if i < h.next then h.get i else(rows[i-h.next]?).map fun x => .cells own x.1 x.2
 | [],h,i=>by
  simp only[X7d]
  split
  ·rfl
  ·rw[Heap.get_none (by omega)];simp
 | x::l,h,i=>by
  rw[X7d,Xg1 own l]
  have hn:(h.push (.cells own x.1 x.2)).next=h.next+1:=rfl
  rw[hn,Heap.get_push]
  by_cases h1:i < h.next
  ·rw[if_pos (by omega),if_neg (by omega),if_pos h1]
  ·rw[if_neg h1]
   by_cases h2:i=h.next
   ·subst h2;simp
   ·rw[if_neg (by omega)]
    have : i-h.next=(i-(h.next+1))+1:=by omega
    rw[this];simp
theorem Qw7{n:Nat}{laid:List (Nat × List Value)}{own:Bool}{rows:List (Nat × List Value)}{i:Nat}{x:Blk}(h:(Qdl n laid own rows).get i=some x) :
  (i < n/\∃ c,(i,c) ∈ laid/\x=.cells false 0 c)∨(n<=i/\∃ r,rows[i-n]? = some r/\x=.cells own r.1 r.2):=by
 unfold Qdl at h
 rw[Xg1]at h
 have hn:(Q0v n laid).next=n:=rfl
 rw[hn]at h
 split at h
 ·rename_i hi
  left
  refine⟨hi,?_⟩
  unfold Heap.get at h
  split at h
  ·exact Xj1 laid i x h
  ·cases h
 ·right
  refine⟨by omega,?_⟩
  cases hr:rows[i-n]? with
  | none=>rw[hr]at h;cases h
  | some r=>rw[hr]at h;cases h;exact⟨r,rfl,rfl⟩
theorem Xg3{n:Nat}{laid:List (Nat × List Value)}{own:Bool}{bs:List Nat}{rows:List (Nat × List Value)}(H:HRel G α h w)(hn:G.n=n)
  (hlaid:∀ x ∈ laid,x.2 ≠ []/\h.get x.1=some (.cells false 0 x.2)/\∀ v ∈ x.2,flat v=true/\v.oneCell'=true) (hlen:bs.length=rows.length)
  (hrows:∀ (k b:Nat) (r:Nat × List Value),bs[k]? = some b->rows[k]? = some r->h.get b=some (.cells true r.1 r.2)/\∀ v ∈ r.2,flat v=true/\v.oneCell'=true) (hnd:bs.Nodup) :
  Fit G (emb n bs) (Qdl n laid own rows) h:=by
 subst hn
 have hnext:(Qdl G.n laid own rows).next=G.n+rows.length:=Xr7 own rows _
 have hcase:∀ i b,emb G.n bs i=some b->(i < G.n/\b=i)∨(G.n<=i/\bs[i-G.n]? = some b):=by
  intro i b hi
  unfold emb at hi
  split at hi
  ·cases hi;exact .inl ⟨by assumption,rfl⟩
  ·exact .inr ⟨by omega,hi⟩
 have hbig:∀ (k b:Nat),bs[k]? = some b->G.n<=b:=by
  intro k b hb
  have hk:k < rows.length:=by rw[<- hlen];exact(List.getElem?_eq_some_iff.1 hb).1
  obtain⟨r,hr⟩:∃ r,rows[k]? = some r:=⟨rows[k],List.getElem?_eq_getElem hk⟩
  have h1:=(hrows k b r hb hr).1
  rcases Nat.lt_or_ge b G.n with h2 | h2
  ·have:=(H.glob b h2).2
   rw[Qpo h1]at this;cases this
  ·exact h2
 refine⟨fun i b hi => ?_,fun i j b hi hj => ?_,fun i b x0 hi hx => ?_,fun g hg=>⟨by simp[emb,hg],?_⟩,by rw[hnext];omega,fun i x0 hx => ?_⟩
 ·rcases hcase i b hi with⟨h1,_⟩ | ⟨h1,h2⟩
  ·rw[hnext];omega
  ·have:=(List.getElem?_eq_some_iff.1 h2).1
   rw[hnext,<- hlen];omega
 ·rcases hcase i b hi with⟨h1,rfl⟩ | ⟨h1,h2⟩ <;> rcases hcase j b hj with⟨h3,h4⟩ | ⟨h3,h4⟩
  ·exact h4
  ·have:=hbig _ _ h4;omega
  ·subst h4;have:=hbig _ _ h2;omega
  ·obtain⟨l1,e1⟩:=List.getElem?_eq_some_iff.1 h2
   obtain⟨l2,e2⟩:=List.getElem?_eq_some_iff.1 h4
   have hp:=List.pairwise_iff_getElem.1 hnd
   rcases Nat.lt_trichotomy (i-G.n) (j-G.n)with h5 | h5 | h5
   ·exact absurd (e1.trans e2.symm) (hp _ _ l1 l2 h5)
   ·omega
   ·exact absurd (e2.trans e1.symm) (hp _ _ l2 l1 h5)
 ·rcases Qw7 hx with⟨h1,c,hc,rfl⟩ | ⟨h1,r,hr,rfl⟩
  ·rcases hcase i b hi with⟨_,rfl⟩ | ⟨h3,_⟩
   ·obtain⟨k1,k2,k3⟩:=hlaid _ hc
    exact⟨_,k2,false,false,0,c,rfl,rfl,id,fun _ => .inr k1,k3⟩
   ·omega
  ·rcases hcase i b hi with⟨h3,_⟩ | ⟨_,h4⟩
   ·omega
   ·obtain⟨k1,k2⟩:=hrows _ b r h4 hr
    exact⟨_,k1,own,true,r.1,r.2,rfl,rfl,fun _=>rfl,fun _ => .inl rfl,k2⟩
 ·unfold Heap.own
  cases hx:(Qdl G.n laid own rows).get g with
  | none=>rfl
  | some x =>
   rcases Qw7 hx with⟨_,c,_,rfl⟩ | ⟨h1,_⟩
   ·rfl
   ·omega
 ·rcases Qw7 hx with⟨h1,c,hc,rfl⟩ | ⟨h1,r,hr,rfl⟩
  ·exact⟨false,0,c,rfl,(hlaid _ hc).2.2⟩
  ·have hk:i-G.n < bs.length:=by rw[hlen];exact(List.getElem?_eq_some_iff.1 hr).1
   exact⟨own,r.1,r.2,rfl,(hrows _ bs[i-G.n] r (List.getElem?_eq_getElem hk) hr).2⟩
def Xw0(ρ:Emb)(x0 x:Value):Prop:=∀ α:Ren,okV (dom α) x->ren α x=ren (ρ.ren α) x0/\okV (dom (ρ.ren α)) x0
theorem Qvw:Q6z ρ [] []:=fun _ _=>⟨rfl,fun _ h=>by cases h⟩
theorem Vq{x0 x:Value}{l0 l:List Value}(h:Xw0 ρ x0 x)(k:Q6z ρ l0 l):Q6z ρ (x0::l0) (x::l):=fun α hok=>by
 obtain⟨a1,a2⟩:=h α (hok x (by simp))
 obtain⟨b1,b2⟩:=k α (fun v hv=>hok v (by simp[hv]))
 exact⟨by simp[a1,b1],fun v hv=>by rcases List.mem_cons.1 hv with rfl | hv;exact a2;exact b2 v hv⟩
theorem Qdt{x:Value}(h:flat x=true):Xw0 ρ x x:=fun α _=>⟨by rw[Qdd _ h,Qdd _ h],flat_ok _ x h⟩
theorem Xqz{i b off:Nat}(h:ρ i=some b):Xw0 ρ (.pointer (some ⟨i,off,none⟩)) (.pointer (some ⟨b,off,none⟩)):=fun α hok=>by
 simp only[okV]at hok ⊢
 obtain⟨p,hp⟩:=Option.isSome_iff_exists.1 hok.1
 have e:ρ.ren α i=some p:=by rw[Emb.ren_at h,hp]
 refine⟨by simp[ren,J6,hp,e],?_,trivial⟩
 show(ρ.ren α i).isSome=true
 rw[e];rfl
theorem Ycc{i b off n c:Nat}(h:ρ i=some b):Xw0 ρ (.slice (some ⟨i,off,none⟩) n c) (.slice (some ⟨b,off,none⟩) n c):=fun α hok=>by
 simp only[okV]at hok ⊢
 obtain⟨p,hp⟩:=Option.isSome_iff_exists.1 hok.1
 have e:ρ.ren α i=some p:=by rw[Emb.ren_at h,hp]
 refine⟨by simp[ren,J6,Q2z,hp,e],?_,trivial⟩
 show(ρ.ren α i).isSome=true
 rw[e];rfl
end
end Go.Ab
namespace Go.Ab.Bl
def w32(x:Nat):Nat:=Nat.mod x 4294967296
def rot(x n:Nat):Nat:=w32 (Nat.lor (w32 (w32 (Nat.mul x (Nat.pow 2 (Nat.sub 32 n))))) (w32 (Nat.div x (Nat.pow 2 n))))
def xr(a b:Nat):Nat:=w32 (Nat.xor (w32 a) (w32 b))
def orr(a b:Nat):Nat:=w32 (Nat.lor (w32 a) (w32 b))
def half{A:Type}(a b c d x n m:Nat)(K:Nat->Nat->Nat->Nat->A):A :=
 (fun a'=>(fun d'=>(fun c'=>K a' (rot (xr b c') m) c' d') (w32 (Nat.add c d'))) (rot (xr d a') n)) (w32 (Nat.add a (w32 (Nat.add b x))))
def stir{A:Type}(a b c d x y:Nat)(K:Nat->Nat->Nat->Nat->A):A :=
 half a b c d x 16 12 fun a b c d=>half a b c d y 8 7 K
def round{A:Type}(p0 p1 p2 p3 p4 p5 p6 p7 p8 p9 p10 p11 p12 p13 p14 p15 m0 m1 m2 m3 m4 m5 m6 m7 m8 m9 m10 m11 m12 m13 m14 m15:Nat)
  (K:Nat->Nat->Nat->Nat->Nat->Nat->Nat->Nat->Nat->Nat->Nat->Nat->Nat->Nat->Nat->Nat->A):A :=
 stir p0 p4 p8 p12 m0 m1 fun p0 p4 p8 p12=>stir p1 p5 p9 p13 m2 m3 fun p1 p5 p9 p13 =>
 stir p2 p6 p10 p14 m4 m5 fun p2 p6 p10 p14=>stir p3 p7 p11 p15 m6 m7 fun p3 p7 p11 p15 =>
 stir p0 p5 p10 p15 m8 m9 fun p0 p5 p10 p15=>stir p1 p6 p11 p12 m10 m11 fun p1 p6 p11 p12 =>
 stir p2 p7 p8 p13 m12 m13 fun p2 p7 p8 p13=>stir p3 p4 p9 p14 m14 m15 fun p3 p4 p9 p14 =>
 K p0 p1 p2 p3 p4 p5 p6 p7 p8 p9 p10 p11 p12 p13 p14 p15
def rounds{A:Type}(p0 p1 p2 p3 p4 p5 p6 p7 p8 p9 p10 p11 p12 p13 p14 p15 m0 m1 m2 m3 m4 m5 m6 m7 m8 m9 m10 m11 m12 m13 m14 m15:Nat)
  (K:Nat->Nat->Nat->Nat->Nat->Nat->Nat->Nat->Nat->Nat->Nat->Nat->Nat->Nat->Nat->Nat->A):A :=
 round p0 p1 p2 p3 p4 p5 p6 p7 p8 p9 p10 p11 p12 p13 p14 p15 m0 m1 m2 m3 m4 m5 m6 m7 m8 m9 m10 m11 m12 m13 m14 m15 fun p0 p1 p2 p3 p4 p5 p6 p7 p8 p9 p10 p11 p12 p13 p14 p15 =>
 round p0 p1 p2 p3 p4 p5 p6 p7 p8 p9 p10 p11 p12 p13 p14 p15 m14 m10 m4 m8 m9 m15 m13 m6 m1 m12 m0 m2 m11 m7 m5 m3 fun p0 p1 p2 p3 p4 p5 p6 p7 p8 p9 p10 p11 p12 p13 p14 p15 =>
 round p0 p1 p2 p3 p4 p5 p6 p7 p8 p9 p10 p11 p12 p13 p14 p15 m11 m8 m12 m0 m5 m2 m15 m13 m10 m14 m3 m6 m7 m1 m9 m4 fun p0 p1 p2 p3 p4 p5 p6 p7 p8 p9 p10 p11 p12 p13 p14 p15 =>
 round p0 p1 p2 p3 p4 p5 p6 p7 p8 p9 p10 p11 p12 p13 p14 p15 m7 m9 m3 m1 m13 m12 m11 m14 m2 m6 m5 m10 m4 m0 m15 m8 fun p0 p1 p2 p3 p4 p5 p6 p7 p8 p9 p10 p11 p12 p13 p14 p15 =>
 round p0 p1 p2 p3 p4 p5 p6 p7 p8 p9 p10 p11 p12 p13 p14 p15 m9 m0 m5 m7 m2 m4 m10 m15 m14 m1 m11 m12 m6 m8 m3 m13 fun p0 p1 p2 p3 p4 p5 p6 p7 p8 p9 p10 p11 p12 p13 p14 p15 =>
 round p0 p1 p2 p3 p4 p5 p6 p7 p8 p9 p10 p11 p12 p13 p14 p15 m2 m12 m6 m10 m0 m11 m8 m3 m4 m13 m7 m5 m15 m14 m1 m9 fun p0 p1 p2 p3 p4 p5 p6 p7 p8 p9 p10 p11 p12 p13 p14 p15 =>
 round p0 p1 p2 p3 p4 p5 p6 p7 p8 p9 p10 p11 p12 p13 p14 p15 m12 m5 m1 m15 m14 m13 m4 m10 m0 m7 m6 m3 m9 m2 m8 m11 fun p0 p1 p2 p3 p4 p5 p6 p7 p8 p9 p10 p11 p12 p13 p14 p15 =>
 round p0 p1 p2 p3 p4 p5 p6 p7 p8 p9 p10 p11 p12 p13 p14 p15 m13 m11 m7 m14 m12 m1 m3 m9 m5 m0 m15 m4 m8 m6 m2 m10 fun p0 p1 p2 p3 p4 p5 p6 p7 p8 p9 p10 p11 p12 p13 p14 p15 =>
 round p0 p1 p2 p3 p4 p5 p6 p7 p8 p9 p10 p11 p12 p13 p14 p15 m6 m15 m14 m9 m11 m3 m0 m8 m12 m2 m13 m7 m1 m4 m10 m5 fun p0 p1 p2 p3 p4 p5 p6 p7 p8 p9 p10 p11 p12 p13 p14 p15 =>
 round p0 p1 p2 p3 p4 p5 p6 p7 p8 p9 p10 p11 p12 p13 p14 p15 m10 m2 m8 m4 m7 m6 m1 m5 m15 m11 m9 m14 m3 m12 m13 m0 fun p0 p1 p2 p3 p4 p5 p6 p7 p8 p9 p10 p11 p12 p13 p14 p15 =>
 K p0 p1 p2 p3 p4 p5 p6 p7 p8 p9 p10 p11 p12 p13 p14 p15
structure P8 where
 (h0 h1 h2 h3 h4 h5 h6 h7:Nat)
def begins:P8:=⟨1779033703,3144134277,1013904242,2773480762,1359893119,2600822924,528734635,1541459225⟩
def le4(a b c d:Nat):Nat:=orr (orr (orr (w32 a) (w32 (Nat.mul (w32 b) 256))) (w32 (Nat.mul (w32 c) 65536))) (w32 (Nat.mul (w32 d) 16777216))
def nx{A:Type}(l:List Nat)(K:Nat->List Nat->A):A:=match l with
 | a::b::c::d::l=>K (le4 a b c d) l
 | [a,b,c]=>K (le4 a b c 0) []
 | [a,b]=>K (le4 a b 0 0) []
 | [a]=>K (le4 a 0 0 0) []
 | []=>K (le4 0 0 0 0) []
def words{A:Type}(l:List Nat)(K:Nat->Nat->Nat->Nat->Nat->Nat->Nat->Nat->Nat->Nat->Nat->Nat->Nat->Nat->Nat->Nat->A):A :=
 nx l fun m0 l=>nx l fun m1 l=>nx l fun m2 l=>nx l fun m3 l=>nx l fun m4 l=>nx l fun m5 l=>nx l fun m6 l=>nx l fun m7 l =>
 nx l fun m8 l=>nx l fun m9 l=>nx l fun m10 l=>nx l fun m11 l=>nx l fun m12 l=>nx l fun m13 l=>nx l fun m14 l=>nx l fun m15 _ =>
 K m0 m1 m2 m3 m4 m5 m6 m7 m8 m9 m10 m11 m12 m13 m14 m15
def take(h:P8)(l:List Nat)(count:Nat)(last:Bool):P8 :=
 match h with
 | ⟨h0,h1,h2,h3,h4,h5,h6,h7⟩ =>
  words l fun m0 m1 m2 m3 m4 m5 m6 m7 m8 m9 m10 m11 m12 m13 m14 m15 =>
  rounds h0 h1 h2 h3 h4 h5 h6 h7 1779033703 3144134277 1013904242 2773480762 (xr 1359893119 (w32 count)) (xr 2600822924 (w32 (Nat.div count 4294967296))) (match last with | true=>xr 4294967295 528734635 | false=>528734635) 1541459225
   m0 m1 m2 m3 m4 m5 m6 m7 m8 m9 m10 m11 m12 m13 m14 m15 fun p0 p1 p2 p3 p4 p5 p6 p7 p8 p9 p10 p11 p12 p13 p14 p15 =>
   ⟨xr h0 (xr p0 p8),xr h1 (xr p1 p9),xr h2 (xr p2 p10),xr h3 (xr p3 p11),xr h4 (xr p4 p12),xr h5 (xr p5 p13),xr h6 (xr p6 p14),xr h7 (xr p7 p15)⟩
def by4(x:Nat):List Nat:=[Nat.mod x 256,Nat.mod (Nat.div x 256) 256,Nat.mod (Nat.div x 65536) 256,Nat.mod (Nat.div x 16777216) 256]
def out:P8->List Nat
 | ⟨h0,h1,h2,h3,h4,h5,h6,h7⟩=>by4 h0++by4 h1++by4 h2++by4 h3++by4 h4++by4 h5++by4 h6++by4 h7
def blocks:Nat->P8->List Nat->Nat->P8
 | 0,h,_,_=>h
 | n+1,h,text,count =>
  match Nat.ble text.length 64 with
  | true=>take h text (Nat.add count text.length) true
  | false=>blocks n (take h (text.take 64) (Nat.add count 64) false) (text.drop 64) (Nat.add count 64)
def start(k:Nat):P8:={begins with h0:=Nat.xor 1779033703 (Nat.xor 16842784 (Nat.shiftLeft k 8))}
def zeros:Nat->List Nat
 | 0=>[]
 | n+1=>0::zeros n
def textOf(key b:List Nat):List Nat:=match key with
 | []=>b
 | _=>key++(zeros (Nat.sub 64 key.length)++b)
def keyed1(key b:List Nat):List Nat:=out (blocks (textOf key b).length.succ (start key.length) (textOf key b) 0)
def keyed(key b:List Nat):List Nat:=match Nat.ble key.length 32 with
 | true=>keyed1 key b
 | false=>keyed1 (keyed1 [] key) b
end Go.Ab.Bl
noncomputable section
namespace Go.Ab
def Yyb(a b:Int):Int:=IntKind.wrap .u32 (a+b)
def Xh3(a b:Int):Int:=IntKind.wrap .u32 ((BitVec.ofInt 32 a ^^^ BitVec.ofInt 32 b).toNat:Nat)
def Yz7(x:Int)(s:Nat):Int:=IntKind.wrap .u32 ((BitVec.ofInt 32 (IntKind.wrap .u32 (x*2 ^ s)) ||| BitVec.ofInt 32 (x.fdiv (2 ^ (32-s)))).toNat:Nat)
def orI(a b:Int):Int:=IntKind.wrap .u32 ((BitVec.ofInt 32 a ||| BitVec.ofInt 32 b).toNat:Nat)
def X35(n:Nat):Int:=IntKind.wrap .u32 (.ofNat n)
def Yy6(a:Int)(s:Nat):Int:=IntKind.wrap .u32 (a*2 ^ s)
def Xje(a b c d:Nat):Int:=orI (orI (orI (X35 a) (Yy6 (X35 b) 8)) (Yy6 (X35 c) 16)) (Yy6 (X35 d) 24)
def Ypa{A:Type}(a b c d x:Int)(s t:Nat)(K:Int->Int->Int->Int->A):A :=
 (fun a'=>(fun d'=>(fun c'=>K a' (Yz7 (Xh3 b c') t) c' d') (Yyb c d')) (Yz7 (Xh3 d a') s)) (Yyb a (Yyb b x))
theorem Qgx(n:Nat):IntKind.wrap .u32 (n:Int)=((Bl.w32 n:Nat):Int):=by
 show(n:Int) % (2 ^ 32:Int)=((n % 4294967296:Nat):Int)
 omega
theorem Yp3(a b:Nat):Yyb (.ofNat a) (.ofNat b)=.ofNat (Bl.w32 (Nat.add a b)):=by
 show IntKind.wrap .u32 ((a:Int)+(b:Int))=_
 rw[<- Int.natCast_add,Qgx];rfl
theorem Q9i(n:Nat):(BitVec.ofInt 32 (n:Int)).toNat=Bl.w32 n:=by
 rw[BitVec.toNat_ofInt]
 show((n:Int) % ((2 ^ 32:Nat):Int)).toNat=n % 4294967296
 omega
theorem Q5d(a b:Nat):Xh3 (.ofNat a) (.ofNat b)=.ofNat (Bl.xr a b):=by
 show IntKind.wrap .u32 (((BitVec.ofInt 32 (a:Int) ^^^ BitVec.ofInt 32 (b:Int)).toNat:Nat):Int)=_
 rw[Qgx,BitVec.toNat_xor,Q9i,Q9i];rfl
theorem Ygi(x s:Nat)(hs:s<=32):Yz7 (.ofNat x) s=.ofNat (Bl.rot x (32-s)):=by
 show IntKind.wrap .u32 (((BitVec.ofInt 32 (IntKind.wrap .u32 ((x:Int)*2 ^ s)) ||| BitVec.ofInt 32 ((x:Int).fdiv (2 ^ (32-s)))).toNat:Nat):Int)=_
 have e1:(x:Int)*2 ^ s=((x*2 ^ s:Nat):Int):=by simp
 have e2:(x:Int).fdiv (2 ^ (32-s))=((x / 2 ^ (32-s):Nat):Int):=by
  rw[Int.fdiv_eq_ediv_of_nonneg _ (Int.pow_nonneg (by decide))]
  simp
 rw[e1,e2,Qgx,Qgx,BitVec.toNat_or,Q9i,Q9i]
 have : Nat.sub 32 (32-s)=s:=by show 32-(32-s)=s;omega
 unfold Bl.rot
 rw[this]
 rfl
theorem Yus(a b:Nat):orI (.ofNat a) (.ofNat b)=.ofNat (Bl.orr a b):=by
 show IntKind.wrap .u32 (((BitVec.ofInt 32 (a:Int) ||| BitVec.ofInt 32 (b:Int)).toNat:Nat):Int)=_
 rw[Qgx,BitVec.toNat_or,Q9i,Q9i];rfl
theorem Xvl(n:Nat):X35 n=.ofNat (Bl.w32 n):=Qgx n
theorem Yqd(a s:Nat):Yy6 (.ofNat a) s=.ofNat (Bl.w32 (Nat.mul a (2 ^ s))):=by
 show IntKind.wrap .u32 ((a:Int)*2 ^ s)=_
 have e1:(a:Int)*2 ^ s=((a*2 ^ s:Nat):Int):=by simp
 rw[e1,Qgx];rfl
theorem Yhy(a b c d:Nat):Xje a b c d=.ofNat (Bl.le4 a b c d):=by
 simp only[Xje,Xvl,Yqd,Yus,Bl.le4]
 try rfl
theorem Ybf{A:Type}(a b c d x:Nat)(s t:Nat)(hs:s<=32)(ht:t<=32)(K:Int->Int->Int->Int->A) :
  Ypa (.ofNat a) (.ofNat b) (.ofNat c) (.ofNat d) (.ofNat x) s t K=Bl.half a b c d x (32-s) (32-t) (fun a b c d=>K (.ofNat a) (.ofNat b) (.ofNat c) (.ofNat d)):=by
 simp only[Ypa,Bl.half,Yp3,Q5d,Ygi _ _ hs,Ygi _ _ ht]
theorem Yh4(a:Nat):Int.fdiv (.ofNat a) (2 ^ 32)=((Nat.div a 4294967296:Nat):Int):=by
 show Int.fdiv (a:Int) (2 ^ 32)=_
 rw[Int.fdiv_eq_ediv_of_nonneg _ (by decide)]
 first | rfl | (show(a:Int) / (2 ^ 32)=((a / 4294967296:Nat):Int);omega)
def Ygk(b:Nat):Option (AEnd × Heap)->Option (Value × List Value)
 | some (.ret v,h)=>match h.get b with
  | some (.cells true 1 c)=>some (v,c)
  | _=>none
 | _=>none
theorem Ylx{b:Nat}{r:Option (AEnd × Heap)}{v:Value}{c:List Value}(h:Ygk b r=some (v,c)):∃ h',r=some (.ret v,h')/\h'.get b=some (.cells true 1 c):=by
 unfold Ygk at h
 split at h
 ·split at h
  ·rename_i hg;cases h;exact⟨_,rfl,hg⟩
  ·cases h
 ·cases h
def Ym4:Option (AEnd × Heap)->Option Value
 | some (.ret v,_)=>some v
 | _=>none
theorem Yko{r:Option (AEnd × Heap)}{v:Value}(h:Ym4 r=some v):∃ h',r=some (.ret v,h'):=by
 unfold Ym4 at h
 split at h
 ·cases h;exact⟨_,rfl⟩
 ·cases h
def Qa3(n:Nat):Value:=.int .u32 (.ofNat n)
def Xdx(c:List Value):Prop:=∀ v ∈ c,flat v=true/\v.oneCell'=true
def Yho:List Value->Bool
 | []=>true
 | v::l=>flat v && v.oneCell' && Yho l
theorem Quu:∀ {l:List Value},Yho l=true->Xdx l
 | [],_=>fun v hv=>by cases hv
 | v::l,h=>fun x hx=>by
  simp only[Yho,Bool.and_eq_true]at h
  rcases List.mem_cons.1 hx with rfl | hx
  ·exact h.1
  ·exact Quu h.2 x hx
def X4g(b d:Nat):Option (AEnd × Heap)->Option (Value × List Value × List Value)
 | some (.ret v,h)=>match h.get b,h.get d with
  | some (.cells true 1 c),some (.cells true 1 e)=>some (v,c,e)
  | _,_=>none
 | _=>none
theorem Yjd{b d:Nat}{r:Option (AEnd × Heap)}{v:Value}{c e:List Value}(h:X4g b d r=some (v,c,e)) :
  ∃ h',r=some (.ret v,h')/\h'.get b=some (.cells true 1 c)/\h'.get d=some (.cells true 1 e):=by
 unfold X4g at h
 split at h
 ·split at h
  ·rename_i h1 h2;cases h;exact⟨_,rfl,h1,h2⟩
  ·cases h
 ·cases h
def Ygx(n:Nat):Option (AEnd × Heap)->Option (List Value)
 | some (.ret (.pointer (some ⟨j,0,none⟩)),h)=>match h.get j with
  | some (.cells true 1 c)=>match Nat.ble n j with
   | true=>some c
   | false=>none
  | _=>none
 | _=>none
theorem Yoo{n:Nat}{r:Option (AEnd × Heap)}{c:List Value}(h:Ygx n r=some c) :
  ∃ j h',r=some (.ret (.pointer (some ⟨j,0,none⟩)),h')/\h'.get j=some (.cells true 1 c)/\n<=j:=by
 unfold Ygx at h
 split at h
 ·split at h
  ·rename_i hg
   split at h
   ·rename_i h2;cases h;exact⟨_,_,rfl,hg,Nat.le_of_ble_eq_true h2⟩
   ·cases h
  ·cases h
 ·cases h
section
variable{P:Program}{X:Qmy}{n k m:Nat}{f:FuncId}{args0 args:List Value}{v0:Value}{h:Heap}
theorem Ygu(hm:P.follows .mixedOrders=true)(hX:∀ b,Wu P ⟨n,b⟩ X)(hL:Qe6 X){h0 h0':Heap}{r:AEnd}{b:Nat}(hr:(Qfr P (mkE P n b) X k m).fn f args0 h0=some (r,h0')) :
  CallOK P ⟨n,b⟩ f args0 h0 (fun r1 h1=>r1=r/\h1=h0'):=by
 rw[Xnx]at hr
 exact(Xom (mkE P n b) (hX b) hL hm k m).fn _ _ _ _ _ hr
theorem Yij(n:Nat)(l:List (Nat × List Value))(b:Nat):(Q0v n l).own b=false:=by
 unfold Heap.own
 cases hb:(Q0v n l).get b with
 | none=>rfl
 | some x =>
  unfold Heap.get at hb
  split at hb
  ·obtain⟨c,_,rfl⟩:=Xj1 l b x hb;rfl
  ·cases hb
theorem Ynq(hm:P.follows .mixedOrders=true)(hX:∀ b,Wu P ⟨n,b⟩ X)(hL:Qe6 X){c c':List Value}{blk:Nat}
  (hrun:∀ b,Ygk n ((Qfr P (mkE P n b) X k m).fn f args0 (Qdl n [] true [(1,c)]))=some (v0,c')) (hv:flat v0=true) (hc:Xdx c) (hc':Xdx c')
  (hg:h.get blk=some (.cells true 1 c)) (ha:Q6z (emb n [blk]) args0 args) {b:Nat}:CallOK P ⟨n,b⟩ f args h (fun r h1=>r=.ret v0/\h1=h.set blk (some (.cells true 1 c'))):=by
 intro α w H hok
 have F:Fit ⟨n,b⟩ (emb n [blk]) (Qdl n [] true [(1,c)]) h:=Xg3 H rfl (fun x hx=>by cases hx) rfl (fun i d r hd hr=>by
  cases i with
  | zero=>simp at hd hr;subst hd;subst hr;exact⟨hg,hc⟩
  | succ i=>simp at hd) (by simp)
 have hnn:(Qdl n [] true [(1,c)]).get n=some (.cells true 1 c):=by
  unfold Qdl;rw[Xg1];simp[Q0v]
 obtain⟨h0',e1,e2⟩:=Ylx (hrun b)
 refine X75 F (fun i d x0 x hi hx0 hx => ?_) ha hv (i0:=n) (by simp[emb]) (by rw[Qpo hnn];rfl) e2 hc' (fun i hne ho => ?_) (Ygu hm hX hL e1) α w H hok
 ·rcases Qw7 hx0 with⟨_,c0,hc0,_⟩ | ⟨h1,r,hr,rfl⟩
  ·cases hc0
  ·have : i=n:=by
    cases hq:i-n with
    | zero=>omega
    | succ q=>rw[hq]at hr;simp at hr
   subst this
   simp at hr;subst hr
   simp[emb]at hi;subst hi
   rw[hg]at hx;cases hx;rfl
 ·obtain⟨x0,hx0,hxo⟩:=Qwy ho
  rcases Qw7 hx0 with⟨_,c0,hc0,_⟩ | ⟨h1,r,hr,rfl⟩
  ·cases hc0
  ·exfalso
   cases hq:i-n with
   | zero=>omega
   | succ q=>rw[hq]at hr;simp at hr
theorem Yjk(hm:P.follows .mixedOrders=true)(hX:∀ b,Wu P ⟨n,b⟩ X)(hL:Qe6 X){c c' c2:List Value}{blk blk2:Nat}
  (hrun:∀ b,X4g n (n+1) ((Qfr P (mkE P n b) X k m).fn f args0 (Qdl n [] true [(1,c),(1,c2)]))=some (v0,c',c2)) (hv:flat v0=true) (hc:Xdx c) (hc':Xdx c') (hc2:Xdx c2)
  (hg:h.get blk=some (.cells true 1 c)) (hg2:h.get blk2=some (.cells true 1 c2)) (hne:blk≠blk2) (ha:Q6z (emb n [blk,blk2]) args0 args) {b:Nat} :
  CallOK P ⟨n,b⟩ f args h (fun r h1=>r=.ret v0/\h1=h.set blk (some (.cells true 1 c'))):=by
 intro α w H hok
 have F:Fit ⟨n,b⟩ (emb n [blk,blk2]) (Qdl n [] true [(1,c),(1,c2)]) h:=Xg3 H rfl (fun x hx=>by cases hx) rfl (fun i d r hd hr=>by
  cases i with
  | zero=>simp at hd hr;subst hd;subst hr;exact⟨hg,hc⟩
  | succ i =>
   cases i with
   | zero=>simp at hd hr;subst hd;subst hr;exact⟨hg2,hc2⟩
   | succ i=>simp at hd) (by simp[hne])
 have hnn:(Qdl n [] true [(1,c),(1,c2)]).get n=some (.cells true 1 c):=by
  unfold Qdl;rw[Xg1];simp[Q0v]
 have hnn2:(Qdl n [] true [(1,c),(1,c2)]).get (n+1)=some (.cells true 1 c2):=by
  unfold Qdl;rw[Xg1,if_neg (show ¬ n+1 < (Q0v n []).next from by show ¬ n+1 < n;omega)];simp[Q0v]
 obtain⟨h0',e1,e2,e3⟩:=Yjd (hrun b)
 have hwhich:∀ i (r:Nat × List Value),n<=i -> [(1,c),(1,c2)][i-n]? = some r->(i=n/\r=(1,c))∨(i=n+1/\r=(1,c2)):=by
  intro i r h1 hr
  cases hq:i-n with
  | zero=>rw[hq]at hr;simp at hr;exact .inl ⟨by omega,hr.symm⟩
  | succ q =>
   rw[hq]at hr
   cases q with
   | zero=>simp at hr;exact .inr ⟨by omega,hr.symm⟩
   | succ q=>simp at hr
 refine X75 F (fun i d x0 x hi hx0 hx => ?_) ha hv (i0:=n) (by simp[emb]) (by rw[Qpo hnn];rfl) e2 hc' (fun i hne' ho => ?_) (Ygu hm hX hL e1) α w H hok
 ·rcases Qw7 hx0 with⟨_,c0,hc0,_⟩ | ⟨h1,r,hr,rfl⟩
  ·cases hc0
  ·rcases hwhich i r h1 hr with⟨rfl,rfl⟩ | ⟨rfl,rfl⟩
   ·simp[emb]at hi;subst hi;rw[hg]at hx;cases hx;rfl
   ·unfold emb at hi;rw[if_neg (by omega)]at hi;simp at hi;subst hi;rw[hg2]at hx;cases hx;rfl
 ·obtain⟨x0,hx0,hxo⟩:=Qwy ho
  rcases Qw7 hx0 with⟨_,c0,hc0,_⟩ | ⟨h1,r,hr,rfl⟩
  ·cases hc0
  ·rcases hwhich i r h1 hr with⟨rfl,rfl⟩ | ⟨rfl,rfl⟩
   ·exact absurd rfl hne'
   ·rw[e3,hnn2]
theorem Q3q{laid rows:List (Nat × List Value)}(i:Nat):(Qdl n laid false rows).own i=false:=by
 unfold Heap.own
 cases hx:(Qdl n laid false rows).get i with
 | none=>rfl
 | some x=>rcases Qw7 hx with⟨_,c,_,rfl⟩ | ⟨_,r,_,rfl⟩ <;> rfl
def LaidIn(h:Heap)(laid:List (Nat × List Value)):Prop:=∀ x ∈ laid,h.get x.1=some (.cells false 0 x.2)
theorem Xrc(hm:P.follows .mixedOrders=true)(hX:∀ b,Wu P ⟨n,b⟩ X)(hL:Qe6 X){laid rows:List (Nat × List Value)}{bs:List Nat}
  (hrun:∀ b,Ym4 ((Qfr P (mkE P n b) X k m).fn f args0 (Qdl n laid false rows))=some v0) (hv:flat v0=true) (hlaid:LaidIn h laid) (hfl:∀ x ∈ laid,x.2 ≠ []/\Xdx x.2) (hlen:bs.length=rows.length) (hnd:bs.Nodup)
  (hrows:∀ (k b:Nat) (r:Nat × List Value),bs[k]? = some b->rows[k]? = some r->h.get b=some (.cells true r.1 r.2)/\Xdx r.2) (ha:Q6z (emb n bs) args0 args) {b:Nat} :
  CallOK P ⟨n,b⟩ f args h (fun r h1=>r=.ret v0/\h1=h):=by
 intro α w H hok
 have F:Fit ⟨n,b⟩ (emb n bs) (Qdl n laid false rows) h:=Xg3 H rfl (fun x hx=>⟨(hfl x hx).1,hlaid x hx,(hfl x hx).2⟩) hlen hrows hnd
 refine X2e F Q3q ha hv (fun b' => ?_) α w H hok
 obtain⟨h0',e1⟩:=Yko (hrun b')
 exact⟨h0',Ygu hm hX hL e1⟩
theorem Yky(hm:P.follows .mixedOrders=true)(hX:∀ b,Wu P ⟨n,b⟩ X)(hL:Qe6 X){laid rows:List (Nat × List Value)}{bs:List Nat}{c:List Value}
  (hrun:∀ b,Ygx (n+rows.length) ((Qfr P (mkE P n b) X k m).fn f args0 (Qdl n laid false rows))=some c) (hc:Xdx c) (hlaid:LaidIn h laid) (hfl:∀ x ∈ laid,x.2 ≠ []/\Xdx x.2) (hlen:bs.length=rows.length) (hnd:bs.Nodup)
  (hrows:∀ (k b:Nat) (r:Nat × List Value),bs[k]? = some b->rows[k]? = some r->h.get b=some (.cells true r.1 r.2)/\Xdx r.2) (ha:Q6z (emb n bs) args0 args) {b:Nat} :
  CallOK P ⟨n,b⟩ f args h (fun r h1=>r=.ret (.pointer (some ⟨h.next,0,none⟩))/\h1=h.push (.cells true 1 c)):=by
 intro α w H hok
 have F:Fit ⟨n,b⟩ (emb n bs) (Qdl n laid false rows) h:=Xg3 H rfl (fun x hx=>⟨(hfl x hx).1,hlaid x hx,(hfl x hx).2⟩) hlen hrows hnd
 refine Ykx F Q3q ha hc (fun b' => ?_) α w H hok
 obtain⟨j,h0',e1,e2,e3⟩:=Yoo (hrun b')
 exact⟨j,h0',by show(X7d false rows (Q0v n laid)).next<=j;rw[Xr7];exact e3,e2,Ygu hm hX hL e1⟩
end
def Ytn:List Value->Option (List Nat)
 | []=>some []
 | .int .u32 (.ofNat n)::l=>match Ytn l with | some r=>some (n::r) | none=>none
 | _=>none
theorem Xwv:∀ {l:List Value} {r:List Nat},Ytn l=some r->l=r.map Qa3
 | [],r,h=>by cases h;rfl
 | v::l,r,h=>by
  unfold Ytn at h
  split at h
  ·rename_i hq;cases hq
  ·rename_i n l' hv
   cases hv
   split at h
   ·rename_i r' hr;cases h;rw[Xwv hr];rfl
   ·cases h
  ·cases h
def u8s:List Value->Option (List Nat)
 | []=>some []
 | .int .u8 (.ofNat n)::l=>match u8s l with | some r=>some (n::r) | none=>none
 | _=>none
def u8v(n:Nat):Value:=.int .u8 (.ofNat n)
theorem Ylh:∀ {l:List Value} {r:List Nat},u8s l=some r->l=r.map u8v
 | [],r,h=>by cases h;rfl
 | v::l,r,h=>by
  unfold u8s at h
  split at h
  ·rename_i hq;cases hq
  ·rename_i n l' hv
   cases hv
   split at h
   ·rename_i r' hr;cases h;rw[Ylh hr];rfl
   ·cases h
  ·cases h
def Ywp:List Value->Option (List Nat)
 | []=>some []
 | .int .i64 (.ofNat n)::l=>match Ywp l with | some r=>some (n::r) | none=>none
 | _=>none
def Yp6(n:Nat):Value:=.int .i64 (.ofNat n)
theorem You:∀ {l:List Value} {r:List Nat},Ywp l=some r->l=r.map Yp6
 | [],r,h=>by cases h;rfl
 | v::l,r,h=>by
  unfold Ywp at h
  split at h
  ·rename_i hq;cases hq
  ·rename_i n l' hv
   cases hv
   split at h
   ·rename_i r' hr;cases h;rw[You hr];rfl
   ·cases h
  ·cases h
theorem Xhi(l:List Nat):Xdx (l.map Qa3):=fun v hv=>by
 obtain⟨n,_,rfl⟩:=List.mem_map.1 hv;exact⟨rfl,rfl⟩
theorem Xtx(l:List Nat):Xdx (l.map u8v):=fun v hv=>by
 obtain⟨n,_,rfl⟩:=List.mem_map.1 hv;exact⟨rfl,rfl⟩
def eqN:List Nat->List Nat->Bool
 | [],[]=>true
 | a::l,b::r=>bq (Nat.beq a b) (eqN l r) false
 | _,_=>false
theorem Xbt:∀ {l r:List Nat},eqN l r=true->l=r
 | [],[],_=>rfl
 | a::l,b::r,h=>by
  simp only[eqN]at h
  cases hb:Nat.beq a b with
  | false=>rw[hb]at h;cases h
  | true=>rw[hb]at h;rw[Nat.eq_of_beq_eq_true hb,Xbt h]
 | [],_::_,h=>by simp[eqN]at h
 | _::_,[],h=>by simp[eqN]at h
def Xxx(h:Heap):Value->Option (Nat × List Value)
 | .pointer (some ⟨b,0,none⟩)=>match h.get b with
  | some (.cells true 1 c)=>some (b,c)
  | _=>none
 | _=>none
theorem Q3u{h:Heap}{v:Value}{b:Nat}{c:List Value}(hr:Xxx h v=some (b,c)):v=.pointer (some ⟨b,0,none⟩)/\h.get b=some (.cells true 1 c):=by
 unfold Xxx at hr
 split at hr
 ·split at hr
  ·rename_i hg;cases hr;exact⟨rfl,hg⟩
  ·cases hr
 ·cases hr
theorem Z0{A:Type}{l:List A}{n:Nat}(h:l.length=n+1):∃ a t,l=a::t/\t.length=n:=by
 cases l with
 | nil=>simp at h
 | cons a t=>exact⟨a,t,rfl,by simpa using h⟩
theorem Jh{A B:Type}{x:Option A}{f:A->Option B}{y:B}(h:ob x f=some y):∃ a,x=some a/\f a=some y:=by
 cases x with
 | none=>cases h
 | some a=>exact⟨a,rfl,h⟩
theorem We{A:Type}{b:Bool}{x:Option A}{y:A}(h:bq b x none=some y):b=true/\x=some y:=by
 cases b with
 | true=>exact⟨rfl,h⟩
 | false=>cases h
def Yhs(s:ByteArray):List Nat:=s.data.toList.map UInt8.toNat
theorem Yjy{s t:ByteArray}(h:Yhs s=Yhs t):s=t:=by
 have h2:s.data.toList=t.data.toList:=(List.map_inj_right (fun x y h=>UInt8.toNat_inj.1 h)).1 h
 cases s;cases t
 simp only[ByteArray.mk.injEq]
 exact Array.ext' h2
def Yq4:Value->Value->Bool
 | .int k (.ofNat a),.int j (.ofNat b)=>bq (decide (k=j)) (Nat.beq a b) false
 | .string s,.string t=>eqN (Yhs s) (Yhs t)
 | _,_=>false
theorem Yq9{x y:Value}(h:Yq4 x y=true):x=y:=by
 unfold Yq4 at h
 split at h
 ·rename_i k a j b
  cases hk:decide (k=j)with
  | false=>rw[hk]at h;cases h
  | true =>
   rw[hk]at h
   have h1:=of_decide_eq_true hk
   subst h1
   rw[Nat.eq_of_beq_eq_true h]
 ·rw[Yjy (Xbt h)]
 ·cases h
def Yf8:List Value->List Value->Bool
 | [],[]=>true
 | a::l,b::r=>bq (Yq4 a b) (Yf8 l r) false
 | _,_=>false
theorem Yi1:∀ {l r:List Value},Yf8 l r=true->l=r
 | [],[],_=>rfl
 | a::l,b::r,h=>by
  simp only[Yf8]at h
  cases hb:Yq4 a b with
  | false=>rw[hb]at h;cases h
  | true=>rw[hb]at h;rw[Yq9 hb,Yi1 h]
 | [],_::_,h=>by simp[Yf8]at h
 | _::_,[],h=>by simp[Yf8]at h
def Ynk(h:Heap):List (Nat × List Value)->Bool
 | []=>true
 | x::l=>bq (match h.get x.1 with
  | some (.cells false 0 c)=>Yf8 c x.2
  | _=>false) (Ynk h l) false
theorem Xts{h:Heap}:∀ {l:List (Nat × List Value)},Ynk h l=true->LaidIn h l
 | [],_=>fun x hx=>by cases hx
 | x::l,hb=>fun y hy=>by
  simp only[Ynk]at hb
  split at hb
  ·rename_i c hg
   cases hs:Yf8 c x.2 with
   | false=>rw[hs]at hb;cases hb
   | true =>
    rw[hs]at hb
    rcases List.mem_cons.1 hy with rfl | hy
    ·rw[hg,Yi1 hs]
    ·exact Xts hb y hy
  ·cases hb
def p8v(h:Bl.P8):Value:=.agg ⟨[Qa3 h.h0,Qa3 h.h1,Qa3 h.h2,Qa3 h.h3,Qa3 h.h4,Qa3 h.h5,Qa3 h.h6,Qa3 h.h7]⟩
def Yzh:List Nat->Option Bl.P8
 | [h0,h1,h2,h3,h4,h5,h6,h7]=>some ⟨h0,h1,h2,h3,h4,h5,h6,h7⟩
 | _=>none
theorem Yv7{l:List Nat}{h:Bl.P8}(e:Yzh l=some h):Value.agg ⟨l.map Qa3⟩=p8v h:=by
 unfold Yzh at e
 split at e
 ·cases e;rfl
 ·cases e
def Ys3:Nat->Code->Code
 | 0,.seq a _=>a
 | n+1,.seq a b => .seq a (Ys3 n b)
 | _,c=>c
def Yy1:Nat->Code->Code
 | 0,.seq _ b=>b
 | n+1,.seq _ b=>Yy1 n b
 | _,_ => .skip
def Ytp:Nat->Code->Bool
 | 0,.seq _ _=>true
 | n+1,.seq _ b=>Ytp n b
 | _,_=>false
theorem Ycg{P:Program}(E:Env2 P)(C:CallF)(r:Option Nat)(k:Nat):∀ (n:Nat) (c:Code) (s:St),Ytp n c=true->Q36 P E C r k c s=ob (Q36 P E C r k (Ys3 n c) s) (Xzf (Q36 P E C r k (Yy1 n c)))
 | 0,.seq x y,s,_=>rfl
 | n+1,.seq x y,s,h=>by
  have ih:=Ycg E C r k n y
  show ob (Q36 P E C r k x s) (Xzf (Q36 P E C r k y))=ob (ob (Q36 P E C r k x s) (Xzf (Q36 P E C r k (Ys3 n y)))) (Xzf (Q36 P E C r k (Yy1 n y)))
  rcases Q36 P E C r k x s with _ | ⟨e,s'⟩
  ·rfl
  ·simp only[ob_some]
   cases e <;> first | rfl | skip
   rw[Q5l,Q5l]
   exact ih s' h
def Y0p(P:Program)(E:Env2 P)(D:Qj7)(fn:Func)(r:XS):Option (AEnd × Heap):=match r with
 | some (.normal,s) | some (.ret,s)=>Qu E D fn s.t s.ds .returning s.h
 | some (.panic ch,s)=>Qu E D fn s.t s.ds (.panicking ch) s.h
 | _=>none
theorem Yhe{P:Program}{E:Env2 P}{X:Qmy}{k n f n0:Nat}{args:List Value}{h:Heap}{F:Func}{c:Code}(hX:X f args h=none)(hF:E.fn.get f=some F)(hb:F.body=some c)(hle:Nat.ble args.length F.ntmps=true)(hc:Ytp n0 c=true) :
  (Qfr P E X k (n+1)).fn f args h=Y0p P E (Xgq E (Qfr P E X k n) k) F (ob (Q36 P E (Qfr P E X k n) none k (Ys3 n0 c) ⟨Y8 F args,[],h⟩) (Xzf (Q36 P E (Qfr P E X k n) none k (Yy1 n0 c)))):=by
 show(Option.rec (motive:=fun _=>Option (AEnd × Heap)) (Yic P E (Qfr P E X k n) (Xgq E (Qfr P E X k n) k) k f args h) (fun r=>some r) (X f args h))=_
 rw[hX]
 simp only[Yic,hF,ob_some,hb,hle,bq_true]
 rw[Ycg E _ none k n0 c _ hc]
 rfl
def Yhr(b:Nat)(c:List Value)(r:XS):XS:=match r with
 | some (e,s)=>some (e,{t:=s.t,ds:=s.ds,h:={next:=s.h.next,low:=s.h.low,t:=s.h.t.put b (some (.cells true 1 c))} })
 | none=>none
open Go.ChangeShapes Go.WideShapes Go.RowKit
theorem Ykh{P:Program}{W:World}{laid:List (String × DataW Unit)}{n:Nat}{l:List (Nat × List Value)}(h:laidMet P laid W)(hl:Yoe P laid n l):∀ x ∈ l,x.1 < W.heap.size:=by
 intro x hx
 obtain⟨_,hf,name,t,d,k,hm,hg,ht,hd⟩:=hl x hx
 obtain⟨g,t',cs,fuel,p,h1,h2,h3,h4⟩:=Lib.laidMet.reads h hm
 obtain rfl:=Option.some.inj (hg.symm.trans h1)
 unfold World.var? at h3
 rw[hg]at h3
 simp only[Option.bind_some]at h3
 split at h3
 ·rename_i C e fr hC
  exact(Array.getElem?_eq_some_iff.1 hC).1
 ·cases h3
structure Ask (Z:Type) where
 bad:Z
 both:Z->Z->Z
def Qxb:Ask Bool:=⟨false,fun a b=>match a with | true=>b | false=>false⟩
def Yxp(A:Type):Ask (Option A):=⟨none,fun a _=>a⟩
structure CallK (Z:Type) where
 fn:FuncId->List Value->Heap->(AEnd->Heap->Z)->Z
 rnd:Nat->List Value->Heap->(AEnd->Heap->Z)->Z
structure CallKSound (P:Program) (G:Bs) (C:CallK Bool):Prop where
 fn:∀ f args h K,C.fn f args h K=true->CallOK P G f args h (fun r h1=>K r h1=true/\LowOK h h1)
 rnd:∀ l args h K,C.rnd l args h K=true->Q9q P G l args h (fun r h1=>K r h1=true/\LowOK h h1)
def Yzx{Z:Type}(d:Option Tmp)(s:St)(K:Exit->St->Z)(r:AEnd)(h:Heap):Z:=match r with
 | .ret v=>K .normal (s.put d v h)
 | .panic ch=>K (.panic ch) {s with h:=h}
def Yp7{Z:Type}(A:Ask Z)(d:Option Tmp)(s:St)(K:Exit->St->Z):List (Value × Heap)->Z
 | []=>A.bad
 | [x]=>K .normal (s.put d x.1 x.2)
 | x::l=>A.both (K .normal (s.put d x.1 x.2)) (Yp7 A d s K l)
def Yv9{P:Program}{Z:Type}(A:Ask Z)(E:Env2 P)(C:CallK Z)(rd:Option Nat)(o:Oper)(s:St)(K:Exit->St->Z):Z :=
 if !Qdh s o.dst then A.bad else
 match o.op with
 | .defer c=>match rd with
  | none=>match Xwi E s.t c with
   | some d=>K .normal (({s with ds:=d::s.ds}:St).put o.dst Qq s.h)
   | none=>A.bad
  | some _=>A.bad
 | .next x isS=>match aev E.G s.t x with
  | some it=>Yp7 A o.dst s K (Qld it isS s.h)
  | none=>A.bad
 | _=>match aop E s.t s.h o with
  | some (.val v h)=>K .normal (s.put o.dst v h)
  | some (.skip h)=>K .normal (s.put o.dst Qq h)
  | some (.panic v h)=>K (.panic [{v,recovered:=false}]) {s with h:=h}
  | some (.enter f args h)=>C.fn f args h (Yzx o.dst s K)
  | some (.round l args h)=>C.rnd l args h (Yzx o.dst s K)
  | _=>A.bad
def Yve{P:Program}{Z:Type}(A:Ask Z)(E:Env2 P)(C:CallK Z)(rd:Option Nat)(ops:List Oper):List Oper->St->(Exit->St->Z)->Z
 | [],s,K=>K .normal s
 | o::r,s,K=>match Qe ops s.t o with
  | some true=>Yv9 A E C rd o s fun e s'=>match e with
   | .normal=>Yve A E C rd ops r s' K
   | .panic ch=>K (.panic ch) s'
   | _=>A.bad
  | some false=>if Qdh s o.dst then Yve A E C rd ops r (s.put o.dst Qq s.h) K else A.bad
  | none=>A.bad
section
variable{P:Program}{α:Ren}{s:St}{a:Act}{w:World}
theorem Ybn{d:Option Tmp}{s:St}{K:Exit->St->Bool}:∀ {l:List (Value × Heap)},Yp7 Qxb d s K l=true->∀ x ∈ l,K .normal (s.put d x.1 x.2)=true
 | [],_,x,hx=>by cases hx
 | [y],hk,x,hx=>by rw[List.mem_singleton]at hx;subst hx;exact hk
 | y::z::l,hk,x,hx=>by
  simp only[Yp7,Qxb]at hk
  split at hk
  ·rename_i h1
   rcases List.mem_cons.1 hx with rfl | hx
   ·exact h1
   ·exact Ybn (l:=z::l) hk x hx
  ·cases hk
theorem Qx3(s:St)(d:Option Tmp)(v:Value)(h:Heap):(s.put d v h).h=h:=by cases d <;> rfl
theorem Yph(E:Env2 P){C:CallK Bool}(hC:CallKSound P E.G C){rd:Option Nat}{o:Oper}{K:Exit->St->Bool}(hs:Yv9 Qxb E C rd o s K=true)(S:SRel E.G α s a w)
  {next:Act->World->Prop} {Q:Exit->Act->World->Prop}
  (hn:∀ α' a' w' s1,K .normal s1=true->LowOK s.h s1.h->Ext s.h.next α α'->Turn α s.h w α' s1.h w'->SRel E.G α' s1 a' w'->next a' w')
  (hp:∀ α' a' w' s1 ch,K (.panic ch) s1=true->LowOK s.h s1.h->Ext s.h.next α α'->Turn α s.h w α' s1.h w'->SRel E.G α' s1 a' w'->Qmw (dom α') (.panic ch)->Q (Qeu α' (.panic ch)) a' w') :
  o.wpIn (Qg8 rd α) 0 P a w next Q:=by
 refine⟨fun f _=>Qg4 rd α f,?_⟩
 unfold Yv9 at hs
 split at hs
 ·cases hs
 ·rename_i hdst
  have hdst':Qdh s o.dst=true:=by simpa using hdst
  have hd2:∀ h,Qdh ({s with h:=h}:St) o.dst=true:=fun h=>by cases hd:o.dst <;> simp only[hd,Qdh]at hdst' ⊢;exact hdst'
  have fin:∀ α' w' v h,K .normal (s.put o.dst v h)=true->LowOK s.h h->Ext s.h.next α α'->Turn α s.h w α' h w'->HRel E.G α' h w'->okV (dom α') v->next (a.put o.dst (ren α' v)) w':=by
   intro α' w' v h hk Xmw q2 q3 q4 q1
   have S1:=S.step q2 q4
   refine hn α' _ w' _ hk (by rw[Qx3];exact Xmw) q2 ?_ ?_
   ·rw[Qx3];exact q3
   ·have:=S1.put (d:=o.dst) (v:=v) (hd2 h) q1
    rw[St.put_h];exact this
  split at hs
  ·rename_i c hop
   split at hs
   ·split at hs
    ·rename_i d hd
     obtain⟨d1,d2⟩:=Xyn E S hd o.type
     have : (o.semAt (Qg8 none α).round a.eval).run P w=.ok (.defer (Qjc α d)) w:=by
      rw[Ql1]
      simp[Oper.semAt,execOp,hop,d2]
     rw[this]
     refine hn α _ w _ hs (by rw[Qx3];exact LowOK.refl _) (Ext.refl _ _) ?_ ?_
     ·rw[Qx3];exact Turn.refl _ _ _
     ·have S1:SRel E.G α {s with ds:=d::s.ds} {a with defers:=Qjc α d::a.defers} w :=
       ⟨S.h,S.t,by simp[S.ds],fun x hx=>by rcases List.mem_cons.1 hx with rfl | hx;exact d1;exact S.okd x hx⟩
      exact S1.putU hdst'
    ·cases hs
   ·cases hs
  ·rename_i x isS hop
   have hsem:o.semAt (Qg8 rd α).round a.eval=execOp a.eval o:=Oper.semAt_eq _ _ _ (fun c hc=>by rw[hop]at hc;cases hc)
   rw[hsem]
   split at hs
   ·rename_i it hit
    obtain⟨e1,e2⟩:=Q40 S.h S.t hit
    have hne:Qld it isS s.h ≠ []:=fun e=>by rw[e]at hs;cases hs
    obtain⟨y,hy,α',w',r1,r2,r3,r4,r5⟩:=Xpl (P:=P) (ty:=o.type) S.h e1 hne
    have hk:K .normal (s.put o.dst y.1 y.2)=true:=Ybn hs y hy
    have hrun:(execOp a.eval o).run P w=.ok (.value (ren α' y.1)) w':=by
     simp only[execOp,hop,e2]
     simp[r1]
    rw[hrun]
    exact fin α' w' y.1 y.2 hk (Xm7 hy) r3 r5 r4 r2
   ·cases hs
  ·rename_i hop hop2
   have hsem:o.semAt (Qg8 rd α).round a.eval=execOp a.eval o:=Oper.semAt_eq _ _ _ hop
   rw[hsem]
   split at hs
   ·rename_i v h hr
    obtain⟨α',w',r1,r2,r3,r4,r5⟩:=Qkj E S.h S.t hr
    rw[r1]
    exact fin α' w' v h hs (Qjm hr) r3 r5 r4 r2
   ·rename_i h hr
    obtain⟨w',r1,r2,r3⟩:=Qkj E S.h S.t hr
    rw[r1]
    have:=fin α w' Qq h hs (Qjm hr) (Ext.refl _ _) r3 r2 (by simp[Qq,okV,okA,okL])
    have e:ren α Qq=undef:=by simp[Qq,undef,ren,renA,renL]
    rw[e]at this
    exact this
   ·rename_i v h hr
    obtain⟨rfl,r1,r2⟩:=Qkj E S.h S.t hr
    rw[r1]
    exact hp α a w _ _ hs (LowOK.refl _) (Ext.refl _ _) (Turn.refl _ _ _) S (by simpa[Qmw]using r2)
   ·rename_i f args h hr
    have hlow0:=Qjm hr
    obtain⟨rfl,r1,r2⟩:=Qkj E S.h S.t hr
    rw[r1,Oper.uponIn_enter]
    refine⟨by rw[Qbt];simp,Qvo ?_⟩
    refine(hC.fn _ _ _ _ hs α w S.h r2).mono ?_
    rintro e' w' ⟨α',r,h1,⟨hk,Xmw⟩,rfl,q1,q2,q3,q4⟩
    cases r with
    | ret v=>exact fin α' w' v h1 hk Xmw q2 q3 q4 q1
    | panic ch=>exact hp α' a w' _ ch hk Xmw q2 q3 (S.step q2 q4) q1
   ·rename_i l args h hr
    obtain⟨rfl,k1,r2,st,pend,t',ps,asn,bd,d,k2,fn,tmps,k3,r1⟩:=Qkj E S.h S.t hr
    rw[r1,Oper.uponIn_round]
    refine⟨by rw[Qbt];simp,?_⟩
    refine(hC.rnd _ _ _ _ hs α w α rd _ _ _ _ _ _ _ _ _ S.h k1 r2 k2 k3).mono ?_
    rintro e' w' ⟨α',r,h1,⟨hk,Xmw⟩,rfl,q1,q2,q3,q4⟩
    cases r with
    | ret v=>exact fin α' w' v h1 hk Xmw q2 q3 q4 q1
    | panic ch=>exact hp α' a w' _ ch hk Xmw q2 q3 (S.step q2 q4) q1
   ·cases hs
theorem Ydr(E:Env2 P){C:CallK Bool}(hC:CallKSound P E.G C){rd:Option Nat}{ops:Array Oper}{Q:Exit->Act->World->Prop}{K:Exit->St->Bool}:∀ (l:List Oper) (i:Nat) (s:St) (α:Ren) (a:Act) (w:World),
  ops.toList.drop i=l->Yve Qxb E C rd ops.toList l s K=true->SRel E.G α s a w->(∀ l,rd=some l->dom α l) ->
  (∀ α' a' w' e s1,K e s1=true->LowOK s.h s1.h->Ext s.h.next α α'->Turn α s.h w α' s1.h w'->SRel E.G α' s1 a' w'->Qmw (dom α') e->Q (Qeu α' e) a' w') ->
  wpOpsIn (Qg8 rd α) 0 P ops Q (List.range' i l.length) a w
 | [],i,s,α,a,w,_,h,S,_,hQ=>hQ α a w .normal s h (LowOK.refl _) (Ext.refl _ _) (Turn.refl _ _ _) S trivial
 | o::r,i,s,α,a,w,hdrop,h,S,hl,hQ=>by
  have ho:ops[i]? = some o:=by
   have:=congrArg (fun l=>l[0]?) hdrop
   simpa[List.getElem?_drop]using this
  have hdrop':ops.toList.drop (i+1)=r:=by
   have:=congrArg List.tail hdrop
   simpa[List.tail_drop]using this
  simp only[List.length_cons,List.range'_succ,wpOpsIn,ho]
  simp only[Yve]at h
  split at h
  ·rename_i hw
   rw[if_pos (Qgv (G:=E.G) S.t hw)]
   refine Yph E hC h S (fun α' a' w' s1 hk h0 h1 h2 h3 => ?_) (fun α' a' w' s1 ch hk h0 h1 h2 h3 h4=>hQ α' a' w' _ s1 hk h0 h1 h2 h3 h4)
   obtain⟨f1,f2,_⟩:=Q35 (rd:=rd) (n:=0) S h1 hl
   have:=Ydr E hC (Q:=Q) (K:=K) r (i+1) s1 α' a' w' hdrop' hk h3 f2 (fun α'' a'' w'' e s2 g0 g1 g2 g3 g4 g5=>hQ α'' a'' w'' e s2 g0 (h0.trans g1) (h1.trans g2 h2.next) (h2.trans g3) g4 g5)
   rwa [f1]at this
  ·rename_i hw
   rw[if_neg (by rw[Qgv (G:=E.G) S.t hw];simp)]
   refine⟨fun f _=>Qg4 rd α f,?_⟩
   split at h
   ·rename_i hd
    have hh:(s.put o.dst Qq s.h).h=s.h:=Qx3 _ _ _ _
    exact Ydr E hC (Q:=Q) (K:=K) r (i+1) _ α _ w hdrop' h (S.putU hd) hl (by rw[hh];exact hQ)
   ·cases h
  ·cases h
theorem Yiu(E:Env2 P){C:CallK Bool}(hC:CallKSound P E.G C){rd:Option Nat}{id:Nat}{ops:Array Oper}{K:Exit->St->Bool}(h:Yve Qxb E C rd ops.toList ops.toList s K=true) :
  CW P E.G rd s.h.next (.region id ops false) s (fun e s'=>K e s'=true/\LowOK s.h s'.h):=by
 intro α a w S hl
 have:=Ydr E hC (ops:=ops) ops.toList 0 s α a w rfl h S hl (Q:=Yz6 E.G s.h.next α s.h w (fun e s'=>K e s'=true/\LowOK s.h s'.h)) (fun α' a' w' e s1 h0 h1 h2 h3 h4 h5=>⟨α',e,s1,⟨h0,h1⟩,rfl,h5,h2,h3,h4⟩)
 rw[Array.length_toList,<- List.range_eq_range']at this
 exact wpIn_region this
end
def Yjt{Z:Type}(A:Ask Z)(body:St->(Exit->St->Z)->Z):Nat->St->(Exit->St->Z)->Z
 | 0,_,_=>A.bad
 | k+1,s,K=>body s fun e s'=>match e with
  | .normal=>Yjt A body k s' K
  | e=>K e s'
def Yy5{Z:Type}(A:Ask Z)(t:Tm)(ds:List Deferred)(l:Nat)(K:Exit->St->Z)(r:AEnd)(h:Heap):Z:=match Q3f t ds l (some (r,h))with
 | some (e,s1)=>K e s1
 | none=>A.bad
def Yth{P:Program}{Z:Type}(A:Ask Z)(E:Env2 P)(C:CallK Z)(rd:Option Nat)(g:Operand)(ps:Array Tmp)(asn bd:Code)(s:St)(K:Exit->St->Z):Z :=
 match aev E.G s.t g with
 | some (.func (.func f) first captured)=>match E.fn.get f with
  | none=>A.bad
  | some _=>match rd with
   | none=>C.fn f (first.toList ++ [.func (.yield (s.h.next+1)) #[] #[]]++captured.toList) ((s.h.push (.obj .defs)).push (.obj (.loop .ready none s.t ps asn bd s.h.next)))
     (Yy5 A s.t ({target:=.collected s.h.next,args:=#[]}::s.ds) (s.h.next+1) K)
   | some l0=>match s.h.get l0 with
    | some (.obj (.loop _ _ _ _ _ _ d))=>C.fn f (first.toList ++ [.func (.yield s.h.next) #[] #[]]++captured.toList) (s.h.push (.obj (.loop .ready none s.t ps asn bd d))) (Yy5 A s.t s.ds s.h.next K)
    | _=>A.bad
 | _=>A.bad
def Xbu{P:Program}{Z:Type}(A:Ask Z)(E:Env2 P)(C:CallK Z)(D0:CallF)(rd:Option Nat)(k:Nat):Code->St->(Exit->St->Z)->Z
 | .skip,s,K=>K .normal s
 | .label _,s,K=>K .normal s
 | .ret,s,K=>K .ret s
 | .exit id,s,K=>K (.exit id) s
 | .seq x y,s,K=>Xbu A E C D0 rd k x s fun e s'=>match e with
  | .normal=>Xbu A E C D0 rd k y s' K
  | e=>K e s'
 | .cond c x y,s,K=>match aev E.G s.t c with
  | some (.bool true)=>Xbu A E C D0 rd k x s K
  | some (.bool false)=>Xbu A E C D0 rd k y s K
  | _=>A.bad
 | .block id c,s,K=>Xbu A E C D0 rd k c s fun e s'=>match e with
  | .exit id'=>match Nat.beq id' id with
   | true=>K .normal s'
   | false=>K (.exit id') s'
  | e=>K e s'
 | .loop c,s,K=>Yjt A (Xbu A E C D0 rd k c) k s K
 | .region _ ops true,s,K=>match Q6i E D0 ops.toList s with
  | some s'=>K .normal s'
  | none=>A.bad
 | .region _ ops false,s,K=>Yve A E C rd ops.toList ops.toList s K
 | .rangeFunc g ps asn bd,s,K=>Yth A E C rd g ps asn bd s K
 | _,_,_=>A.bad
section
variable{P:Program}{α:Ren}{s:St}{h:Heap}{w:World}
theorem Yrd(E:Env2 P){C:CallK Bool}(hC:CallKSound P E.G C){rd:Option Nat}{g:Operand}{ps:Array Tmp}{asn bd:Code}{K:Exit->St->Bool}(hh:Yth Qxb E C rd g ps asn bd s K=true) :
  CW P E.G rd s.h.next (.rangeFunc g ps asn bd) s (fun e' s'=>K e' s'=true/\LowOK s.h s'.h):=by
 intro α a w S hl
 unfold Yth at hh
 split at hh
 ·rename_i f first captured hg
  obtain⟨g1,g2⟩:=Q40 S.h S.t hg
  split at hh
  ·cases hh
  ·rename_i F hF
   obtain⟨q1,q2,q3⟩:=E.fnok _ _ hF
   have hbody:F.body.isNone=false:=by cases hb:F.body <;> simp[hb]at q3 ⊢
   have g3:a.eval g=.func (.func f) (first.map (ren α)) (captured.map (ren α)):=by rw[g2];simp[ren,Xm4,Qjr]
   simp only[okV,Qy4]at g1
   have hinv:∀ (args:Array Value) (w:World),(invoke (.fn (.func f) (captured.map (ren α))) args).run P w=.ok (.enter f (args++captured.map (ren α))) w:=fun args w=>Xou E hF _ _ w
   have go:∀ (α2:Ren) (w2:World) (h2:Heap) (l:Nat) (ds:List Deferred) (mark:List Deferred),Ext s.h.next α α2->s.h.next<=h2.next->LowOK s.h h2->HRel E.G α2 h2 w2->Turn α s.h w α2 h2 w2->dom α2 l ->
     (mark++a.defers=ds.map (Qjc α2))->(∀ d ∈ ds,Xlt (dom α2) d) ->
     C.fn f (first.toList ++ [.func (.yield l) #[] #[]]++captured.toList) h2 (Yy5 Qxb s.t ds l K)=true ->
     CallsIn (Qg8 rd α) 0 P f (first.map (ren α) ++ #[Value.func (.yield (Z7 α2 l)) #[] #[]]++captured.map (ren α)) w2 (rangePost (Qg8 rd α) 0 P (Z7 α2 l)
      (fun e' a' w' => ∃ α' e0 s',(K e0 s'=true/\LowOK s.h s'.h)/\e'=Qeu α' e0/\Qmw (dom α') e0/\Ext s.h.next α α'/\Turn α s.h w α' s'.h w'/\SRel E.G α' s' a' w') {a with defers:=mark++a.defers}):=by
    intro α2 w2 h2 l ds mark he hn hlow2 H2 T2 hl2 hds hok haft
    have hcongr:∀ b,dom α b->α2 b=α b:=fun b hb=>he b (Qbe S.h hb)
    obtain⟨a1,a2⟩:=Xuu g1 hcongr hl2 rfl
    rw[a1]
    refine Qvo ((hC.fn _ _ _ _ haft α2 w2 H2 a2).mono ?_)
    rintro e' w3 ⟨α3,r,h3,⟨hk,hlow3⟩,rfl,k1,k2,k3,k4⟩
    unfold Yy5 at hk
    split at hk
    ·rename_i e0 s1 haf
     have hc3:∀ b,dom α2 b->α3 b=α2 b:=fun b hb=>k2 b (Qbe H2 hb)
     have hl3:dom α3 l:=by simpa[dom,hc3 l hl2]using hl2
     have er:Z7 α2 l=Z7 α3 l:=(Jq (hc3 l hl2)).symm
     have S3:SRel E.G α3 ⟨s.t,ds,h3⟩ {a with defers:=mark++a.defers} w3:=by
      refine⟨k4,(S.t.keep hcongr).keep hc3,?_,fun d hd=>Qxx (fun b hb=>by simpa[dom,hc3 b hb]using hb) (hok d hd)⟩
      show mark++a.defers=_
      rw[hds]
      apply List.map_congr_left
      intro d hd
      exact(Qob hc3 (hok d hd)).symm
     rw[er]
     refine X4o haf hl3 k1 S3 fun w' T' S' hx => ?_
     exact⟨α3,e0,s1,⟨hk,(hlow2.trans hlow3).trans (Xna haf)⟩,rfl,hx,he.trans k2 hn,(T2.trans k3).trans T',S'⟩
    ·cases hk
   split at hh
   ·refine wpIn_rangeFunc fun fn _ => ?_
    obtain⟨α1,H1,T1,d1,b1,x1⟩:=Xtp S.h (x:=.defs) (o:=.deferred (some [])) rfl
    have S1:=S.step x1 H1
    obtain⟨α2,H2,T2,d2,b2,x2⟩:=Q8v (ps:=ps) («as» := asn) (bd:=bd) H1 S1.t d1 fn
    have hn1:(s.h.push (.obj .defs)).next=s.h.next+1:=rfl
    have x12:Ext s.h.next α α2:=x1.trans x2 (by omega)
    have hb2:Z7 α2 s.h.next=w.heap.size:=by rw[Jq (x2 _ (by omega)),b1]
    have hd2:dom α2 s.h.next:=by have:=x2 s.h.next (by omega);simpa[dom,this]using d1
    rw[Xqt]at b2
    rw[b1]at H2 T2
    refine⟨w.heap.size+1,[{target:=.collected w.heap.size,args:=#[]}],(w.alloc (.deferred (some []))).alloc (.loop {state:=.ready,pending:=none,fn:=fn,tmps:=a.tmps,params:=ps,assign:=asn,body:=bd,defers:=w.heap.size}),⟨.fn (.func f) (captured.map (ren α)),first.map (ren α) ++ #[.func (.yield (w.heap.size+1)) #[] #[]]⟩,(w.alloc (.deferred (some []))).alloc (.loop {state:=.ready,pending:=none,fn:=fn,tmps:=a.tmps,params:=ps,assign:=asn,body:=bd,defers:=w.heap.size}),f,_,(w.alloc (.deferred (some []))).alloc (.loop {state:=.ready,pending:=none,fn:=fn,tmps:=a.tmps,params:=ps,assign:=asn,body:=bd,defers:=w.heap.size}),?_,?_,?_,hinv _ _,by rw[Qbt];simp,?_⟩
    ·rw[Ql1]
     exact run_enterLoop_outer fn a.tmps ps asn bd
    ·show(Deferred.ofValue (a.eval g) _).run P _=_
     rw[g3];simp[Deferred.ofValue,rangeCall,Act.eval]
    ·exact fun f' _=>Qg4 none α f'
    ·have:=go α2 _ _ (s.h.next+1) ({target:=.collected s.h.next,args:=#[]}::s.ds) [{target:=.collected w.heap.size,args:=#[]}] x12 (by show s.h.next<=s.h.next+1+1;omega) ((LowOK.push _ _).trans (LowOK.push _ _)) H2 (T1.trans T2) d2 ?_ ?_ hh
     ·rw[<- hn1,b2]at this
      exact this
     ·have S2:=S.step x12 H2
      simp only[List.map_cons,Qjc,hb2,renA,renL]
      rw[<- S2.ds]
      rfl
     ·intro d hd
      rcases List.mem_cons.1 hd with rfl | hd
      ·exact⟨hd2,by simp[okA,okL]⟩
      ·exact(S.step x12 H2).okd d hd
   ·rename_i l0
    split at hh
    ·rename_i st0 pend0 t0 ps0 as0 bd0 d0 hg0
     refine wpIn_rangeFunc fun fn _ => ?_
     have hl0:=hl l0 rfl
     obtain⟨r0,r1,_,_,_,_,_,_,hd0,r2,_⟩:=Qyi S.h hl0 hg0
     obtain⟨α2,H2,T2,d2,b2,x2⟩:=Q8v (ps:=ps) («as» := asn) (bd:=bd) S.h S.t hd0 fn
     have S2:=S.step x2 H2
     refine⟨w.heap.size,[],w.alloc (.loop {state:=.ready,pending:=none,fn:=fn,tmps:=a.tmps,params:=ps,assign:=asn,body:=bd,defers:=Z7 α d0}),⟨.fn (.func f) (captured.map (ren α)),first.map (ren α) ++ #[.func (.yield w.heap.size) #[] #[]]⟩,w.alloc (.loop {state:=.ready,pending:=none,fn:=fn,tmps:=a.tmps,params:=ps,assign:=asn,body:=bd,defers:=Z7 α d0}),f,_,w.alloc (.loop {state:=.ready,pending:=none,fn:=fn,tmps:=a.tmps,params:=ps,assign:=asn,body:=bd,defers:=Z7 α d0}),?_,?_,?_,hinv _ _,by rw[Qbt];simp,?_⟩
     ·rw[Ql1]
      unfold Instr.enterLoop
      simp only[Option.map_some,Sem.run_bind,run_getLoop r1,Result.andThen,Sem.run_pure,run_newObj_alloc,r2]
     ·show(Deferred.ofValue (a.eval g) _).run P _=_
      rw[g3];simp[Deferred.ofValue,rangeCall,Act.eval]
     ·exact fun f' _=>Qg4 _ α f'
     ·have:=go α2 _ _ s.h.next s.ds [] x2 (by show s.h.next<=s.h.next+1;omega) (LowOK.push _ _) H2 T2 d2 (by simpa using S2.ds) S2.okd hh
      rw[b2]at this
      exact this
    ·cases hh
 ·cases hh
theorem Yps{G:Bs}{rd:Option Nat}{c:Code}{body:St->(Exit->St->Bool)->Bool}(hb:∀ s K,body s K=true->CW P G rd s.h.next c s (fun e' s'=>K e' s'=true/\LowOK s.h s'.h))
  {k:Nat} {s:St} {K:Exit->St->Bool} (h:Yjt Qxb body k s K=true):CW P G rd s.h.next (.loop c) s (fun e' s'=>K e' s'=true/\LowOK s.h s'.h):=by
 intro α0 a0 w0 S0 hl0
 refine Ycw (n:=s.h.next) (fun k s'=>Yjt Qxb body k s' K=true/\LowOK s.h s'.h) ⟨h,LowOK.refl _⟩ (fun l hl=>Qbe S0.h (hl0 l hl)) (Nat.le_refl _) (fun k s' hI _ => ?_) α0 a0 w0 S0 hl0
 obtain⟨hk,Xmw⟩:=hI
 cases k with
 | zero=>simp[Yjt,Qxb]at hk
 | succ k =>
  simp only[Yjt]at hk
  refine(hb _ _ hk).mono Xmw.next ?_
  rintro e' s'' ⟨h1,h2⟩
  have h3:=Xmw.trans h2
  refine⟨h3.next,fun he => ?_,fun hne => ?_⟩
  ·subst he;exact⟨k,Nat.lt_succ_self _,h1,h3⟩
  ·refine⟨?_,h3⟩
   cases e' <;> first
    | exact absurd rfl hne
    | exact h1
theorem Q1j(E:Env2 P){C:CallK Bool}(hC:CallKSound P E.G C){D0:CallF}(hD:CallsSound P E.G D0)(hL:CallsLow D0)(hm:P.follows .mixedOrders=true){rd:Option Nat}{k:Nat}:∀ (c:Code) (s:St) (K:Exit->St->Bool),Xbu Qxb E C D0 rd k c s K=true ->
  CW P E.G rd s.h.next c s (fun e' s'=>K e' s'=true/\LowOK s.h s'.h)
 | .skip,s,K,h=>Ydb ⟨h,LowOK.refl _⟩
 | .label _,s,K,h=>X6q ⟨h,LowOK.refl _⟩
 | .ret,s,K,h=>Yl3 ⟨h,LowOK.refl _⟩
 | .exit _,s,K,h=>Yfe ⟨h,LowOK.refl _⟩
 | .seq x y,s,K,h=>by
  simp only[Xbu]at h
  refine Yo9 ((Q1j E hC hD hL hm x _ _ h).mono (Nat.le_refl _) ?_)
  rintro e' s'' ⟨h1,h2⟩
  refine⟨h2.next,fun he => ?_,fun hne => ?_⟩
  ·subst he
   refine(Q1j E hC hD hL hm y _ _ h1).mono (Nat.le_refl _) ?_
   rintro e3 s3 ⟨h3,h4⟩
   exact⟨h3,h2.trans h4⟩
  ·refine⟨?_,h2⟩
   cases e' <;> first
    | exact absurd rfl hne
    | exact h1
 | .cond c x y,s,K,h=>by
  simp only[Xbu]at h
  split at h
  ·rename_i hc;exact Xx3 hc (Q1j E hC hD hL hm x _ _ h)
  ·rename_i hc;exact Xx3 hc (Q1j E hC hD hL hm y _ _ h)
  ·cases h
 | .block id c,s,K,h=>by
  simp only[Xbu]at h
  refine X4d ((Q1j E hC hD hL hm c _ _ h).mono (Nat.le_refl _) ?_)
  rintro e' s'' ⟨h1,h2⟩
  cases e' with
  | exit id' =>
   simp only at h1 ⊢
   split at h1
   ·rename_i hb
    rw[if_pos (Nat.eq_of_beq_eq_true hb)]
    exact⟨h1,h2⟩
   ·rename_i hb
    rw[if_neg (Nat.ne_of_beq_eq_false hb)]
    exact⟨h1,h2⟩
  | _=>exact⟨h1,h2⟩
 | .loop c,s,K,h=>by
  simp only[Xbu]at h
  exact Yps (Q1j E hC hD hL hm c) h
 | .region _ ops true,s,K,h=>by
  simp only[Xbu]at h
  split at h
  ·rename_i s' hs;exact Qm1 E hD hL hm hs ⟨h,Xod hL hs⟩
  ·cases h
 | .region _ ops false,s,K,h=>by
  simp only[Xbu]at h;exact Yiu E hC h
 | .rangeFunc ..,s,K,h=>by
  simp only[Xbu]at h;exact Yrd E hC h
 | .scope ..,_,_,h | .goto ..,_,_,h | .refuse ..,_,_,h=>by simp[Xbu,Qxb]at h
def Yrt{Z:Type}(A:Ask Z)(l:Nat)(K:AEnd->Heap->Z)(e:Exit)(s2:St):Z:=match Xws e,s2.h.get l with
 | some j,some (.obj (.loop _ _ t2 ps2 as2 bd2 d2))=>K (.ret (.bool j.isNone)) (s2.h.set l (some (.obj (.loop (if j.isNone then .ready else .done) j t2 ps2 as2 bd2 d2))))
 | _,_=>A.bad
def Yov{P:Program}{Z:Type}(A:Ask Z)(E:Env2 P)(C:CallK Z)(D0:CallF)(k:Nat)(l:Nat)(args:List Value)(h:Heap)(K:AEnd->Heap->Z):Z :=
 match h.get l with
 | some (.obj (.loop .ready _ t ps asn bd _))=>match Yf3 t.size ps.toList args with
  | false=>A.bad
  | true=>Xbu A E C D0 (some l) k asn ⟨Xn3 t ps.toList args,[],h⟩ fun e s1=>match e with
   | .normal=>match s1.h.get l with
    | some (.obj (.loop .ready p1 t1 ps1 as1 bd1 d1))=>Xbu A E C D0 (some l) k bd {s1 with h:=s1.h.set l (some (.obj (.loop .busy p1 t1 ps1 as1 bd1 d1)))} (Yrt A l K)
    | _=>A.bad
   | _=>A.bad
 | _=>A.bad
theorem Yns(E:Env2 P){C:CallK Bool}(hC:CallKSound P E.G C){D0:CallF}(hD:CallsSound P E.G D0)(hL:CallsLow D0)(hm:P.follows .mixedOrders=true){k l:Nat}{args:List Value}{h:Heap}{K:AEnd->Heap->Bool}(hh:Yov Qxb E C D0 k l args h K=true) :
  Q9q P E.G l args h (fun r' h'=>K r' h'=true/\LowOK h h'):=by
 intro α w β rd st pend t ps asn bd d fn tmps H hl ha hg ht
 unfold Yov at hh
 rw[hg]at hh
 cases st with
 | ready =>
  simp only at hh
  split at hh
  ·cases hh
  ·refine roundIn_of_wpIn (Qg4 rd β _) ?_
   rw[Xaj rd α β l]
   have S0:SRel E.G α ⟨Xn3 t ps.toList args,[],h⟩ {tmps:=tmps,defers:=[]} w:=⟨H,ht,rfl,fun d hd=>by cases hd⟩
   refine wpIn_mono (Q1j E hC hD hL hm asn _ _ hh α _ w S0 (fun l' hl'=>by cases hl';exact hl)) ?_
   rintro e' a1 w1 ⟨α1,e1,s1',⟨hk1,low1⟩,rfl,_,x1,T1,S1⟩
   cases e1 with
   | normal =>
    simp only at hk1
    split at hk1
    ·rename_i p1 t1 ps1 as1 bd1 d1 hg1
     have hc1:∀ b,dom α b->α1 b=α b:=fun b hb=>x1 b (Qbe H hb)
     have hl1:dom α1 l:=by simpa[dom,hc1 l hl]using hl
     obtain⟨r1,k1,k2,kp,kps,kas,kbd,_,_,_,k3⟩:=Qyi S1.h hl1 hg1
     subst kp
     obtain⟨H1',T1'⟩:=k3 .busy r1.pending
     have er1:Z7 α1 l=Z7 α l:=Jq (hc1 l hl)
     refine⟨_,by rw[<- er1];exact run_beginRound k1 k2,?_⟩
     rw[<- er1]
     have S1':=S1.step (Ext.refl _ _) H1'
     rw[<- (Q35 (rd:=some l) (n:=0) S0 x1 (fun l' hl'=>by cases hl';exact hl)).1]
     refine wpIn_mono (Q1j E hC hD hL hm bd _ _ hk1 α1 a1 _ S1' (fun l' hl'=>by cases hl';exact hl1)) ?_
     rintro e' a2 w2 ⟨α2,e2',s2',⟨hk2,low2⟩,rfl,_,x2,T2,S2⟩
     have hn1:h.next<=s1'.h.next:=low1.next
     have hc2:∀ b,dom α1 b->α2 b=α1 b:=fun b hb=>x2 b (Qbe H1' hb)
     have hl2:dom α2 l:=by simpa[dom,hc2 l hl1]using hl1
     have er2:Z7 α2 l=Z7 α1 l:=Jq (hc2 l hl1)
     unfold Yrt at hk2
     split at hk2
     ·rename_i j st2 pe2 t2 ps2 as2 bd2 d2 hj hg2
      obtain⟨r2,m1,m2,_,_,_,_,_,_,_,m3⟩:=Qyi S2.h hl2 hg2
      obtain⟨H2',T2'⟩:=m3 (if j.isNone then .ready else .done) j
      have low3:LowOK h (s2'.h.set l (some (.obj (.loop (if j.isNone then .ready else .done) j t2 ps2 as2 bd2 d2)))) :=
       ((low1.trans (LowOK.set _ _ _ (Heap.get_lt hg1))).trans low2).trans (LowOK.set _ _ _ (Heap.get_lt hg2))
      have fin:∃ v w',(Instr.endRound (Z7 α1 l) j).run P w2=.ok v w'/\∃ α' r h',(K r h'=true/\LowOK h h') /\
        Ending.returned v=Qkk α' r/\Xaa (dom α') r/\Ext h.next α α'/\Turn α h w α' h' w'/\HRel E.G α' h' w' :=
       ⟨_,_,by rw[<- er2];exact run_endRound j m1,α2,_,_,⟨hk2,low3⟩,by simp[Qkk],trivial,x1.trans x2 hn1,((T1.trans T1').trans T2).trans T2',H2'⟩
      rw[er1]at fin ⊢
      exact Xi2 hj fin
     ·cases hk2
    ·cases hk1
   | _=>cases hk1
 | _=>cases hh
def X8c{P:Program}{Z:Type}(A:Ask Z)(E:Env2 P)(D:Qj7)(fn:Func)(K:AEnd->Heap->Z)(u:FrameMode)(s:St):Z:=match Qu E D fn s.t s.ds u s.h with
 | some (r,h')=>K r h'
 | none=>A.bad
def Yue{P:Program}{Z:Type}(A:Ask Z)(E:Env2 P)(D:Qj7)(fn:Func)(K:AEnd->Heap->Z)(e:Exit)(s:St):Z:=match e with
 | .normal=>X8c A E D fn K .returning s
 | .ret=>X8c A E D fn K .returning s
 | .panic ch=>X8c A E D fn K (.panicking ch) s
 | _=>A.bad
def Yt0{P:Program}{Z:Type}(A:Ask Z)(E:Env2 P)(C:CallK Z)(D0:CallF)(D:Qj7)(k:Nat)(f:FuncId)(args:List Value)(h:Heap)(K:AEnd->Heap->Z):Z :=
 match E.fn.get f with
 | none=>A.bad
 | some fn=>match fn.body,Nat.ble args.length fn.ntmps with
  | some c,true=>Xbu A E C D0 none k c ⟨Y8 fn args,[],h⟩ (Yue A E D fn K)
  | _,_=>A.bad
theorem Yrh(E:Env2 P){C:CallK Bool}(hC:CallKSound P E.G C){D0:CallF}(hD0:CallsSound P E.G D0)(hL:CallsLow D0)(hm:P.follows .mixedOrders=true){D:Qj7}(hD:Qoi P E.G D)(hDL:Q8o D){k:Nat}{f:FuncId}{args:List Value}{h:Heap}{K:AEnd->Heap->Bool}
  (hb:Yt0 Qxb E C D0 D k f args h K=true):CallOK P E.G f args h (fun r1 h1=>K r1 h1=true/\LowOK h h1):=by
 intro α w H ha
 unfold Yt0 at hb
 split at hb
 ·cases hb
 ·rename_i fn hfn
  obtain⟨g1,g2,g3⟩:=E.fnok _ _ hfn
  split at hb
  ·rename_i c hbody hle
   have hle':args.length<=fn.ntmps:=by simpa using hle
   have S:SRel E.G α ⟨Y8 fn args,[],h⟩ {tmps:=(args.map (ren α)).toArray++Array.replicate (fn.ntmps-(args.map (ren α)).toArray.size) undef,defers:=[]} w :=
    ⟨H,Xpc hle' ha,rfl,fun d hd=>by cases hd⟩
   have lv:∀ (s:St) (u:FrameMode),X8c Qxb E D fn K u s=true->∀ a' w' α',LowOK h s.h->Ext h.next α α'->Turn α h w α' s.h w'->SRel E.G α' s a' w'->okM (dom α') u ->
     LeavesInM Fence.wide 0 P fn a'.tmps (fun e w' => ∃ α' r1 h1,(K r1 h1=true/\LowOK h h1)/\e=Qkk α' r1/\Xaa (dom α') r1/\Ext h.next α α'/\Turn α h w α' h1 w'/\HRel E.G α' h1 w') a'.defers (Xek α' u) w':=by
    intro s u hl a' w' α' q0 q2 q3 q4 hu
    unfold X8c at hl
    split at hl
    ·rename_i r h' hlv
     rw[q4.ds]
     exact Q8y E hD s.ds u s.h α' w' a'.tmps r h' hlv q4.h q4.t q4.okd hu fun α'' w'' p1 p2 p3 p4=>⟨α'',r,h',⟨hl,q0.trans (Q2m hDL _ _ _ _ _ hlv)⟩,rfl,p4,q2.trans p1 q3.next,q3.trans p2,p3⟩
    ·cases hl
   refine callsIn_of_wp_marks g1 hbody trivial ?_
   refine wpIn_mono (Q1j E hC hD0 hL hm c _ _ hb α _ w S (fun l hl=>by cases hl)) ?_
   rintro e' a' w' ⟨α',e1,s1,⟨hk,Xmw⟩,rfl,q1,q2,q3,q4⟩
   cases e1 with
   | normal=>exact lv s1 .returning hk a' w' α' Xmw q2 q3 q4 trivial
   | ret=>exact lv s1 .returning hk a' w' α' Xmw q2 q3 q4 trivial
   | panic ch=>exact lv s1 (.panicking ch) hk a' w' α' Xmw q2 q3 q4 q1
   | _=>cases hk
  ·cases hb
def Yd6{P:Program}{Z:Type}(A:Ask Z)(E:Env2 P)(D0:CallF)(nd:FuncId->Bool)(k:Nat):Nat->CallK Z
 | 0=>⟨fun _ _ _ _=>A.bad,fun _ _ _ _=>A.bad⟩
 | n+1=>⟨fun f args h K=>match nd f with
   | false=>match D0.fn f args h with
    | some (r,h')=>K r h'
    | none=>A.bad
   | true=>Yt0 A E (Yd6 A E D0 nd k n) D0 (Xgq E D0 k) k f args h K,fun l args h K=>Yov A E (Yd6 A E D0 nd k n) D0 k l args h K⟩
theorem X5u(E:Env2 P){D0:CallF}(hD:CallsSound P E.G D0)(hL:CallsLow D0)(hm:P.follows .mixedOrders=true)(nd:FuncId->Bool)(k:Nat):∀ n,CallKSound P E.G (Yd6 Qxb E D0 nd k n)
 | 0=>⟨fun _ _ _ _ h=>(by cases h),fun _ _ _ _ h=>(by cases h)⟩
 | n+1=>by
  have ih:=X5u E hD hL hm nd k n
  refine⟨fun f args h K hc => ?_,fun l args h K hc=>Yns E ih hD hL hm hc⟩
  simp only[Yd6]at hc
  split at hc
  ·split at hc
   ·rename_i r h' hr
    refine(hD.fn _ _ _ _ _ hr).mono ?_
    rintro r1 h1 ⟨rfl,rfl⟩
    exact⟨hc,hL.fn _ _ _ _ _ hr⟩
   ·cases hc
  ·exact Yrh E ih hD hL hm (Xu1 E hD hL hm) (Xpr hL) hc
end
def Yok(v0:Value)(n:Nat)(r:AEnd)(h':Heap):Bool:=match r with
 | .ret v=>bq (X5t (some v) (some v0)) (Nat.ble n h'.low) false
 | _=>false
def Yup(m0 c0 sz0:Nat)(cs:List Value)(n:Nat)(r:AEnd)(h':Heap):Bool:=match r with
 | .ret (.slice (some ⟨j,0,none⟩) m c)=>match h'.get j with
  | some (.cells true sz l)=>bq (Nat.beq m m0) (bq (Nat.beq c c0) (bq (Nat.beq sz sz0) (bq (Nat.ble n j) (bq (Yfr l cs) (Nat.ble n h'.low) false) false) false) false) false
  | _=>false
 | _=>false
theorem Qyb{b x:Bool}(h:bq b x false=true):b=true/\x=true:=by
 cases b with
 | true=>exact⟨rfl,h⟩
 | false=>cases h
section
variable{P:Program}{G:Bs}{α:Ren}{h:Heap}{w:World}
theorem HRel.reset(H:HRel G α h w):HRel G α (J3 h) w:=⟨H.dom,H.fits,H.apart,H.glob,H.globs,H.wf,H.base,H.bsz⟩
theorem Ytr{f:FuncId}{args:List Value}{v0:Value}(hv:flat v0=true)(hc:CallOK P G f args (J3 h) (fun r h'=>Yok v0 h.next r h'=true/\LowOK (J3 h) h')) :
  CallOK P G f args h (fun r h1=>r=.ret v0/\h1=h):=by
 intro α w H hok
 refine(hc α w H.reset hok).mono ?_
 rintro e w' ⟨α',r,h2,⟨hk,Xmw⟩,rfl,hvok,hx,t,H'⟩
 unfold Yok at hk
 split at hk
 ·rename_i v
  obtain⟨k1,k2⟩:=Qyb hk
  have e1:=Yhn k1
  cases e1
  have hlt:h.next<=h2.low:=Nat.le_of_ble_eq_true k2
  have hsame:∀ b,b < h.next->h2.get b=h.get b:=fun b hb=>Xmw.same b hb (by omega)
  have hr:=H'.restrict (h':=h) H.globs (fun b _ hb=>(hsame b hb).symm) H.wf
  have ea:Ren.below α' h.next=α:=by
   funext b
   unfold Ren.below
   split
   ·rename_i hb;exact hx b hb
   ·rename_i hb
    cases hq:α b with
    | none=>rfl
    | some p=>exact absurd (H.dom b p hq).1 hb
  rw[ea]at hr
  refine⟨α,.ret v0,h,⟨rfl,rfl⟩,?_,flat_ok _ _ hv,Ext.refl _ _,⟨t.size,fun k hk hno=>t.same k hk hno,fun b p hb ho => .inr ⟨b,p,hb,ho,rfl⟩,t.tape,t.os,t.output,Nat.le_refl _⟩,hr⟩
  simp only[Qkk,Qdd _ hv]
 ·cases hk
theorem Yxa{f:FuncId}{args:List Value}{m0 c0 sz0:Nat}{cs:List Value}(hcs:Xdx cs)(hc:CallOK P G f args (J3 h) (fun r h'=>Yup m0 c0 sz0 cs h.next r h'=true/\LowOK (J3 h) h')) :
  CallOK P G f args h (fun r h1=>r=.ret (.slice (some ⟨h.next,0,none⟩) m0 c0)/\h1=h.push (.cells true sz0 cs)):=by
 intro α w H hok
 refine(hc α w H.reset hok).mono ?_
 rintro e w' ⟨α',r,h2,⟨hk,Xmw⟩,rfl,hvok,hx,t,H'⟩
 unfold Yup at hk
 split at hk
 ·rename_i j m c
  split at hk
  ·rename_i sz l hg
   obtain⟨k1,hk⟩:=Qyb hk
   obtain⟨k2,hk⟩:=Qyb hk
   obtain⟨k3,hk⟩:=Qyb hk
   obtain⟨k4,hk⟩:=Qyb hk
   obtain⟨k5,k6⟩:=Qyb hk
   have e1:=Nat.eq_of_beq_eq_true k1
   have e2:=Nat.eq_of_beq_eq_true k2
   have e3:=Nat.eq_of_beq_eq_true k3
   have e5:=X63 k5
   subst e1 e2 e3 e5
   have hj:h.next<=j:=Nat.le_of_ble_eq_true k4
   have hlt:h.next<=h2.low:=Nat.le_of_ble_eq_true k6
   have hsame:∀ b,b < h.next->h2.get b=h.get b:=fun b hb=>Xmw.same b hb (by omega)
   simp only[Xaa,okV]at hvok
   obtain⟨p,hp⟩:=Option.isSome_iff_exists.1 hvok.1
   have hfit:=H'.fits j p _ hp hg
   have hown:h2.own j=true:=by rw[Qpo hg];rfl
   have hb0:p.base=0:=by
    obtain⟨_,hf | ⟨C,e,lo,hi,_,_,k3⟩⟩:=hfit
    ·cases hf.1
    ·exact(k3 rfl).1
   have ea:∀ b q,α b=some q->α' b=some q:=fun b q hb=>by rw[hx b (H.dom b q hb).1];exact hb
   have Hw:HRel G α h w':=by
    have hr:=H'.restrict (h':=h) H.globs (fun b _ hb=>(hsame b hb).symm) H.wf
    have e0:Ren.below α' h.next=α:=by
     funext b
     unfold Ren.below
     split
     ·rename_i hb;exact hx b hb
     ·rename_i hb
      cases hq:α b with
      | none=>rfl
      | some p=>exact absurd (H.dom b p hq).1 hb
    rwa [e0]at hr
   have hcase:∀ c q,Ren.add α h.next p c=some q->(c=h.next/\q=p)∨(c < h.next/\α c=some q):=by
    intro c q hc
    unfold Ren.add at hc
    split at hc
    ·cases hc;exact .inl ⟨by assumption,rfl⟩
    ·exact .inr ⟨(H.dom c q hc).1,hc⟩
   have hnd:ren α' (.slice (some ⟨j,0,none⟩) m c)=ren (Ren.add α h.next p) (.slice (some ⟨h.next,0,none⟩) m c):=by
    simp[ren,J6,Q2z,hp,Ren.add_same]
   have hap:∀ b q,α b=some q->(h.own b=true∨h.live b=true)->p.blk≠q.blk:=by
    intro b q hb ho
    have hbl:=(H.dom b q hb).1
    refine H'.apart j b p q hp (ea b q hb) (by omega) hown ?_
    rw[Xj9 (hsame b hbl)]
    rcases ho with ho | ho
    ·obtain⟨x,hx,hxo⟩:=Qwy ho
     rw[Xlx hx];exact Blk.solid_of_own hxo
    ·exact ho
   refine⟨Ren.add α h.next p,_,_,⟨rfl,rfl⟩,by simp only[Qkk,hnd],?_,Ren.add_ext _ _ _,⟨t.size,fun k hk hno=>t.same k hk hno,fun b q hb ho => ?_,t.tape,t.os,t.output,Nat.le_succ _⟩,?_⟩
   ·simp only[Xaa,okV,and_true]
    show(Ren.add _ _ _ _).isSome=true
    rw[Ren.add_same];rfl
   ·rcases hcase b q hb with⟨rfl,rfl⟩ | ⟨h1,h2⟩
    ·rcases t.owns j q hp hown with h3 | h3
     ·exact .inl h3
     ·exact .inr h3
    ·rw[Qn3,if_neg (by omega)]at ho
     exact .inr ⟨b,q,h2,ho,rfl⟩
   ·refine⟨fun b q hb => ?_,fun b q x hb hx => ?_,fun b d q r hb hd hne ho hl => ?_,fun g hg' => ?_,Nat.le_succ_of_le H.globs,fun b x hx => ?_,fun b q x hb hx => ?_,Hw.bsz⟩
    ·rcases hcase b q hb with⟨rfl,rfl⟩ | ⟨h1,h2⟩
     ·exact⟨Nat.lt_succ_self _,(H'.dom j q hp).2⟩
     ·exact⟨Nat.lt_succ_of_lt h1,(Hw.dom b q h2).2⟩
    ·rw[Heap.get_push]at hx
     rcases hcase b q hb with⟨rfl,rfl⟩ | ⟨h1,h2⟩
     ·simp only[if_true]at hx;cases hx
      exact Fits.likes ⟨true,true,sz,l,rfl,rfl,fun _=>rfl,(fun h=>by cases h),hcs⟩ hfit
     ·rw[if_neg (by omega)]at hx
      exact(Hw.fits b q x h2 hx).keep (H.add_dom p) rfl
    ·rw[Qn3]at ho
     rw[Xfl]at hl
     rcases hcase b q hb with⟨rfl,rfl⟩ | ⟨h1,h2⟩
     ·rcases hcase d r hd with⟨rfl,rfl⟩ | ⟨h3,h4⟩
      ·exact absurd rfl hne
      ·rw[if_neg (by omega)]at hl
       exact hap d r h4 (.inr hl)
     ·rcases hcase d r hd with⟨rfl,rfl⟩ | ⟨h3,h4⟩
      ·rw[if_neg (by omega)]at ho
       exact(hap b q h2 (.inl ho)).symm
      ·rw[if_neg (by omega)]at ho
       rw[if_neg (by omega)]at hl
       exact H.apart b d q r h2 h4 hne ho hl
    ·have:=H.globs
     refine⟨by rw[Ren.add_ext α h.next p g (by omega)];exact(H.glob g hg').1,?_⟩
     rw[Qn3,if_neg (by omega)]
     exact(H.glob g hg').2
    ·rw[Heap.get_push]at hx
     split at hx
     ·cases hx;exact fun v hv=>⟨flat_ok _ v (hcs v hv).1,(hcs v hv).2⟩
     ·exact Q1v (fun c hc=>Nat.lt_succ_of_lt hc) (H.wf b x hx)
    ·rw[Heap.get_push]at hx
     rcases hcase b q hb with⟨rfl,rfl⟩ | ⟨h1,h2⟩
     ·simp only[if_true]at hx;cases hx
      refine⟨fun _=>(H'.base j q _ hp hg).1 rfl,fun h0=>by cases h0⟩
     ·rw[if_neg (by omega)]at hx
      exact H.base b q x h2 hx
  ·cases hk
 ·cases hk
end
def Yc1{P:Program}(E:Env2 P)(D0:CallF)(nd:FuncId->Bool)(k n:Nat)(f:FuncId)(args:List Value)(h:Heap):Option (AEnd × Heap) :=
 ob ((Yd6 (Yxp (AEnd × Heap)) E D0 nd k n).fn f args (J3 h) fun r h'=>some (r,h')) fun p=>match p with
  | (.ret (.slice (some ⟨j,0,none⟩) m c),h')=>match h'.get j with
   | some (.cells true sz l)=>bq (Yho l) (bq ((Yd6 Qxb E D0 nd k n).fn f args (J3 h) (Yup m c sz l h.next)) (some (.ret (.slice (some ⟨h.next,0,none⟩) m c),h.push (.cells true sz l))) none) none
   | _=>none
  | (.ret v,_)=>bq (flat v) (bq ((Yd6 Qxb E D0 nd k n).fn f args (J3 h) (Yok v h.next)) (some (.ret v,h)) none) none
  | _=>none
section
variable{P:Program}
theorem Yln(E:Env2 P){D0:CallF}(hD:CallsSound P E.G D0)(hL:CallsLow D0)(hm:P.follows .mixedOrders=true)(nd:FuncId->Bool)(k n:Nat):Wu P E.G (Yc1 E D0 nd k n):=by
 intro f args h r h' hx
 unfold Yc1 at hx
 obtain⟨p,_,hx⟩:=Jh hx
 split at hx
 ·split at hx
  ·obtain⟨h1,hx⟩:=We hx
   obtain⟨h2,hx⟩:=We hx
   cases hx
   exact Yxa (Quu h1) ((X5u E hD hL hm nd k n).fn _ _ _ _ h2)
  ·cases hx
 ·obtain⟨h1,hx⟩:=We hx
  obtain⟨h2,hx⟩:=We hx
  cases hx
  exact Ytr h1 ((X5u E hD hL hm nd k n).fn _ _ _ _ h2)
 ·cases hx
theorem Yig(E:Env2 P)(D0:CallF)(nd:FuncId->Bool)(k n:Nat):Qe6 (Yc1 E D0 nd k n):=by
 intro f args h r h' hx
 unfold Yc1 at hx
 obtain⟨p,_,hx⟩:=Jh hx
 split at hx
 ·split at hx
  ·obtain⟨h1,hx⟩:=We hx
   obtain⟨h2,hx⟩:=We hx
   cases hx
   exact LowOK.push _ _
  ·cases hx
 ·obtain⟨h1,hx⟩:=We hx
  obtain⟨h2,hx⟩:=We hx
  cases hx
  exact LowOK.refl _
 ·cases hx
def Yo6(mg:FuncId->Bool)(M X:Qmy):Qmy:=fun f args h=>bq (mg f) (M f args h) (X f args h)
theorem Yqm{G:Bs}{mg:FuncId->Bool}{M X:Qmy}(hM:Wu P G M)(hX:Wu P G X):Wu P G (Yo6 mg M X):=by
 intro f args h r h' hx
 unfold Yo6 at hx
 cases hf:mg f with
 | true=>rw[hf,bq_true]at hx;exact hM _ _ _ _ _ hx
 | false=>rw[hf,bq_false]at hx;exact hX _ _ _ _ _ hx
theorem Yn1{mg:FuncId->Bool}{M X:Qmy}(hM:Qe6 M)(hX:Qe6 X):Qe6 (Yo6 mg M X):=by
 intro f args h r h' hx
 unfold Yo6 at hx
 cases hf:mg f with
 | true=>rw[hf,bq_true]at hx;exact hM _ _ _ _ _ hx
 | false=>rw[hf,bq_false]at hx;exact hX _ _ _ _ _ hx
def mgX(P:Program)(n b:Nat)(X0:Qmy)(nd mg:FuncId->Bool)(k m:Nat):Qmy:=Yo6 mg (Yc1 (mkE P n b) (Qfr P (mkE P n b) X0 k m) nd k m) X0
theorem Ywd(hm:P.follows .mixedOrders=true){n b:Nat}{X0:Qmy}(hX:Wu P ⟨n,b⟩ X0)(hL:Qe6 X0)(nd mg:FuncId->Bool)(k m:Nat):Wu P ⟨n,b⟩ (mgX P n b X0 nd mg k m):=by
 unfold mgX
 rw[Xnx]
 exact Yqm (Yln (mkE P n b) (Xom (mkE P n b) hX hL hm k m) (Xp2 (mkE P n b) hL k m) hm nd k m) hX
theorem Yu5{n b:Nat}{X0:Qmy}(hL:Qe6 X0)(nd mg:FuncId->Bool)(k m:Nat):Qe6 (mgX P n b X0 nd mg k m):=Yn1 (Yig _ _ _ _ _) hL
end
structure Sub (s1 sF:St):Prop where
 size:s1.t.size=sF.t.size
 vals:∀ i v,s1.t.t.get i=some v->sF.t.t.get i=some v
 ds:s1.ds=sF.ds
 next:s1.h.next=sF.h.next
 blks:∀ b x,s1.h.get b=some x->sF.h.get b=some x
section
variable{P:Program}{G:Bs}{α α':Ren}{h h1 h2:Heap}{w w':World}{s s1 sF:St}{a:Act}
theorem HRel.sub(H:HRel G α h w)(hn:h1.next=h.next)(hb:∀ b x,h1.get b=some x->h.get b=some x):HRel G α h1 w:=by
 have hown:∀ b,h1.own b=true->h.own b=true:=fun b ho=>by
  obtain⟨x,hx,hxo⟩:=Qwy ho
  rw[Qpo (hb b x hx)];exact hxo
 have hlive:∀ b,h1.live b=true->h.live b=true:=fun b ho=>by
  unfold Heap.live at ho
  split at ho
  ·rename_i x hx
   rw[Xlx (hb b x hx)];exact ho
  ·cases ho
 refine⟨fun b p hp=>by rw[hn];exact H.dom b p hp,fun b p x hp hx=>H.fits b p x hp (hb b x hx),fun b c p q hp hq hne ho hl=>H.apart b c p q hp hq hne (hown b ho) (hlive c hl),fun g hg=>⟨(H.glob g hg).1,?_⟩,by rw[hn];exact H.globs,fun b x hx => ?_,fun b p x hp hx=>H.base b p x hp (hb b x hx),H.bsz⟩
 ·cases ho:h1.own g with
  | false=>rfl
  | true=>have:=hown g ho;rw[(H.glob g hg).2]at this;cases this
 ·rw[hn];exact H.wf b x (hb b x hx)
theorem Turn.sub(t:Turn α h1 w α' h2 w')(hn:h1.next=h.next)(hb:∀ b x,h1.get b=some x->h.get b=some x):Turn α h w α' h2 w':=by
 have hown:∀ b,h1.own b=true->h.own b=true:=fun b ho=>by
  obtain⟨x,hx,hxo⟩:=Qwy ho
  rw[Qpo (hb b x hx)];exact hxo
 refine⟨t.size,fun k hk hno=>t.same k hk (fun b p hp ho=>hno b p hp (hown b ho)),fun b p hp ho => ?_,t.tape,t.os,t.output,by rw[<- hn];exact t.next⟩
 rcases t.owns b p hp ho with h3 | ⟨c,q,h3,h4,h5⟩
 ·exact .inl h3
 ·exact .inr ⟨c,q,h3,hown c h4,h5⟩
theorem SRel.sub(S:SRel G α sF a w)(k:Sub s1 sF):SRel G α s1 a w :=
 ⟨S.h.sub k.next k.blks,⟨by rw[k.size];exact S.t.size,fun i v hv=>S.t.vals i v (k.vals i v hv)⟩,by rw[k.ds];exact S.ds,by rw[k.ds];exact S.okd⟩
theorem CW.sub{rd:Option Nat}{c:Code}{Q:Exit->St->Prop}(k:Sub s1 sF)(h:CW P G rd s1.h.next c s1 Q):CW P G rd sF.h.next c sF Q:=fun α a w S hl=>by
 refine wpIn_mono (h α a w (S.sub k) hl) ?_
 rintro e' a' w' ⟨α',e,s',h1,h2,h3,h4,h5,h6⟩
 exact⟨α',e,s',h1,h2,h3,by rw[<- k.next];exact h4,h5.sub k.next k.blks,h6⟩
end
structure Mile where
 size:Nat
 next:Nat
 temps:List (Nat × Value)
 blks:List (Nat × Blk)
def Yx1:List (Nat × Value)->Tr Value
 | [] => .leaf
 | (i,v)::l=>(Yx1 l).put i (some v)
def Yvu:List (Nat × Blk)->Tr Blk
 | [] => .leaf
 | (i,v)::l=>(Yvu l).put i (some v)
def Mile.st(M:Mile):St:=⟨⟨M.size,Yx1 M.temps⟩,[],⟨M.next,M.next,Yvu M.blks⟩⟩
def isT(r:AEnd)(_:Heap):Bool:=match r with
 | .ret (.bool true)=>true
 | _=>false
section
variable{P:Program}
end
end Go.Ab
