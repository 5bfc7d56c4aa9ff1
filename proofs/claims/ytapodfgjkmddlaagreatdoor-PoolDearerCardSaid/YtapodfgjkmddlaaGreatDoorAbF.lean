import Derived.Test.YtapodfgjkmddlaaGreatDoorAbE
import Derived.Handed
import Derived.ChangeShapes
import Derived.RowKitTokens
import Derived.Lay
import Derived.JoinedOf
set_option linter.all false
noncomputable section
namespace Go.Ab
abbrev Emb:=Nat->Option Nat
def Emb.ren(ρ:Emb)(α:Ren):Ren:=fun i=>match ρ i with | some b=>α b | none=>none
def eK{ρ:Emb}{α:Ren}{i:Nat}{p:Place}(h:ρ.ren α i=some p):∃ b,ρ i=some b/\α b=some p:=by
 unfold Emb.ren at h;split at h
 ·rename_i b hb;exact⟨b,hb,h⟩
 ·cases h
def eN{ρ:Emb}{α:Ren}{i b:Nat}(h:ρ i=some b):ρ.ren α i=α b:=by simp[Emb.ren,h]
def Jj2(x0 x:Blk):Prop:=∃ o0 o sz c,x0=.cells o0 sz c/\x=.cells o sz c/\(o0=true->o=true)/\(o0=false->o=true∨c ≠ [])/\∀ v ∈ c,flat v=true/\v.oneCell'=true
structure Fit (G:Bs) (ρ:Emb) (h0 h:Heap):Prop where
 lt:∀ i b,ρ i=some b->i < h0.next
 inj:∀ i j b,ρ i=some b->ρ j=some b->i=j
 like:∀ i b x0,ρ i=some b->h0.get i=some x0->∃ x,h.get b=some x/\Jj2 x0 x
 glob:∀ g,g < G.n->ρ g=some g/\h0.own g=false
 globs:G.n<=h0.next
 all:∀ i x0,h0.get i=some x0->∃ o sz c,x0=.cells o sz c/\∀ v ∈ c,flat v=true/\v.oneCell'=true
def Xjd(ρ:Emb)(args0 args:List Value):Prop :=
 ∀ α:Ren,(∀ v ∈ args,okV (dom α) v)->args.map (ren α)=args0.map (ren (ρ.ren α))/\∀ v ∈ args0,okV (dom (ρ.ren α)) v
section
variable{P:Program}{G:Bs}{α:Ren}{ρ:Emb}{h0 h:Heap}{w:World}
def eP{p:Place}{x0 x:Blk}{β:Ren}(hl:Jj2 x0 x)(hf:Fits α p w x):Fits β p w x0:=by
 obtain⟨o0,o,sz,c,rfl,rfl,h1,h2,h3⟩:=hl;obtain⟨hsz,hf⟩:=hf;refine⟨hsz,?_⟩;rcases hf with⟨rfl,rfl⟩ | ⟨C,e,lo,hi,k1,k2,k3⟩
 ·left;refine⟨?_,rfl⟩;cases o0 with
  | false=>rfl
  | true=>exact absurd (h1 rfl) (by simp)
 ·right;refine⟨C,e,lo,hi,k1,fun i v hv => ?_,fun ho=>k3 (h1 ho)⟩;have hfl:=h3 v (List.mem_of_getElem? hv);obtain⟨m1,m2,m3⟩:=k2 i v hv;rw[Qgu _ hfl.1]at m1;exact⟨by rw[m1,Qgu _ hfl.1],flat_ok _ v hfl.1,m3⟩
def Jfs{x0 x:Blk}(hl:Jj2 x0 x)(ho:x0.own=true):x.own=true:=by
 obtain⟨o0,o,sz,c,rfl,rfl,h1,h2,h3⟩:=hl;exact h1 ho
def Xe7{x0 x:Blk}(hl:Jj2 x0 x)(ho:x0.solid=true):x.solid=true:=by
 obtain⟨o0,o,sz,c,rfl,rfl,h1,h2,h3⟩:=hl;cases o with
 | true=>rfl
 | false =>
  cases c with
  | nil =>
   cases o0 with
   | true=>exact absurd (h1 rfl) (by simp)
   | false=>simp[Blk.solid]at ho
  | cons _ _=>rfl
def Fit.rel(F:Fit G ρ h0 h)(H:HRel G α h w){b':Nat}(hbase:∀ i b p x0,ρ i=some b->α b=some p->h0.get i=some x0->(x0.own=true->b'<=p.blk/\p.spot=none)/\(x0.own=false->x0.solid=true->p.blk < b'/\p.spot=none))(hb':b'<=w.heap.size) :
  HRel ⟨G.n,b'⟩ (ρ.ren α) h0 w:=by
 refine⟨fun i p hi => ?_,fun i p x0 hi hx => ?_,fun i j p q hi hj hne ho hl => ?_,fun g hg=>⟨?_,(F.glob g hg).2⟩,F.globs,fun i x0 hx => ?_,fun i p x0 hi hx => ?_,hb'⟩
 ·obtain⟨b,hb,hp⟩:=eK hi;exact⟨F.lt i b hb,(H.dom b p hp).2⟩
 ·obtain⟨b,hb,hp⟩:=eK hi;obtain⟨x,hx',hl⟩:=F.like i b x0 hb hx;exact eP hl (H.fits b p x hp hx')
 ·obtain⟨b,hb,hp⟩:=eK hi;obtain⟨c,hc,hq⟩:=eK hj;obtain⟨x0,hx0,hxo⟩:=Q6c ho;obtain⟨x,hx,hlx⟩:=F.like i b x0 hb hx0;have hbc:b≠c:=fun e=>hne (F.inj i j b hb (e ▸ hc));unfold Heap.live at hl;cases hy0:h0.get j with
  | none=>simp[hy0]at hl
  | some y0 =>
   simp only[hy0]at hl;obtain⟨y,hy,hly⟩:=F.like j c y0 hc hy0;exact H.apart b c p q hp hq hbc (by rw[Q05 hx];exact Jfs hlx hxo) (by rw[Ypd hy];exact Xe7 hly hl)
 ·rw[eN (F.glob g hg).1];exact(H.glob g hg).1
 ·obtain⟨o,sz,c,rfl,h1⟩:=F.all i x0 hx;exact fun v hv=>⟨flat_ok _ v (h1 v hv).1,(h1 v hv).2⟩
 ·obtain⟨b,hb,hp⟩:=eK hi;exact hbase i b p x0 hb hp hx
def Z9t{f:FuncId}{args0 args:List Value}{v0:Value}(F:Fit G ρ h0 h)(hro:∀ i,h0.own i=false)(ha:Xjd ρ args0 args)(hv:flat v0=true)
  (hcall:∀ b,∃ h0',CallOK P ⟨G.n,b⟩ f args0 h0 (fun r h1=>r=.ret v0/\h1=h0')):CallOK P G f args h (fun r h1=>r=.ret v0/\h1=h):=by
 intro α w H hok;obtain⟨h0',hcall⟩:=hcall w.heap.size;obtain⟨a1,a2⟩:=ha α hok;have H0:HRel ⟨G.n,w.heap.size⟩ (ρ.ren α) h0 w:=F.rel H (fun i b p x0 hi hp hx=>⟨fun ho=>(by have:=hro i;rw[Q05 hx,ho]at this;cases this),fun _ hs=>by obtain⟨x,hx',hl⟩:=F.like i b x0 hi hx;exact⟨H.blk_lt hp hx' (Xe7 hl hs),H.spot hp hx' (Xe7 hl hs)⟩⟩) (ab _);rw[a1];refine(hcall (ρ.ren α) w H0 a2).mono ?_;rintro e w' ⟨α',r,h2,⟨rfl,rfl⟩,rfl,_,_,t,_⟩;have hsame:∀ k,k < w.heap.size->w'.heap[k]? = w.heap[k]? := fun k hk=>t.same k hk (fun b p _ ho=>by rw[hro b]at ho;cases ho);refine⟨α,_,_,⟨rfl,rfl⟩,by simp[Qz1,Qgu _ hv],flat_ok _ v0 hv,Ext.refl _ _,⟨t.size,fun k hk _=>hsame k hk,fun b p hb ho => .inr ⟨b,p,hb,ho,rfl⟩,t.tape,t.os,t.output,t.drawn,ab _⟩,?_⟩;exact⟨fun b p hb=>H.dom b p hb,fun b p x hb hx=>(H.fits b p x hb hx).keepS (fun _ _=>rfl) fun hs=>hsame _ (H.blk_lt hb hx hs),H.apart,H.glob,H.globs,H.wf,H.base,ai H.bsz t.size⟩
def Jf3{f:FuncId}{args0 args:List Value}{sz:Nat}{c:List Value}(F:Fit G ρ h0 h)(hro:∀ i,h0.own i=false)(ha:Xjd ρ args0 args)(hc:∀ v ∈ c,flat v=true/\v.oneCell'=true)
  (hcall:∀ b,∃ j h0',h0.next<=j/\h0'.get j=some (.cells true sz c)/\CallOK P ⟨G.n,b⟩ f args0 h0 (fun r h1=>r=.ret (.pointer (some ⟨j,0,none⟩))/\h1=h0')) :
  CallOK P G f args h (fun r h1=>r=.ret (.pointer (some ⟨h.next,0,none⟩))/\h1=h.push (.cells true sz c)):=by
 intro α w H hok;obtain⟨j,h0',hj,hg,hcall⟩:=hcall w.heap.size;obtain⟨a1,a2⟩:=ha α hok;have H0:HRel ⟨G.n,w.heap.size⟩ (ρ.ren α) h0 w:=F.rel H (fun i b p x0 hi hp hx=>⟨fun ho=>(by have:=hro i;rw[Q05 hx,ho]at this;cases this),fun _ hs=>by obtain⟨x,hx',hl⟩:=F.like i b x0 hi hx;exact⟨H.blk_lt hp hx' (Xe7 hl hs),H.spot hp hx' (Xe7 hl hs)⟩⟩) (ab _);rw[a1];refine(hcall (ρ.ren α) w H0 a2).mono ?_;rintro e w' ⟨α',r,h2,⟨rfl,rfl⟩,rfl,hvok,_,t,H'⟩;have hsame:∀ k,k < w.heap.size->w'.heap[k]? = w.heap[k]? := fun k hk=>t.same k hk (fun b p _ ho=>by rw[hro b]at ho;cases ho);simp only[Xy1,okV]at hvok;obtain⟨p,hp⟩:=az.1 hvok.1;have hfit:=H'.fits j p _ hp hg;have hown:h2.own j=true:=by rw[Q05 hg];rfl
 have hpn:w.heap.size<=p.blk:=by
  rcases t.owns j p hp hown with h3 | ⟨c',q,_,ho,_⟩
  ·exact h3
  ·rw[hro c']at ho;cases ho
 have hb0:p.base=0:=by
  obtain⟨_,hf | ⟨C,e,lo,hi,_,_,k3⟩⟩:=hfit
  ·cases hf.1
  ·exact(k3 rfl).1
 have Hw:HRel G α h w':=⟨fun b q hb=>H.dom b q hb,fun b q x hb hx=>(H.fits b q x hb hx).keepS (fun _ _=>rfl) fun hs=>hsame _ (H.blk_lt hb hx hs),H.apart,H.glob,H.globs,H.wf,H.base,ai H.bsz t.size⟩;have hcase:∀ c q,Ren.add α h.next p c=some q->(c=h.next/\q=p)∨(c < h.next/\α c=some q):=by
  intro c q hc;unfold Ren.add at hc;split at hc
  ·cases hc;exact .inl ⟨by assumption,rfl⟩
  ·exact .inr ⟨(H.dom c q hc).1,hc⟩
 have hnd:ren α' (.pointer (some ⟨j,0,none⟩))=ren (Ren.add α h.next p) (.pointer (some ⟨h.next,0,none⟩)):=by
  simp[ren,Wc,hp,eF]
 refine⟨Ren.add α h.next p,_,_,⟨rfl,rfl⟩,by simp only[Qz1,hnd],?_,eH _ _ _,⟨t.size,fun k hk _=>hsame k hk,fun b q hb ho => ?_,t.tape,t.os,t.output,t.drawn,bH _⟩,?_⟩
 ·simp only[Xy1,okV,and_true];show(Ren.add _ _ _ _).isSome=true;rw[eF];rfl
 ·rcases hcase b q hb with⟨rfl,rfl⟩ | ⟨h1,h2⟩
  ·exact .inl hpn
  ·rw[Q2v,if_neg (by omega)]at ho;exact .inr ⟨b,q,h2,ho,rfl⟩
 ·refine⟨fun b q hb => ?_,fun b q x hb hx => ?_,fun b d q r hb hd hne ho hl => ?_,fun g hg' => ?_,cF H.globs,fun b x hx => ?_,fun b q x hb hx => ?_,Hw.bsz⟩
  ·rcases hcase b q hb with⟨rfl,rfl⟩ | ⟨h1,h2⟩
   ·exact⟨bD _,(H'.dom j q hp).2⟩
   ·exact⟨bE h1,(Hw.dom b q h2).2⟩
  ·rw[Heap.get_push]at hx;rcases hcase b q hb with⟨rfl,rfl⟩ | ⟨h1,h2⟩
   ·simp only[if_true]at hx;cases hx;exact eP ⟨true,true,sz,c,rfl,rfl,fun _=>rfl,(fun h=>by cases h),hc⟩ hfit
   ·rw[if_neg (by omega)]at hx;exact(Hw.fits b q x h2 hx).keep (H.add_dom p) rfl
  ·rw[Q2v]at ho;rw[Ykh]at hl;rcases hcase b q hb with⟨rfl,rfl⟩ | ⟨h1,h2⟩
   ·rcases hcase d r hd with⟨rfl,rfl⟩ | ⟨h3,h4⟩
    ·exact absurd rfl hne
    ·rw[if_neg (by omega)]at hl;have:=H.blk_live h4 hl;omega
   ·rcases hcase d r hd with⟨rfl,rfl⟩ | ⟨h3,h4⟩
    ·rw[if_neg (by omega)]at ho;have:=H.blk_own h2 ho;omega
    ·rw[if_neg (by omega)]at ho;rw[if_neg (by omega)]at hl;exact H.apart b d q r h2 h4 hne ho hl
  ·have:=H.globs;refine⟨by rw[eH α h.next p g (by omega)];exact(H.glob g hg').1,?_⟩;rw[Q2v,if_neg (by omega)];exact(H.glob g hg').2
  ·rw[Heap.get_push]at hx;split at hx
   ·cases hx;exact fun v hv=>⟨flat_ok _ v (hc v hv).1,(hc v hv).2⟩
   ·exact Xho (fun c hc=>bE hc) (H.wf b x hx)
  ·rw[Heap.get_push]at hx;rcases hcase b q hb with⟨rfl,rfl⟩ | ⟨h1,h2⟩
   ·simp only[if_true]at hx;cases hx;exact⟨fun _=>⟨ai H.bsz hpn,H'.spot hp hg rfl⟩,fun h0=>by cases h0⟩
   ·rw[if_neg (by omega)]at hx;exact H.base b q x h2 hx
def Zt7{f:FuncId}{args0 args:List Value}{v0:Value}{h0':Heap}{i0 b0 sz:Nat}{c:List Value}(F:Fit G ρ h0 h)(hsame:∀ i b x0 x,ρ i=some b->h0.get i=some x0->h.get b=some x->x0=x)(ha:Xjd ρ args0 args)(hv:flat v0=true)
  (hi:ρ i0=some b0) (ho:h0.own i0=true) (hg:h0'.get i0=some (.cells true sz c)) (hc:∀ v ∈ c,flat v=true/\v.oneCell'=true)
  (hrest:∀ i,i≠i0->h0.own i=true->h0'.get i=h0.get i)
  (hcall:CallOK P ⟨G.n,G.b⟩ f args0 h0 (fun r h1=>r=.ret v0/\h1=h0')):CallOK P G f args h (fun r h1=>r=.ret v0/\h1=h.set b0 (some (.cells true sz c))):=by
 intro α w H hok;obtain⟨a1,a2⟩:=ha α hok;have H0:HRel ⟨G.n,G.b⟩ (ρ.ren α) h0 w:=F.rel H (fun i b p x0 hib hp hx=>by
  obtain⟨x,hx',_⟩:=F.like i b x0 hib hx;have:=hsame i b x0 x hib hx hx';subst this;exact H.base b p x0 hp hx') H.bsz
 rw[a1];refine(hcall (ρ.ren α) w H0 a2).mono ?_;rintro e w' ⟨α',r,h2,⟨rfl,e2⟩,rfl,_,x1,t,H'⟩;subst e2;have hownb:∀ i p,ρ.ren α i=some p->h0.own i=true->∃ b,ρ i=some b/\α b=some p/\h.own b=true:=by
  intro i p hip hio;obtain⟨b,hb,hp⟩:=eK hip;obtain⟨x0,hx0,hxo⟩:=Q6c hio;obtain⟨x,hx,_⟩:=F.like i b x0 hb hx0;have:=hsame i b x0 x hb hx0 hx;subst this;exact⟨b,hb,hp,by rw[Q05 hx];exact hxo⟩
 have hstay:∀ k,k < w.heap.size->(∀ b p,α b=some p->h.own b=true->p.blk≠k)->w'.heap[k]? = w.heap[k]? := fun k hk hno =>
  t.same k hk (fun i p hip hio=>by obtain⟨b,_,hp,hbo⟩:=hownb i p hip hio;exact hno b p hp hbo)
 have hob:h.own b0=true:=by
  obtain⟨x0,hx0,hxo⟩:=Q6c ho;obtain⟨x,hx,_⟩:=F.like i0 b0 x0 hi hx0;have:=hsame i0 b0 x0 x hi hx0 hx;subst this;rw[Q05 hx];exact hxo
 have hlt:b0 < h.next:=by obtain⟨x,hx,_⟩:=Q6c hob;exact Heap.get_lt hx
 have hfit0:∀ p,α b0=some p->Fits α p w' (.cells true sz c):=by
  intro p hp;have hα:α' i0=some p:=by rw[x1 i0 (F.lt i0 b0 hi),eN hi,hp]
  exact eP ⟨true,true,sz,c,rfl,rfl,fun _=>rfl,(fun h=>by cases h),hc⟩ (H'.fits i0 p _ hα hg)
 refine⟨α,_,_,⟨rfl,rfl⟩,by simp[Qz1,Qgu _ hv],flat_ok _ v0 hv,Ext.refl _ _,⟨t.size,fun k hk hno=>hstay k hk hno,fun b p hb hbo => .inr ⟨b,p,hb,?_,rfl⟩,t.tape,t.os,t.output,t.drawn,ab _⟩,?_⟩
 ·rw[Q34 hlt]at hbo;split at hbo
  ·rename_i e;exact e ▸ hob
  ·exact hbo
 ·refine⟨fun b p hb=>H.dom b p hb,fun b p x hb hx => ?_,fun b d q r hb hd hne hbo hl => ?_,fun g hg'=>⟨(H.glob g hg').1,?_⟩,H.globs,fun b x hx => ?_,fun b p x hb hx => ?_,ai H.bsz t.size⟩
  ·rw[gY hlt]at hx;split at hx
   ·rename_i e;subst e;cases hx;exact hfit0 p hb
   ·rename_i hne;cases hs:x.solid with
    | false =>
     cases x with
     | cells o z l=>cases o <;> cases l <;> simp[Blk.solid]at hs;exact⟨(H.fits b p _ hb hx).1,.inl ⟨rfl,rfl⟩⟩
     | map _ _=>simp[Blk.solid]at hs
     | obj _=>simp[Blk.solid]at hs
    | true =>
     by_cases him:∃ i,ρ i=some b/\h0.own i=true
     ·obtain⟨i,hib,hio⟩:=him;obtain⟨x0,hx0,hxo⟩:=Q6c hio;obtain⟨x',hx',hl⟩:=F.like i b x0 hib hx0;have:=hsame i b x0 x' hib hx0 hx';subst this;rw[hx]at hx';cases hx';have hii:i≠i0:=fun e=>hne (by subst e;rw[hi]at hib;cases hib;rfl);have hα:α' i=some p:=(by rw[x1 i (F.lt i b hib),eN hib,hb]);have:=H'.fits i p x hα (by rw[hrest i hii hio];exact hx0);exact eP hl this
     ·refine(H.fits b p x hb hx).keep (fun _ _=>rfl) (t.same _ (H.blk_lt hb hx hs) fun i q hiq hio => ?_);obtain⟨d,hd,hq,hdo⟩:=hownb i q hiq hio;have hdb:d≠b:=fun e=>him ⟨i,e ▸ hd,hio⟩;exact H.apart d b q p hq hb hdb hdo (by rw[Ypd hx];exact hs)
  ·have h1:h.own b=true:=by
    rw[Q34 hlt]at hbo;split at hbo
    ·rename_i e;exact e ▸ hob
    ·exact hbo
   have h2:h.live d=true:=by
    rw[Yxx hlt]at hl;split at hl
    ·rename_i e;exact e ▸ Yxu hob
    ·exact hl
   exact H.apart b d q r hb hd hne h1 h2
  ·rw[Q34 hlt];split
   ·rename_i e;subst e;rw[(H.glob b0 hg').2]at hob;cases hob
   ·exact(H.glob g hg').2
  ·rw[gY hlt]at hx;split at hx
   ·cases hx;exact fun v hv=>⟨flat_ok _ v (hc v hv).1,(hc v hv).2⟩
   ·exact H.wf b x hx
  ·rw[gY hlt]at hx;split at hx
   ·rename_i e;subst e;cases hx;obtain⟨x0,hx0,hxo⟩:=Q6c hob;exact⟨fun _=>(H.base b0 p x0 hb hx0).1 hxo,fun h0=>by cases h0⟩
   ·exact H.base b p x hb hx
def emb(n:Nat)(bs:List Nat):Emb:=fun i=>if i < n then some i else bs[i-n]?
def Zqi(own:Bool):List (Nat × List Value)->Heap->Heap
 | [],h=>h
 | x::l,h=>Zqi own l (h.push (.cells own x.1 x.2))
def Qlz(n:Nat)(laid:List (Nat × List Value))(own:Bool)(rows:List (Nat × List Value)):Heap:=Zqi own rows (Q31 n laid)
def Ymm(own:Bool):∀ (rows:List (Nat × List Value)) (h:Heap),(Zqi own rows h).next=h.next+rows.length
 | [],h=>rfl
 | x::l,h=>by rw[Zqi,Ymm own l];simp[Heap.push];omega
def X1e(own:Bool):∀ (rows:List (Nat × List Value)) (h:Heap) (i:Nat),(Zqi own rows h).get i=if i < h.next then h.get i else(rows[i-h.next]?).map fun x => .cells own x.1 x.2
 | [],h,i=>by
  simp only[Zqi];split
  ·rfl
  ·rw[Heap.get_none (by omega)];simp
 | x::l,h,i=>by
  rw[Zqi,X1e own l];have hn:(h.push (.cells own x.1 x.2)).next=h.next+1:=rfl;rw[hn,Heap.get_push];by_cases h1:i < h.next
  ·rw[if_pos (by omega),if_neg (by omega),if_pos h1]
  ·rw[if_neg h1];by_cases h2:i=h.next
   ·subst h2;simp
   ·rw[if_neg (by omega)];have : i-h.next=(i-(h.next+1))+1:=by omega
    rw[this];simp
def Q20{n:Nat}{laid:List (Nat × List Value)}{own:Bool}{rows:List (Nat × List Value)}{i:Nat}{x:Blk}(h:(Qlz n laid own rows).get i=some x) :
  (i < n/\∃ c,(i,c) ∈ laid/\x=.cells false 0 c)∨(n<=i/\∃ r,rows[i-n]? = some r/\x=.cells own r.1 r.2):=by
 unfold Qlz at h;rw[X1e]at h;have hn:(Q31 n laid).next=n:=rfl;rw[hn]at h;split at h
 ·rename_i hi;left;refine⟨hi,?_⟩;unfold Heap.get at h;split at h
  ·exact X2l laid i x h
  ·cases h
 ·right;refine⟨by omega,?_⟩;cases hr:rows[i-n]? with
  | none=>rw[hr]at h;cases h
  | some r=>rw[hr]at h;cases h;exact⟨r,rfl,rfl⟩
def Yir{n:Nat}{laid:List (Nat × List Value)}{own:Bool}{bs:List Nat}{rows:List (Nat × List Value)}(H:HRel G α h w)(hn:G.n=n)
  (hlaid:∀ x ∈ laid,x.2 ≠ []/\h.get x.1=some (.cells false 0 x.2)/\∀ v ∈ x.2,flat v=true/\v.oneCell'=true) (hlen:bs.length=rows.length)
  (hrows:∀ (k b:Nat) (r:Nat × List Value),bs[k]? = some b->rows[k]? = some r->h.get b=some (.cells true r.1 r.2)/\∀ v ∈ r.2,flat v=true/\v.oneCell'=true) (hnd:bs.Nodup) :
  Fit G (emb n bs) (Qlz n laid own rows) h:=by
 subst hn;have hnext:(Qlz G.n laid own rows).next=G.n+rows.length:=Ymm own rows _;have hcase:∀ i b,emb G.n bs i=some b->(i < G.n/\b=i)∨(G.n<=i/\bs[i-G.n]? = some b):=by
  intro i b hi;unfold emb at hi;split at hi
  ·cases hi;exact .inl ⟨by assumption,rfl⟩
  ·exact .inr ⟨by omega,hi⟩
 have hbig:∀ (k b:Nat),bs[k]? = some b->G.n<=b:=by
  intro k b hb;have hk:k < rows.length:=by rw[<- hlen];exact(List.getElem?_eq_some_iff.1 hb).1
  obtain⟨r,hr⟩:∃ r,rows[k]? = some r:=⟨rows[k],List.getElem?_eq_getElem hk⟩;have h1:=(hrows k b r hb hr).1;rcases aU b G.n with h2 | h2
  ·have:=(H.glob b h2).2;rw[Q05 h1]at this;cases this
  ·exact h2
 refine⟨fun i b hi => ?_,fun i j b hi hj => ?_,fun i b x0 hi hx => ?_,fun g hg=>⟨by simp[emb,hg],?_⟩,by rw[hnext];omega,fun i x0 hx => ?_⟩
 ·rcases hcase i b hi with⟨h1,_⟩ | ⟨h1,h2⟩
  ·rw[hnext];omega
  ·have:=(List.getElem?_eq_some_iff.1 h2).1;rw[hnext,<- hlen];omega
 ·rcases hcase i b hi with⟨h1,rfl⟩ | ⟨h1,h2⟩ <;> rcases hcase j b hj with⟨h3,h4⟩ | ⟨h3,h4⟩
  ·exact h4
  ·have:=hbig _ _ h4;omega
  ·subst h4;have:=hbig _ _ h2;omega
  ·obtain⟨l1,e1⟩:=List.getElem?_eq_some_iff.1 h2;obtain⟨l2,e2⟩:=List.getElem?_eq_some_iff.1 h4;have hp:=List.pairwise_iff_getElem.1 hnd;rcases dH (i-G.n) (j-G.n)with h5 | h5 | h5
   ·exact absurd (e1.trans e2.symm) (hp _ _ l1 l2 h5)
   ·omega
   ·exact absurd (e2.trans e1.symm) (hp _ _ l2 l1 h5)
 ·rcases Q20 hx with⟨h1,c,hc,rfl⟩ | ⟨h1,r,hr,rfl⟩
  ·rcases hcase i b hi with⟨_,rfl⟩ | ⟨h3,_⟩
   ·obtain⟨k1,k2,k3⟩:=hlaid _ hc;exact⟨_,k2,false,false,0,c,rfl,rfl,id,fun _ => .inr k1,k3⟩
   ·omega
  ·rcases hcase i b hi with⟨h3,_⟩ | ⟨_,h4⟩
   ·omega
   ·obtain⟨k1,k2⟩:=hrows _ b r h4 hr;exact⟨_,k1,own,true,r.1,r.2,rfl,rfl,fun _=>rfl,fun _ => .inl rfl,k2⟩
 ·unfold Heap.own;cases hx:(Qlz G.n laid own rows).get g with
  | none=>rfl
  | some x =>
   rcases Q20 hx with⟨_,c,_,rfl⟩ | ⟨h1,_⟩
   ·rfl
   ·omega
 ·rcases Q20 hx with⟨h1,c,hc,rfl⟩ | ⟨h1,r,hr,rfl⟩
  ·exact⟨false,0,c,rfl,(hlaid _ hc).2.2⟩
  ·have hk:i-G.n < bs.length:=by rw[hlen];exact(List.getElem?_eq_some_iff.1 hr).1
   exact⟨own,r.1,r.2,rfl,(hrows _ bs[i-G.n] r (List.getElem?_eq_getElem hk) hr).2⟩
def Y1g(ρ:Emb)(x0 x:Value):Prop:=∀ α:Ren,okV (dom α) x->ren α x=ren (ρ.ren α) x0/\okV (dom (ρ.ren α)) x0
def Q6d:Xjd ρ [] []:=fun _ _=>⟨rfl,fun _ h=>by cases h⟩
def Qcr{x0 x:Value}{l0 l:List Value}(h:Y1g ρ x0 x)(k:Xjd ρ l0 l):Xjd ρ (x0::l0) (x::l):=fun α hok=>by
 obtain⟨a1,a2⟩:=h α (hok x (by simp));obtain⟨b1,b2⟩:=k α (fun v hv=>hok v (by simp[hv]));exact⟨by simp[a1,b1],fun v hv=>by rcases ap.1 hv with rfl | hv;exact a2;exact b2 v hv⟩
def Qm4{x:Value}(h:flat x=true):Y1g ρ x x:=fun α _=>⟨by rw[Qgu _ h,Qgu _ h],flat_ok _ x h⟩
def Ymi{i b off:Nat}(h:ρ i=some b):Y1g ρ (.pointer (some ⟨i,off,none⟩)) (.pointer (some ⟨b,off,none⟩)):=fun α hok=>by
 simp only[okV]at hok ⊢;obtain⟨p,hp⟩:=az.1 hok.1;have e:ρ.ren α i=some p:=by rw[eN h,hp]
 refine⟨by simp[ren,Wc,hp,e],?_,trivial⟩;show(ρ.ren α i).isSome=true;rw[e];rfl
def Zv1{i b off n c:Nat}(h:ρ i=some b):Y1g ρ (.slice (some ⟨i,off,none⟩) n c) (.slice (some ⟨b,off,none⟩) n c):=fun α hok=>by
 simp only[okV]at hok ⊢;obtain⟨p,hp⟩:=az.1 hok.1;have e:ρ.ren α i=some p:=by rw[eN h,hp]
 refine⟨by simp[ren,Wc,Xfs,hp,e],?_,trivial⟩;show(ρ.ren α i).isSome=true;rw[e];rfl
end
end Go.Ab
namespace Go.Ab.Bl
def w32(x:Nat):Nat:=Nat.mod x 4294967296
def rot(x n:Nat):Nat:=w32 (Nat.lor (w32 (w32 (Nat.mul x (Nat.pow 2 (Nat.sub 32 n))))) (w32 (Nat.div x (Nat.pow 2 n))))
def xr(a b:Nat):Nat:=w32 (Nat.xor (w32 a) (w32 b))
def orr(a b:Nat):Nat:=w32 (Nat.lor (w32 a) (w32 b))
def half{A:Type}(a b c d x n m:Nat)(K:Nat->Nat->Nat->Nat->A):A :=
 (fun a'=>(fun d'=>(fun c'=>K a' (rot (xr b c') m) c' d') (w32 (Nat.add c d'))) (rot (xr d a') n)) (w32 (Nat.add a (w32 (Nat.add b x))))
def stir{A:Type}(a b c d x y:Nat)(K:Nat->Nat->Nat->Nat->A):A :=
 half a b c d x 16 12 fun a b c d=>half a b c d y 8 7 K
def round{A:Type}(p0 p1 p2 p3 p4 p5 p6 p7 p8 p9 pA pB pC pD pE pF m0 m1 m2 m3 m4 m5 m6 m7 m8 m9 mA mB mC mD mE mF:Nat)
  (K:Nat->Nat->Nat->Nat->Nat->Nat->Nat->Nat->Nat->Nat->Nat->Nat->Nat->Nat->Nat->Nat->A):A :=
 stir p0 p4 p8 pC m0 m1 fun p0 p4 p8 pC=>stir p1 p5 p9 pD m2 m3 fun p1 p5 p9 pD =>
 stir p2 p6 pA pE m4 m5 fun p2 p6 pA pE=>stir p3 p7 pB pF m6 m7 fun p3 p7 pB pF =>
 stir p0 p5 pA pF m8 m9 fun p0 p5 pA pF=>stir p1 p6 pB pC mA mB fun p1 p6 pB pC =>
 stir p2 p7 p8 pD mC mD fun p2 p7 p8 pD=>stir p3 p4 p9 pE mE mF fun p3 p4 p9 pE =>
 K p0 p1 p2 p3 p4 p5 p6 p7 p8 p9 pA pB pC pD pE pF
def rounds{A:Type}(p0 p1 p2 p3 p4 p5 p6 p7 p8 p9 pA pB pC pD pE pF m0 m1 m2 m3 m4 m5 m6 m7 m8 m9 mA mB mC mD mE mF:Nat)
  (K:Nat->Nat->Nat->Nat->Nat->Nat->Nat->Nat->Nat->Nat->Nat->Nat->Nat->Nat->Nat->Nat->A):A :=
 round p0 p1 p2 p3 p4 p5 p6 p7 p8 p9 pA pB pC pD pE pF m0 m1 m2 m3 m4 m5 m6 m7 m8 m9 mA mB mC mD mE mF fun p0 p1 p2 p3 p4 p5 p6 p7 p8 p9 pA pB pC pD pE pF =>
 round p0 p1 p2 p3 p4 p5 p6 p7 p8 p9 pA pB pC pD pE pF mE mA m4 m8 m9 mF mD m6 m1 mC m0 m2 mB m7 m5 m3 fun p0 p1 p2 p3 p4 p5 p6 p7 p8 p9 pA pB pC pD pE pF =>
 round p0 p1 p2 p3 p4 p5 p6 p7 p8 p9 pA pB pC pD pE pF mB m8 mC m0 m5 m2 mF mD mA mE m3 m6 m7 m1 m9 m4 fun p0 p1 p2 p3 p4 p5 p6 p7 p8 p9 pA pB pC pD pE pF =>
 round p0 p1 p2 p3 p4 p5 p6 p7 p8 p9 pA pB pC pD pE pF m7 m9 m3 m1 mD mC mB mE m2 m6 m5 mA m4 m0 mF m8 fun p0 p1 p2 p3 p4 p5 p6 p7 p8 p9 pA pB pC pD pE pF =>
 round p0 p1 p2 p3 p4 p5 p6 p7 p8 p9 pA pB pC pD pE pF m9 m0 m5 m7 m2 m4 mA mF mE m1 mB mC m6 m8 m3 mD fun p0 p1 p2 p3 p4 p5 p6 p7 p8 p9 pA pB pC pD pE pF =>
 round p0 p1 p2 p3 p4 p5 p6 p7 p8 p9 pA pB pC pD pE pF m2 mC m6 mA m0 mB m8 m3 m4 mD m7 m5 mF mE m1 m9 fun p0 p1 p2 p3 p4 p5 p6 p7 p8 p9 pA pB pC pD pE pF =>
 round p0 p1 p2 p3 p4 p5 p6 p7 p8 p9 pA pB pC pD pE pF mC m5 m1 mF mE mD m4 mA m0 m7 m6 m3 m9 m2 m8 mB fun p0 p1 p2 p3 p4 p5 p6 p7 p8 p9 pA pB pC pD pE pF =>
 round p0 p1 p2 p3 p4 p5 p6 p7 p8 p9 pA pB pC pD pE pF mD mB m7 mE mC m1 m3 m9 m5 m0 mF m4 m8 m6 m2 mA fun p0 p1 p2 p3 p4 p5 p6 p7 p8 p9 pA pB pC pD pE pF =>
 round p0 p1 p2 p3 p4 p5 p6 p7 p8 p9 pA pB pC pD pE pF m6 mF mE m9 mB m3 m0 m8 mC m2 mD m7 m1 m4 mA m5 fun p0 p1 p2 p3 p4 p5 p6 p7 p8 p9 pA pB pC pD pE pF =>
 round p0 p1 p2 p3 p4 p5 p6 p7 p8 p9 pA pB pC pD pE pF mA m2 m8 m4 m7 m6 m1 m5 mF mB m9 mE m3 mC mD m0 fun p0 p1 p2 p3 p4 p5 p6 p7 p8 p9 pA pB pC pD pE pF =>
 K p0 p1 p2 p3 p4 p5 p6 p7 p8 p9 pA pB pC pD pE pF
structure P8 where
 (h0 h1 h2 h3 h4 h5 h6 h7:Nat)
def begins:P8:=⟨1779033703,3144134277,1013904242,2773480762,1359893119,2600822924,528734635,1541459225⟩
def le4(a b c d:Nat):Nat:=orr (orr (orr (w32 a) (w32 (Nat.mul (w32 b) 256))) (w32 (Nat.mul (w32 c) 65536))) (w32 (Nat.mul (w32 d) 16777216))
def nx{A:Type}(l:List Nat)(K:Nat->List Nat->A):A:=match l with
 | a::b::c::d::l=>K (le4 a b c d) l
 | [a,b,c]=>K (le4 a b c 0) []
 | [a,b]=>K (le4 a b 0 0) []
 | [a]=>K (le4 a 0 0 0) []
 | []=>K (le4 0 0 0 0) []
def words{A:Type}(l:List Nat)(K:Nat->Nat->Nat->Nat->Nat->Nat->Nat->Nat->Nat->Nat->Nat->Nat->Nat->Nat->Nat->Nat->A):A :=
 nx l fun m0 l=>nx l fun m1 l=>nx l fun m2 l=>nx l fun m3 l=>nx l fun m4 l=>nx l fun m5 l=>nx l fun m6 l=>nx l fun m7 l =>
 nx l fun m8 l=>nx l fun m9 l=>nx l fun mA l=>nx l fun mB l=>nx l fun mC l=>nx l fun mD l=>nx l fun mE l=>nx l fun mF _ =>
 K m0 m1 m2 m3 m4 m5 m6 m7 m8 m9 mA mB mC mD mE mF
def take(h:P8)(l:List Nat)(count:Nat)(last:Bool):P8 :=
 match h with
 | ⟨h0,h1,h2,h3,h4,h5,h6,h7⟩ =>
  words l fun m0 m1 m2 m3 m4 m5 m6 m7 m8 m9 mA mB mC mD mE mF =>
  rounds h0 h1 h2 h3 h4 h5 h6 h7 1779033703 3144134277 1013904242 2773480762 (xr 1359893119 (w32 count)) (xr 2600822924 (w32 (Nat.div count 4294967296))) (match last with | true=>xr 4294967295 528734635 | false=>528734635) 1541459225
   m0 m1 m2 m3 m4 m5 m6 m7 m8 m9 mA mB mC mD mE mF fun p0 p1 p2 p3 p4 p5 p6 p7 p8 p9 pA pB pC pD pE pF =>
   ⟨xr h0 (xr p0 p8),xr h1 (xr p1 p9),xr h2 (xr p2 pA),xr h3 (xr p3 pB),xr h4 (xr p4 pC),xr h5 (xr p5 pD),xr h6 (xr p6 pE),xr h7 (xr p7 pF)⟩
def by4(x:Nat):List Nat:=[Nat.mod x 256,Nat.mod (Nat.div x 256) 256,Nat.mod (Nat.div x 65536) 256,Nat.mod (Nat.div x 16777216) 256]
def out:P8->List Nat
 | ⟨h0,h1,h2,h3,h4,h5,h6,h7⟩=>by4 h0++by4 h1++by4 h2++by4 h3++by4 h4++by4 h5++by4 h6++by4 h7
def blocks:Nat->P8->List Nat->Nat->P8
 | 0,h,_,_=>h
 | n+1,h,text,count =>
  match Nat.ble text.length 64 with
  | true=>take h text (Nat.add count text.length) true
  | false=>blocks n (take h (text.take 64) (Nat.add count 64) false) (text.drop 64) (Nat.add count 64)
def start(k:Nat):P8:={begins with h0:=Nat.xor 1779033703 (Nat.xor 16842784 (Nat.shiftLeft k 8))}
def zeros:Nat->List Nat
 | 0=>[]
 | n+1=>0::zeros n
def textOf(key b:List Nat):List Nat:=match key with
 | []=>b
 | _=>key++(zeros (Nat.sub 64 key.length)++b)
def keyed1(key b:List Nat):List Nat:=out (blocks (textOf key b).length.succ (start key.length) (textOf key b) 0)
def keyed(key b:List Nat):List Nat:=match Nat.ble key.length 32 with
 | true=>keyed1 key b
 | false=>keyed1 (keyed1 [] key) b
end Go.Ab.Bl
noncomputable section
namespace Go.Ab
def Js9(a b:Int):Int:=IntKind.wrap .u32 (a+b)
def Xzi(a b:Int):Int:=IntKind.wrap .u32 ((BitVec.ofInt 32 a ^^^ BitVec.ofInt 32 b).toNat:Nat)
def Jth(x:Int)(s:Nat):Int:=IntKind.wrap .u32 ((BitVec.ofInt 32 (IntKind.wrap .u32 (x*2 ^ s)) ||| BitVec.ofInt 32 (x.fdiv (2 ^ (32-s)))).toNat:Nat)
def orI(a b:Int):Int:=IntKind.wrap .u32 ((BitVec.ofInt 32 a ||| BitVec.ofInt 32 b).toNat:Nat)
def Zk8(n:Nat):Int:=IntKind.wrap .u32 (.ofNat n)
def Jse(a:Int)(s:Nat):Int:=IntKind.wrap .u32 (a*2 ^ s)
def X2k(a b c d:Nat):Int:=orI (orI (orI (Zk8 a) (Jse (Zk8 b) 8)) (Jse (Zk8 c) 16)) (Jse (Zk8 d) 24)
def Jia{A:Type}(a b c d x:Int)(s t:Nat)(K:Int->Int->Int->Int->A):A :=
 (fun a'=>(fun d'=>(fun c'=>K a' (Jth (Xzi b c') t) c' d') (Js9 c d')) (Jth (Xzi d a') s)) (Js9 a (Js9 b x))
def Qqa(n:Nat):IntKind.wrap .u32 (n:Int)=((Bl.w32 n:Nat):Int):=by
 show(n:Int) % (2 ^ 32:Int)=((n % 4294967296:Nat):Int);omega
def Ji8(a b:Nat):Js9 (.ofNat a) (.ofNat b)=.ofNat (Bl.w32 (Nat.add a b)):=by
 show IntKind.wrap .u32 ((a:Int)+(b:Int))=_;rw[<- Int.natCast_add,Qqa];rfl
def Xmy(n:Nat):(BitVec.ofInt 32 (n:Int)).toNat=Bl.w32 n:=by
 rw[BitVec.toNat_ofInt];show((n:Int) % ((2 ^ 32:Nat):Int)).toNat=n % 4294967296;omega
def Xiw(a b:Nat):Xzi (.ofNat a) (.ofNat b)=.ofNat (Bl.xr a b):=by
 show IntKind.wrap .u32 (((BitVec.ofInt 32 (a:Int) ^^^ BitVec.ofInt 32 (b:Int)).toNat:Nat):Int)=_;rw[Qqa,BitVec.toNat_xor,Xmy,Xmy];rfl
def Z5z(x s:Nat)(hs:s<=32):Jth (.ofNat x) s=.ofNat (Bl.rot x (32-s)):=by
 show IntKind.wrap .u32 (((BitVec.ofInt 32 (IntKind.wrap .u32 ((x:Int)*2 ^ s)) ||| BitVec.ofInt 32 ((x:Int).fdiv (2 ^ (32-s)))).toNat:Nat):Int)=_;have e1:(x:Int)*2 ^ s=((x*2 ^ s:Nat):Int):=by simp
 have e2:(x:Int).fdiv (2 ^ (32-s))=((x / 2 ^ (32-s):Nat):Int):=by
  rw[cx _ (Int.pow_nonneg (by decide))];simp
 rw[e1,e2,Qqa,Qqa,BitVec.toNat_or,Xmy,Xmy];have : Nat.sub 32 (32-s)=s:=by show 32-(32-s)=s;omega
 unfold Bl.rot;rw[this];rfl
def Jlh(a b:Nat):orI (.ofNat a) (.ofNat b)=.ofNat (Bl.orr a b):=by
 show IntKind.wrap .u32 (((BitVec.ofInt 32 (a:Int) ||| BitVec.ofInt 32 (b:Int)).toNat:Nat):Int)=_;rw[Qqa,BitVec.toNat_or,Xmy,Xmy];rfl
def Y5y(n:Nat):Zk8 n=.ofNat (Bl.w32 n):=Qqa n
def Jhx(a s:Nat):Jse (.ofNat a) s=.ofNat (Bl.w32 (Nat.mul a (2 ^ s))):=by
 show IntKind.wrap .u32 ((a:Int)*2 ^ s)=_;have e1:(a:Int)*2 ^ s=((a*2 ^ s:Nat):Int):=by simp
 rw[e1,Qqa];rfl
def Z6i(a b c d:Nat):X2k a b c d=.ofNat (Bl.le4 a b c d):=by
 simp only[X2k,Y5y,Jhx,Jlh,Bl.le4]
 try rfl
def Zuq{A:Type}(a b c d x:Nat)(s t:Nat)(hs:s<=32)(ht:t<=32)(K:Int->Int->Int->Int->A) :
  Jia (.ofNat a) (.ofNat b) (.ofNat c) (.ofNat d) (.ofNat x) s t K=Bl.half a b c d x (32-s) (32-t) (fun a b c d=>K (.ofNat a) (.ofNat b) (.ofNat c) (.ofNat d)):=by
 simp only[Jia,Bl.half,Ji8,Xiw,Z5z _ _ hs,Z5z _ _ ht]
def Z6t(a:Nat):Int.fdiv (.ofNat a) (2 ^ 32)=((Nat.div a 4294967296:Nat):Int):=by
 show Int.fdiv (a:Int) (2 ^ 32)=_;rw[cx _ (by decide)]
 first | rfl | (show(a:Int) / (2 ^ 32)=((a / 4294967296:Nat):Int);omega)
def Z5g(b:Nat):Option (AEnd × Heap)->Option (Value × List Value)
 | some (.ret v,h)=>match h.get b with
  | some (.cells true 1 c)=>some (v,c)
  | _=>none
 | _=>none
def Jdm{b:Nat}{r:Option (AEnd × Heap)}{v:Value}{c:List Value}(h:Z5g b r=some (v,c)):∃ h',r=some (.ret v,h')/\h'.get b=some (.cells true 1 c):=by
 unfold Z5g at h;split at h
 ·split at h
  ·rename_i hg;cases h;exact⟨_,rfl,hg⟩
  ·cases h
 ·cases h
def Jig:Option (AEnd × Heap)->Option Value
 | some (.ret v,_)=>some v
 | _=>none
def Jky{r:Option (AEnd × Heap)}{v:Value}(h:Jig r=some v):∃ h',r=some (.ret v,h'):=by
 unfold Jig at h;split at h
 ·cases h;exact⟨_,rfl⟩
 ·cases h
def Qg0(n:Nat):Value:=.int .u32 (.ofNat n)
def Xnm(c:List Value):Prop:=∀ v ∈ c,flat v=true/\v.oneCell'=true
def Jfy:List Value->Bool
 | []=>true
 | v::l=>flat v && v.oneCell' && Jfy l
def Q3r:∀ {l:List Value},Jfy l=true->Xnm l
 | [],_=>fun v hv=>by cases hv
 | v::l,h=>fun x hx=>by
  simp only[Jfy,ao]at h;rcases ap.1 hx with rfl | hx
  ·exact h.1
  ·exact Q3r h.2 x hx
def Zp7(b d:Nat):Option (AEnd × Heap)->Option (Value × List Value × List Value)
 | some (.ret v,h)=>match h.get b,h.get d with
  | some (.cells true 1 c),some (.cells true 1 e)=>some (v,c,e)
  | _,_=>none
 | _=>none
def Z7i{b d:Nat}{r:Option (AEnd × Heap)}{v:Value}{c e:List Value}(h:Zp7 b d r=some (v,c,e)) :
  ∃ h',r=some (.ret v,h')/\h'.get b=some (.cells true 1 c)/\h'.get d=some (.cells true 1 e):=by
 unfold Zp7 at h;split at h
 ·split at h
  ·rename_i h1 h2;cases h;exact⟨_,rfl,h1,h2⟩
  ·cases h
 ·cases h
def Z5j(n:Nat):Option (AEnd × Heap)->Option (List Value)
 | some (.ret (.pointer (some ⟨j,0,none⟩)),h)=>match h.get j with
  | some (.cells true 1 c)=>match Nat.ble n j with
   | true=>some c
   | false=>none
  | _=>none
 | _=>none
def Jcy{n:Nat}{r:Option (AEnd × Heap)}{c:List Value}(h:Z5j n r=some c) :
  ∃ j h',r=some (.ret (.pointer (some ⟨j,0,none⟩)),h')/\h'.get j=some (.cells true 1 c)/\n<=j:=by
 unfold Z5j at h;split at h
 ·split at h
  ·rename_i hg;split at h
   ·rename_i h2;cases h;exact⟨_,_,rfl,hg,cK h2⟩
   ·cases h
  ·cases h
 ·cases h
section
variable{P:Program}{X:Xhm}{n k m:Nat}{f:FuncId}{args0 args:List Value}{v0:Value}{h:Heap}
def Zhq(hm:P.follows .mixedOrders=true)(hX:∀ b,Qst P ⟨n,b⟩ X)(hL:Q0y X){h0 h0':Heap}{r:AEnd}{b:Nat}(hr:(Qrw P (mkE P n b) X k m).fn f args0 h0=some (r,h0')) :
  CallOK P ⟨n,b⟩ f args0 h0 (fun r1 h1=>r1=r/\h1=h0'):=by
 rw[Zvi]at hr;exact(Zlj (mkE P n b) (hX b) hL hm k m).fn _ _ _ _ _ hr
def Zi2(n:Nat)(l:List (Nat × List Value))(b:Nat):(Q31 n l).own b=false:=by
 unfold Heap.own;cases hb:(Q31 n l).get b with
 | none=>rfl
 | some x =>
  unfold Heap.get at hb;split at hb
  ·obtain⟨c,_,rfl⟩:=X2l l b x hb;rfl
  ·cases hb
def Jeh(hm:P.follows .mixedOrders=true)(hX:∀ b,Qst P ⟨n,b⟩ X)(hL:Q0y X){c c':List Value}{blk:Nat}
  (hrun:∀ b,Z5g n ((Qrw P (mkE P n b) X k m).fn f args0 (Qlz n [] true [(1,c)]))=some (v0,c')) (hv:flat v0=true) (hc:Xnm c) (hc':Xnm c')
  (hg:h.get blk=some (.cells true 1 c)) (ha:Xjd (emb n [blk]) args0 args) {b:Nat}:CallOK P ⟨n,b⟩ f args h (fun r h1=>r=.ret v0/\h1=h.set blk (some (.cells true 1 c'))):=by
 intro α w H hok;have F:Fit ⟨n,b⟩ (emb n [blk]) (Qlz n [] true [(1,c)]) h:=Yir H rfl (fun x hx=>by cases hx) rfl (fun i d r hd hr=>by
  cases i with
  | zero=>simp at hd hr;subst hd;subst hr;exact⟨hg,hc⟩
  | succ i=>simp at hd) (by simp)
 have hnn:(Qlz n [] true [(1,c)]).get n=some (.cells true 1 c):=by
  unfold Qlz;rw[X1e];simp[Q31]
 obtain⟨h0',e1,e2⟩:=Jdm (hrun b);refine Zt7 F (fun i d x0 x hi hx0 hx => ?_) ha hv (i0:=n) (by simp[emb]) (by rw[Q05 hnn];rfl) e2 hc' (fun i hne ho => ?_) (Zhq hm hX hL e1) α w H hok
 ·rcases Q20 hx0 with⟨_,c0,hc0,_⟩ | ⟨h1,r,hr,rfl⟩
  ·cases hc0
  ·have : i=n:=by
    cases hq:i-n with
    | zero=>omega
    | succ q=>rw[hq]at hr;simp at hr
   subst this;simp at hr;subst hr;simp[emb]at hi;subst hi;rw[hg]at hx;cases hx;rfl
 ·obtain⟨x0,hx0,hxo⟩:=Q6c ho;rcases Q20 hx0 with⟨_,c0,hc0,_⟩ | ⟨h1,r,hr,rfl⟩
  ·cases hc0
  ·exfalso;cases hq:i-n with
   | zero=>omega
   | succ q=>rw[hq]at hr;simp at hr
def Z8c(hm:P.follows .mixedOrders=true)(hX:∀ b,Qst P ⟨n,b⟩ X)(hL:Q0y X){c c' c2:List Value}{blk blk2:Nat}
  (hrun:∀ b,Zp7 n (n+1) ((Qrw P (mkE P n b) X k m).fn f args0 (Qlz n [] true [(1,c),(1,c2)]))=some (v0,c',c2)) (hv:flat v0=true) (hc:Xnm c) (hc':Xnm c') (hc2:Xnm c2)
  (hg:h.get blk=some (.cells true 1 c)) (hg2:h.get blk2=some (.cells true 1 c2)) (hne:blk≠blk2) (ha:Xjd (emb n [blk,blk2]) args0 args) {b:Nat} :
  CallOK P ⟨n,b⟩ f args h (fun r h1=>r=.ret v0/\h1=h.set blk (some (.cells true 1 c'))):=by
 intro α w H hok;have F:Fit ⟨n,b⟩ (emb n [blk,blk2]) (Qlz n [] true [(1,c),(1,c2)]) h:=Yir H rfl (fun x hx=>by cases hx) rfl (fun i d r hd hr=>by
  cases i with
  | zero=>simp at hd hr;subst hd;subst hr;exact⟨hg,hc⟩
  | succ i =>
   cases i with
   | zero=>simp at hd hr;subst hd;subst hr;exact⟨hg2,hc2⟩
   | succ i=>simp at hd) (by simp[hne])
 have hnn:(Qlz n [] true [(1,c),(1,c2)]).get n=some (.cells true 1 c):=by
  unfold Qlz;rw[X1e];simp[Q31]
 have hnn2:(Qlz n [] true [(1,c),(1,c2)]).get (n+1)=some (.cells true 1 c2):=by
  unfold Qlz;rw[X1e,if_neg (show ¬ n+1 < (Q31 n []).next from by show ¬ n+1 < n;omega)];simp[Q31]
 obtain⟨h0',e1,e2,e3⟩:=Z7i (hrun b);have hwhich:∀ i (r:Nat × List Value),n<=i -> [(1,c),(1,c2)][i-n]? = some r->(i=n/\r=(1,c))∨(i=n+1/\r=(1,c2)):=by
  intro i r h1 hr;cases hq:i-n with
  | zero=>rw[hq]at hr;simp at hr;exact .inl ⟨by omega,hr.symm⟩
  | succ q =>
   rw[hq]at hr;cases q with
   | zero=>simp at hr;exact .inr ⟨by omega,hr.symm⟩
   | succ q=>simp at hr
 refine Zt7 F (fun i d x0 x hi hx0 hx => ?_) ha hv (i0:=n) (by simp[emb]) (by rw[Q05 hnn];rfl) e2 hc' (fun i hne' ho => ?_) (Zhq hm hX hL e1) α w H hok
 ·rcases Q20 hx0 with⟨_,c0,hc0,_⟩ | ⟨h1,r,hr,rfl⟩
  ·cases hc0
  ·rcases hwhich i r h1 hr with⟨rfl,rfl⟩ | ⟨rfl,rfl⟩
   ·simp[emb]at hi;subst hi;rw[hg]at hx;cases hx;rfl
   ·unfold emb at hi;rw[if_neg (by omega)]at hi;simp at hi;subst hi;rw[hg2]at hx;cases hx;rfl
 ·obtain⟨x0,hx0,hxo⟩:=Q6c ho;rcases Q20 hx0 with⟨_,c0,hc0,_⟩ | ⟨h1,r,hr,rfl⟩
  ·cases hc0
  ·rcases hwhich i r h1 hr with⟨rfl,rfl⟩ | ⟨rfl,rfl⟩
   ·exact absurd rfl hne'
   ·rw[e3,hnn2]
def Xyo{laid rows:List (Nat × List Value)}(i:Nat):(Qlz n laid false rows).own i=false:=by
 unfold Heap.own;cases hx:(Qlz n laid false rows).get i with
 | none=>rfl
 | some x=>rcases Q20 hx with⟨_,c,_,rfl⟩ | ⟨_,r,_,rfl⟩ <;> rfl
def LaidIn(h:Heap)(laid:List (Nat × List Value)):Prop:=∀ x ∈ laid,h.get x.1=some (.cells false 0 x.2)
def Yqo(hm:P.follows .mixedOrders=true)(hX:∀ b,Qst P ⟨n,b⟩ X)(hL:Q0y X){laid rows:List (Nat × List Value)}{bs:List Nat}
  (hrun:∀ b,Jig ((Qrw P (mkE P n b) X k m).fn f args0 (Qlz n laid false rows))=some v0) (hv:flat v0=true) (hlaid:LaidIn h laid) (hfl:∀ x ∈ laid,x.2 ≠ []/\Xnm x.2) (hlen:bs.length=rows.length) (hnd:bs.Nodup)
  (hrows:∀ (k b:Nat) (r:Nat × List Value),bs[k]? = some b->rows[k]? = some r->h.get b=some (.cells true r.1 r.2)/\Xnm r.2) (ha:Xjd (emb n bs) args0 args) {b:Nat} :
  CallOK P ⟨n,b⟩ f args h (fun r h1=>r=.ret v0/\h1=h):=by
 intro α w H hok;have F:Fit ⟨n,b⟩ (emb n bs) (Qlz n laid false rows) h:=Yir H rfl (fun x hx=>⟨(hfl x hx).1,hlaid x hx,(hfl x hx).2⟩) hlen hrows hnd;refine Z9t F Xyo ha hv (fun b' => ?_) α w H hok;obtain⟨h0',e1⟩:=Jky (hrun b');exact⟨h0',Zhq hm hX hL e1⟩
def Jd9(hm:P.follows .mixedOrders=true)(hX:∀ b,Qst P ⟨n,b⟩ X)(hL:Q0y X){laid rows:List (Nat × List Value)}{bs:List Nat}{c:List Value}
  (hrun:∀ b,Z5j (n+rows.length) ((Qrw P (mkE P n b) X k m).fn f args0 (Qlz n laid false rows))=some c) (hc:Xnm c) (hlaid:LaidIn h laid) (hfl:∀ x ∈ laid,x.2 ≠ []/\Xnm x.2) (hlen:bs.length=rows.length) (hnd:bs.Nodup)
  (hrows:∀ (k b:Nat) (r:Nat × List Value),bs[k]? = some b->rows[k]? = some r->h.get b=some (.cells true r.1 r.2)/\Xnm r.2) (ha:Xjd (emb n bs) args0 args) {b:Nat} :
  CallOK P ⟨n,b⟩ f args h (fun r h1=>r=.ret (.pointer (some ⟨h.next,0,none⟩))/\h1=h.push (.cells true 1 c)):=by
 intro α w H hok;have F:Fit ⟨n,b⟩ (emb n bs) (Qlz n laid false rows) h:=Yir H rfl (fun x hx=>⟨(hfl x hx).1,hlaid x hx,(hfl x hx).2⟩) hlen hrows hnd;refine Jf3 F Xyo ha hc (fun b' => ?_) α w H hok;obtain⟨j,h0',e1,e2,e3⟩:=Jcy (hrun b');exact⟨j,h0',by show(Zqi false rows (Q31 n laid)).next<=j;rw[Ymm];exact e3,e2,Zhq hm hX hL e1⟩
end
def Jo1:List Value->Option (List Nat)
 | []=>some []
 | .int .u32 (.ofNat n)::l=>match Jo1 l with | some r=>some (n::r) | none=>none
 | _=>none
def Yzf:∀ {l:List Value} {r:List Nat},Jo1 l=some r->l=r.map Qg0
 | [],r,h=>by cases h;rfl
 | v::l,r,h=>by
  unfold Jo1 at h;split at h
  ·rename_i hq;cases hq
  ·rename_i n l' hv;cases hv;split at h
   ·rename_i r' hr;cases h;rw[Yzf hr];rfl
   ·cases h
  ·cases h
def u8s:List Value->Option (List Nat)
 | []=>some []
 | .int .u8 (.ofNat n)::l=>match u8s l with | some r=>some (n::r) | none=>none
 | _=>none
def u8v(n:Nat):Value:=.int .u8 (.ofNat n)
def Jbs:∀ {l:List Value} {r:List Nat},u8s l=some r->l=r.map u8v
 | [],r,h=>by cases h;rfl
 | v::l,r,h=>by
  unfold u8s at h;split at h
  ·rename_i hq;cases hq
  ·rename_i n l' hv;cases hv;split at h
   ·rename_i r' hr;cases h;rw[Jbs hr];rfl
   ·cases h
  ·cases h
def Jqv:List Value->Option (List Nat)
 | []=>some []
 | .int .i64 (.ofNat n)::l=>match Jqv l with | some r=>some (n::r) | none=>none
 | _=>none
def Jg9(n:Nat):Value:=.int .i64 (.ofNat n)
def Jcz:∀ {l:List Value} {r:List Nat},Jqv l=some r->l=r.map Jg9
 | [],r,h=>by cases h;rfl
 | v::l,r,h=>by
  unfold Jqv at h;split at h
  ·rename_i hq;cases hq
  ·rename_i n l' hv;cases hv;split at h
   ·rename_i r' hr;cases h;rw[Jcz hr];rfl
   ·cases h
  ·cases h
def Xzo(l:List Nat):Xnm (l.map Qg0):=fun v hv=>by
 obtain⟨n,_,rfl⟩:=am.1 hv;exact⟨rfl,rfl⟩
def Yxt(l:List Nat):Xnm (l.map u8v):=fun v hv=>by
 obtain⟨n,_,rfl⟩:=am.1 hv;exact⟨rfl,rfl⟩
def eqN:List Nat->List Nat->Bool
 | [],[]=>true
 | a::l,b::r=>bq (Nat.beq a b) (eqN l r) false
 | _,_=>false
def Xuu:∀ {l r:List Nat},eqN l r=true->l=r
 | [],[],_=>rfl
 | a::l,b::r,h=>by
  simp only[eqN]at h;cases hb:Nat.beq a b with
  | false=>rw[hb]at h;cases h
  | true=>rw[hb]at h;rw[aK hb,Xuu h]
 | [],_::_,h=>by simp[eqN]at h
 | _::_,[],h=>by simp[eqN]at h
def Y4l(h:Heap):Value->Option (Nat × List Value)
 | .pointer (some ⟨b,0,none⟩)=>match h.get b with
  | some (.cells true 1 c)=>some (b,c)
  | _=>none
 | _=>none
def Xds{h:Heap}{v:Value}{b:Nat}{c:List Value}(hr:Y4l h v=some (b,c)):v=.pointer (some ⟨b,0,none⟩)/\h.get b=some (.cells true 1 c):=by
 unfold Y4l at hr;split at hr
 ·split at hr
  ·rename_i hg;cases hr;exact⟨rfl,hg⟩
  ·cases hr
 ·cases hr
def Vr{A:Type}{l:List A}{n:Nat}(h:l.length=n+1):∃ a t,l=a::t/\t.length=n:=by
 cases l with
 | nil=>simp at h
 | cons a t=>exact⟨a,t,rfl,by simpa using h⟩
def Qa7{A B:Type}{x:Option A}{f:A->Option B}{y:B}(h:ob x f=some y):∃ a,x=some a/\f a=some y:=by
 cases x with
 | none=>cases h
 | some a=>exact⟨a,rfl,h⟩
def Qpg{A:Type}{b:Bool}{x:Option A}{y:A}(h:bq b x none=some y):b=true/\x=some y:=by
 cases b with
 | true=>exact⟨rfl,h⟩
 | false=>cases h
def Z6g(s:ByteArray):List Nat:=s.data.toList.map UInt8.toNat
def Z9z{s t:ByteArray}(h:Z6g s=Z6g t):s=t:=by
 have h2:s.data.toList=t.data.toList:=(List.map_inj_right (fun x y h=>dR.1 h)).1 h;cases s;cases t;simp only[ByteArray.mk.injEq];exact bu h2
def Jhv:Value->Value->Bool
 | .int k (.ofNat a),.int j (.ofNat b)=>bq (decide (k=j)) (Nat.beq a b) false
 | .string s,.string t=>eqN (Z6g s) (Z6g t)
 | _,_=>false
def Jjd{x y:Value}(h:Jhv x y=true):x=y:=by
 unfold Jhv at h;split at h
 ·rename_i k a j b;cases hk:decide (k=j)with
  | false=>rw[hk]at h;cases h
  | true =>
   rw[hk]at h;have h1:=of_decide_eq_true hk;subst h1;rw[aK h]
 ·rw[Z9z (Xuu h)]
 ·cases h
def Z1x:List Value->List Value->Bool
 | [],[]=>true
 | a::l,b::r=>bq (Jhv a b) (Z1x l r) false
 | _,_=>false
def Z6k:∀ {l r:List Value},Z1x l r=true->l=r
 | [],[],_=>rfl
 | a::l,b::r,h=>by
  simp only[Z1x]at h;cases hb:Jhv a b with
  | false=>rw[hb]at h;cases h
  | true=>rw[hb]at h;rw[Jjd hb,Z6k h]
 | [],_::_,h=>by simp[Z1x]at h
 | _::_,[],h=>by simp[Z1x]at h
def Jed(h:Heap):List (Nat × List Value)->Bool
 | []=>true
 | x::l=>bq (match h.get x.1 with
  | some (.cells false 0 c)=>Z1x c x.2
  | _=>false) (Jed h l) false
def Yxw{h:Heap}:∀ {l:List (Nat × List Value)},Jed h l=true->LaidIn h l
 | [],_=>fun x hx=>by cases hx
 | x::l,hb=>fun y hy=>by
  simp only[Jed]at hb;split at hb
  ·rename_i c hg;cases hs:Z1x c x.2 with
   | false=>rw[hs]at hb;cases hb
   | true =>
    rw[hs]at hb;rcases ap.1 hy with rfl | hy
    ·rw[hg,Z6k hs]
    ·exact Yxw hb y hy
  ·cases hb
def p8v(h:Bl.P8):Value:=.agg ⟨[Qg0 h.h0,Qg0 h.h1,Qg0 h.h2,Qg0 h.h3,Qg0 h.h4,Qg0 h.h5,Qg0 h.h6,Qg0 h.h7]⟩
def Jtn:List Nat->Option Bl.P8
 | [h0,h1,h2,h3,h4,h5,h6,h7]=>some ⟨h0,h1,h2,h3,h4,h5,h6,h7⟩
 | _=>none
def Jmc{l:List Nat}{h:Bl.P8}(e:Jtn l=some h):Value.agg ⟨l.map Qg0⟩=p8v h:=by
 unfold Jtn at e;split at e
 ·cases e;rfl
 ·cases e
def Jkr:Nat->Code->Code
 | 0,.seq a _=>a
 | n+1,.seq a b => .seq a (Jkr n b)
 | _,c=>c
def Js5:Nat->Code->Code
 | 0,.seq _ b=>b
 | n+1,.seq _ b=>Js5 n b
 | _,_ => .skip
def Jlt:Nat->Code->Bool
 | 0,.seq _ _=>true
 | n+1,.seq _ b=>Jlt n b
 | _,_=>false
def Zzj{P:Program}(E:Env2 P)(C:CallF)(r:Option Nat)(k:Nat):∀ (n:Nat) (c:Code) (s:St),Jlt n c=true->Xdb P E C r k c s=ob (Xdb P E C r k (Jkr n c) s) (Y8q (Xdb P E C r k (Js5 n c)))
 | 0,.seq x y,s,_=>rfl
 | n+1,.seq x y,s,h=>by
  have ih:=Zzj E C r k n y;show ob (Xdb P E C r k x s) (Y8q (Xdb P E C r k y))=ob (ob (Xdb P E C r k x s) (Y8q (Xdb P E C r k (Jkr n y)))) (Y8q (Xdb P E C r k (Js5 n y)));rcases Xdb P E C r k x s with _ | ⟨e,s'⟩
  ·rfl
  ·simp only[ob_some];cases e <;> first | rfl | skip
   rw[Xj4,Xj4];exact ih s' h
def Jvj(P:Program)(E:Env2 P)(D:Qwn)(fn:Func)(r:XS):Option (AEnd × Heap):=match r with
 | some (.normal,s) | some (.ret,s)=>X2 E D fn s.t s.ds .returning s.h
 | some (.panic ch,s)=>X2 E D fn s.t s.ds (.panicking ch) s.h
 | _=>none
def Z5n{P:Program}{E:Env2 P}{X:Xhm}{k n f n0:Nat}{args:List Value}{h:Heap}{F:Func}{c:Code}(hX:X f args h=none)(hF:E.fn.get f=some F)(hb:F.body=some c)(hle:Nat.ble args.length F.ntmps=true)(hc:Jlt n0 c=true) :
  (Qrw P E X k (n+1)).fn f args h=Jvj P E (Xue E (Qrw P E X k n) k) F (ob (Xdb P E (Qrw P E X k n) none k (Jkr n0 c) ⟨Xm F args,[],h⟩) (Y8q (Xdb P E (Qrw P E X k n) none k (Js5 n0 c)))):=by
 show(Option.rec (motive:=fun _=>Option (AEnd × Heap)) (Z7x P E (Qrw P E X k n) (Xue E (Qrw P E X k n) k) k f args h) (fun r=>some r) (X f args h))=_;rw[hX];simp only[Z7x,hF,ob_some,hb,hle,bq_true];rw[Zzj E _ none k n0 c _ hc];rfl
def Z5r(b:Nat)(c:List Value)(r:XS):XS:=match r with
 | some (e,s)=>some (e,{t:=s.t,ds:=s.ds,h:={next:=s.h.next,low:=s.h.low,t:=s.h.t.put b (some (.cells true 1 c))} })
 | none=>none
open Go.ChangeShapes Go.WideShapes Go.RowKit
def Jbh{P:Program}{W:World}{laid:List (String × DataW Unit)}{n:Nat}{l:List (Nat × List Value)}(h:laidMet P laid W)(hl:Jer P laid n l):∀ x ∈ l,x.1 < W.heap.size:=by
 intro x hx;obtain⟨_,hf,name,t,d,k,hm,hg,ht,hd⟩:=hl x hx;obtain⟨g,t',cs,fuel,p,h1,h2,h3,h4⟩:=Lib.laidMet.reads h hm;obtain rfl:=bz (hg.symm.trans h1);unfold World.var? at h3;rw[hg]at h3;simp only[dc]at h3;split at h3
 ·rename_i C e fr hC;exact(Array.getElem?_eq_some_iff.1 hC).1
 ·cases h3
section
variable{P:Program}{α:Ren}{s:St}{a:Act}{w:World}
def Yxm(s:St)(d:Option Tmp)(v:Value)(h:Heap):(s.put d v h).h=h:=by cases d <;> rfl
end
section
variable{P:Program}{α:Ren}{s:St}{h:Heap}{w:World}
end
section
variable{P:Program}{G:Bs}{α:Ren}{h:Heap}{w:World}
end
section
variable{P:Program}
end
section
variable{P:Program}{G:Bs}{α α':Ren}{h h1 h2:Heap}{w w':World}{s s1 sF:St}{a:Act}
def HRel.sub(H:HRel G α h w)(hn:h1.next=h.next)(hb:∀ b x,h1.get b=some x->h.get b=some x):HRel G α h1 w:=by
 have hown:∀ b,h1.own b=true->h.own b=true:=fun b ho=>by
  obtain⟨x,hx,hxo⟩:=Q6c ho;rw[Q05 (hb b x hx)];exact hxo
 have hlive:∀ b,h1.live b=true->h.live b=true:=fun b ho=>by
  unfold Heap.live at ho;split at ho
  ·rename_i x hx;rw[Ypd (hb b x hx)];exact ho
  ·cases ho
 refine⟨fun b p hp=>by rw[hn];exact H.dom b p hp,fun b p x hp hx=>H.fits b p x hp (hb b x hx),fun b c p q hp hq hne ho hl=>H.apart b c p q hp hq hne (hown b ho) (hlive c hl),fun g hg=>⟨(H.glob g hg).1,?_⟩,by rw[hn];exact H.globs,fun b x hx => ?_,fun b p x hp hx=>H.base b p x hp (hb b x hx),H.bsz⟩
 ·cases ho:h1.own g with
  | false=>rfl
  | true=>have:=hown g ho;rw[(H.glob g hg).2]at this;cases this
 ·rw[hn];exact H.wf b x (hb b x hx)
end
structure Mile where
 size:Nat
 next:Nat
 temps:List (Nat × Value)
 blks:List (Nat × Blk)
def Jrw:List (Nat × Value)->Tr Value
 | [] => .leaf
 | (i,v)::l=>(Jrw l).put i (some v)
def Jox:List (Nat × Blk)->Tr Blk
 | [] => .leaf
 | (i,v)::l=>(Jox l).put i (some v)
def Mile.st(M:Mile):St:=⟨⟨M.size,Jrw M.temps⟩,[],⟨M.next,M.next,Jox M.blks⟩⟩
def isT(r:AEnd)(_:Heap):Bool:=match r with
 | .ret (.bool true)=>true
 | _=>false
section
variable{P:Program}
end
end Go.Ab
