import Derived.Test.YtcnhfkplgknomaaDoorBlA
import Derived.Test.YtcnhfkplgknomaaDoorScA
import Derived.Test.YtcnhfkplgknomaaDoorFA
set_option linter.all false
noncomputable section
namespace Go.Proofs.YtcnhfkplgknomaaDoor
open Go Go.Ab
set_option maxRecDepth 100000
theorem Yuo(b:Nat){h:Heap}(hl:Ab.LaidIn h Qhm)(p8:Bl.P8){blk:Nat}{l:List Nat}(hg:h.get blk=some (.cells true 1 (l.map u8v)))(h64:l.length=64)(count:Nat)(last:Bool)(K:KP)(hk:K (.ret (p8v (Bl.take p8 l count last))) h) :
  FK b 40 [p8v p8,.pointer (some ⟨blk,0,none⟩),.int .u64 (.ofNat count),.bool last] h K:=by
 refine⟨_,_,?_,Nat.le_refl _,hk⟩
 refine Xrc (k:=100) (m:=4) Qa5 X7x X1w (fun b=>Ys9 b p8.h0 p8.h1 p8.h2 p8.h3 p8.h4 p8.h5 p8.h6 p8.h7 count l h64 last) rfl hl X71 (bs:=[blk]) rfl (by simp) (fun k d r hd hr => ?_)
   (Vq (Qdt rfl) (Vq (X6h _ _) (Vq (Qdt rfl) (Vq (Qdt rfl) Qvw))))
 cases k with
 | zero=>simp at hd hr;subst hd;subst hr;exact⟨hg,Xtx _⟩
 | succ k=>simp at hd
abbrev SN(h:Heap)(v:Value)(l:List Nat):Prop:=Sl h 1 v l.length (l.map u8v)
theorem SN.sb{h:Heap}{v:Value}{l:List Nat}(s:SN h v l):SB h v (l.map Int.ofNat):=by
 have e:(l.map Int.ofNat).map i8=l.map u8v:=by rw[List.map_map];rfl
 rw[SB,e,List.length_map];exact s
theorem SN.of{h:Heap}{v:Value}{xs:List Int}(s:SB h v xs)(hb:Bytes xs):SN h v (xs.map Int.toNat):=by
 have e:(xs.map Int.toNat).map u8v=xs.map i8:=by
  rw[List.map_map]
  refine List.map_congr_left fun z hz => ?_
  have:=hb z hz
  show Value.int .u8 (Int.ofNat z.toNat)=.int .u8 z
  rw[show Int.ofNat z.toNat=z from Int.toNat_of_nonneg this.1]
 rw[SN,e,List.length_map];exact s
theorem Yul(b:Nat){h:Heap}{B:Nat}{ds:List Value}{v:Value}{l:List Nat}(hg:h.get B=some (.cells true 1 ds))(hd:ds.length=64)(s:SN h v l) :
  ∃ h',Xs1 (E b).toEnv 43 (.slice (some ⟨B,0,none⟩) 64 64) v h=some (.int .i64 ((min l.length 64:Nat):Int),h')/\h'.get B=some (.cells true 1 ((l.take 64).map u8v++ds.drop (min l.length 64)))/\h'.next=h.next/\∀ c,c≠B->h'.get c=h.get c:=by
 have hmin:Nat.min l.length 64=min l.length 64:=rfl
 have hlen:Xrl v=some l.length:=by rcases s with⟨c,rfl,_,e,_⟩ | ⟨bk,o,c,ow,z',pre,post,rfl,_⟩ <;> simp_all [Xrl]
 have hsrc:Yip 1 (Nat.min l.length 64) v h=some ((l.take 64).map u8v):=by
  rcases s with⟨c,rfl,_,e,e2⟩ | ⟨bk,o,c,ow,z',pre,post,rfl,h1,h2,h3, -⟩
  ·have : l=[]:=List.eq_nil_of_length_eq_zero e
   subst this
   simp[Yip]
  ·have h4:Q8r (Nat.min l.length 64*1) ((pre++l.map u8v++post).drop o)=some ((l.take 64).map u8v):=by
    rw[hmin,<- h2,List.append_assoc,List.drop_left,Q5a (by simp;omega),List.take_append_of_le_length (by simp;omega),<- List.map_take,Nat.mul_one]
    congr 2
    rcases Nat.le_total l.length 64 with q | q
    ·rw[Nat.min_eq_left q,List.take_of_length_le (Nat.le_refl _),List.take_of_length_le q]
    ·rw[Nat.min_eq_right q]
   simp only[Yip,Ab.cellsAt,h1,h4]
 have hr:R43.desc=.slice 5:=(T43 b).d
 cases hc:(l.take 64).map u8v with
 | nil =>
  have : l=[]:=by
   cases l with
   | nil=>rfl
   | cons x l=>simp at hc
  subst this
  refine⟨h,?_,by simpa using hg,rfl,fun _ _=>rfl⟩
  rw[hc]at hsrc
  simp only[Xs1,Xte,hr,hlen,Yof,Qfy,hsrc]
 | cons x xs =>
  have hle:(x::xs).length<=ds.length:=by rw[<- hc,hd];simp;omega
  have hst:storeAt h ⟨B,0,none⟩ (x::xs)=some (h.set B (some (.cells true 1 ((x::xs)++ds.drop (x::xs).length)))):=by
   simp only[storeAt,hg]
   rw[Q3r (by simpa using hle)]
   simp
  rw[hc]at hsrc
  refine⟨h.set B (some (.cells true 1 ((x::xs)++ds.drop (x::xs).length))),?_,?_,rfl,fun c hc=>by rw[Heap.get_set _ _ _ _ (Heap.get_lt hg),if_neg (Ne.symm hc)]⟩
  ·simp only[Xs1,Xte,hr,hlen,Yof,Qfy,hsrc,hst]
   rfl
  ·rw[Heap.get_set _ _ _ _ (Heap.get_lt hg),if_pos rfl]
   congr 4
   rw[<- hc,List.length_map,List.length_take,Nat.min_comm]
theorem Xxl:∀ (n m:Nat) (h:Bl.P8) (text:List Nat) (count:Nat),text.length < n->text.length < m->Bl.blocks n h text count=Bl.blocks m h text count
 | 0,_,_,_,_,h,_=>by omega
 | n+1,0,_,_,_,_,h=>by omega
 | n+1,m+1,h,text,count,h1,h2=>by
  simp only[Bl.blocks]
  cases hb:Nat.ble text.length 64 with
  | true=>rfl
  | false =>
   have : ¬ text.length<=64:=fun q=>by rw[<- Nat.ble_eq,hb]at q;cases q
   exact Xxl n m _ _ _ (by rw[List.length_drop];omega) (by rw[List.length_drop];omega)
def Ysb(p8:Bl.P8)(text:List Nat)(count:Nat):Bl.P8:=Bl.blocks text.length.succ p8 text count
theorem Ymu{p8:Bl.P8}{text:List Nat}{count:Nat}(h:text.length<=64):Ysb p8 text count=Bl.take p8 text (count+text.length) true:=by
 simp[Ysb,Bl.blocks,Q5t h]
theorem Ylv{p8:Bl.P8}{text:List Nat}{count:Nat}(h:64 < text.length):Ysb p8 text count=Ysb (Bl.take p8 (text.take 64) (count+64) false) (text.drop 64) (count+64):=by
 have e:Nat.ble text.length 64=false:=by rw[Bool.eq_false_iff];intro q;rw[Nat.ble_eq]at q;omega
 simp only[Ysb,Bl.blocks,e]
 exact Xxl text.length (text.drop 64).length.succ _ _ _ (by rw[List.length_drop];omega) (Nat.lt_succ_self _)
def Pad(l l':List Nat):Prop:=∃ n,l'=l++List.replicate n 0
theorem Q0l{l l':List Nat}(p:Pad l l'):∃ a r r',(∀ {A:Type} (K:Nat->List Nat->A),Bl.nx l K=K a r)/\(∀ {A:Type} (K:Nat->List Nat->A),Bl.nx l' K=K a r')/\Pad r r':=by
 obtain⟨n,rfl⟩:=p
 match l with
 | a::b::c::d::l=>exact⟨_,_,_,fun _=>rfl,fun _=>rfl,n,rfl⟩
 | [a,b,c] =>
  match n with
  | 0=>exact⟨_,_,_,fun _=>rfl,fun _=>rfl,0,rfl⟩
  | n+1=>exact⟨_,_,_,fun _=>rfl,fun _=>rfl,n,rfl⟩
 | [a,b] =>
  match n with
  | 0=>exact⟨_,_,_,fun _=>rfl,fun _=>rfl,0,rfl⟩
  | 1=>exact⟨_,_,_,fun _=>rfl,fun _=>rfl,0,rfl⟩
  | n+2=>exact⟨_,_,_,fun _=>rfl,fun _=>rfl,n,rfl⟩
 | [a] =>
  match n with
  | 0=>exact⟨_,_,_,fun _=>rfl,fun _=>rfl,0,rfl⟩
  | 1=>exact⟨_,_,_,fun _=>rfl,fun _=>rfl,0,rfl⟩
  | 2=>exact⟨_,_,_,fun _=>rfl,fun _=>rfl,0,rfl⟩
  | n+3=>exact⟨_,_,_,fun _=>rfl,fun _=>rfl,n,rfl⟩
 | [] =>
  match n with
  | 0=>exact⟨_,_,_,fun _=>rfl,fun _=>rfl,0,rfl⟩
  | 1=>exact⟨_,_,_,fun _=>rfl,fun _=>rfl,0,rfl⟩
  | 2=>exact⟨_,_,_,fun _=>rfl,fun _=>rfl,0,rfl⟩
  | 3=>exact⟨_,_,_,fun _=>rfl,fun _=>rfl,0,rfl⟩
  | n+4=>exact⟨_,_,_,fun _=>rfl,fun _=>rfl,n,rfl⟩
theorem Yny{l l':List Nat}(p:Pad l l'){A:Type}(K:Nat->Nat->Nat->Nat->Nat->Nat->Nat->Nat->Nat->Nat->Nat->Nat->Nat->Nat->Nat->Nat->A):Bl.words l' K=Bl.words l K:=by
 unfold Bl.words
 obtain⟨_,_,_,a0,c0,p⟩:=Q0l p
 obtain⟨_,_,_,a1,c1,p⟩:=Q0l p
 obtain⟨_,_,_,a2,c2,p⟩:=Q0l p
 obtain⟨_,_,_,a3,c3,p⟩:=Q0l p
 obtain⟨_,_,_,a4,c4,p⟩:=Q0l p
 obtain⟨_,_,_,a5,c5,p⟩:=Q0l p
 obtain⟨_,_,_,a6,c6,p⟩:=Q0l p
 obtain⟨_,_,_,a7,c7,p⟩:=Q0l p
 obtain⟨_,_,_,a8,c8,p⟩:=Q0l p
 obtain⟨_,_,_,a9,c9,p⟩:=Q0l p
 obtain⟨_,_,_,a10,c10,p⟩:=Q0l p
 obtain⟨_,_,_,a11,c11,p⟩:=Q0l p
 obtain⟨_,_,_,a12,c12,p⟩:=Q0l p
 obtain⟨_,_,_,a13,c13,p⟩:=Q0l p
 obtain⟨_,_,_,a14,c14,p⟩:=Q0l p
 obtain⟨_,_,_,a15,c15,p⟩:=Q0l p
 rw[a0,c0,a1,c1,a2,c2,a3,c3,a4,c4,a5,c5,a6,c6,a7,c7,a8,c8,a9,c9,a10,c10,a11,c11,a12,c12,a13,c13,a14,c14,a15,c15]
theorem Yq1(p8:Bl.P8){l l':List Nat}(p:Pad l l')(count:Nat)(last:Bool):Bl.take p8 l' count last=Bl.take p8 l count last:=by
 obtain⟨h0,h1,h2,h3,h4,h5,h6,h7⟩:=p8
 simp only[Bl.take,Yny p]
def Ydj(p:Bl.P8):List Nat:=[p.h0,p.h1,p.h2,p.h3,p.h4,p.h5,p.h6,p.h7]
theorem Q2v(p:Bl.P8):(Bl.out p).length=32:=by obtain⟨_,_,_,_,_,_,_,_⟩:=p;rfl
theorem Yws(p:Bl.P8){q r w:Nat}(hq:q < 8)(hr:r < 4)(hw:(Ydj p)[q]? = some w):(Bl.out p)[4*q+r]? = some (w / 2 ^ (8*r) % 256):=by
 obtain⟨h0,h1,h2,h3,h4,h5,h6,h7⟩:=p
 have hq':q=0∨q=1∨q=2∨q=3∨q=4∨q=5∨q=6∨q=7:=by omega
 have hr':r=0∨r=1∨r=2∨r=3:=by omega
 rcases hq' with rfl | rfl | rfl | rfl | rfl | rfl | rfl | rfl <;> rcases hr' with rfl | rfl | rfl | rfl <;>
  (simp only[Ydj,List.getElem?_cons_succ,List.getElem?_cons_zero,Option.some.injEq]at hw;subst hw;first | rfl | (simp[Bl.out,Bl.by4];rfl) | simp[Bl.out,Bl.by4])
theorem Yz4(x:Nat):Qfz (binOp .shr 94 (.int .u32 (.ofNat x)) (.int .i64 0))=some (.int .u32 (Int.fdiv (.ofNat x) (2 ^ 0))):=by kernel_rfl
theorem Yyz(x:Nat):Qfz (binOp .shr 94 (.int .u32 (.ofNat x)) (.int .i64 8))=some (.int .u32 (Int.fdiv (.ofNat x) (2 ^ 8))):=by kernel_rfl
theorem Yvz(x:Nat):Qfz (binOp .shr 94 (.int .u32 (.ofNat x)) (.int .i64 16))=some (.int .u32 (Int.fdiv (.ofNat x) (2 ^ 16))):=by kernel_rfl
theorem Yxr(x:Nat):Qfz (binOp .shr 94 (.int .u32 (.ofNat x)) (.int .i64 24))=some (.int .u32 (Int.fdiv (.ofNat x) (2 ^ 24))):=by kernel_rfl
theorem Yym(x:Nat){r:Nat}(hr:r < 4):Qfz (binOp .shr 94 (.int .u32 (.ofNat x)) (.int .i64 (8*(r:Int))))=some (.int .u32 (Int.fdiv (.ofNat x) (2 ^ (8*r)))):=by
 have hr':r=0∨r=1∨r=2∨r=3:=by omega
 rcases hr' with rfl | rfl | rfl | rfl
 ·exact Yz4 x
 ·exact Yyz x
 ·exact Yvz x
 ·exact Yxr x
theorem Yqu(x r:Nat):IntKind.u8.wrap (Int.fdiv (.ofNat x) (2 ^ (8*r)))=.ofNat (x / 2 ^ (8*r) % 256):=by
 have e:Int.fdiv (.ofNat x) (2 ^ (8*r))=.ofNat (x / 2 ^ (8*r)):=by
  have : ((2:Int) ^ (8*r))=Int.ofNat (2 ^ (8*r)):=by simp
  rw[this]
  show Int.fdiv (x:Int) ((2 ^ (8*r):Nat):Int)=((x / 2 ^ (8*r):Nat):Int)
  rw[Int.fdiv_eq_ediv_of_nonneg _ (Int.natCast_nonneg _)]
  exact(Int.natCast_ediv _ _).symm
 rw[e]
 show((Int.ofNat (x / 2 ^ (8*r))) % (2 ^ 8:Int))=_
 exact(Int.natCast_emod _ _).symm
def z32:List Value:=List.replicate 32 (.int .u8 0)
def OI(R0 W:Nat)(p8:Bl.P8)(h:Heap)(k:Nat)(s:St):Prop:=∃ (t:Tr Value) (h1:Heap) (O i:Nat),s=⟨⟨81,t⟩,[],h1⟩/\t.get 4=some (.pointer (some ⟨R0,0,none⟩))/\t.get 6=some (.pointer (some ⟨W,0,none⟩))/\t.get 11=some (.pointer (some ⟨O,0,none⟩))/\t.get 65=some (.int .i64 (i:Int)) /\
 i<=32/\k=32-i/\h1.get O=some (.cells true 1 (((Bl.out p8).take i).map u8v++List.replicate (32-i) (.int .u8 0)))/\h1.get W=some (.cells true 1 ((Ydj p8).map Qa3))/\h1.get R0=some (.cells true 1 z32)/\Old h h1/\h.next<=O/\h.next<=R0/\O≠W/\O≠R0
attribute [local simp] Jw J8 Wm Xbe Y7 Y9 Q4 Qu J5 Zh aop Qe nth Ab.g0 gv gs Q9 Q8 aev evs evO Qf Tr.get_put St.put Tm.put flat flatA Zg Qm Qh Ql Qn Qj Qk Qi Qq Qg Q5 Q6 Y8.putAll Qt Qd Q3 Q1 Qb Qa Qc Q0 Q2 Q7
section
attribute [local simp] Wt Q4p Qww Z6 Xt9 Xok Xnk Xop Xso Q0h Qwt Q05 Y6 J7 Xnh Qx2 Qx0 Qzx V3 Jz V6 Y3 Qv8 Qva Qx7 Q0d Q0e Xr4 Xbo Xr5 Jl Jk Qn6 Qgh Qaf Qc5 Qna Qeo Qcf Qn4 Qai Qgg Qer Qbv W8 Qel Qcd Qaj Q5g Xos Q5r Qwq
theorem Ysn(b:Nat){h h0:Heap}{R0 W:Nat}{p8:Bl.P8}{t:Tr Value}(t4:t.get 4=some (.pointer (some ⟨R0,0,none⟩)))(t6:t.get 6=some (.pointer (some ⟨W,0,none⟩)))(hW:h0.get W=some (.cells true 1 ((Ydj p8).map Qa3)))(hR:h0.get R0=some (.cells true 1 z32))(ho:Old h h0)(hR0:h.next<=R0)
  (K:KP) (hk:∀ h',Old h h'->K (.ret (.agg ⟨(Bl.out p8).map u8v⟩)) h'):Jr (E b) (Q65 Tryd.prog (E b).G) (D0 b) none Q3j ⟨⟨81,t⟩,[],h0⟩ (X7k (E b) (DD b) Qgn K):=by
 have lW:=Heap.get_lt hW
 have lR:=Heap.get_lt hR
 simp
 refine Qff (OI R0 W p8 h) 32 ⟨_,_,h0.next,0,rfl,by simp[t4],by simp[t6],by simp,by simp,by omega,rfl,by rw[Heap.get_push,if_pos rfl];rfl,by rw[Heap.get_push,if_neg (by omega),hW],by rw[Heap.get_push,if_neg (by omega),hR],ho.push' _,ho.1,hR0,by omega,by omega⟩ ?_
 rintro k s' ⟨t,h1,O,i,rfl,t4,t6,t11,t65,hi,rfl,gO,gW,gR,hold,hO,_,n1,n2⟩ _
 by_cases hlt:i < 32
 ·have hlt':(i:Int) < 32:=by omega
  obtain⟨q,r,rfl,hq,hr⟩:∃ q r,i=4*q+r/\q < 8/\r < 4:=⟨i / 4,i % 4,by omega,by omega,by omega⟩
  obtain⟨w,hw⟩:∃ w,(Ydj p8)[q]? = some w:=⟨_,List.getElem?_eq_getElem (by simpa[Ydj]using hq)⟩
  have ho1:=Yws p8 hq hr hw
  have hlt2:4*(q:Int)+(r:Int) < 32:=by omega
  have e1:Int.tdiv ((4*q+r:Nat):Int) 4=(q:Int):=by rw[Int.tdiv_eq_ediv_of_nonneg (by omega)];omega
  have e2:Int.tmod ((4*q+r:Nat):Int) 4=(r:Int):=by rw[Int.tmod_eq_emod_of_nonneg (by omega)];omega
  have e1':Int.tdiv (4*(q:Int)+(r:Int)) 4=(q:Int):=by rw[Int.tdiv_eq_ediv_of_nonneg (by omega)];omega
  have e2':Int.tmod (4*(q:Int)+(r:Int)) 4=(r:Int):=by rw[Int.tmod_eq_emod_of_nonneg (by omega)];omega
  have w1:IntKind.i64.wrap (q:Int)=(q:Int):=Wp (by omega) (by omega)
  have w2:IntKind.i64.wrap (8*(r:Int))=8*(r:Int):=Wp (by omega) (by omega)
  have w3:IntKind.i64.wrap (4*(q:Int)+(r:Int)+1)=((4*q+r+1:Nat):Int):=by rw[Wp (by omega) (by omega)];omega
  have x1:Zm (E b).toEnv 96 (.pointer (some ⟨W,0,none⟩)) (.int .i64 (q:Int))=some (.pointer (some ⟨W,q,none⟩)):=by rw[Xop b ⟨by omega,by omega⟩];simp
  have x2:Zm (E b).toEnv 34 (.pointer (some ⟨O,0,none⟩)) (.int .i64 (4*(q:Int)+(r:Int)))=some (.pointer (some ⟨O,4*q+r,none⟩)):=by rw[Xr4 b ⟨by omega,by omega⟩];simp
  have g1:V2 h1 W q=some (.int .u32 (.ofNat w)):=by rw[Jb gW,List.getElem?_map,hw];rfl
  obtain⟨bv,hbv⟩:∃ bv:Nat,bv=w / 2 ^ (8*r) % 256:=⟨_,rfl⟩
  obtain⟨fv,hfv⟩:∃ fv:Int,fv=Int.fdiv (w:Int) (2 ^ (8*r)):=⟨_,rfl⟩
  have sh:Qfz (binOp .shr 94 (.int .u32 (w:Int)) (.int .i64 (8*(r:Int))))=some (.int .u32 fv):=by rw[hfv];exact Yym w hr
  have ws:IntKind.u8.wrap fv=(bv:Int):=by rw[hfv,hbv];exact Yqu w r
  rw[<- hbv]at ho1
  obtain⟨h2,e⟩:∃ h2,h2=h1.set O (some (.cells true 1 ((((Bl.out p8).take (4*q+r)).map u8v++List.replicate (32-(4*q+r)) (Value.int .u8 0)).set (4*q+r) (Value.int .u8 (bv:Int))))):=⟨_,rfl⟩
  have st:Qbh h1 O (4*q+r) [.int .u8 (bv:Int)]=some h2:=by rw[e];exact Qp0 gO (by simp[Q2v];omega)
  simp[t4,t6,t11,t65,hlt2,e1',e2',w1,w2,w3,x1,x2,g1,sh,ws,st]
  have lO:=Heap.get_lt gO
  refine⟨32-(4*q+r+1),by omega,_,h2,O,4*q+r+1,rfl,by simp[t4],by simp[t6],by simp[t11],by simp,by omega,rfl,?_,?_,?_,?_,hO,hR0,n1,n2⟩
  ·rw[e,Heap.get_set _ _ _ _ lO,if_pos rfl]
   congr 2
   rw[List.set_append_right _ _ (by simp[Q2v];omega),List.take_succ,ho1]
   have : 32-(4*q+r)=(32-(4*q+r+1))+1:=by omega
   rw[this,List.replicate_succ]
   simp[Q2v]
   have e5:4*q+r-min (4*q+r) 32=0:=by omega
   rw[e5]
   rfl
  ·rw[e,Heap.get_set _ _ _ _ lO,if_neg (by omega),gW]
  ·rw[e,Heap.get_set _ _ _ _ lO,if_neg (by omega),gR]
  ·rw[e];exact hold.set _ hO lO
 ·have : i=32:=by omega
  subst this
  have ld:Qll h1 O 0 32=some (.agg ⟨(Bl.out p8).map u8v⟩):=by
   rw[Qe3 gO (by simp[Q2v])]
   congr 3
  have st:Qbh h1 R0 0 ((Bl.out p8).map u8v)=some (h1.set R0 (some (.cells true 1 ((Bl.out p8).map u8v)))):=by
   rw[Qgt gR (by simp[z32,Q2v])]
   congr 4
  have lR:=Heap.get_lt gR
  have l32:((Bl.out p8).map u8v).length=32:=by simp[Q2v]
  have g2:Qll (h1.set R0 (some (.cells true 1 ((Bl.out p8).map u8v)))) R0 0 32=some (.agg ⟨(Bl.out p8).map u8v⟩):=by
   rw[Qe3 (by rw[Heap.get_set _ _ _ _ lR,if_pos rfl]) (by simp[Q2v])]
   congr 3
  simp[t4,t6,t11,t65,ld,Q2v,st,g2]
  exact hk _ (hold.set _ (by omega) lR)
end
def KI(R0 W:Nat)(FIN:Bl.P8)(h:Heap)(k:Nat)(s:St):Prop:=∃ (t:Tr Value) (h1:Heap) (tv:Value) (l:List Nat) (count:Nat) (p8:Bl.P8),s=⟨⟨81,t⟩,[],h1⟩/\t.get 4=some (.pointer (some ⟨R0,0,none⟩))/\t.get 6=some (.pointer (some ⟨W,0,none⟩))/\t.get 7=some tv/\t.get 8=some (.int .u64 (count:Int)) /\
 SN h1 tv l/\h1.get W=some (.cells true 1 ((Ydj p8).map Qa3))/\h1.get R0=some (.cells true 1 z32)/\Old h h1/\h.next<=W/\h.next<=R0/\W≠R0/\Un tv≠some W/\Ysb p8 l count=FIN/\k=l.length/\count+l.length < 1000000000000/\Ab.LaidIn h1 Qhm
theorem SN.ofB{h:Heap}{v:Value}{l:List Nat}(s:SB h v (l.map Int.ofNat)):SN h v l:=by
 have e:(l.map Int.ofNat).map i8=l.map u8v:=by rw[List.map_map];rfl
 rw[SB,e,List.length_map]at s
 exact s
theorem LaidIn.old{h h':Heap}(l:Ab.LaidIn h Qhm)(a:Old h h'):Ab.LaidIn h' Qhm:=fun x hx=>a.get (l x hx)
theorem X32{z:Int}(h0:0<=z)(h1:z<=18446744073709551615):IntKind.u64.wrap z=z:=by
 have : IntKind.u64.wrap z=z % 18446744073709551616:=by simp[IntKind.wrap,IntKind.bits,IntKind.signed]
 rw[this]
 omega
theorem Ym7(b:Nat)(B:Nat)(h:Heap):Qay (E b).toEnv 99 (.pointer (some ⟨B,0,none⟩)) none none none h=some (.slice (some ⟨B,0,none⟩) 64 64,h):=by kernel_rfl
theorem Yr2{h:Heap}(l:Ab.LaidIn h Qhm):∀ x ∈ Qhm,x.1 < h.next:=fun x hx=>Heap.get_lt (l x hx)
section
attribute [local simp] Wt Q4p Qww Z6 Xt9 Xok Xnk Xop Xso Q0h Qwt Q05 Y6 J7 Qx2 Qx0 Qzx V3 Jz V6 Y3 Qv8 Qva Qx7 Q0d Q0e Xr4 Xbo Xr5 Jl Jk Qn6 Qgh Qaf Qc5 Qna Qeo Qcf Qn4 Qai Qgg Qer Qbv W8 Qel Qcd Qaj Q5g Xos Q5r Qwq
theorem Yop(b:Nat){h h0:Heap}{R0 W:Nat}{p8 FIN:Bl.P8}{t:Tr Value}{tv:Value}{l:List Nat}{count:Nat}(hl:Ab.LaidIn h Qhm)(t4:t.get 4=some (.pointer (some ⟨R0,0,none⟩)))(t6:t.get 6=some (.pointer (some ⟨W,0,none⟩)))(t7:t.get 7=some tv)(t8:t.get 8=some (.int .u64 (count:Int)))(sn:SN h0 tv l)
  (hW:h0.get W=some (.cells true 1 ((Ydj p8).map Qa3))) (hR:h0.get R0=some (.cells true 1 z32)) (ho:Old h h0) (hw0:h.next<=W) (hR0:h.next<=R0) (hne:W≠R0) (hv:Un tv≠some W) (hf:Ysb p8 l count=FIN) (hc:count+l.length < 1000000000000)
  (K:KP) (hk:∀ h',Old h h'->K (.ret (.agg ⟨(Bl.out FIN).map u8v⟩)) h'):Jr (E b) (Q65 Tryd.prog (E b).G) (D0 b) none Qwn ⟨⟨81,t⟩,[],h0⟩ (X7k (E b) (DD b) Qgn K):=by
 rw[Jl,V6]
 refine Qff (KI R0 W FIN h) l.length ⟨_,h0,tv,l,count,p8,rfl,t4,t6,t7,t8,sn,hW,hR,ho,hw0,hR0,hne,hv,hf,rfl,hc,LaidIn.old hl ho⟩ ?_
 rintro k s' ⟨t,h1,tv,l,count,p8,rfl,t4,t6,t7,t8,sn,gW,gR,hold,_,_,_,hv,hf,rfl,hc,hl1⟩ _
 obtain⟨h2,e2⟩:∃ h2,h2=h1.push (.cells true 1 (List.replicate 64 (.int .u8 0))):=⟨_,rfl⟩
 have a12:=Q33 e2
 have n2:=X0g e2
 have gB:h2.get h1.next=some (.cells true 1 (List.replicate 64 (.int .u8 0))):=by rw[e2,Heap.get_push,if_pos rfl]
 obtain⟨h3,c1,c2,c3,c4⟩:=Yul b gB (by simp) (sn.old a12)
 have a13:Old h1 h3:=⟨by omega,fun c hc=>by rw[c4 c (by omega),a12.2 c hc]⟩
 have lenB:=Ya8 (b:=b) (h1:=h3) sn.sb
 have sn3:SN h3 tv l:=sn.old a13
 obtain⟨tv',h4,f1,f2,f3,f4,f5⟩:=Yut (b:=b) sn3.sb (k:=.i64) (i:=((min l.length 64:Nat):Int)) (by omega) (by simp;omega)
 have sn4:SN h4 tv' (l.drop 64):=by
  have e:(l.map Int.ofNat).drop (min l.length 64)=(l.drop 64).map Int.ofNat:=by
   rw[<- List.map_drop]
   congr 1
   rcases Nat.le_total l.length 64 with q | q
   ·rw[Nat.min_eq_left q,List.drop_eq_nil_of_le (Nat.le_refl _),List.drop_eq_nil_of_le q]
   ·rw[Nat.min_eq_right q]
  rw[Int.toNat_natCast,e]at f2
  exact SN.ofB f2
 have lenD:∀ hx,Q43 (E b).toEnv 43 tv' hx=some (.int .i64 ((l.length-64:Nat):Int)):=fun hx=>by have:=Ya8 (b:=b) (h1:=hx) sn4.sb;rw[List.length_map,List.length_drop]at this;exact this
 have a14:Old h1 h4:=a13.trans f3
 have gB4:h4.get h1.next=some (.cells true 1 ((l.take 64++List.replicate (64-l.length) 0).map u8v)):=by
  rw[f3.2 _ (by omega),c2]
  congr 2
  rw[List.map_append,List.map_replicate]
  congr 1
  rw[List.drop_replicate]
  congr 1
  omega
 have gW4:h4.get W=some (.cells true 1 ((Ydj p8).map Qa3)):=a14.get gW
 have gR4:h4.get R0=some (.cells true 1 z32):=a14.get gR
 have ldW:Qll h4 W 0 8=some (p8v p8):=by
  rw[Qe3 gW4 (by simp[Ydj])]
  rfl
 have lW:=Heap.get_lt gW4
 have lW1:=Heap.get_lt gW
 have hmin:((min l.length 64:Nat):Int)<=64:=by omega
 have wc:IntKind.u64.wrap ((min l.length 64:Nat):Int)=((min l.length 64:Nat):Int):=X32 (by omega) (by omega)
 have wa:IntKind.u64.wrap ((count:Int)+((min l.length 64:Nat):Int))=((count+min l.length 64:Nat):Int):=by rw[X32 (by omega) (by omega)];omega
 obtain⟨m,hm⟩:∃ m:Nat,m=min l.length 64:=⟨_,rfl⟩
 rw[<- hm]at c1 f1 wc wa
 have hmx:¬ ((m:Int) < 0):=by omega
 have pd:Pad (l.take 64) (l.take 64++List.replicate (64-l.length) 0):=⟨_,rfl⟩
 have l64:(l.take 64++List.replicate (64-l.length) 0).length=64:=by simp;omega
 have key:∀ (last:Bool) (p8':Bl.P8),p8'=Bl.take p8 (l.take 64) (count+m) last->∀ K',K' (.ret (p8v p8')) h4->FK b 40 [p8v p8,.pointer (some ⟨h1.next,0,none⟩),.int .u64 (((count+m:Nat):Int)),.bool last] h4 K':=by
  intro last p8' hp K' hk'
  refine Yuo b (LaidIn.old hl1 a14) p8 gB4 l64 (count+m) last K' ?_
  rw[Yq1 p8 pd,<- hp]
  exact hk'
 have stW:∀ p8':Bl.P8,Qbh h4 W 0 ((Ydj p8').map Qa3)=some (h4.set W (some (.cells true 1 ((Ydj p8').map Qa3)))):=fun p8'=>by
  rw[Qgt gW4 (by simp[Ydj])]
  rfl
 have alB:Qhn (E b).toEnv 99 h1=some (.pointer (some ⟨h1.next,0,none⟩),h2):=by rw[e2];exact Xnh b h1
 simp[Xnh,-Xnh,alB,t4,t6,t7,t8,Ym7,c1,f1,wc,wa,ldW]
 have stA:∀ p8':Bl.P8,Qd1 (E b).toEnv 96 (.pointer (some ⟨W,0,none⟩)) (p8v p8') h4=some (h4.set W (some (.cells true 1 ((Ydj p8').map Qa3)))):=fun p8'=>(Xnk b h4 W 0 _ (by simp)).trans (stW p8')
 have old5:∀ x,Old h (h4.set W x):=fun x=>(hold.trans a14).set _ (by assumption) lW
 have gW5:∀ x,(h4.set W x).get W=x:=fun x=>by rw[Heap.get_set _ _ _ _ lW,if_pos rfl]
 have gR5:∀ x,(h4.set W x).get R0=some (.cells true 1 z32):=fun x=>by rw[Heap.get_set _ _ _ _ lW,if_neg (by assumption),gR4]
 by_cases h64:l.length<=64
 ·have e0:((l.length-64:Nat):Int)=0:=by omega
  have em:m=l.length:=by omega
  have et:l.take 64=l:=List.take_of_length_le h64
  rw[e0]at lenD
  have hF:FIN=Bl.take p8 (l.take 64) (count+m) true:=by rw[<- hf,Ymu h64,em,et]
  simp[lenD]
  refine key true FIN hF _ ?_
  simp[Xnh,stA,t6,lenD]
  refine Ysn b (W:=W) (p8:=FIN) (h:=h) (R0:=R0) (by simp[t4]) (by simp[t6]) (gW5 _) (gR5 _) (old5 _) (by assumption) K hk
 ·have e0:¬ ((l.length-64:Nat):Int)=0:=by omega
  have em:m=64:=by omega
  subst em
  have e1:(decide (((l.length-64:Nat):Int)=0))=false:=by simpa using e0
  have hlt:64 < l.length:=by omega
  have e0n:¬ (l.length-64=0):=by omega
  simp only[lenD,V3,e1]
  refine key false _ rfl _ ?_
  simp[Xnh,stA,t6,lenD,e0n]
  refine⟨l.length-64,by omega,_,_,tv',l.drop 64,count+64,Bl.take p8 (l.take 64) (count+64) false,rfl,by simp[t4],by simp[t6],by simp,by simp,?_,gW5 _,gR5 _,old5 _,by assumption,by assumption,by assumption,?_,by rw[<- hf];exact(Ylv hlt).symm,by simp,by simp;omega,?_⟩
  ·refine Sl.keep sn4 fun c hc hlt => ?_
   rw[Heap.get_set _ _ _ _ lW,if_neg]
   rintro rfl
   rcases f5 _ hc with q | q
   ·exact hv q
   ·omega
  ·intro q
   rcases f5 _ q with q | q
   ·exact hv q
   ·omega
  ·intro x hx
   have hlx:=hl1 x hx
   have hx2:x.1≠W:=by
    intro q
    have:=Yr2 hl x hx
    omega
   rw[Heap.get_set _ _ _ _ lW,if_neg (Ne.symm hx2)]
   exact a14.get hlx
end
theorem gn0(b:Nat):(0 < (E b).G.n)=True:=eq_true (by show 0 < nv;decide)
theorem Yzc(x:Int):Qfz (binOp .shl 94 (.int .u32 x) (.int .u64 8))=some (.int .u32 (IntKind.u32.wrap (x*2 ^ 8))):=by kernel_rfl
theorem Yn2(x y:Int):Qfz (binOp .xor 94 (.int .u32 x) (.int .u32 y))=some (.int .u32 (Xh3 x y)):=by kernel_rfl
def Ym0(k:Nat):Int:=Xh3 1779033703 (Xh3 (Xh3 16842752 (IntKind.u32.wrap (IntKind.u32.wrap (k:Int)*2 ^ 8))) 32)
theorem Yqx:∀ k,k < 33->Ym0 k=Int.ofNat (Bl.start k).h0:=by decide
def K0(k:Nat):Bl.P8:=Bl.start k
theorem Xuh:∀ n,(Bl.zeros n).map u8v=List.replicate n (.int .u8 0)
 | 0=>rfl
 | n+1=>by
  have : (Bl.zeros (n+1)).map u8v=u8v 0::(Bl.zeros n).map u8v:=rfl
  rw[this,Xuh n,List.replicate_succ];rfl
theorem Q2n(v:Value):∀ n,Vf [v] n=List.replicate n v
 | 0=>rfl
 | n+1=>by simp[Vf,Q2n v n,List.replicate_succ]
section
attribute [local simp] Wt Qww Z6 Xt9 Xnk Xop Xso Q0h Q05 Y6 J7 Xnh Qx2 Qx0 Qzx V3 Jz V6 Y3 Qv8 Qva Qx7 Q0d Q0e Xr4 Xbo Xr5 kON kOC kNN kNP kRR kRP kEN kER kTN kTR kTX kTP kBN kBR kBX kBP kCS kCR kCE kAM
theorem X1r(b:Nat){h hA:Heap}(laid:Ab.LaidIn h Qhm){R:Nat}{kv tv:Value}{key l:List Nat}{tr:Tr Value}(aA:Old h hA)(hR:h.next<=R)(gA:hA.get R=some (.cells true 1 z32))(sk:SN hA kv key)(sl:SN hA tv l)(hkey:key.length<=32)(hl:l.length < 1000000000)
  (t0:tr.get 0=some kv) (t1:tr.get 1=some tv) (t4:tr.get 4=some (.pointer (some ⟨R,0,none⟩))) (K:KP) (hk:∀ h',Old h h'->K (.ret (.agg ⟨(Bl.keyed1 key l).map u8v⟩)) h') :
  Jr (E b) (Q65 Tryd.prog (E b).G) (D0 b) none Q30 ⟨⟨81,tr⟩,[],hA⟩ (X7k (E b) (DD b) Qgn K):=by
 have lenk:∀ hx,Q43 (E b).toEnv 43 kv hx=some (.int .i64 (key.length:Int)):=fun hx=>Qhl (T43 b) sk
 have lent:∀ hx,Q43 (E b).toEnv 43 tv hx=some (.int .i64 (l.length:Int)):=fun hx=>Qhl (T43 b) sl
 have h32:¬ (32:Int) < (key.length:Int):=by omega
 have gbeg:h.get 0=some (.cells false 0 Qdv):=laid (0,Qdv) (by simp[Qhm])
 obtain⟨hB,eB⟩:∃ hB,hB=hA.push (.cells true 1 (List.replicate 8 (.int .u32 0))):=⟨_,rfl⟩
 have lA:=Heap.get_lt gA
 have aB:=Q33 eB
 have nB:=X0g eB
 have gB:hB.get hA.next=some (.cells true 1 (List.replicate 8 (.int .u32 0))):=by rw[eB,Heap.get_push,if_pos rfl]
 have alB:Qhn (E b).toEnv 96 hA=some (.pointer (some ⟨hA.next,0,none⟩),hB):=by rw[eB];exact Xok b hA
 have ld0:Qll hA 0 0 8=some (.agg ⟨Qdv⟩):=by
  rw[Qe3 (aA.get gbeg) (by simp[Qdv])];rfl
 obtain⟨hC,eC⟩:∃ hC,hC=hB.set hA.next (some (.cells true 1 Qdv)):=⟨_,rfl⟩
 have lB:=Heap.get_lt gB
 have gC:hC.get hA.next=some (.cells true 1 Qdv):=by rw[eC,Heap.get_set _ _ _ _ lB,if_pos rfl]
 have stC:Qd1 (E b).toEnv 96 (.pointer (some ⟨hA.next,0,none⟩)) (.agg ⟨Qdv⟩) hB=some hC:=(Xnk b hB hA.next 0 _ (by simp[Qdv])).trans (by rw[Qgt gB (by simp[Qdv]),eC];rfl)
 have ldC:V2 hC hA.next 0=some (.int .u32 1779033703):=by rw[Jb gC];rfl
 obtain⟨hD,eD⟩:∃ hD,hD=hC.set hA.next (some (.cells true 1 (Qdv.set 0 (.int .u32 (Ym0 key.length))))):=⟨_,rfl⟩
 have lC:=Heap.get_lt gC
 have stD:Qbh hC hA.next 0 [.int .u32 (Ym0 key.length)]=some hD:=by rw[eD];exact Qp0 gC (by simp[Qdv])
 have gD:hD.get hA.next=some (.cells true 1 ((Ydj (Bl.start key.length)).map Qa3)):=by
  rw[eD,Heap.get_set _ _ _ _ lC,if_pos rfl,Yqx _ (by omega)];rfl
 have aC:Old h hC:=by rw[eC];exact(aA.trans aB).set _ (by omega) lB
 have aAD:Old hA hD:=by rw[eD,eC];exact(aB.set _ (Nat.le_refl _) lB).set _ (Nat.le_refl _) (by rw[<- eC];exact lC)
 have aD:Old h hD:=by rw[eD];exact aC.set _ (by omega) lC
 have gR:hD.get R=some (.cells true 1 z32):=by
  rw[eD,Heap.get_set _ _ _ _ lC,if_neg (by omega),eC,Heap.get_set _ _ _ _ lB,if_neg (by omega)]
  exact aB.get gA
 have hx0:Zm (E b).toEnv 96 (.pointer (some ⟨hA.next,0,none⟩)) (.int .i64 0)=some (.pointer (some ⟨hA.next,0,none⟩)):=Xop b ⟨by omega,by omega⟩
 obtain⟨a0,ha0⟩:∃ a:Int,a=IntKind.u32.wrap (key.length:Int):=⟨_,rfl⟩
 obtain⟨a1,ha1⟩:∃ a:Int,a=IntKind.u32.wrap (a0*2 ^ 8):=⟨_,rfl⟩
 obtain⟨a2,ha2⟩:∃ a:Int,a=Xh3 16842752 a1:=⟨_,rfl⟩
 obtain⟨a3,ha3⟩:∃ a:Int,a=Xh3 a2 32:=⟨_,rfl⟩
 obtain⟨a4,ha4⟩:∃ a:Int,a=Ym0 key.length:=⟨_,rfl⟩
 have x0:Qvb (E b).toEnv 3 94 (.int .i64 (key.length:Int))=some (.int .u32 a0):=by rw[ha0];exact Qwt b _ _
 have x1:Qfz (binOp .shl 94 (.int .u32 a0) (.int .u64 8))=some (.int .u32 a1):=by rw[ha1];exact Yzc a0
 have x2:Qfz (binOp .xor 94 (.int .u32 16842752) (.int .u32 a1))=some (.int .u32 a2):=by rw[ha2];exact Yn2 _ _
 have x3:Qfz (binOp .xor 94 (.int .u32 a2) (.int .u32 32))=some (.int .u32 a3):=by rw[ha3];exact Yn2 _ _
 have x4:Qfz (binOp .xor 94 (.int .u32 1779033703) (.int .u32 a3))=some (.int .u32 a4):=by rw[ha4,Ym0,<- ha0,<- ha1,<- ha2,<- ha3];exact Yn2 _ _
 rw[<- ha4]at stD
 simp[Q4p,Xok,Qwt,Jl,Jk,-Xok,gn0,t0,t1,t4,alB,lenk,lent,h32,ld0,stC,hx0,ldC,stD,-Qwt,x0,x1,x2,x3,x4]
 have laidD:=LaidIn.old laid aD
 have fin:∀ (t:Tr Value) (h0:Heap) (v:Value) (text:List Nat),text=Bl.textOf key l->t.get 4=some (.pointer (some ⟨R,0,none⟩))->t.get 6=some (.pointer (some ⟨hA.next,0,none⟩))->t.get 7=some v->t.get 8=some (.int .u64 0)->SN h0 v text->Old hD h0->Un v≠some hA.next ->
   Jr (E b) (Q65 Tryd.prog (E b).G) (D0 b) none Qwn ⟨⟨81,t⟩,[],h0⟩ (X7k (E b) (DD b) Qgn K):=by
  intro t h0 v text e t4 t6 t7 t8 sn o0 hv
  refine Yop b (count:=0) (FIN:=Ysb (Bl.start key.length) text 0) laid t4 t6 t7 t8 sn (o0.get gD) (o0.get gR) (aD.trans o0) (by omega) hR (by omega) hv rfl ?_ K fun h' q => ?_
  ·subst e
   cases key with
   | nil=>simp[Bl.textOf];omega
   | cons k ks =>
    have z:∀ n,(Bl.zeros n).length=n:=fun n=>by induction n with
     | zero=>rfl
     | succ n ih=>simp[Bl.zeros,ih]
    simp[Bl.textOf,z]at hkey ⊢;omega
  ·rw[e]at *
   exact hk h' q
 cases hkc:key with
 | nil =>
  subst hkc
  simp[Q4p,Xok,Qwt,Jl,Jk,-Jl,t0,t1,t4]
  refine fin _ hD tv l rfl (by simp[t0,t1,t4]) (by simp[t0,t1,t4]) (by simp[t0,t1,t4]) (by simp[t0,t1,t4]) (sl.old aAD) (Old.refl _) fun q => ?_
  have:=sl.blk q
  omega
 | cons k ks =>
  have h0:0 < key.length:=by rw[hkc];simp
  rw[<- hkc]
  have w1:IntKind.i64.wrap (64+(l.length:Int))=((64+l.length:Nat):Int):=by rw[Wp (by omega) (by omega)];omega
  have w2:IntKind.i64.wrap (64-(key.length:Int))=((64-key.length:Nat):Int):=by rw[Wp (by omega) (by omega)];omega
  obtain⟨h1,e1⟩:∃ h1,h1=hD.push (.cells true 1 (List.replicate (64+l.length) (.int .u8 0))):=⟨_,rfl⟩
  have a1:=Q33 e1
  have mk:Qfm (E b).toEnv 43 (.int .i64 0) (.int .i64 ((64+l.length:Nat):Int)) hD=some (.slice (some ⟨hD.next,0,none⟩) 0 (64+l.length),h1):=by
   simp only[Qfm,Xte,(T43 b).d,Yof]
   rw[if_pos ⟨by omega,by omega,by omega,by rw[Q0y];omega,by rw[Qfy];omega⟩,Yex,e1]
   have : (Value.int .u8 0).cells.toList=[.int .u8 0]:=rfl
   rw[this,Q2n]
   simp only[Int.toNat_natCast,Int.toNat_zero]
  have mk':Qfm (E b).toEnv 43 (.int .i64 0) (.int .i64 (64+(l.length:Int))) hD=some (.slice (some ⟨hD.next,0,none⟩) 0 (64+l.length),h1):=by
   have:=mk
   rw[show((64+l.length:Nat):Int)=64+(l.length:Int) by omega]at this
   exact this
  have o1:Own h1 hD.next 1 (.slice (some ⟨hD.next,0,none⟩) 0 (64+l.length)) 0 []:=.inr ⟨hD.next,64+l.length,1,_,rfl,Nat.le_refl _,by rw[e1,Heap.get_push,if_pos rfl,List.nil_append],rfl,by omega,by unfold Qg5;omega,.inr ⟨by unfold Qg5;omega,by simp⟩⟩
  obtain⟨v2,h2,c1,o2,b2⟩:=Qxn (T43 b) (tx:=43) (m:=key.length) (ys:=key.map u8v) Qfy (by omega) o1 a1.1 (Xpx (T43 b) Qfy (sk.old (aAD.trans a1))) (by simp) (by rw[Q0y];omega) (by omega)
  have nz:Xmz (E b).toEnv 3 R5 (.int .i64 ((64-key.length:Nat):Int)) h2=some (64-key.length,List.replicate (64-key.length) (.int .u8 0)):=by
   have hi:R3.desc=.int .i64:=by kernel_rfl
   simp only[Xmz,Yp1,hi]
   rw[if_pos ⟨by omega,by omega,by rw[Q0y];omega,by rw[Qfy];omega⟩,Yex]
   have : (Value.int .u8 0).cells.toList=[.int .u8 0]:=rfl
   rw[this,Q2n]
   simp
  obtain⟨v3,h3,c2,o3,b3⟩:=Qxn (T43 b) (tx:=3) Qfy (by omega) o2 (Nat.le_trans a1.1 b2.1) nz (by simp) (by rw[Q0y];omega) (by omega)
  have a2:Old hD h2:=b2.old a1 o1
  have a3:Old hD h3:=b3.old a2 o2
  obtain⟨v4,h4,c3,o4,b4⟩:=Qxn (T43 b) (tx:=43) (m:=l.length) (ys:=l.map u8v) Qfy (by omega) o3 a3.1 (Xpx (T43 b) Qfy (sl.old (aAD.trans a3))) (by simp) (by rw[Q0y];omega) (by omega)
  have a4:Old hD h4:=b4.old a3 o3
  simp[Q4p,Xok,Qwt,Jl,Jk,-Jl,t0,t1,t4,h0,lenk,lent,w1,w2,mk',c1,c2,c3]
  have zl:(Bl.zeros (64-key.length)).length=64-key.length:=by have:=congrArg List.length (Xuh (64-key.length));simpa using this
  have tx:Bl.textOf key l=key++(Bl.zeros (64-key.length)++l):=by rw[hkc];rfl
  have sn:SN h4 v4 (key++(Bl.zeros (64-key.length)++l)):=by
   have:=o4.sl
   have e1 : []++key.map u8v++List.replicate (64-key.length) (Value.int .u8 0)++l.map u8v=(key++(Bl.zeros (64-key.length)++l)).map u8v:=by
    rw[List.map_append,List.map_append,Xuh]
    simp
   have e2:0+key.length+(64-key.length)+l.length=(key++(Bl.zeros (64-key.length)++l)).length:=by
    simp only[List.length_append,zl];omega
   rw[e1,e2]at this
   exact this
  refine fin _ h4 v4 _ tx.symm (by simp[t0,t1,t4]) (by simp[t0,t1,t4]) (by simp[t0,t1,t4]) (by simp[t0,t1,t4]) sn a4 fun q => ?_
  have:=(o4.from q).1
  have:=Heap.get_lt gD
  omega
theorem Yhc(b:Nat){h:Heap}(laid:Ab.LaidIn h Qhm){kv tv:Value}{key l:List Nat}(sk:SN h kv key)(sl:SN h tv l)(hkey:key.length<=32)(hl:l.length < 1000000000)(K:KP)(hk:∀ h',Old h h'->K (.ret (.agg ⟨(Bl.keyed1 key l).map u8v⟩)) h') :
  FK b 26 [kv,tv] h K:=by
 refine FF b (J8 b) Xbm Xoy Xlh rfl ?_
 have lenk:∀ hx,Q43 (E b).toEnv 43 kv hx=some (.int .i64 (key.length:Int)):=fun hx=>Qhl (T43 b) sk
 have h32:¬ (32:Int) < (key.length:Int):=by omega
 obtain⟨hA,eA,aA,gA⟩:=X0q h z32
 have alA:Qhn (E b).toEnv 34 h=some (.pointer (some ⟨h.next,0,none⟩),hA):=by rw[eA];exact Q4p b h
 simp[Q4p,Xok,Qwt,Jl,Jk,-Q4p,-Jk,alA,lenk,h32]
 exact X1r b laid aA (Nat.le_refl _) gA (sk.old aA) (sl.old aA) hkey hl (by simp) (by simp) (by simp) K hk
end
section
attribute [local simp] Q6k Xrr Qn6 Qgh Qaf Qc5 Qna Qeo Qcf Qn4 Qai Qgg Qer Qbv W8 Qel Qcd Qaj Q5g Xos Q5r Qwq
theorem Yxm(b:Nat){h:Heap}(laid:Ab.LaidIn h Qhm){tv:Value}{l:List Nat}(sl:SN h tv l)(hl:l.length < 1000000000)(K:KP)(hk:∀ h',Old h h'->K (.ret (.agg ⟨(Bl.keyed1 [] l).map u8v⟩)) h') :
  FK b 39 [tv] h K:=by
 refine FF b (Wm b) Xz4 Yel Ybx rfl ?_
 obtain⟨hA,eA,aA,gA⟩:=X0q h z32
 have alA:Qhn (E b).toEnv 34 h=some (.pointer (some ⟨h.next,0,none⟩),hA):=by rw[eA];exact Q4p b h
 simp[Q4p,-Q4p,alA]
 refine Yhc b (LaidIn.old laid aA) (kv:=.slice none 0 0) (key:=[]) Sl.nil (sl.old aA) (by simp) hl _ fun h2 a2 => ?_
 have g2:h2.get h.next=some (.cells true 1 z32):=a2.get gA
 have kl:(Bl.keyed1 [] l).length=32:=Q2v _
 have l2:=Heap.get_lt g2
 have st:Qbh h2 h.next 0 ((Bl.keyed1 [] l).map u8v)=some (h2.set h.next (some (.cells true 1 ((Bl.keyed1 [] l).map u8v)))):=by
  rw[Qgt g2 (by simp[z32,kl])]
  congr 4
 have g3:Qll (h2.set h.next (some (.cells true 1 ((Bl.keyed1 [] l).map u8v)))) h.next 0 32=some (.agg ⟨(Bl.keyed1 [] l).map u8v⟩):=by
  rw[Qe3 (by rw[Heap.get_set _ _ _ _ l2,if_pos rfl]) (by simp[kl])]
  congr 3
 simp[Q4p,Xr5,st,kl,g3]
 exact hk _ ((aA.trans a2).set _ (Nat.le_refl _) l2)
end
theorem Ygn(b:Nat)(B o:Nat)(h:Heap):Qay (E b).toEnv 34 (.pointer (some ⟨B,o,none⟩)) none none none h=some (.slice (some ⟨B,o,none⟩) 32 32,h):=by kernel_rfl
section
attribute [local simp] Wt Qww Z6 Xt9 Xok Xnk Xop Xso Q0h Qwt Q05 Y6 J7 Xnh Qx2 Qx0 Qzx V3 Jz V6 Y3 Qv8 Qva Qx7 Q0d Q0e Xr4 Xbo Xr5 Jl kON kOC kNN kNP kRR kRP kEN kER kTN kTR kTX kTP kBN kBR kBX kBP kCS kCR kCE kAM
theorem Yo0(b:Nat){h:Heap}(laid:Ab.LaidIn h Qhm){kv tv:Value}{key l:List Nat}(sk:SN h kv key)(sl:SN h tv l)(hkl:key.length < 1000000000)(hl:l.length < 1000000000)(K:KP)(hk:∀ h',Old h h'->K (.ret (.agg ⟨(Bl.keyed key l).map u8v⟩)) h') :
  FK b 26 [kv,tv] h K:=by
 by_cases h32:key.length<=32
 ·have e:Bl.keyed key l=Bl.keyed1 key l:=by unfold Bl.keyed;rw[Q5t h32]
  rw[e]at hk
  exact Yhc b laid sk sl h32 hl K hk
 ·have e:Bl.keyed key l=Bl.keyed1 (Bl.keyed1 [] key) l:=by
   unfold Bl.keyed
   have : Nat.ble key.length 32=false:=by
    cases hq:Nat.ble key.length 32 with
    | false=>rfl
    | true=>rw[Nat.ble_eq]at hq;omega
   rw[this]
  rw[e]at hk
  refine FF b (J8 b) Xbm Xoy Xlh rfl ?_
  have lenk:∀ hx,Q43 (E b).toEnv 43 kv hx=some (.int .i64 (key.length:Int)):=fun hx=>Qhl (T43 b) sk
  have h32':(32:Int) < (key.length:Int):=by omega
  obtain⟨hA,eA,aA,gA⟩:=X0q h z32
  have alA:Qhn (E b).toEnv 34 h=some (.pointer (some ⟨h.next,0,none⟩),hA):=by rw[eA];exact Q4p b h
  simp[Q4p,Jk,-Q4p,-Jk,alA,lenk,h32']
  refine Yxm b (LaidIn.old laid aA) (sk.old aA) hkl _ fun h2 a2 => ?_
  obtain⟨dg,hdg⟩:∃ d,d=Bl.keyed1 [] key:=⟨_,rfl⟩
  rw[<- hdg]at hk ⊢
  have kl:dg.length=32:=by rw[hdg];exact Q2v _
  obtain⟨hB,eB⟩:∃ hB,hB=h2.push (.cells true 1 z32):=⟨_,rfl⟩
  have alB:Qhn (E b).toEnv 34 h2=some (.pointer (some ⟨h2.next,0,none⟩),hB):=by rw[eB];exact Q4p b h2
  have gB:hB.get h2.next=some (.cells true 1 z32):=by rw[eB,Heap.get_push,if_pos rfl]
  have lB:=Heap.get_lt gB
  obtain⟨hC,eC⟩:∃ hC,hC=hB.set h2.next (some (.cells true 1 (dg.map u8v))):=⟨_,rfl⟩
  have stC:Qbh hB h2.next 0 (dg.map u8v)=some hC:=by
   rw[Qgt gB (by simp[z32,kl]),eC]
   congr 4
   simp[z32,kl]
  have gC:hC.get h2.next=some (.cells true 1 (dg.map u8v)):=by rw[eC,Heap.get_set _ _ _ _ lB,if_pos rfl]
  have aC:Old h2 hC:=by rw[eC,eB];exact(Old.push _ _).set _ (Nat.le_refl _) (by rw[<- eB];exact lB)
  simp[Q4p,Jk,-Q4p,-Jk,alB,kl,stC,Ygn]
  refine X1r b laid (aA.trans (a2.trans aC)) (Nat.le_refl _) ((a2.trans aC).get gA) (kv:=.slice (some ⟨h2.next,0,none⟩) 32 32) (key:=dg) ?_ (sl.old (aA.trans (a2.trans aC))) (by omega) hl (by simp) (by simp) (by simp) K hk
  have:=(Own.new (n0:=0) (z:=1) (n:=32) (c:=32) (Nat.zero_le _) gC (by simp[kl]) (by decide) (.inr rfl)).sl
  rw[SN,kl]
  exact this
end
def Yzs(ks ds:List Nat):List Nat:=(Bl.keyed1 ks ds).take 16
def Yzo(ks:List Nat)(o:Int):List Nat:=(ks.drop ((o-1).toNat*32)).take 32
structure Asks where
 ks:List Nat
 dg:List Nat
 lk:Int
 hks:ks.length=1024
 hdg:dg.length=32
def Y0k(l:List Nat):List Int:=l.map Int.ofNat
def Y07(l:List Int):List Nat:=l.map Int.toNat
def Y0l(a:Asks)(o:Int)(t:List Int):Bool:=decide (1<=o/\o<=32) && decide (Yzs (Yzo a.ks o) a.dg=Y07 t)
def Yzq(x:List Int):List Int:=Y0k (Bl.keyed1 [] (Y07 x))
def X91(x:List Int)(st:List (List Int)):Except Int (List (List Int)):=if st.length < 16 then .ok (x::st)else .error 16
def doF(a:Asks)(code:Int)(data:List Int)(st:List (List Int)):Except Int (List (List Int)) :=
 if code=129 then(match st with | x::r=>(X91 x r).bind (X91 x) | [] => .error 16)
 else if code=130 then(match st with | _::r => .ok r | [] => .error 16)
 else if code=131 then(match st with | x::r=>X91 (Yzq x) r | [] => .error 16)
 else if code=132 then(match st with | x::y::r=>X91 (Y00 (decide (x=y))) r | _ => .error 16)
 else if code=133 then(match st with | x::r=>if isT x then .ok r else .error 16 | [] => .error 16)
 else if code=134 then(match st with | x::y::r=>if x.length=1/\y.length=16 then X91 (Y00 (Y0l a (x.getD 0 0) y)) r else .error 16 | _ => .error 16)
 else if code=135 then(match st with | x::r=>if x.length=4 then(if Ywo x 4<=a.lk then .ok r else .error 18)else .error 16 | [] => .error 16)
 else if code=139 then(match st with | x::r=>(X91 x r).bind (X91 [(x.length:Int)]) | [] => .error 16)
 else X91 data st
def Yqh(a:Asks)(code:Int)(data:List Int)(st:List (List Int))(op:List Br):Except Int (List (List Int) × List Br) :=
 match brF code st op with
 | some none => .error 16
 | some (some p) => .ok p
 | none=>if Yy7 op then .ok (st,op)else(doF a code data st).map fun st'=>(st',op)
structure Wd (h:Heap) (MB:Nat->Prop) (e:Menv) (a:Asks):Prop where
 laid:Ab.LaidIn h Qhm
 low:∀ c,MB c->3<=c
 next:3<=h.next
 nota:∃ ν z ow,e.nk=.pointer (some ⟨ν,0,none⟩)/\h.get ν=some (.cells ow z (a.ks.map u8v))/\¬ MB ν
 dg:e.dig=a.dg.map u8v
 lk:e.lk=a.lk
theorem Ytf{x:Nat × List Value}(hx:x ∈ Qhm):x.1 < 3:=by
 simp only[Qhm,List.mem_cons,List.not_mem_nil,or_false]at hx
 rcases hx with rfl | rfl
 ·exact of_decide_eq_true (by kernel_rfl)
 ·exact of_decide_eq_true (by kernel_rfl)
theorem Wd.mv{h h':Heap}{MB MB':Nat->Prop}{e:Menv}{a:Asks}(w:Wd h MB e a)(m:Mv MB MB' h h'):Wd h' MB' e a:=by
 obtain⟨laid,low,nx,⟨ν,z,ow,q1,q2,q3⟩,dg,lk⟩:=w
 refine⟨fun x hx => ?_,fun c hc => ?_,Nat.le_trans nx m.next,⟨ν,z,ow,q1,?_,fun hc => ?_⟩,dg,lk⟩
 ·have g:=laid x hx
  rw[m.same x.1 (Heap.get_lt g) (fun hb=>by have:=low _ hb;have:=Ytf hx;omega)]
  exact g
 ·rcases m.sub c hc with h | h
  ·exact low c h
  ·omega
 ·rw[m.same ν (Heap.get_lt q2) q3];exact q2
 ·rcases m.sub ν hc with h | h
  ·exact q3 h
  ·have:=Heap.get_lt q2;omega
theorem Wd.old{h h':Heap}{MB:Nat->Prop}{e:Menv}{a:Asks}(w:Wd h MB e a)(o:Old h h'):Wd h' MB e a:=w.mv (Mv.old o)
theorem Itm.at{h:Heap}{MB:Nat->Prop}{B z:Nat}{ow:Bool}{xs:List Int}(hg:h.get B=some (.cells ow z (xs.map i8)))(hb:Bytes xs)(hl:xs.length < 1000000)(hm:¬ MB B):Itm h MB (.slice (some ⟨B,0,none⟩) xs.length xs.length) xs :=
 ⟨.inr ⟨B,0,xs.length,ow,z,[],[],rfl,by simpa using hg,rfl,by simp,Nat.le_refl _,by unfold Qg5;omega,fun q=>by unfold Qg5 at q;omega⟩,hb,fun c hc=>by cases hc;exact hm⟩
structure At (h:Heap) (MB:Nat->Prop) (μ:Nat) (e:Menv) (a:Asks) (ps:List (Value × List Int)) (op:List Br) (dv:Value) (data:List Int):Prop where
 m:Mach h MB μ e ps op
 w:Wd h MB e a
 i:Itm h MB dv data
 l1:ps.length<=16
 l2:op.length < 1000
 l3:∀ p ∈ ps,p.2.length<=64
section
variable(b:Nat){h:Heap}{MB:Nat->Prop}{μ:Nat}{e:Menv}{a:Asks}{ps:List (Value × List Int)}{op:List Br}{dv:Value}{data:List Int}(A:At h MB μ e a ps op dv data)
include A
variable(hoff:Yy7 op=false)
include hoff
end
section
variable(b:Nat){h:Heap}{MB:Nat->Prop}{μ:Nat}{e:Menv}{a:Asks}{ps:List (Value × List Int)}{op:List Br}{dv:Value}{data:List Int}(A:At h MB μ e a ps op dv data)(hoff:Yy7 op=false)
include A hoff
end
section
variable(b:Nat){h:Heap}{MB:Nat->Prop}{μ:Nat}{e:Menv}{a:Asks}{ps:List (Value × List Int)}{op:List Br}{dv:Value}{data:List Int}(A:At h MB μ e a ps op dv data)
include A
end
def ItsAt(h:Heap)(items:List (Value × List Int)):Prop:=∀ p ∈ items,SB h p.1 p.2/\Bytes p.2
theorem ItsAt.old{h h':Heap}{items:List (Value × List Int)}(i:ItsAt h items)(a:Old h h'):ItsAt h' items:=fun p hp=>⟨(i p hp).1.old a,(i p hp).2⟩
end Go.Proofs.YtcnhfkplgknomaaDoor
end
noncomputable section
namespace Go.Ab
section
variable{P:Program}{E:Env2 P}{C:CallF}{k:Nat}
end
end Go.Ab
namespace Go.Proofs.YtcnhfkplgknomaaDoor
open Go Go.Ab
set_option maxRecDepth 100000
end Go.Proofs.YtcnhfkplgknomaaDoor
end
noncomputable section
namespace Go.Proofs.YtcnhfkplgknomaaDoor
open Go Go.Ab
set_option maxRecDepth 100000
def Bd(st:List (List Int)):Prop:=st.length<=16/\∀ x ∈ st,x.length<=64
theorem Bd.nil:Bd []:=⟨by simp,by simp⟩
abbrev Wo(h:Heap)(e:Menv)(a:Asks):Prop:=Wd h (fun _=>False) e a
theorem Wo.old{h h':Heap}{e:Menv}{a:Asks}(w:Wo h e a)(o:Old h h'):Wo h' e a:=w.mv (Mv.old o)
theorem Wo.mb{h h':Heap}{MB:Nat->Prop}{e:Menv}{a:Asks}(w:Wo h e a)(o:Old h h')(hm:∀ c,MB c->h.next<=c):Wd h' MB e a :=
 w.mv ⟨o.1,fun c hc _=>o.2 c hc,fun c hc => .inr (hm c hc)⟩
theorem Ybj(k l:List Nat):(Bl.keyed k l).length=32:=by
 unfold Bl.keyed
 split <;> exact Q2v _
theorem Xrp(seed:List Nat):∀ n i,(Ql5 seed n i).length=n*32
 | 0,_=>rfl
 | n+1,i=>by simp only[Ql5,List.length_append,Ybj,Xrp seed n];omega
theorem Ywu(b:Nat)(x0 x1 x2 x3:Int)(h:Heap):Jf (E b).toEnv 43 4 [(0,.int .u8 x0),(1,.int .u8 x1),(2,.int .u8 x2),(3,.int .u8 x3)] h=some (.slice (some ⟨h.next,0,none⟩) 4 4,h.push (.cells true 1 [.int .u8 x0,.int .u8 x1,.int .u8 x2,.int .u8 x3])):=by kernel_rfl
theorem Yoh(b:Nat){h:Heap}{B o n c:Nat}{z:Nat}{l:List Value}(hg:h.get B=some (.cells true z l)):Xes (E b).toEnv 43 43 (.slice (some ⟨B,o,none⟩) n c) h=some (.slice (some ⟨B,o,none⟩) n c,h):=by
 have h1:R43.desc=.slice 5:=(T43 b).d
 have h3:R5.desc=.int .u8:=by kernel_rfl
 simp only[Xes,Xte,h1,Yof,h3,hg,beq_self_eq_true]
theorem Yil{h:Heap}(l:Ab.LaidIn h laidAll):Ab.LaidIn h Qhm:=fun x hx=>l x (by
 simp only[Qhm,laidAll,List.mem_cons,List.not_mem_nil,or_false]at hx ⊢
 rcases hx with rfl | rfl <;> simp)
theorem SB.push{h:Heap}{xs:List Int}(hl:xs.length < 1000000):SB (h.push (.cells true 1 (xs.map i8))) (.slice (some ⟨h.next,0,none⟩) xs.length xs.length) xs :=
 (Own.new (n0:=0) (Nat.zero_le _) (by rw[Heap.get_push,if_pos rfl]) (by simp) (by unfold Qg5;omega) (.inr rfl)).sl
theorem Yv1(b:Nat)(h:Heap):Yxw (E b).toEnv 43 (.slice none 0 0)=some (.int .i64 0):=by kernel_rfl
theorem Ysy(b:Nat)(h:Heap)(v1 v2:Value)(n1:Qjj v1=true)(c1:v1.cells = #[v1])(n2:Qjj v2=true)(c2:v2.cells = #[v2]):Jf (E b).toEnv 134 2 [(0,v1),(1,v2)] h=some (.slice (some ⟨h.next,0,none⟩) 2 2,h.push (.cells true 1 [v1,v2])):=by
 have hz:R43.zero.cells.toList=[.slice none 0 0]:=by kernel_rfl
 have e1:(Nat.ble (2*R43.size) 16777216 && Nat.ble 1 R43.size)=true:=by rw[Xo7];rfl
 simp only[Jf,Ysf,(Yvm b).d,Xte,e1,if_true,hz,Xo7]
 simp[Xql,n1,n2,c1,c2,Vf,Qod,over,Nat.ble]
theorem X8k(b:Nat)(n:Nat)(hn:n < 1000000000)(h:Heap):Xmz (E b).toEnv 3 R5 (.int .i64 (n:Int)) h=some (n,List.replicate n (.int .u8 0)):=by
 have hi:R3.desc=.int .i64:=by kernel_rfl
 simp only[Xmz,Yp1,hi]
 rw[if_pos ⟨by omega,by omega,by rw[Q0y];omega,by rw[Qfy];omega⟩,Yex]
 have : (Value.int .u8 0).cells.toList=[.int .u8 0]:=rfl
 rw[this,Q2n]
 simp
attribute [local simp] Y7 kON kOC Y9 kNN kNP kRR kRP kEN kER Q4 Qu J5 Zh aop Qe nth Ab.g0 gv gs Q9 Q8 aev evs evO Qf Tr.get_put St.put Tm.put flat flatA Zg Qm Qh Ql Qn Qj Qk Qi Qq Qg Q5 Q6 kTN kTR kTX kTP kBN kBR kBX kBP kCS kCR kCE kAM Y8.putAll Qt Qd Q3 Q1 Qb Qa Qc Q0 Q2 Q7
section
attribute [local simp] Qfp Qtq Jp Qo9 Y3 Yrv Qww J7 Z6
theorem Yqf(b:Nat){h:Heap}(n:Nat)(hn:n < 1000000000)(K:KP)(hk:∀ v h',OB h' h.next v []->Old h h'->K (.ret v) h'):FK b 63 [.slice none 0 0,.int .i64 (n:Int)] h K:=by
 refine FF b (Jp b) Q2s Q8m Q5x rfl ?_
 have c0:=Yv1 b h
 have l0:∀ hx,Q43 (E b).toEnv 43 (.slice none 0 0) hx=some (.int .i64 0):=fun hx=>Ya8 (b:=b) (xs:=[]) (h:=h) Sl.nil
 have h0:¬ (n:Int) < 0:=by omega
 have w0:IntKind.i64.wrap (n:Int)=(n:Int):=Wp (by omega) (by omega)
 by_cases hz:n=0
 ·subst hz
  have wz:IntKind.i64.wrap 0=0:=Wp (by omega) (by omega)
  simp[c0,l0,wz]
  exact hk _ h Own.nil (Old.refl _)
 ·have hp:0 < (n:Int):=by omega
  have hp':0 < n:=by omega
  have wz:IntKind.i64.wrap 0=0:=Wp (by omega) (by omega)
  obtain⟨v1,k1,o1, -⟩:=Ygz (T43 b) (h:=h) (n0:=h.next) (v:=.slice none 0 0) (n:=0) (xs:=[]) (k:=.i64) (i:=0) Qfy (by omega) Own.nil (by omega) (by omega)
  obtain⟨v2,h2,k2,o2,b2⟩:=Qxn (T43 b) (tx:=3) (m:=n) Qfy (by omega) o1 (Nat.le_refl _) (X8k b n hn h) (by simp) (by rw[Q0y];omega) (by omega)
  obtain⟨v3,k3,o3, -⟩:=Ygz (T43 b) (k:=.i64) (i:=0) Qfy (by omega) o2 (by omega) (by omega)
  have a2:Old h h2:=b2.old (Old.refl _) o1
  simp[c0,l0,h0,wz,w0,hp,hp',k1,k2,k3]
  exact hk v3 h2 (by show Own h2 h.next 1 v3 0 [];simpa using o3) a2
end
def Xzy(l:List (Value × List Int)):List Int:=(l.map (·.2)).flatten
theorem X9y{l:List (Value × List Int)}{i:Nat}{p:Value × List Int}(h:l[i]? = some p):Xzy (l.take (i+1))=Xzy (l.take i)++p.2:=by
 rw[List.take_succ,h]
 simp[Xzy]
theorem Ymh(l:List (Value × List Int))(i:Nat):(Xzy (l.take i)).length<=(Xzy l).length:=by
 have e:Xzy l=Xzy (l.take i)++Xzy (l.drop i):=by unfold Xzy;rw[<- List.flatten_append,<- List.map_append,List.take_append_drop]
 rw[e,List.length_append]
 omega
def CC1(sv:Value)(items:List (Value × List Int))(h:Heap)(k:Nat)(s:St):Prop:=∃ (t:Tr Value) (i:Nat),s=⟨⟨36,t⟩,[],h⟩/\t.get 0=some sv/\t.get 9=some sv/\t.get 10=some (.int .i64 (items.length:Int))/\t.get 3=some (.int .i64 ((Xzy (items.take i)).length:Int))/\t.get 11=some (.int .i64 (i:Int))/\i<=items.length/\k=items.length-i
def CC2(sv:Value)(items:List (Value × List Int))(h:Heap)(k:Nat)(s:St):Prop:=∃ (t:Tr Value) (h1:Heap) (o:Value) (i:Nat),s=⟨⟨36,t⟩,[],h1⟩/\t.get 25=some sv/\t.get 26=some (.int .i64 (items.length:Int))/\t.get 6=some o/\t.get 27=some (.int .i64 (i:Int))/\i<=items.length/\k=items.length-i/\OB h1 h.next o (Xzy (items.take i))/\Old h h1
section
attribute [local simp] Ja
theorem Ym3(b:Nat){h:Heap}{sv:Value}{items:List (Value × List Int)}(ss:Sl h 1 sv items.length (items.map (·.1)))(hn:items.length<=1000000)(its:∀ p ∈ items,SB h p.1 p.2)(hl:(Xzy items).length < 1000000000)(K:KP)
  (hk:∀ v h',OB h' h.next v (Xzy items)->Old h h'->K (.ret v) h'):FK b 54 [sv] h K:=by
 refine FF b (Ja b) Q0g Q4o Q3e rfl ?_
 have lenS:∀ hx,Q43 (E b).toEnv 134 sv hx=some (.int .i64 (items.length:Int)):=fun hx=>Qhl (Yvm b) ss
 simp[V0,U2,X2q,Y3,X2c,Qzr,Qww,Y6,Yrv,Jp,Ve,lenS]
 refine Qff (CC1 sv items h) items.length ⟨_,0,rfl,by simp,by simp,by simp,by simp[Xzy],by simp,by omega,rfl⟩ ?_
 rintro k s' ⟨t,i,rfl,t0,t9,t10,t3,t11,hi,rfl⟩ _
 by_cases hlt:i < items.length
 ·have hlt':(i:Int) < (items.length:Int):=by omega
  obtain⟨⟨v,x⟩,hpi⟩:∃ p,items[i]? = some p:=⟨_,List.getElem?_eq_getElem hlt⟩
  obtain⟨bk,off,q1,q2,q3, -⟩:=Xps (Yvm b) Xo7 ss (k:=.i64) (i:=(i:Int)) (by omega) (by omega)
  have q4:V2 h bk off=some v:=by
   have:=q3 0 (by omega)
   simpa[hpi]using this
  have sx:=its (v,x) (List.mem_of_getElem? hpi)
  have len:=fun hx=>Ya8 (b:=b) (h1:=hx) sx
  have hw:=wS (i:=i) (by omega)
  have e1:=X9y hpi
  have e2:=Ymh items (i+1)
  rw[e1,List.length_append]at e2
  simp only at e2 sx len
  have w1:IntKind.i64.wrap (((Xzy (items.take i)).length:Int)+(x.length:Int))=((Xzy (items.take i)).length:Int)+(x.length:Int):=Wp (by omega) (by omega)
  have n1:¬ ((Xzy (items.take i)).length:Int)+(x.length:Int) < 0:=by omega
  simp[V0,U2,X2q,Y3,X2c,Qzr,Qww,Y6,Yrv,Jp,Ve,t0,t9,t10,t3,t11,hlt',q2,q4,len,w1,n1,hw]
  refine⟨items.length-(i+1),by omega,_,i+1,rfl,by simp[t0],by simp[t9],by simp[t10],?_,by simp,by omega,rfl⟩
  rw[e1]
  simp
 ·have hlt':¬ (i:Int) < (items.length:Int):=by omega
  have : i=items.length:=by omega
  subst this
  rw[List.take_of_length_le (Nat.le_refl _)]at t3
  simp[V0,U2,X2q,Y3,X2c,Qzr,Qww,Y6,Yrv,Jp,Ve,t0,t9,t10,t3,t11]
  refine Yqf b _ hl _ fun v0 h0 o0 a0 => ?_
  simp[V0,U2,X2q,Y3,X2c,Qzr,Qww,Y6,Yrv,Jp,Ve,t0,lenS]
  refine Qff (CC2 sv items h) items.length ⟨_,h0,v0,0,rfl,by simp,by simp,by simp,by simp,by omega,rfl,by simpa[Xzy]using o0,a0⟩ ?_
  rintro k s' ⟨t,h1,o,i,rfl,t25,t26,t6,t27,hi,rfl,ob,hold⟩ _
  by_cases hlt:i < items.length
  ·have hlt':(i:Int) < (items.length:Int):=by omega
   obtain⟨⟨v,x⟩,hpi⟩:∃ p,items[i]? = some p:=⟨_,List.getElem?_eq_getElem hlt⟩
   obtain⟨bk,off,q1,q2,q3, -⟩:=Xps (Yvm b) Xo7 (ss.old hold) (k:=.i64) (i:=(i:Int)) (by omega) (by omega)
   have q4:V2 h1 bk off=some v:=by
    have:=q3 0 (by omega)
    simpa[hpi]using this
   have sx:=its (v,x) (List.mem_of_getElem? hpi)
   have hw:=wS (i:=i) (by omega)
   have e1:=X9y hpi
   have e2:=Ymh items (i+1)
   rw[e1,List.length_append]at e2
   simp only at e2 sx
   obtain⟨v',h',k1,k2,k3⟩:=Ylf (b:=b) ob hold.1 (sx.old hold) (by omega)
   simp[V0,U2,X2q,Y3,X2c,Qzr,Qww,Y6,Yrv,Jp,Ve,t25,t26,t6,t27,hlt',q2,q4,k1,hw]
   refine⟨items.length-(i+1),by omega,_,h',v',i+1,rfl,by simp[t25],by simp[t26],by simp,by simp,by omega,rfl,?_,k3.old hold ob⟩
   rw[e1]
   exact k2
  ·have hlt':¬ (i:Int) < (items.length:Int):=by omega
   have : i=items.length:=by omega
   subst this
   rw[List.take_of_length_le (Nat.le_refl _)]at ob
   simp[V0,U2,X2q,Y3,X2c,Qzr,Qww,Y6,Yrv,Jp,Ve,t25,t26,t6,t27]
   exact hk o h1 ob hold
theorem Yoa(b:Nat){h:Heap}{v1 v2:Value}{xs ys:List Int}(s1:SB h v1 xs)(s2:SB h v2 ys)(hl:xs.length+ys.length < 1000000000)(K:KP)(hk:∀ v h',OB h' h.next v (xs++ys)->Old h h'->K (.ret v) h') :
  FK b 41 [v1,v2] h K:=by
 refine FF b (Qsq b) Xsv X39 X03 rfl ?_
 obtain⟨hA,eA⟩:∃ hA,hA=h.push (.cells true 1 [v1,v2]):=⟨_,rfl⟩
 have bl:Jf (E b).toEnv 134 2 [(0,v1),(1,v2)] h=some (.slice (some ⟨h.next,0,none⟩) 2 2,hA):=by
  obtain⟨n1,c1⟩:=Xqd s1.one
  obtain⟨n2,c2⟩:=Xqd s2.one
  rw[eA]
  exact Ysy b h v1 v2 n1 c1 n2 c2
 have aA:=Q33 eA
 have ss:Sl hA 1 (.slice (some ⟨h.next,0,none⟩) 2 2) 2 [v1,v2]:=(Own.new (n0:=0) (z:=1) (Nat.zero_le _) (by rw[eA,Heap.get_push,if_pos rfl]) rfl (by decide) (.inr rfl)).sl
 simp[Q04,Xlf,Qsq,Xbq,bl]
 refine Ym3 b (items:=[(v1,xs),(v2,ys)]) ss (by simp) (fun p hp => ?_) (by simpa[Xzy]using hl) _ fun v h' o a => ?_
 ·simp at hp
  rcases hp with rfl | rfl
  ·exact s1.old aA
  ·exact s2.old aA
 ·simp[Q04,Xlf,Qsq,Xbq]
  exact hk v h' (by
   have q:=o.low aA.1
   have e:Xzy [(v1,xs),(v2,ys)]=xs++ys:=by simp[Xzy]
   rwa [e]at q) (aA.trans a)
end
theorem gn1(b:Nat):(1 < (E b).G.n)=True:=eq_true (by show 1 < nv;decide)
section
attribute [local simp] Xb9 Xx4 Qo4 Qx2 Qx0 Ynt Yi4 Yx3 Ykv Xp0 Xo3 Qsq Yrr Yry Ys2 Ys4 Y3 Ys6 Ym9 Y6 Ygd Yvg Yh0 Qes Qx7 Yml Yne
theorem Yog(b:Nat){h:Heap}(laid:Ab.LaidIn h laidAll){bv:Value}{xs:List Int}(s:SB h bv xs){n:Nat}(hn:n < 253)(hl:xs.length < 999999999)(K:KP)(hk:∀ v h',OB h' h.next v (xs ++ [(n:Int)])->Old h h'->K (.ret v) h') :
  FK b 27 [bv,.int .i64 (n:Int)] h K:=by
 refine FF b (Qo4 b) X4u Yif Yew rfl ?_
 have g1:h.get 1=some (.cells false 0 Xpe):=laid (1,Xpe) (by simp[laidAll])
 have ld:V2 h 1 2=some (.int .u64 253):=by rw[Jb g1];rfl
 have hx:Zm (E b).toEnv 104 (.pointer (some ⟨1,0,none⟩)) (.int .i64 0)=some (.pointer (some ⟨1,0,none⟩)):=by simpa using Ynt b (bk:=1) (o:=0) (k:=.i64) (i:=0) ⟨by omega,by omega⟩
 have w1:IntKind.u64.wrap (n:Int)=(n:Int):=X32 (by omega) (by omega)
 have w2:IntKind.u8.wrap (n:Int)=(n:Int):=Yze (by omega)
 have c1:(n:Int) < 253:=by omega
 have c2:n < 253:=hn
 simp[gn1,hx,ld,w1,w2,c1,c2,X5a]
 refine Yoa b (v2:=.slice (some ⟨h.next,0,none⟩) 1 1) (ys:=[(n:Int)]) (s.old (Old.push _ _)) (SB.push (xs:=[(n:Int)]) (by simp)) (by simp;omega) _ fun v h' o a => ?_
 simp
 exact hk v h' (o.low (Nat.le_succ _)) ((Old.push _ _).trans a)
end
theorem Xph(seed:List Nat):∀ n i,Ql5 seed (n+1) i=Ql5 seed n i++Bl.keyed seed [i+n]
 | 0,i=>by simp[Ql5]
 | n+1,i=>by
  rw[Ql5,Xph seed n (Nat.succ i)]
  conv=>rhs;rw[Ql5]
  rw[List.append_assoc]
  congr 3
  simp
  omega
def NWI(sv:Value)(seed:List Nat)(h:Heap)(ν:Nat)(k:Nat)(s:St):Prop:=∃ (t:Tr Value) (h1:Heap) (i:Nat),s=⟨⟨17,t⟩,[],h1⟩/\t.get 0=some sv/\t.get 3=some (.pointer (some ⟨ν,0,none⟩))/\t.get 5=some (.int .i64 (i:Int))/\i<=32/\k=32-i/\h1.get ν=some (.cells true 1 ((Ql5 seed i 1).map u8v++List.replicate ((32-i)*32) (.int .u8 0)))/\Old h h1
section
attribute [local simp] Qov Q37 Qa9 Y3 Y6 Qo4 J8 Xv2 Yiz Xbe
theorem Yxn(b:Nat){h:Heap}(laid:Ab.LaidIn h laidAll){sv:Value}{seed:List Nat}(s:SN h sv seed)(hl:seed.length < 1000000000)(K:KP)(hk:∀ ν h',h'.get ν=some (.cells true 1 ((Ql5 seed 32 1).map u8v))->h.next<=ν->Old h h'->K (.ret (.pointer (some ⟨ν,0,none⟩))) h') :
  FK b 15 [sv] h K:=by
 refine FF b (Qa9 b) X6g Yiw Yfl rfl ?_
 obtain⟨hA,eA⟩:∃ hA,hA=h.push (.cells true 1 (List.replicate 1024 (.int .u8 0))):=⟨_,rfl⟩
 have alA:Qhn (E b).toEnv 74 h=some (.pointer (some ⟨h.next,0,none⟩),hA):=by rw[eA];exact Yep b h
 have aA:=Q33 eA
 have gA:hA.get h.next=some (.cells true 1 (List.replicate 1024 (.int .u8 0))):=by rw[eA,Heap.get_push,if_pos rfl]
 simp[Yep,-Yep,alA]
 refine Qff (NWI sv seed h h.next) 32 ⟨_,hA,0,rfl,by simp,by simp,by simp,by omega,rfl,by simpa[Ql5]using gA,aA⟩ ?_
 rintro k s' ⟨t,h1,i,rfl,t0,t3,t5,hi,rfl,g1,hold⟩ _
 by_cases hlt:i < 32
 ·have hlt':(i:Int) < 32:=by omega
  have hw:=wS (i:=i) (by omega)
  simp[Yep,t0,t3,t5,hlt',hw]
  refine Yog b (Laid.old laid hold) (bv:=.slice none 0 0) (xs:=[]) (n:=i+1) Sl.nil (by omega) (by simp) _ fun v h2 o2 a2 => ?_
  have s2:SN h2 v [i+1]:=o2.sl
  simp[Yep,t0,t3,t5]
  refine Yo0 b (Yil (Laid.old laid (hold.trans a2))) (s.old (hold.trans a2)) s2 hl (by simp) _ fun h3 a3 => ?_
  obtain⟨dg,hdg⟩:∃ d,d=Bl.keyed seed [i+1]:=⟨_,rfl⟩
  rw[<- hdg]
  have kl:dg.length=32:=by rw[hdg];exact Ybj _ _
  have g3:=(a2.trans a3).get g1
  have l3:=Heap.get_lt g3
  have kf:((Ql5 seed i 1).map u8v).length=i*32:=by rw[List.length_map,Xrp]
  have hx:Zm (E b).toEnv 72 (.pointer (some ⟨h.next,0,none⟩)) (.int .i64 (i:Int))=some (.pointer (some ⟨h.next,i*32,none⟩)):=by simpa using Yiz b (bk:=h.next) (o:=0) (k:=.i64) (i:=(i:Int)) ⟨by omega,by omega⟩
  obtain⟨h4,e4⟩:∃ h4,h4=h3.set h.next (some (.cells true 1 ((Ql5 seed (i+1) 1).map u8v++List.replicate ((32-(i+1))*32) (.int .u8 0)))):=⟨_,rfl⟩
  have st:Qbh h3 h.next (i*32) (dg.map u8v)=some h4:=by
   rw[Qgt g3 (by rw[List.length_append,kf,List.length_map,kl,List.length_replicate];omega),e4]
   congr 4
   rw[<- kf,List.take_left,Xph,List.map_append,show 1+i=i+1 by omega,<- hdg,<- List.drop_drop,List.drop_left,List.drop_replicate,List.length_map,kl,show(32-i)*32-32=(32-(i+1))*32 by omega]
  have g4:h4.get h.next=some (.cells true 1 ((Ql5 seed (i+1) 1).map u8v++List.replicate ((32-(i+1))*32) (.int .u8 0))):=by rw[e4,Heap.get_set _ _ _ _ l3,if_pos rfl]
  have a4:Old h h4:=by rw[e4];exact(hold.trans (a2.trans a3)).set _ (Nat.le_refl _) l3
  simp[Yep,t0,t3,t5,hx,kl,st,hw]
  exact⟨32-(i+1),by omega,_,h4,i+1,rfl,by simp[t0],by simp[t3],by simp,by omega,rfl,g4,a4⟩
 ·have hlt':¬ (i:Int) < 32:=by omega
  have : i=32:=by omega
  subst this
  simp[Yep,t0,t3,t5]
  exact hk h.next h1 (by simpa using g1) (Nat.le_refl _) hold
end
end Go.Proofs.YtcnhfkplgknomaaDoor
end
