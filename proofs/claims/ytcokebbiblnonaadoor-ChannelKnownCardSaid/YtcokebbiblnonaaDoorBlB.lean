/-
  Rows of bytes.
-/
import Derived.Test.YtcokebbiblnonaaDoorFactsK
import Derived.Test.YtcokebbiblnonaaDoorAbG
import Derived.Test.YtcokebbiblnonaaDoorBlA
set_option linter.all false
noncomputable section
namespace Go.Proofs.YtcokebbiblnonaaDoor
open Go Go.Ab
set_option maxRecDepth 100000
def i8(z:Int):Value:=.int .u8 z
abbrev SB(h:Heap)(v:Value)(xs:List Int):Prop:=Sl h 1 v xs.length (xs.map i8)
theorem Y2p{b:Nat}{h h1:Heap}{v:Value}{xs:List Int}(s:SB h v xs):Q2a (E b).toEnv 51 v h1=some (.int .i64 xs.length):=Qk6 (T51 b) s
def Bytes(xs:List Int):Prop:=∀ z ∈ xs,0≤z∧z < 256
theorem Y57{b:Nat}{h:Heap}{v:Value}{xs:List Int}(s:SB h v xs){k:IntKind}{i:Int}(h0:0≤i)(h1:i≤xs.length):∃ v' h',Qf8 (E b).toEnv 51 v (some (.int k i)) none none h=some (v',h')∧SB h' v' (xs.drop i.toNat)∧Old h h'∧(Qb9 v≠none→Qb9 v'≠none)∧∀ c,Qb9 v'=some c→Qb9 v=some c∨c=h.next:=by
 obtain⟨v',h',k1,k2,k3,k4⟩:=Y3z (T51 b) (k:=k) Qhd (by omega) s h0 h1
 refine⟨v',h',k1,?_,k3,fun hv => ?_,fun c hc => ?_⟩
 ·rw[SB,List.length_drop]
  simpa using k2
 ·rcases k4 with⟨e,_⟩ | ⟨e,_⟩
  ·rw[e];exact hv
  ·rw[e];simp
 ·rcases k4 with⟨e,_⟩ | ⟨e,_⟩
  ·rw[e]at hc;exact .inl hc
  ·rw[e]at hc;cases hc;exact .inr rfl
end Go.Proofs.YtcokebbiblnonaaDoor
end
noncomputable section
namespace Go.Proofs.YtcokebbiblnonaaDoor
open Go Go.Ab
set_option maxRecDepth 100000
theorem Y4x(b:Nat){h:Heap}(hl:Ab.LaidIn h Qbj)(p8:Bl.P8){blk:Nat}{l:List Nat}(hg:h.get blk=some (.cells true 1 (l.map u8v)))(h64:l.length=64)(count:Nat)(last:Bool)(K:AEnd→Heap→Prop)(hk:K (.ret (p8v (Bl.take p8 l count last))) h) :
  FnK Tryd.prog (E b).G 50 [p8v p8,.pointer (some ⟨blk,0,none⟩),.int .u64 (.ofNat count),.bool last] h K:=by
 refine⟨_,_,?_,Nat.le_refl _,hk⟩
 refine Xwh (k:=100) (m:=4) mixed Yl3 Ygh (fun b=>Y2x b p8.h0 p8.h1 p8.h2 p8.h3 p8.h4 p8.h5 p8.h6 p8.h7 count l h64 last) rfl hl X90 (bs:=[blk]) rfl (by simp) (fun k d r hd hr => ?_)
   (Ys (Jl rfl) (Ys (Qtq _ _) (Ys (Jl rfl) (Ys (Jl rfl) Qay))))
 cases k with
 | zero=>simp at hd hr;subst hd;subst hr;exact⟨hg,Yrs _⟩
 | succ k=>simp at hd
abbrev SN(h:Heap)(v:Value)(l:List Nat):Prop:=Sl h 1 v l.length (l.map u8v)
theorem SN.sb{h:Heap}{v:Value}{l:List Nat}(s:SN h v l):SB h v (l.map Int.ofNat):=by
 have e:(l.map Int.ofNat).map i8=l.map u8v:=by rw[List.map_map];rfl
 rw[SB,e,List.length_map];exact s
theorem Y5g(b:Nat){h:Heap}{B:Nat}{ds:List Value}{v:Value}{l:List Nat}(hg:h.get B=some (.cells true 1 ds))(hd:ds.length=64)(s:SN h v l) :
  ∃ h',Xyp (E b).toEnv 51 (.slice (some ⟨B,0,none⟩) 64 64) v h=some (.int .i64 ((min l.length 64:Nat):Int),h')∧h'.get B=some (.cells true 1 ((l.take 64).map u8v++ds.drop (min l.length 64)))∧h'.next=h.next∧∀ c,c≠B→h'.get c=h.get c:=by
 have hmin:Nat.min l.length 64=min l.length 64:=rfl
 have hlen:Xxq v=some l.length:=by rcases s with⟨c,rfl,_,e,_⟩ | ⟨bk,o,c,ow,z',pre,post,rfl,_⟩ <;> simp_all [Xxq]
 have hsrc:Yt5 1 (Nat.min l.length 64) v h=some ((l.take 64).map u8v):=by
  rcases s with⟨c,rfl,_,e,e2⟩ | ⟨bk,o,c,ow,z',pre,post,rfl,h1,h2,h3, -⟩
  ·have : l=[]:=List.eq_nil_of_length_eq_zero e
   subst this
   simp[Yt5]
  ·have h4:Q54 (Nat.min l.length 64*1) ((pre++l.map u8v++post).drop o)=some ((l.take 64).map u8v):=by
    rw[hmin,← h2,List.append_assoc,List.drop_left,Xde (by simp;omega),List.take_append_of_le_length (by simp;omega),← List.map_take,Nat.mul_one]
    congr 2
    rcases Nat.le_total l.length 64 with q | q
    ·rw[Nat.min_eq_left q,List.take_of_length_le (Nat.le_refl _),List.take_of_length_le q]
    ·rw[Nat.min_eq_right q]
   simp only[Yt5,Ab.cellsAt,h1,h4]
 have hr:R51.desc=.slice 5:=(T51 b).d
 cases hc:(l.take 64).map u8v with
 | nil =>
  have : l=[]:=by
   cases l with
   | nil=>rfl
   | cons x l=>simp at hc
  subst this
  refine⟨h,?_,by simpa using hg,rfl,fun _ _=>rfl⟩
  rw[hc]at hsrc
  simp only[Xyp,Y14,hr,hlen,Y55,Qhd,hsrc]
 | cons x xs =>
  have hle:(x::xs).length≤ds.length:=by rw[← hc,hd];simp;omega
  have hst:storeAt h ⟨B,0,none⟩ (x::xs)=some (h.set B (some (.cells true 1 ((x::xs)++ds.drop (x::xs).length)))):=by
   simp only[storeAt,hg]
   rw[Qr1 (by simpa using hle)]
   simp
  rw[hc]at hsrc
  refine⟨h.set B (some (.cells true 1 ((x::xs)++ds.drop (x::xs).length))),?_,?_,rfl,fun c hc=>by rw[Heap.get_set _ _ _ _ (Heap.get_lt hg),if_neg (Ne.symm hc)]⟩
  ·simp only[Xyp,Y14,hr,hlen,Y55,Qhd,hsrc,hst]
   rfl
  ·rw[Heap.get_set _ _ _ _ (Heap.get_lt hg),if_pos rfl]
   congr 4
   rw[← hc,List.length_map,List.length_take,Nat.min_comm]
theorem X46:∀ (n m:Nat) (h:Bl.P8) (text:List Nat) (count:Nat),text.length < n→text.length < m→Bl.blocks n h text count=Bl.blocks m h text count
 | 0,_,_,_,_,h,_=>by omega
 | n+1,0,_,_,_,_,h=>by omega
 | n+1,m+1,h,text,count,h1,h2=>by
  simp only[Bl.blocks]
  cases hb:Nat.ble text.length 64 with
  | true=>rfl
  | false =>
   have : ¬ text.length≤64:=fun q=>by rw[← Nat.ble_eq,hb]at q;cases q
   exact X46 n m _ _ _ (by rw[List.length_drop];omega) (by rw[List.length_drop];omega)
def Ys5(p8:Bl.P8)(text:List Nat)(count:Nat):Bl.P8:=Bl.blocks text.length.succ p8 text count
theorem Yns{p8:Bl.P8}{text:List Nat}{count:Nat}(h:text.length≤64):Ys5 p8 text count=Bl.take p8 text (count+text.length) true:=by
 simp[Ys5,Bl.blocks,Q26 h]
theorem Yne{p8:Bl.P8}{text:List Nat}{count:Nat}(h:64 < text.length):Ys5 p8 text count=Ys5 (Bl.take p8 (text.take 64) (count+64) false) (text.drop 64) (count+64):=by
 have e:Nat.ble text.length 64=false:=by rw[Bool.eq_false_iff];intro q;rw[Nat.ble_eq]at q;omega
 simp only[Ys5,Bl.blocks,e]
 exact X46 text.length (text.drop 64).length.succ _ _ _ (by rw[List.length_drop];omega) (Nat.lt_succ_self _)
def Pad(l l':List Nat):Prop:=∃ n,l'=l++List.replicate n 0
theorem Qh6{l l':List Nat}(p:Pad l l'):∃ a r r',(∀ {A:Type} (K:Nat→List Nat→A),Bl.nx l K=K a r)∧(∀ {A:Type} (K:Nat→List Nat→A),Bl.nx l' K=K a r')∧Pad r r':=by
 obtain⟨n,rfl⟩:=p
 match l with
 | a::b::c::d::l=>exact⟨_,_,_,fun _=>rfl,fun _=>rfl,n,rfl⟩
 | [a,b,c] =>
  match n with
  | 0=>exact⟨_,_,_,fun _=>rfl,fun _=>rfl,0,rfl⟩
  | n+1=>exact⟨_,_,_,fun _=>rfl,fun _=>rfl,n,rfl⟩
 | [a,b] =>
  match n with
  | 0=>exact⟨_,_,_,fun _=>rfl,fun _=>rfl,0,rfl⟩
  | 1=>exact⟨_,_,_,fun _=>rfl,fun _=>rfl,0,rfl⟩
  | n+2=>exact⟨_,_,_,fun _=>rfl,fun _=>rfl,n,rfl⟩
 | [a] =>
  match n with
  | 0=>exact⟨_,_,_,fun _=>rfl,fun _=>rfl,0,rfl⟩
  | 1=>exact⟨_,_,_,fun _=>rfl,fun _=>rfl,0,rfl⟩
  | 2=>exact⟨_,_,_,fun _=>rfl,fun _=>rfl,0,rfl⟩
  | n+3=>exact⟨_,_,_,fun _=>rfl,fun _=>rfl,n,rfl⟩
 | [] =>
  match n with
  | 0=>exact⟨_,_,_,fun _=>rfl,fun _=>rfl,0,rfl⟩
  | 1=>exact⟨_,_,_,fun _=>rfl,fun _=>rfl,0,rfl⟩
  | 2=>exact⟨_,_,_,fun _=>rfl,fun _=>rfl,0,rfl⟩
  | 3=>exact⟨_,_,_,fun _=>rfl,fun _=>rfl,0,rfl⟩
  | n+4=>exact⟨_,_,_,fun _=>rfl,fun _=>rfl,n,rfl⟩
theorem Yur{l l':List Nat}(p:Pad l l'){A:Type}(K:Nat→Nat→Nat→Nat→Nat→Nat→Nat→Nat→Nat→Nat→Nat→Nat→Nat→Nat→Nat→Nat→A):Bl.words l' K=Bl.words l K:=by
 unfold Bl.words
 obtain⟨_,_,_,a0,c0,p⟩:=Qh6 p
 obtain⟨_,_,_,a1,c1,p⟩:=Qh6 p
 obtain⟨_,_,_,a2,c2,p⟩:=Qh6 p
 obtain⟨_,_,_,a3,c3,p⟩:=Qh6 p
 obtain⟨_,_,_,a4,c4,p⟩:=Qh6 p
 obtain⟨_,_,_,a5,c5,p⟩:=Qh6 p
 obtain⟨_,_,_,a6,c6,p⟩:=Qh6 p
 obtain⟨_,_,_,a7,c7,p⟩:=Qh6 p
 obtain⟨_,_,_,a8,c8,p⟩:=Qh6 p
 obtain⟨_,_,_,a9,c9,p⟩:=Qh6 p
 obtain⟨_,_,_,a10,c10,p⟩:=Qh6 p
 obtain⟨_,_,_,a11,c11,p⟩:=Qh6 p
 obtain⟨_,_,_,a12,c12,p⟩:=Qh6 p
 obtain⟨_,_,_,a13,c13,p⟩:=Qh6 p
 obtain⟨_,_,_,a14,c14,p⟩:=Qh6 p
 obtain⟨_,_,_,a15,c15,p⟩:=Qh6 p
 rw[a0,c0,a1,c1,a2,c2,a3,c3,a4,c4,a5,c5,a6,c6,a7,c7,a8,c8,a9,c9,a10,c10,a11,c11,a12,c12,a13,c13,a14,c14,a15,c15]
theorem Yr9(p8:Bl.P8){l l':List Nat}(p:Pad l l')(count:Nat)(last:Bool):Bl.take p8 l' count last=Bl.take p8 l count last:=by
 obtain⟨h0,h1,h2,h3,h4,h5,h6,h7⟩:=p8
 simp only[Bl.take,Yur p]
end Go.Proofs.YtcokebbiblnonaaDoor
end
noncomputable section
namespace Go.Proofs.YtcokebbiblnonaaDoor
open Go Go.Ab
set_option maxRecDepth 100000
def Q3n(p:Bl.P8):List Nat:=[p.h0,p.h1,p.h2,p.h3,p.h4,p.h5,p.h6,p.h7]
theorem Qta(p:Bl.P8):(Bl.out p).length=32:=by obtain⟨_,_,_,_,_,_,_,_⟩:=p;rfl
theorem Y72(p:Bl.P8){q r w:Nat}(hq:q < 8)(hr:r < 4)(hw:(Q3n p)[q]? = some w):(Bl.out p)[4*q+r]? = some (w / 2 ^ (8*r) % 256):=by
 obtain⟨h0,h1,h2,h3,h4,h5,h6,h7⟩:=p
 have hq':q=0∨q=1∨q=2∨q=3∨q=4∨q=5∨q=6∨q=7:=by omega
 have hr':r=0∨r=1∨r=2∨r=3:=by omega
 rcases hq' with rfl | rfl | rfl | rfl | rfl | rfl | rfl | rfl <;> rcases hr' with rfl | rfl | rfl | rfl <;>
  (simp only[Q3n,List.getElem?_cons_succ,List.getElem?_cons_zero,Option.some.injEq]at hw;subst hw;first | rfl | (simp[Bl.out,Bl.by4];rfl) | simp[Bl.out,Bl.by4])
theorem Y9s(x:Nat):Qdj (binOp .shr 90 (.int .u32 (.ofNat x)) (.int .i64 0))=some (.int .u32 (Int.fdiv (.ofNat x) (2 ^ 0))):=by kernel_rfl
theorem Y9z(x:Nat):Qdj (binOp .shr 90 (.int .u32 (.ofNat x)) (.int .i64 8))=some (.int .u32 (Int.fdiv (.ofNat x) (2 ^ 8))):=by kernel_rfl
theorem Y8a(x:Nat):Qdj (binOp .shr 90 (.int .u32 (.ofNat x)) (.int .i64 16))=some (.int .u32 (Int.fdiv (.ofNat x) (2 ^ 16))):=by kernel_rfl
theorem Y7h(x:Nat):Qdj (binOp .shr 90 (.int .u32 (.ofNat x)) (.int .i64 24))=some (.int .u32 (Int.fdiv (.ofNat x) (2 ^ 24))):=by kernel_rfl
theorem Y9x(x:Nat){r:Nat}(hr:r < 4):Qdj (binOp .shr 90 (.int .u32 (.ofNat x)) (.int .i64 (8*(r:Int))))=some (.int .u32 (Int.fdiv (.ofNat x) (2 ^ (8*r)))):=by
 have hr':r=0∨r=1∨r=2∨r=3:=by omega
 rcases hr' with rfl | rfl | rfl | rfl
 ·exact Y9s x
 ·exact Y9z x
 ·exact Y8a x
 ·exact Y7h x
theorem Yzk(x r:Nat):IntKind.u8.wrap (Int.fdiv (.ofNat x) (2 ^ (8*r)))=.ofNat (x / 2 ^ (8*r) % 256):=by
 have e:Int.fdiv (.ofNat x) (2 ^ (8*r))=.ofNat (x / 2 ^ (8*r)):=by
  have : ((2:Int) ^ (8*r))=Int.ofNat (2 ^ (8*r)):=by simp
  rw[this]
  show Int.fdiv (x:Int) ((2 ^ (8*r):Nat):Int)=((x / 2 ^ (8*r):Nat):Int)
  rw[Int.fdiv_eq_ediv_of_nonneg _ (Int.natCast_nonneg _)]
  exact(Int.natCast_ediv _ _).symm
 rw[e]
 show((Int.ofNat (x / 2 ^ (8*r))) % (2 ^ 8:Int))=_
 exact(Int.natCast_emod _ _).symm
def z32:List Value:=List.replicate 32 (.int .u8 0)
def OI(R0 W:Nat)(p8:Bl.P8)(h:Heap)(k:Nat)(s:St):Prop:=∃ (t:Tr Value) (h1:Heap) (O i:Nat),s=⟨⟨81,t⟩,[],h1⟩∧t.get 4=some (.pointer (some ⟨R0,0,none⟩))∧t.get 6=some (.pointer (some ⟨W,0,none⟩))∧t.get 11=some (.pointer (some ⟨O,0,none⟩))∧t.get 65=some (.int .i64 (i:Int)) ∧
 i≤32∧k=32-i∧h1.get O=some (.cells true 1 (((Bl.out p8).take i).map u8v++List.replicate (32-i) (.int .u8 0)))∧h1.get W=some (.cells true 1 ((Q3n p8).map V1))∧h1.get R0=some (.cells true 1 z32)∧Old h h1∧h.next≤O∧h.next≤R0∧O≠W∧O≠R0
section
attribute [local simp] Qcg Qfp Qch V3 Qqj Yo Yg Va Ykl X93 X5g Ybq Qce Qe2 Qcj Up Y0 Yr X5y Qe0 Qdz Xe3 Z6 Qbo Qbz Xv Qbr Qbq Qaq Qdy Qdx Qpf Qhy Jn Qap Yd Qrd Qmn Yi Qg1 Qhj Qr7 Qjt Qhe Qqw Q5 Xh Zz Zf aop Qh nth Ab.g0 gv gs Q4 Qe aev evs evO Qk Tr.get_put St.put Tm.put flat flatA Zd Qn Qq Qp Qr Qm Qo Qs Qu Ql Q7 Q8 Qfy Qmp Qje Qha Qeo Qk1 Qhk Qg4 Xnn X3u Xm3 Qyu Yh.putAll X6 Qa Q3 Q0 Qd Qb Qf Q1 Q2 Q9
theorem Y5q(b:Nat){h h0:Heap}{R0 W:Nat}{p8:Bl.P8}{t:Tr Value}(t4:t.get 4=some (.pointer (some ⟨R0,0,none⟩)))(t6:t.get 6=some (.pointer (some ⟨W,0,none⟩)))(hW:h0.get W=some (.cells true 1 ((Q3n p8).map V1)))(hR:h0.get R0=some (.cells true 1 z32))(ho:Old h h0)(hR0:h.next≤R0)
  (K:AEnd→Heap→Prop) (hk:∀ h',Old h h'→K (.ret (.agg ⟨(Bl.out p8).map u8v⟩)) h'):Wt (E b) (Qkn Tryd.prog (E b).G) (D0 b) none Qyo ⟨⟨81,t⟩,[],h0⟩ (X1u (E b) (DD b) Qkq K):=by
 have lW:=Heap.get_lt hW
 have lR:=Heap.get_lt hR
 simp
 refine Qgm (OI R0 W p8 h) 32 ⟨_,_,h0.next,0,rfl,by simp[t4],by simp[t6],by simp,by simp,by omega,rfl,by rw[Heap.get_push,if_pos rfl];rfl,by rw[Heap.get_push,if_neg (by omega),hW],by rw[Heap.get_push,if_neg (by omega),hR],ho.push' _,ho.1,hR0,by omega,by omega⟩ ?_
 rintro k s' ⟨t,h1,O,i,rfl,t4,t6,t11,t65,hi,rfl,gO,gW,gR,hold,hO,_,n1,n2⟩ _
 by_cases hlt:i < 32
 ·have hlt':(i:Int) < 32:=by omega
  obtain⟨q,r,rfl,hq,hr⟩:∃ q r,i=4*q+r∧q < 8∧r < 4:=⟨i / 4,i % 4,by omega,by omega,by omega⟩
  obtain⟨w,hw⟩:∃ w,(Q3n p8)[q]? = some w:=⟨_,List.getElem?_eq_getElem (by simpa[Q3n]using hq)⟩
  have ho1:=Y72 p8 hq hr hw
  have hlt2:4*(q:Int)+(r:Int) < 32:=by omega
  have e1:Int.tdiv ((4*q+r:Nat):Int) 4=(q:Int):=by rw[Int.tdiv_eq_ediv_of_nonneg (by omega)];omega
  have e2:Int.tmod ((4*q+r:Nat):Int) 4=(r:Int):=by rw[Int.tmod_eq_emod_of_nonneg (by omega)];omega
  have e1':Int.tdiv (4*(q:Int)+(r:Int)) 4=(q:Int):=by rw[Int.tdiv_eq_ediv_of_nonneg (by omega)];omega
  have e2':Int.tmod (4*(q:Int)+(r:Int)) 4=(r:Int):=by rw[Int.tmod_eq_emod_of_nonneg (by omega)];omega
  have w1:IntKind.i64.wrap (q:Int)=(q:Int):=Qa9 (by omega) (by omega)
  have w2:IntKind.i64.wrap (8*(r:Int))=8*(r:Int):=Qa9 (by omega) (by omega)
  have w3:IntKind.i64.wrap (4*(q:Int)+(r:Int)+1)=((4*q+r+1:Nat):Int):=by rw[Qa9 (by omega) (by omega)];omega
  have x1:J2 (E b).toEnv 92 (.pointer (some ⟨W,0,none⟩)) (.int .i64 (q:Int))=some (.pointer (some ⟨W,q,none⟩)):=by rw[Ybq b ⟨by omega,by omega⟩];simp
  have x2:J2 (E b).toEnv 30 (.pointer (some ⟨O,0,none⟩)) (.int .i64 (4*(q:Int)+(r:Int)))=some (.pointer (some ⟨O,4*q+r,none⟩)):=by rw[Qpf b ⟨by omega,by omega⟩];simp
  have g1:Vs h1 W q=some (.int .u32 (.ofNat w)):=by rw[Qai gW,List.getElem?_map,hw];rfl
  obtain⟨bv,hbv⟩:∃ bv:Nat,bv=w / 2 ^ (8*r) % 256:=⟨_,rfl⟩
  obtain⟨fv,hfv⟩:∃ fv:Int,fv=Int.fdiv (w:Int) (2 ^ (8*r)):=⟨_,rfl⟩
  have sh:Qdj (binOp .shr 90 (.int .u32 (w:Int)) (.int .i64 (8*(r:Int))))=some (.int .u32 fv):=by rw[hfv];exact Y9x w hr
  have ws:IntKind.u8.wrap fv=(bv:Int):=by rw[hfv,hbv];exact Yzk w r
  rw[← hbv]at ho1
  obtain⟨h2,e⟩:∃ h2,h2=h1.set O (some (.cells true 1 ((((Bl.out p8).take (4*q+r)).map u8v++List.replicate (32-(4*q+r)) (Value.int .u8 0)).set (4*q+r) (Value.int .u8 (bv:Int))))):=⟨_,rfl⟩
  have st:Qdq h1 O (4*q+r) [.int .u8 (bv:Int)]=some h2:=by rw[e];exact Qlc gO (by simp[Qta];omega)
  simp[t4,t6,t11,t65,hlt2,e1',e2',w1,w2,w3,x1,x2,g1,sh,ws,st]
  have lO:=Heap.get_lt gO
  refine⟨32-(4*q+r+1),by omega,_,h2,O,4*q+r+1,rfl,by simp[t4],by simp[t6],by simp[t11],by simp,by omega,rfl,?_,?_,?_,?_,hO,hR0,n1,n2⟩
  ·rw[e,Heap.get_set _ _ _ _ lO,if_pos rfl]
   congr 2
   rw[List.set_append_right _ _ (by simp[Qta];omega),List.take_succ,ho1]
   have : 32-(4*q+r)=(32-(4*q+r+1))+1:=by omega
   rw[this,List.replicate_succ]
   simp[Qta]
   have e5:4*q+r-min (4*q+r) 32=0:=by omega
   rw[e5]
   rfl
  ·rw[e,Heap.get_set _ _ _ _ lO,if_neg (by omega),gW]
  ·rw[e,Heap.get_set _ _ _ _ lO,if_neg (by omega),gR]
  ·rw[e];exact hold.set _ hO lO
 ·have : i=32:=by omega
  subst this
  have ld:Qcd h1 O 0 32=some (.agg ⟨(Bl.out p8).map u8v⟩):=by
   rw[Qb3 gO (by simp[Qta])]
   congr 3
  have st:Qdq h1 R0 0 ((Bl.out p8).map u8v)=some (h1.set R0 (some (.cells true 1 ((Bl.out p8).map u8v)))):=by
   rw[Qgn gR (by simp[z32,Qta])]
   congr 4
  have lR:=Heap.get_lt gR
  have l32:((Bl.out p8).map u8v).length=32:=by simp[Qta]
  have g2:Qcd (h1.set R0 (some (.cells true 1 ((Bl.out p8).map u8v)))) R0 0 32=some (.agg ⟨(Bl.out p8).map u8v⟩):=by
   rw[Qb3 (by rw[Heap.get_set _ _ _ _ lR,if_pos rfl]) (by simp[Qta])]
   congr 3
  simp[t4,t6,t11,t65,ld,Qta,st,g2]
  exact hk _ (hold.set _ (by omega) lR)
end
end Go.Proofs.YtcokebbiblnonaaDoor
end
noncomputable section
namespace Go.Proofs.YtcokebbiblnonaaDoor
open Go Go.Ab
set_option maxRecDepth 100000
def KI(R0 W:Nat)(FIN:Bl.P8)(h:Heap)(k:Nat)(s:St):Prop:=∃ (t:Tr Value) (h1:Heap) (tv:Value) (l:List Nat) (count:Nat) (p8:Bl.P8),s=⟨⟨81,t⟩,[],h1⟩∧t.get 4=some (.pointer (some ⟨R0,0,none⟩))∧t.get 6=some (.pointer (some ⟨W,0,none⟩))∧t.get 7=some tv∧t.get 8=some (.int .u64 (count:Int)) ∧
 SN h1 tv l∧h1.get W=some (.cells true 1 ((Q3n p8).map V1))∧h1.get R0=some (.cells true 1 z32)∧Old h h1∧h.next≤W∧h.next≤R0∧W≠R0∧Qb9 tv≠some W∧Ys5 p8 l count=FIN∧k=l.length∧count+l.length < 1000000000000∧Ab.LaidIn h1 Qbj
theorem SN.ofB{h:Heap}{v:Value}{l:List Nat}(s:SB h v (l.map Int.ofNat)):SN h v l:=by
 have e:(l.map Int.ofNat).map i8=l.map u8v:=by rw[List.map_map];rfl
 rw[SB,e,List.length_map]at s
 exact s
theorem LaidIn.old{h h':Heap}(l:Ab.LaidIn h Qbj)(a:Old h h'):Ab.LaidIn h' Qbj:=fun x hx=>a.get (l x hx)
theorem Yxp{z:Int}(h0:0≤z)(h1:z≤18446744073709551615):IntKind.u64.wrap z=z:=by
 have : IntKind.u64.wrap z=z % 18446744073709551616:=by simp[IntKind.wrap,IntKind.bits,IntKind.signed]
 rw[this]
 omega
theorem Yv0(b:Nat)(B:Nat)(h:Heap):Qf8 (E b).toEnv 94 (.pointer (some ⟨B,0,none⟩)) none none none h=some (.slice (some ⟨B,0,none⟩) 64 64,h):=by kernel_rfl
theorem X20{h:Heap}(l:Ab.LaidIn h Qbj):∀ x ∈ Qbj,x.1 < h.next:=fun x hx=>Heap.get_lt (l x hx)
section
attribute [local simp] Qcg Qfp Qch V3 Qqj Yo Yg Va Ykl X93 X5g Ybq Qce Qe2 Qcj Up Y0 Yr Qe0 Qdz Xe3 Z6 Qbo Qbz Xv Qbr Qbq Qaq Qdy Qdx Qpf Qhy Jn Qap Yd Qrd Qmn Yi Qg1 Qhj Qr7 Qjt Qhe Qqw Q5 Xh Zz Zf aop Qh nth Ab.g0 gv gs Q4 Qe aev evs evO Qk Tr.get_put St.put Tm.put flat flatA Zd Qn Qq Qp Qr Qm Qo Qs Qu Ql Q7 Q8 Qfy Qmp Qje Qha Qeo Qk1 Qhk Qg4 Xnn X3u Xm3 Qyu Yh.putAll X6 Qa Q3 Q0 Qd Qb Qf Q1 Q2 Q9
theorem Yv7(b:Nat){h h0:Heap}{R0 W:Nat}{p8 FIN:Bl.P8}{t:Tr Value}{tv:Value}{l:List Nat}{count:Nat}(hl:Ab.LaidIn h Qbj)(t4:t.get 4=some (.pointer (some ⟨R0,0,none⟩)))(t6:t.get 6=some (.pointer (some ⟨W,0,none⟩)))(t7:t.get 7=some tv)(t8:t.get 8=some (.int .u64 (count:Int)))(sn:SN h0 tv l)
  (hW:h0.get W=some (.cells true 1 ((Q3n p8).map V1))) (hR:h0.get R0=some (.cells true 1 z32)) (ho:Old h h0) (hw0:h.next≤W) (hR0:h.next≤R0) (hne:W≠R0) (hv:Qb9 tv≠some W) (hf:Ys5 p8 l count=FIN) (hc:count+l.length < 1000000000000)
  (K:AEnd→Heap→Prop) (hk:∀ h',Old h h'→K (.ret (.agg ⟨(Bl.out FIN).map u8v⟩)) h'):Wt (E b) (Qkn Tryd.prog (E b).G) (D0 b) none Qqq ⟨⟨81,t⟩,[],h0⟩ (X1u (E b) (DD b) Qkq K):=by
 rw[Qap,Qbz]
 refine Qgm (KI R0 W FIN h) l.length ⟨_,h0,tv,l,count,p8,rfl,t4,t6,t7,t8,sn,hW,hR,ho,hw0,hR0,hne,hv,hf,rfl,hc,LaidIn.old hl ho⟩ ?_
 rintro k s' ⟨t,h1,tv,l,count,p8,rfl,t4,t6,t7,t8,sn,gW,gR,hold,_,_,_,hv,hf,rfl,hc,hl1⟩ _
 obtain⟨h2,e2⟩:∃ h2,h2=h1.push (.cells true 1 (List.replicate 64 (.int .u8 0))):=⟨_,rfl⟩
 have a12:Old h1 h2:=by rw[e2];exact Old.push _ _
 have n2:h2.next=h1.next+1:=by rw[e2];rfl
 have gB:h2.get h1.next=some (.cells true 1 (List.replicate 64 (.int .u8 0))):=by rw[e2,Heap.get_push,if_pos rfl]
 obtain⟨h3,c1,c2,c3,c4⟩:=Y5g b gB (by simp) (sn.old a12)
 have a13:Old h1 h3:=⟨by omega,fun c hc=>by rw[c4 c (by omega),a12.2 c hc]⟩
 have lenB:=Y2p (b:=b) (h1:=h3) sn.sb
 have sn3:SN h3 tv l:=sn.old a13
 obtain⟨tv',h4,f1,f2,f3,f4,f5⟩:=Y57 (b:=b) sn3.sb (k:=.i64) (i:=((min l.length 64:Nat):Int)) (by omega) (by simp;omega)
 have sn4:SN h4 tv' (l.drop 64):=by
  have e:(l.map Int.ofNat).drop (min l.length 64)=(l.drop 64).map Int.ofNat:=by
   rw[← List.map_drop]
   congr 1
   rcases Nat.le_total l.length 64 with q | q
   ·rw[Nat.min_eq_left q,List.drop_eq_nil_of_le (Nat.le_refl _),List.drop_eq_nil_of_le q]
   ·rw[Nat.min_eq_right q]
  rw[Int.toNat_natCast,e]at f2
  exact SN.ofB f2
 have lenD:∀ hx,Q2a (E b).toEnv 51 tv' hx=some (.int .i64 ((l.length-64:Nat):Int)):=fun hx=>by have:=Y2p (b:=b) (h1:=hx) sn4.sb;rw[List.length_map,List.length_drop]at this;exact this
 have a14:Old h1 h4:=a13.trans f3
 have gB4:h4.get h1.next=some (.cells true 1 ((l.take 64++List.replicate (64-l.length) 0).map u8v)):=by
  rw[f3.2 _ (by omega),c2]
  congr 2
  rw[List.map_append,List.map_replicate]
  congr 1
  rw[List.drop_replicate]
  congr 1
  omega
 have gW4:h4.get W=some (.cells true 1 ((Q3n p8).map V1)):=a14.get gW
 have gR4:h4.get R0=some (.cells true 1 z32):=a14.get gR
 have ldW:Qcd h4 W 0 8=some (p8v p8):=by
  rw[Qb3 gW4 (by simp[Q3n])]
  rfl
 have lW:=Heap.get_lt gW4
 have lW1:=Heap.get_lt gW
 have hmin:((min l.length 64:Nat):Int)≤64:=by omega
 have wc:IntKind.u64.wrap ((min l.length 64:Nat):Int)=((min l.length 64:Nat):Int):=Yxp (by omega) (by omega)
 have wa:IntKind.u64.wrap ((count:Int)+((min l.length 64:Nat):Int))=((count+min l.length 64:Nat):Int):=by rw[Yxp (by omega) (by omega)];omega
 obtain⟨m,hm⟩:∃ m:Nat,m=min l.length 64:=⟨_,rfl⟩
 rw[← hm]at c1 f1 wc wa
 have hmx:¬ ((m:Int) < 0):=by omega
 have pd:Pad (l.take 64) (l.take 64++List.replicate (64-l.length) 0):=⟨_,rfl⟩
 have l64:(l.take 64++List.replicate (64-l.length) 0).length=64:=by simp;omega
 have key:∀ (last:Bool) (p8':Bl.P8),p8'=Bl.take p8 (l.take 64) (count+m) last→∀ K',K' (.ret (p8v p8')) h4→FnK Tryd.prog (E b).G 50 [p8v p8,.pointer (some ⟨h1.next,0,none⟩),.int .u64 (((count+m:Nat):Int)),.bool last] h4 K':=by
  intro last p8' hp K' hk'
  refine Y4x b (LaidIn.old hl1 a14) p8 gB4 l64 (count+m) last K' ?_
  rw[Yr9 p8 pd,← hp]
  exact hk'
 have stW:∀ p8':Bl.P8,Qdq h4 W 0 ((Q3n p8').map V1)=some (h4.set W (some (.cells true 1 ((Q3n p8').map V1)))):=fun p8'=>by
  rw[Qgn gW4 (by simp[Q3n])]
  rfl
 have alB:Qfm (E b).toEnv 94 h1=some (.pointer (some ⟨h1.next,0,none⟩),h2):=by rw[e2];exact X5y b h1
 simp[X5y,-X5y,alB,t4,t6,t7,t8,Yv0,c1,f1,wc,wa,ldW]
 have stA:∀ p8':Bl.P8,Qjf (E b).toEnv 92 (.pointer (some ⟨W,0,none⟩)) (p8v p8') h4=some (h4.set W (some (.cells true 1 ((Q3n p8').map V1)))):=fun p8'=>(X5g b h4 W 0 _ (by simp)).trans (stW p8')
 have old5:∀ x,Old h (h4.set W x):=fun x=>(hold.trans a14).set _ (by assumption) lW
 have gW5:∀ x,(h4.set W x).get W=x:=fun x=>by rw[Heap.get_set _ _ _ _ lW,if_pos rfl]
 have gR5:∀ x,(h4.set W x).get R0=some (.cells true 1 z32):=fun x=>by rw[Heap.get_set _ _ _ _ lW,if_neg (by assumption),gR4]
 by_cases h64:l.length≤64
 ·have e0:((l.length-64:Nat):Int)=0:=by omega
  have em:m=l.length:=by omega
  have et:l.take 64=l:=List.take_of_length_le h64
  rw[e0]at lenD
  have hF:FIN=Bl.take p8 (l.take 64) (count+m) true:=by rw[← hf,Yns h64,em,et]
  simp[lenD]
  refine key true FIN hF _ ?_
  simp[X5y,stA,t6,lenD]
  refine Y5q b (W:=W) (p8:=FIN) (h:=h) (R0:=R0) (by simp[t4]) (by simp[t6]) (gW5 _) (gR5 _) (old5 _) (by assumption) K hk
 ·have e0:¬ ((l.length-64:Nat):Int)=0:=by omega
  have em:m=64:=by omega
  subst em
  have e1:(decide (((l.length-64:Nat):Int)=0))=false:=by simpa using e0
  have hlt:64 < l.length:=by omega
  have e0n:¬ (l.length-64=0):=by omega
  simp only[lenD,Z6,e1]
  refine key false _ rfl _ ?_
  simp[X5y,stA,t6,lenD,e0n]
  refine⟨l.length-64,by omega,_,_,tv',l.drop 64,count+64,Bl.take p8 (l.take 64) (count+64) false,rfl,by simp[t4],by simp[t6],by simp,by simp,?_,gW5 _,gR5 _,old5 _,by assumption,by assumption,by assumption,?_,by rw[← hf];exact(Yne hlt).symm,by simp,by simp;omega,?_⟩
  ·refine Sl.keep sn4 fun c hc hlt => ?_
   rw[Heap.get_set _ _ _ _ lW,if_neg]
   rintro rfl
   rcases f5 _ hc with q | q
   ·exact hv q
   ·omega
  ·intro q
   rcases f5 _ q with q | q
   ·exact hv q
   ·omega
  ·intro x hx
   have hlx:=hl1 x hx
   have hx2:x.1≠W:=by
    intro q
    have:=X20 hl x hx
    omega
   rw[Heap.get_set _ _ _ _ lW,if_neg (Ne.symm hx2)]
   exact a14.get hlx
end
end Go.Proofs.YtcokebbiblnonaaDoor
end
noncomputable section
namespace Go.Proofs.YtcokebbiblnonaaDoor
open Go Go.Ab
set_option maxRecDepth 100000
theorem gn0(b:Nat):(0 < (E b).G.n)=True:=eq_true (by show 0 < nv;decide)
theorem Y9w(x:Int):Qdj (binOp .shl 90 (.int .u32 x) (.int .u64 8))=some (.int .u32 (IntKind.u32.wrap (x*2 ^ 8))):=by kernel_rfl
theorem Yw7(x y:Int):Qdj (binOp .xor 90 (.int .u32 x) (.int .u32 y))=some (.int .u32 (Q7j x y)):=by kernel_rfl
def Yy8(k:Nat):Int:=Q7j 1779033703 (Q7j (Q7j 16842752 (IntKind.u32.wrap (IntKind.u32.wrap (k:Int)*2 ^ 8))) 32)
theorem Y1e:∀ k,k < 33→Yy8 k=Int.ofNat (Bl.start k).h0:=by decide
def K0(k:Nat):Bl.P8:=Bl.start k
theorem X8t:∀ n,(Bl.zeros n).map u8v=List.replicate n (.int .u8 0)
 | 0=>rfl
 | n+1=>by
  have : (Bl.zeros (n+1)).map u8v=u8v 0::(Bl.zeros n).map u8v:=rfl
  rw[this,X8t n,List.replicate_succ];rfl
theorem Xwm(v:Value):∀ n,Qbc [v] n=List.replicate n v
 | 0=>rfl
 | n+1=>by simp[Qbc,Xwm v n,List.replicate_succ]
section
attribute [local simp] Qch Yg Va Yd Qrd Qmn Yi Qg1 Qhj Qr7 Qjt Qhe Qqw Q5 Xh Zz Zf aop Qh nth Ab.g0 gv gs Q4 Qe aev evs evO Qk Tr.get_put St.put Tm.put flat flatA Zd Qn Qq Qp Qr Qm Qo Qs Qu Ql Q7 Q8 Qfy Qmp Qje Qha Qeo Qk1 Qhk Qg4 Xnn X3u Xm3 Qyu Yh.putAll X6 Qa Q3 Q0 Qd Qb Qf Q1 Q2 Q9
theorem Yzn(b:Nat){h:Heap}(laid:Ab.LaidIn h Qbj){kv tv:Value}{key l:List Nat}(sk:SN h kv key)(sl:SN h tv l)(hkey:key.length≤32)(hl:l.length < 1000000000)(K:AEnd→Heap→Prop)(hk:∀ h',Old h h'→K (.ret (.agg ⟨(Bl.keyed1 key l).map u8v⟩)) h') :
  FnK Tryd.prog (E b).G 41 [kv,tv] h K:=by
 refine Qfa (E b) (Qh9 b) (Qc4 b) mixed (Qhf b) (Qf4 b) (Qch b) Xzm Yie Yfn rfl ?_
 have lenk:∀ hx,Q2a (E b).toEnv 51 kv hx=some (.int .i64 (key.length:Int)):=fun hx=>Qk6 (T51 b) sk
 have lent:∀ hx,Q2a (E b).toEnv 51 tv hx=some (.int .i64 (l.length:Int)):=fun hx=>Qk6 (T51 b) sl
 have h32:¬ (32:Int) < (key.length:Int):=by omega
 have gbeg:h.get 0=some (.cells false 0 Qh7):=laid (0,Qh7) (by simp[Qbj])
 obtain⟨hA,eA⟩:∃ hA,hA=h.push (.cells true 1 z32):=⟨_,rfl⟩
 obtain⟨hB,eB⟩:∃ hB,hB=hA.push (.cells true 1 (List.replicate 8 (.int .u32 0))):=⟨_,rfl⟩
 have aA:Old h hA:=by rw[eA];exact Old.push _ _
 have aB:Old hA hB:=by rw[eB];exact Old.push _ _
 have nA:hA.next=h.next+1:=by rw[eA];rfl
 have nB:hB.next=hA.next+1:=by rw[eB];rfl
 have gA:hA.get h.next=some (.cells true 1 z32):=by rw[eA,Heap.get_push,if_pos rfl]
 have gB:hB.get hA.next=some (.cells true 1 (List.replicate 8 (.int .u32 0))):=by rw[eB,Heap.get_push,if_pos rfl]
 have alA:Qfm (E b).toEnv 30 h=some (.pointer (some ⟨h.next,0,none⟩),hA):=by rw[eA];exact V3 b h
 have alB:Qfm (E b).toEnv 92 hA=some (.pointer (some ⟨hA.next,0,none⟩),hB):=by rw[eB];exact X93 b hA
 have ld0:Qcd hA 0 0 8=some (.agg ⟨Qh7⟩):=by
  rw[Qb3 (aA.get gbeg) (by simp[Qh7])];rfl
 obtain⟨hC,eC⟩:∃ hC,hC=hB.set hA.next (some (.cells true 1 Qh7)):=⟨_,rfl⟩
 have lB:=Heap.get_lt gB
 have gC:hC.get hA.next=some (.cells true 1 Qh7):=by rw[eC,Heap.get_set _ _ _ _ lB,if_pos rfl]
 have stC:Qjf (E b).toEnv 92 (.pointer (some ⟨hA.next,0,none⟩)) (.agg ⟨Qh7⟩) hB=some hC:=(X5g b hB hA.next 0 _ (by simp[Qh7])).trans (by rw[Qgn gB (by simp[Qh7]),eC];rfl)
 have ldC:Vs hC hA.next 0=some (.int .u32 1779033703):=by rw[Qai gC];rfl
 obtain⟨hD,eD⟩:∃ hD,hD=hC.set hA.next (some (.cells true 1 (Qh7.set 0 (.int .u32 (Yy8 key.length))))):=⟨_,rfl⟩
 have lC:=Heap.get_lt gC
 have stD:Qdq hC hA.next 0 [.int .u32 (Yy8 key.length)]=some hD:=by rw[eD];exact Qlc gC (by simp[Qh7])
 have gD:hD.get hA.next=some (.cells true 1 ((Q3n (Bl.start key.length)).map V1)):=by
  rw[eD,Heap.get_set _ _ _ _ lC,if_pos rfl,Y1e _ (by omega)];rfl
 have aC:Old h hC:=by rw[eC];exact(aA.trans aB).set _ (by omega) lB
 have aD:Old h hD:=by rw[eD];exact aC.set _ (by omega) lC
 have gR:hD.get h.next=some (.cells true 1 z32):=by
  rw[eD,Heap.get_set _ _ _ _ lC,if_neg (by omega),eC,Heap.get_set _ _ _ _ lB,if_neg (by omega)]
  exact aB.get gA
 have hx0:J2 (E b).toEnv 92 (.pointer (some ⟨hA.next,0,none⟩)) (.int .i64 0)=some (.pointer (some ⟨hA.next,0,none⟩)):=Ybq b ⟨by omega,by omega⟩
 obtain⟨a0,ha0⟩:∃ a:Int,a=IntKind.u32.wrap (key.length:Int):=⟨_,rfl⟩
 obtain⟨a1,ha1⟩:∃ a:Int,a=IntKind.u32.wrap (a0*2 ^ 8):=⟨_,rfl⟩
 obtain⟨a2,ha2⟩:∃ a:Int,a=Q7j 16842752 a1:=⟨_,rfl⟩
 obtain⟨a3,ha3⟩:∃ a:Int,a=Q7j a2 32:=⟨_,rfl⟩
 obtain⟨a4,ha4⟩:∃ a:Int,a=Yy8 key.length:=⟨_,rfl⟩
 have x0:Qrl (E b).toEnv 3 90 (.int .i64 (key.length:Int))=some (.int .u32 a0):=by rw[ha0];exact Qcj b _ _
 have x1:Qdj (binOp .shl 90 (.int .u32 a0) (.int .u64 8))=some (.int .u32 a1):=by rw[ha1];exact Y9w a0
 have x2:Qdj (binOp .xor 90 (.int .u32 16842752) (.int .u32 a1))=some (.int .u32 a2):=by rw[ha2];exact Yw7 _ _
 have x3:Qdj (binOp .xor 90 (.int .u32 a2) (.int .u32 32))=some (.int .u32 a3):=by rw[ha3];exact Yw7 _ _
 have x4:Qdj (binOp .xor 90 (.int .u32 1779033703) (.int .u32 a3))=some (.int .u32 a4):=by rw[ha4,Yy8,← ha0,← ha1,← ha2,← ha3];exact Yw7 _ _
 rw[← ha4]at stD
 simp[Qcg,Qfp,V3,Qqj,Yo,Ykl,X93,X5g,Ybq,Qce,Qe2,Qcj,Up,Y0,Yr,X5y,Qe0,Qdz,Xe3,Z6,Qbo,Qbz,Xv,Qbr,Qbq,Qaq,Qdy,Qdx,Qpf,Qhy,Jn,Qap,-V3,-X93,gn0,alA,alB,lenk,lent,h32,ld0,stC,hx0,ldC,stD,-Qcj,x0,x1,x2,x3,x4]
 have laidD:=LaidIn.old laid aD
 have fin:∀ (t:Tr Value) (h0:Heap) (v:Value) (text:List Nat),text=Bl.textOf key l→t.get 4=some (.pointer (some ⟨h.next,0,none⟩))→t.get 6=some (.pointer (some ⟨hA.next,0,none⟩))→t.get 7=some v→t.get 8=some (.int .u64 0)→SN h0 v text→Old hD h0→Qb9 v≠some hA.next →
   Wt (E b) (Qkn Tryd.prog (E b).G) (D0 b) none Qqq ⟨⟨81,t⟩,[],h0⟩ (X1u (E b) (DD b) Qkq K):=by
  intro t h0 v text e t4 t6 t7 t8 sn o0 hv
  refine Yv7 b (count:=0) (FIN:=Ys5 (Bl.start key.length) text 0) laid t4 t6 t7 t8 sn (o0.get gD) (o0.get gR) (aD.trans o0) (by omega) (Nat.le_refl _) (by omega) hv rfl ?_ K fun h' q => ?_
  ·subst e
   cases key with
   | nil=>simp[Bl.textOf];omega
   | cons k ks =>
    have z:∀ n,(Bl.zeros n).length=n:=fun n=>by induction n with
     | zero=>rfl
     | succ n ih=>simp[Bl.zeros,ih]
    simp[Bl.textOf,z]at hkey ⊢;omega
  ·rw[e]at *
   exact hk h' q
 cases hkc:key with
 | nil =>
  subst hkc
  simp[Qcg,Qfp,V3,Qqj,Yo,Ykl,X93,X5g,Ybq,Qce,Qe2,Qcj,Up,Y0,Yr,X5y,Qe0,Qdz,Xe3,Z6,Qbo,Qbz,Xv,Qbr,Qbq,Qaq,Qdy,Qdx,Qpf,Qhy,Jn,Qap,-Qap]
  refine fin _ hD tv l rfl (by simp) (by simp) (by simp) (by simp) (sl.old aD) (Old.refl _) fun q => ?_
  have:=sl.blk q
  omega
 | cons k ks =>
  have h0:0 < key.length:=by rw[hkc];simp
  rw[← hkc]
  have w1:IntKind.i64.wrap (64+(l.length:Int))=((64+l.length:Nat):Int):=by rw[Qa9 (by omega) (by omega)];omega
  have w2:IntKind.i64.wrap (64-(key.length:Int))=((64-key.length:Nat):Int):=by rw[Qa9 (by omega) (by omega)];omega
  obtain⟨h1,e1⟩:∃ h1,h1=hD.push (.cells true 1 (List.replicate (64+l.length) (.int .u8 0))):=⟨_,rfl⟩
  have a1:Old hD h1:=by rw[e1];exact Old.push _ _
  have mk:Qnk (E b).toEnv 51 (.int .i64 0) (.int .i64 ((64+l.length:Nat):Int)) hD=some (.slice (some ⟨hD.next,0,none⟩) 0 (64+l.length),h1):=by
   simp only[Qnk,Y14,(T51 b).d,Y55]
   rw[if_pos ⟨by omega,by omega,by omega,by rw[Qwb];omega,by rw[Qhd];omega⟩,Yyu,e1]
   have : (Value.int .u8 0).cells.toList=[.int .u8 0]:=rfl
   rw[this,Xwm]
   simp only[Int.toNat_natCast,Int.toNat_zero]
  have mk':Qnk (E b).toEnv 51 (.int .i64 0) (.int .i64 (64+(l.length:Int))) hD=some (.slice (some ⟨hD.next,0,none⟩) 0 (64+l.length),h1):=by
   have:=mk
   rw[show((64+l.length:Nat):Int)=64+(l.length:Int) by omega]at this
   exact this
  have o1:Own h1 hD.next 1 (.slice (some ⟨hD.next,0,none⟩) 0 (64+l.length)) 0 []:=.inr ⟨hD.next,64+l.length,1,_,rfl,Nat.le_refl _,by rw[e1,Heap.get_push,if_pos rfl,List.nil_append],rfl,by omega,by unfold Qg5;omega,.inr ⟨by unfold Qg5;omega,by simp⟩⟩
  obtain⟨v2,h2,c1,o2,b2⟩:=Qt1 (T51 b) (tx:=51) (m:=key.length) (ys:=key.map u8v) Qhd (by omega) o1 a1.1 (Xcu (T51 b) Qhd (sk.old (aD.trans a1))) (by simp) (by rw[Qwb];omega) (by omega)
  have nz:Xx2 (E b).toEnv 3 R5 (.int .i64 ((64-key.length:Nat):Int)) h2=some (64-key.length,List.replicate (64-key.length) (.int .u8 0)):=by
   have hi:R3.desc=.int .i64:=by kernel_rfl
   simp only[Xx2,Y2q,hi]
   rw[if_pos ⟨by omega,by omega,by rw[Qwb];omega,by rw[Qhd];omega⟩,Yyu]
   have : (Value.int .u8 0).cells.toList=[.int .u8 0]:=rfl
   rw[this,Xwm]
   simp
  obtain⟨v3,h3,c2,o3,b3⟩:=Qt1 (T51 b) (tx:=3) Qhd (by omega) o2 (Nat.le_trans a1.1 b2.1) nz (by simp) (by rw[Qwb];omega) (by omega)
  have a2:Old hD h2:=b2.old a1 o1
  have a3:Old hD h3:=b3.old a2 o2
  obtain⟨v4,h4,c3,o4,b4⟩:=Qt1 (T51 b) (tx:=51) (m:=l.length) (ys:=l.map u8v) Qhd (by omega) o3 a3.1 (Xcu (T51 b) Qhd (sl.old (aD.trans a3))) (by simp) (by rw[Qwb];omega) (by omega)
  have a4:Old hD h4:=b4.old a3 o3
  simp[Qcg,Qfp,V3,Qqj,Yo,Ykl,X93,X5g,Ybq,Qce,Qe2,Qcj,Up,Y0,Yr,X5y,Qe0,Qdz,Xe3,Z6,Qbo,Qbz,Xv,Qbr,Qbq,Qaq,Qdy,Qdx,Qpf,Qhy,Jn,Qap,-Qap,h0,lenk,lent,w1,w2,mk',c1,c2,c3]
  have zl:(Bl.zeros (64-key.length)).length=64-key.length:=by have:=congrArg List.length (X8t (64-key.length));simpa using this
  have tx:Bl.textOf key l=key++(Bl.zeros (64-key.length)++l):=by rw[hkc];rfl
  have sn:SN h4 v4 (key++(Bl.zeros (64-key.length)++l)):=by
   have:=o4.sl
   have e1 : []++key.map u8v++List.replicate (64-key.length) (Value.int .u8 0)++l.map u8v=(key++(Bl.zeros (64-key.length)++l)).map u8v:=by
    rw[List.map_append,List.map_append,X8t]
    simp
   have e2:0+key.length+(64-key.length)+l.length=(key++(Bl.zeros (64-key.length)++l)).length:=by
    simp only[List.length_append,zl];omega
   rw[e1,e2]at this
   exact this
  refine fin _ h4 v4 _ tx.symm (by simp) (by simp) (by simp) (by simp) sn a4 fun q => ?_
  have:=(o4.from q).1
  have:=Heap.get_lt gD
  omega
theorem Yx7(b:Nat){h:Heap}(laid:Ab.LaidIn h Qbj){tv:Value}{l:List Nat}(sl:SN h tv l)(hl:l.length < 1000000000)(K:AEnd→Heap→Prop)(hk:∀ h',Old h h'→K (.ret (.agg ⟨(Bl.keyed1 [] l).map u8v⟩)) h') :
  FnK Tryd.prog (E b).G 20 [tv] h K:=by
 refine Qfa (E b) (Qh9 b) (Qc4 b) mixed (Qhf b) (Qf4 b) (Yg b) Yej Ypz Yli rfl ?_
 obtain⟨hA,eA⟩:∃ hA,hA=h.push (.cells true 1 z32):=⟨_,rfl⟩
 have aA:Old h hA:=by rw[eA];exact Old.push _ _
 have gA:hA.get h.next=some (.cells true 1 z32):=by rw[eA,Heap.get_push,if_pos rfl]
 have alA:Qfm (E b).toEnv 30 h=some (.pointer (some ⟨h.next,0,none⟩),hA):=by rw[eA];exact V3 b h
 simp[Q39,Xy7,V3,-V3,alA]
 refine Yzn b (LaidIn.old laid aA) (kv:=.slice none 0 0) (key:=[]) Sl.nil (sl.old aA) (by simp) hl _ fun h2 a2 => ?_
 have g2:h2.get h.next=some (.cells true 1 z32):=a2.get gA
 have kl:(Bl.keyed1 [] l).length=32:=Qta _
 have l2:=Heap.get_lt g2
 have st:Qdq h2 h.next 0 ((Bl.keyed1 [] l).map u8v)=some (h2.set h.next (some (.cells true 1 ((Bl.keyed1 [] l).map u8v)))):=by
  rw[Qgn g2 (by simp[z32,kl])]
  congr 4
 have g3:Qcd (h2.set h.next (some (.cells true 1 ((Bl.keyed1 [] l).map u8v)))) h.next 0 32=some (.agg ⟨(Bl.keyed1 [] l).map u8v⟩):=by
  rw[Qb3 (by rw[Heap.get_set _ _ _ _ l2,if_pos rfl]) (by simp[kl])]
  congr 3
 simp[Q39,Xy7,V3,Jn,st,kl,g3]
 exact hk _ ((aA.trans a2).set _ (Nat.le_refl _) l2)
end
end Go.Proofs.YtcokebbiblnonaaDoor
end
