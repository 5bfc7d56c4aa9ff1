/-
  The digest of any bytes under a key of at most 32: block by block.
-/
import Derived.Test.YtgeeklmjfbiieaaDoorBlA
import Derived.Test.YtgeeklmjfbiieaaDoorBlB
import Derived.Test.YtgeeklmjfbiieaaDoorFactsK
import Derived.Test.YtgeeklmjfbiieaaDoorScA
set_option linter.all false
noncomputable section
namespace Go.Proofs.YtgeeklmjfbiieaaDoor
open Go Go.Ab
set_option maxRecDepth 100000
theorem Xy8(b:Nat){h:Heap}(hl:Ab.LaidIn h Qat)(p8:Bl.P8){blk:Nat}{l:List Nat}(hg:h.get blk=some (.cells true 1 (l.map u8v)))(h64:l.length=64)(count:Nat)(last:Bool)(K:AEnd→Heap→Prop)(hk:K (.ret (p8v (Bl.take p8 l count last))) h) :
  FnK Tryd.prog (E b).G 92 [p8v p8,.pointer (some ⟨blk,0,none⟩),.int .u64 (.ofNat count),.bool last] h K:=by
 refine⟨_,_,?_,Nat.le_refl _,hk⟩
 refine Q26 (k:=100) (m:=4) Vm Xkk Xfa (fun b=>Xxx b p8.h0 p8.h1 p8.h2 p8.h3 p8.h4 p8.h5 p8.h6 p8.h7 count l h64 last) rfl hl Xip (bs:=[blk]) rfl (by simp) (fun k d r hd hr => ?_)
   (Y7 (Yp rfl) (Y7 (Qhp _ _) (Y7 (Yp rfl) (Y7 (Yp rfl) Ji))))
 cases k with
 | zero=>simp at hd hr;subst hd;subst hr;exact⟨hg,Qwr _⟩
 | succ k=>simp at hd
abbrev SN(h:Heap)(v:Value)(l:List Nat):Prop:=Sl h 1 v l.length (l.map u8v)
theorem SN.sb{h:Heap}{v:Value}{l:List Nat}(s:SN h v l):SB h v (l.map Int.ofNat):=by
 have e:(l.map Int.ofNat).map i8=l.map u8v:=by rw[List.map_map];rfl
 rw[SB,e,List.length_map];exact s
theorem X06(b:Nat){h:Heap}{B:Nat}{ds:List Value}{v:Value}{l:List Nat}(hg:h.get B=some (.cells true 1 ds))(hd:ds.length=64)(s:SN h v l) :
  ∃ h',Qyp (E b).toEnv 47 (.slice (some ⟨B,0,none⟩) 64 64) v h=some (.int .i64 ((min l.length 64:Nat):Int),h')∧h'.get B=some (.cells true 1 ((l.take 64).map u8v++ds.drop (min l.length 64)))∧h'.next=h.next∧∀ c,c≠B→h'.get c=h.get c:=by
 have hmin:Nat.min l.length 64=min l.length 64:=rfl
 have hlen:Qxm v=some l.length:=by rcases s with⟨c,rfl,_,e,_⟩ | ⟨bk,o,c,ow,z',pre,post,rfl,_⟩ <;> simp_all [Qxm]
 have hsrc:Xl9 1 (Nat.min l.length 64) v h=some ((l.take 64).map u8v):=by
  rcases s with⟨c,rfl,_,e,e2⟩ | ⟨bk,o,c,ow,z',pre,post,rfl,h1,h2,h3, -⟩
  ·have : l=[]:=List.eq_nil_of_length_eq_zero e
   subst this
   simp[Xl9]
  ·have h4:Qkh (Nat.min l.length 64*1) ((pre++l.map u8v++post).drop o)=some ((l.take 64).map u8v):=by
    rw[hmin,← h2,List.append_assoc,List.drop_left,Qm1 (by simp;omega),List.take_append_of_le_length (by simp;omega),← List.map_take,Nat.mul_one]
    congr 2
    rcases Nat.le_total l.length 64 with q | q
    ·rw[Nat.min_eq_left q,List.take_of_length_le (Nat.le_refl _),List.take_of_length_le q]
    ·rw[Nat.min_eq_right q]
   simp only[Xl9,Ab.cellsAt,h1,h4]
 have hr:R47.desc=.slice 5:=(T47 b).d
 cases hc:(l.take 64).map u8v with
 | nil =>
  have : l=[]:=by
   cases l with
   | nil=>rfl
   | cons x l=>simp at hc
  subst this
  refine⟨h,?_,by simpa using hg,rfl,fun _ _=>rfl⟩
  rw[hc]at hsrc
  simp only[Qyp,Qy5,hr,hlen,Xpe,Qb3,hsrc]
 | cons x xs =>
  have hle:(x::xs).length≤ds.length:=by rw[← hc,hd];simp;omega
  have hst:storeAt h ⟨B,0,none⟩ (x::xs)=some (h.set B (some (.cells true 1 ((x::xs)++ds.drop (x::xs).length)))):=by
   simp only[storeAt,hg]
   rw[Qkz (by simpa using hle)]
   simp
  rw[hc]at hsrc
  refine⟨h.set B (some (.cells true 1 ((x::xs)++ds.drop (x::xs).length))),?_,?_,rfl,fun c hc=>by rw[Heap.get_set _ _ _ _ (Heap.get_lt hg),if_neg (Ne.symm hc)]⟩
  ·simp only[Qyp,Qy5,hr,hlen,Xpe,Qb3,hsrc,hst]
   rfl
  ·rw[Heap.get_set _ _ _ _ (Heap.get_lt hg),if_pos rfl]
   congr 4
   rw[← hc,List.length_map,List.length_take,Nat.min_comm]
theorem Xb6:∀ (n m:Nat) (h:Bl.P8) (text:List Nat) (count:Nat),text.length < n→text.length < m→Bl.blocks n h text count=Bl.blocks m h text count
 | 0,_,_,_,_,h,_=>by omega
 | n+1,0,_,_,_,_,h=>by omega
 | n+1,m+1,h,text,count,h1,h2=>by
  simp only[Bl.blocks]
  cases hb:Nat.ble text.length 64 with
  | true=>rfl
  | false =>
   have : ¬ text.length≤64:=fun q=>by rw[← Nat.ble_eq,hb]at q;cases q
   exact Xb6 n m _ _ _ (by rw[List.length_drop];omega) (by rw[List.length_drop];omega)
def Xxw(p8:Bl.P8)(text:List Nat)(count:Nat):Bl.P8:=Bl.blocks text.length.succ p8 text count
theorem Xrq{p8:Bl.P8}{text:List Nat}{count:Nat}(h:text.length≤64):Xxw p8 text count=Bl.take p8 text (count+text.length) true:=by
 simp[Xxw,Bl.blocks,Qug h]
theorem Xrr{p8:Bl.P8}{text:List Nat}{count:Nat}(h:64 < text.length):Xxw p8 text count=Xxw (Bl.take p8 (text.take 64) (count+64) false) (text.drop 64) (count+64):=by
 have e:Nat.ble text.length 64=false:=by rw[Bool.eq_false_iff];intro q;rw[Nat.ble_eq]at q;omega
 simp only[Xxw,Bl.blocks,e]
 exact Xb6 text.length (text.drop 64).length.succ _ _ _ (by rw[List.length_drop];omega) (Nat.lt_succ_self _)
def Pad(l l':List Nat):Prop:=∃ n,l'=l++List.replicate n 0
theorem Qik{l l':List Nat}(p:Pad l l'):∃ a r r',(∀ {A:Type} (K:Nat→List Nat→A),Bl.nx l K=K a r)∧(∀ {A:Type} (K:Nat→List Nat→A),Bl.nx l' K=K a r')∧Pad r r':=by
 obtain⟨n,rfl⟩:=p
 match l with
 | a::b::c::d::l=>exact⟨_,_,_,fun _=>rfl,fun _=>rfl,n,rfl⟩
 | [a,b,c] =>
  match n with
  | 0=>exact⟨_,_,_,fun _=>rfl,fun _=>rfl,0,rfl⟩
  | n+1=>exact⟨_,_,_,fun _=>rfl,fun _=>rfl,n,rfl⟩
 | [a,b] =>
  match n with
  | 0=>exact⟨_,_,_,fun _=>rfl,fun _=>rfl,0,rfl⟩
  | 1=>exact⟨_,_,_,fun _=>rfl,fun _=>rfl,0,rfl⟩
  | n+2=>exact⟨_,_,_,fun _=>rfl,fun _=>rfl,n,rfl⟩
 | [a] =>
  match n with
  | 0=>exact⟨_,_,_,fun _=>rfl,fun _=>rfl,0,rfl⟩
  | 1=>exact⟨_,_,_,fun _=>rfl,fun _=>rfl,0,rfl⟩
  | 2=>exact⟨_,_,_,fun _=>rfl,fun _=>rfl,0,rfl⟩
  | n+3=>exact⟨_,_,_,fun _=>rfl,fun _=>rfl,n,rfl⟩
 | [] =>
  match n with
  | 0=>exact⟨_,_,_,fun _=>rfl,fun _=>rfl,0,rfl⟩
  | 1=>exact⟨_,_,_,fun _=>rfl,fun _=>rfl,0,rfl⟩
  | 2=>exact⟨_,_,_,fun _=>rfl,fun _=>rfl,0,rfl⟩
  | 3=>exact⟨_,_,_,fun _=>rfl,fun _=>rfl,0,rfl⟩
  | n+4=>exact⟨_,_,_,fun _=>rfl,fun _=>rfl,n,rfl⟩
theorem Xud{l l':List Nat}(p:Pad l l'){A:Type}(K:Nat→Nat→Nat→Nat→Nat→Nat→Nat→Nat→Nat→Nat→Nat→Nat→Nat→Nat→Nat→Nat→A):Bl.words l' K=Bl.words l K:=by
 unfold Bl.words
 obtain⟨_,_,_,a0,c0,p⟩:=Qik p
 obtain⟨_,_,_,a1,c1,p⟩:=Qik p
 obtain⟨_,_,_,a2,c2,p⟩:=Qik p
 obtain⟨_,_,_,a3,c3,p⟩:=Qik p
 obtain⟨_,_,_,a4,c4,p⟩:=Qik p
 obtain⟨_,_,_,a5,c5,p⟩:=Qik p
 obtain⟨_,_,_,a6,c6,p⟩:=Qik p
 obtain⟨_,_,_,a7,c7,p⟩:=Qik p
 obtain⟨_,_,_,a8,c8,p⟩:=Qik p
 obtain⟨_,_,_,a9,c9,p⟩:=Qik p
 obtain⟨_,_,_,a10,c10,p⟩:=Qik p
 obtain⟨_,_,_,a11,c11,p⟩:=Qik p
 obtain⟨_,_,_,a12,c12,p⟩:=Qik p
 obtain⟨_,_,_,a13,c13,p⟩:=Qik p
 obtain⟨_,_,_,a14,c14,p⟩:=Qik p
 obtain⟨_,_,_,a15,c15,p⟩:=Qik p
 rw[a0,c0,a1,c1,a2,c2,a3,c3,a4,c4,a5,c5,a6,c6,a7,c7,a8,c8,a9,c9,a10,c10,a11,c11,a12,c12,a13,c13,a14,c14,a15,c15]
theorem Xwo(p8:Bl.P8){l l':List Nat}(p:Pad l l')(count:Nat)(last:Bool):Bl.take p8 l' count last=Bl.take p8 l count last:=by
 obtain⟨h0,h1,h2,h3,h4,h5,h6,h7⟩:=p8
 simp only[Bl.take,Xud p]
end Go.Proofs.YtgeeklmjfbiieaaDoor
end
noncomputable section
namespace Go.Proofs.YtgeeklmjfbiieaaDoor
open Go Go.Ab
set_option maxRecDepth 100000
def Xmg(p:Bl.P8):List Nat:=[p.h0,p.h1,p.h2,p.h3,p.h4,p.h5,p.h6,p.h7]
theorem Qfs(p:Bl.P8):(Bl.out p).length=32:=by obtain⟨_,_,_,_,_,_,_,_⟩:=p;rfl
theorem X1c(p:Bl.P8){q r w:Nat}(hq:q < 8)(hr:r < 4)(hw:(Xmg p)[q]? = some w):(Bl.out p)[4*q+r]? = some (w / 2 ^ (8*r) % 256):=by
 obtain⟨h0,h1,h2,h3,h4,h5,h6,h7⟩:=p
 have hq':q=0∨q=1∨q=2∨q=3∨q=4∨q=5∨q=6∨q=7:=by omega
 have hr':r=0∨r=1∨r=2∨r=3:=by omega
 rcases hq' with rfl | rfl | rfl | rfl | rfl | rfl | rfl | rfl <;> rcases hr' with rfl | rfl | rfl | rfl <;>
  (simp only[Xmg,List.getElem?_cons_succ,List.getElem?_cons_zero,Option.some.injEq]at hw;subst hw;first | rfl | (simp[Bl.out,Bl.by4];rfl) | simp[Bl.out,Bl.by4])
theorem X44(x:Nat):Qa3 (binOp .shr 156 (.int .u32 (.ofNat x)) (.int .i64 0))=some (.int .u32 (Int.fdiv (.ofNat x) (2 ^ 0))):=by kernel_rfl
theorem X3t(x:Nat):Qa3 (binOp .shr 156 (.int .u32 (.ofNat x)) (.int .i64 8))=some (.int .u32 (Int.fdiv (.ofNat x) (2 ^ 8))):=by kernel_rfl
theorem X2m(x:Nat):Qa3 (binOp .shr 156 (.int .u32 (.ofNat x)) (.int .i64 16))=some (.int .u32 (Int.fdiv (.ofNat x) (2 ^ 16))):=by kernel_rfl
theorem X1i(x:Nat):Qa3 (binOp .shr 156 (.int .u32 (.ofNat x)) (.int .i64 24))=some (.int .u32 (Int.fdiv (.ofNat x) (2 ^ 24))):=by kernel_rfl
theorem X3w(x:Nat){r:Nat}(hr:r < 4):Qa3 (binOp .shr 156 (.int .u32 (.ofNat x)) (.int .i64 (8*(r:Int))))=some (.int .u32 (Int.fdiv (.ofNat x) (2 ^ (8*r)))):=by
 have hr':r=0∨r=1∨r=2∨r=3:=by omega
 rcases hr' with rfl | rfl | rfl | rfl
 ·exact X44 x
 ·exact X3t x
 ·exact X2m x
 ·exact X1i x
theorem Xwa(x r:Nat):IntKind.u8.wrap (Int.fdiv (.ofNat x) (2 ^ (8*r)))=.ofNat (x / 2 ^ (8*r) % 256):=by
 have e:Int.fdiv (.ofNat x) (2 ^ (8*r))=.ofNat (x / 2 ^ (8*r)):=by
  have : ((2:Int) ^ (8*r))=Int.ofNat (2 ^ (8*r)):=by simp
  rw[this]
  show Int.fdiv (x:Int) ((2 ^ (8*r):Nat):Int)=((x / 2 ^ (8*r):Nat):Int)
  rw[Int.fdiv_eq_ediv_of_nonneg _ (Int.natCast_nonneg _)]
  exact(Int.natCast_ediv _ _).symm
 rw[e]
 show((Int.ofNat (x / 2 ^ (8*r))) % (2 ^ 8:Int))=_
 exact(Int.natCast_emod _ _).symm
def z32:List Value:=List.replicate 32 (.int .u8 0)
def OI(R0 W:Nat)(p8:Bl.P8)(h:Heap)(k:Nat)(s:St):Prop:=∃ (t:Tr Value) (h1:Heap) (O i:Nat),s=⟨⟨81,t⟩,[],h1⟩∧t.get 4=some (.pointer (some ⟨R0,0,none⟩))∧t.get 6=some (.pointer (some ⟨W,0,none⟩))∧t.get 11=some (.pointer (some ⟨O,0,none⟩))∧t.get 65=some (.int .i64 (i:Int)) ∧
 i≤32∧k=32-i∧h1.get O=some (.cells true 1 (((Bl.out p8).take i).map u8v++List.replicate (32-i) (.int .u8 0)))∧h1.get W=some (.cells true 1 ((Xmg p8).map Yx))∧h1.get R0=some (.cells true 1 z32)∧Old h h1∧h.next≤O∧h.next≤R0∧O≠W∧O≠R0
section
attribute [local simp] U6 Wm J1 J8 Ys Yv Y5 Jf Qzc Qu7 Qua Quk Qzs Qj6 Qfw Qiw Yw J5 Qui Qjc Qj3 Qj8 Ym Vl Vp Zo Qj5 Qjb Qet Qj7 Qja Xe2 Qz6 Qec Jm Yh Xh X6 Yj Q5 Qd Xg Qq Qe Xi Qk Y1 Z9 Z2 aop X4 nth Ab.g0 gv gs Qx X2 aev evs evO X7 Tr.get_put St.put Tm.put flat flatA Z3 Xe Xc Xf Xa Xb Xd X9 Xj X8 Qt Qu Q6 X5 Qo Qf Q2 Qp Qg Q7 Yf Yn Ye Y0 Yi.putAll Xy X0 Qb Q3 Qy Qz X1 Q4 Qc Qw
theorem Xyw(b:Nat){h h0:Heap}{R0 W:Nat}{p8:Bl.P8}{t:Tr Value}(t4:t.get 4=some (.pointer (some ⟨R0,0,none⟩)))(t6:t.get 6=some (.pointer (some ⟨W,0,none⟩)))(hW:h0.get W=some (.cells true 1 ((Xmg p8).map Yx)))(hR:h0.get R0=some (.cells true 1 z32))(ho:Old h h0)(hR0:h.next≤R0)
  (K:AEnd→Heap→Prop) (hk:∀ h',Old h h'→K (.ret (.agg ⟨(Bl.out p8).map u8v⟩)) h'):Jp (E b) (Qrh Tryd.prog (E b).G) (D0 b) none Ql3 ⟨⟨81,t⟩,[],h0⟩ (Xq5 (E b) (DD b) Qce K):=by
 have lW:=Heap.get_lt hW
 have lR:=Heap.get_lt hR
 simp
 refine Qs0 (OI R0 W p8 h) 32 ⟨_,_,h0.next,0,rfl,by simp[t4],by simp[t6],by simp,by simp,by omega,rfl,by rw[Heap.get_push,if_pos rfl];rfl,by rw[Heap.get_push,if_neg (by omega),hW],by rw[Heap.get_push,if_neg (by omega),hR],ho.push' _,ho.1,hR0,by omega,by omega⟩ ?_
 rintro k s' ⟨t,h1,O,i,rfl,t4,t6,t11,t65,hi,rfl,gO,gW,gR,hold,hO,_,n1,n2⟩ _
 by_cases hlt:i < 32
 ·have hlt':(i:Int) < 32:=by omega
  obtain⟨q,r,rfl,hq,hr⟩:∃ q r,i=4*q+r∧q < 8∧r < 4:=⟨i / 4,i % 4,by omega,by omega,by omega⟩
  obtain⟨w,hw⟩:∃ w,(Xmg p8)[q]? = some w:=⟨_,List.getElem?_eq_getElem (by simpa[Xmg]using hq)⟩
  have ho1:=X1c p8 hq hr hw
  have hlt2:4*(q:Int)+(r:Int) < 32:=by omega
  have e1:Int.tdiv ((4*q+r:Nat):Int) 4=(q:Int):=by rw[Int.tdiv_eq_ediv_of_nonneg (by omega)];omega
  have e2:Int.tmod ((4*q+r:Nat):Int) 4=(r:Int):=by rw[Int.tmod_eq_emod_of_nonneg (by omega)];omega
  have e1':Int.tdiv (4*(q:Int)+(r:Int)) 4=(q:Int):=by rw[Int.tdiv_eq_ediv_of_nonneg (by omega)];omega
  have e2':Int.tmod (4*(q:Int)+(r:Int)) 4=(r:Int):=by rw[Int.tmod_eq_emod_of_nonneg (by omega)];omega
  have w1:IntKind.i64.wrap (q:Int)=(q:Int):=Qbe (by omega) (by omega)
  have w2:IntKind.i64.wrap (8*(r:Int))=8*(r:Int):=Qbe (by omega) (by omega)
  have w3:IntKind.i64.wrap (4*(q:Int)+(r:Int)+1)=((4*q+r+1:Nat):Int):=by rw[Qbe (by omega) (by omega)];omega
  have x1:J7 (E b).toEnv 158 (.pointer (some ⟨W,0,none⟩)) (.int .i64 (q:Int))=some (.pointer (some ⟨W,q,none⟩)):=by rw[Quk b ⟨by omega,by omega⟩];simp
  have x2:J7 (E b).toEnv 23 (.pointer (some ⟨O,0,none⟩)) (.int .i64 (4*(q:Int)+(r:Int)))=some (.pointer (some ⟨O,4*q+r,none⟩)):=by rw[Xe2 b ⟨by omega,by omega⟩];simp
  have g1:Vs h1 W q=some (.int .u32 (.ofNat w)):=by rw[Qas gW,List.getElem?_map,hw];rfl
  obtain⟨bv,hbv⟩:∃ bv:Nat,bv=w / 2 ^ (8*r) % 256:=⟨_,rfl⟩
  obtain⟨fv,hfv⟩:∃ fv:Int,fv=Int.fdiv (w:Int) (2 ^ (8*r)):=⟨_,rfl⟩
  have sh:Qa3 (binOp .shr 156 (.int .u32 (w:Int)) (.int .i64 (8*(r:Int))))=some (.int .u32 fv):=by rw[hfv];exact X3w w hr
  have ws:IntKind.u8.wrap fv=(bv:Int):=by rw[hfv,hbv];exact Xwa w r
  rw[← hbv]at ho1
  obtain⟨h2,e⟩:∃ h2,h2=h1.set O (some (.cells true 1 ((((Bl.out p8).take (4*q+r)).map u8v++List.replicate (32-(4*q+r)) (Value.int .u8 0)).set (4*q+r) (Value.int .u8 (bv:Int))))):=⟨_,rfl⟩
  have st:Uv h1 O (4*q+r) [.int .u8 (bv:Int)]=some h2:=by rw[e];exact Qd1 gO (by simp[Qfs];omega)
  simp[t4,t6,t11,t65,hlt2,e1',e2',w1,w2,w3,x1,x2,g1,sh,ws,st]
  have lO:=Heap.get_lt gO
  refine⟨32-(4*q+r+1),by omega,_,h2,O,4*q+r+1,rfl,by simp[t4],by simp[t6],by simp[t11],by simp,by omega,rfl,?_,?_,?_,?_,hO,hR0,n1,n2⟩
  ·rw[e,Heap.get_set _ _ _ _ lO,if_pos rfl]
   congr 2
   rw[List.set_append_right _ _ (by simp[Qfs];omega),List.take_succ,ho1]
   have : 32-(4*q+r)=(32-(4*q+r+1))+1:=by omega
   rw[this,List.replicate_succ]
   simp[Qfs]
   have e5:4*q+r-min (4*q+r) 32=0:=by omega
   rw[e5]
   rfl
  ·rw[e,Heap.get_set _ _ _ _ lO,if_neg (by omega),gW]
  ·rw[e,Heap.get_set _ _ _ _ lO,if_neg (by omega),gR]
  ·rw[e];exact hold.set _ hO lO
 ·have : i=32:=by omega
  subst this
  have ld:Qgg h1 O 0 32=some (.agg ⟨(Bl.out p8).map u8v⟩):=by
   rw[Qau gO (by simp[Qfs])]
   congr 3
  have st:Uv h1 R0 0 ((Bl.out p8).map u8v)=some (h1.set R0 (some (.cells true 1 ((Bl.out p8).map u8v)))):=by
   rw[Qeo gR (by simp[z32,Qfs])]
   congr 4
  have lR:=Heap.get_lt gR
  have l32:((Bl.out p8).map u8v).length=32:=by simp[Qfs]
  have g2:Qgg (h1.set R0 (some (.cells true 1 ((Bl.out p8).map u8v)))) R0 0 32=some (.agg ⟨(Bl.out p8).map u8v⟩):=by
   rw[Qau (by rw[Heap.get_set _ _ _ _ lR,if_pos rfl]) (by simp[Qfs])]
   congr 3
  simp[t4,t6,t11,t65,ld,Qfs,st,g2]
  exact hk _ (hold.set _ (by omega) lR)
end
end Go.Proofs.YtgeeklmjfbiieaaDoor
end
noncomputable section
namespace Go.Proofs.YtgeeklmjfbiieaaDoor
open Go Go.Ab
set_option maxRecDepth 100000
def KI(R0 W:Nat)(FIN:Bl.P8)(h:Heap)(k:Nat)(s:St):Prop:=∃ (t:Tr Value) (h1:Heap) (tv:Value) (l:List Nat) (count:Nat) (p8:Bl.P8),s=⟨⟨81,t⟩,[],h1⟩∧t.get 4=some (.pointer (some ⟨R0,0,none⟩))∧t.get 6=some (.pointer (some ⟨W,0,none⟩))∧t.get 7=some tv∧t.get 8=some (.int .u64 (count:Int)) ∧
 SN h1 tv l∧h1.get W=some (.cells true 1 ((Xmg p8).map Yx))∧h1.get R0=some (.cells true 1 z32)∧Old h h1∧h.next≤W∧h.next≤R0∧W≠R0∧Vn tv≠some W∧Xxw p8 l count=FIN∧k=l.length∧count+l.length < 1000000000000∧Ab.LaidIn h1 Qat
theorem SN.ofB{h:Heap}{v:Value}{l:List Nat}(s:SB h v (l.map Int.ofNat)):SN h v l:=by
 have e:(l.map Int.ofNat).map i8=l.map u8v:=by rw[List.map_map];rfl
 rw[SB,e,List.length_map]at s
 exact s
theorem LaidIn.old{h h':Heap}(l:Ab.LaidIn h Qat)(a:Old h h'):Ab.LaidIn h' Qat:=fun x hx=>a.get (l x hx)
theorem Xtn{z:Int}(h0:0≤z)(h1:z≤18446744073709551615):IntKind.u64.wrap z=z:=by
 have : IntKind.u64.wrap z=z % 18446744073709551616:=by simp[IntKind.wrap,IntKind.bits,IntKind.signed]
 rw[this]
 omega
theorem Xs4(b:Nat)(B:Nat)(h:Heap):Wb (E b).toEnv 161 (.pointer (some ⟨B,0,none⟩)) none none none h=some (.slice (some ⟨B,0,none⟩) 64 64,h):=by kernel_rfl
theorem Xw3{h:Heap}(l:Ab.LaidIn h Qat):∀ x ∈ Qat,x.1 < h.next:=fun x hx=>Heap.get_lt (l x hx)
section
attribute [local simp] U6 Wm J1 J8 Ys Yv Y5 Jf Qzc Qu7 Qua Quk Qzs Qj6 Qfw Qiw Yw J5 Qjc Qj3 Qj8 Ym Vl Vp Zo Qj5 Qjb Qet Qj7 Qja Xe2 Qz6 Qec Jm Yh Xh X6 Yj Q5 Qd Xg Qq Qe Xi Qk Y1 Z9 Z2 aop X4 nth Ab.g0 gv gs Qx X2 aev evs evO X7 Tr.get_put St.put Tm.put flat flatA Z3 Xe Xc Xf Xa Xb Xd X9 Xj X8 Qt Qu Q6 X5 Qo Qf Q2 Qp Qg Q7 Yf Yn Ye Y0 Yi.putAll Xy X0 Qb Q3 Qy Qz X1 Q4 Qc Qw
theorem Xsq(b:Nat){h h0:Heap}{R0 W:Nat}{p8 FIN:Bl.P8}{t:Tr Value}{tv:Value}{l:List Nat}{count:Nat}(hl:Ab.LaidIn h Qat)(t4:t.get 4=some (.pointer (some ⟨R0,0,none⟩)))(t6:t.get 6=some (.pointer (some ⟨W,0,none⟩)))(t7:t.get 7=some tv)(t8:t.get 8=some (.int .u64 (count:Int)))(sn:SN h0 tv l)
  (hW:h0.get W=some (.cells true 1 ((Xmg p8).map Yx))) (hR:h0.get R0=some (.cells true 1 z32)) (ho:Old h h0) (hw0:h.next≤W) (hR0:h.next≤R0) (hne:W≠R0) (hv:Vn tv≠some W) (hf:Xxw p8 l count=FIN) (hc:count+l.length < 1000000000000)
  (K:AEnd→Heap→Prop) (hk:∀ h',Old h h'→K (.ret (.agg ⟨(Bl.out FIN).map u8v⟩)) h'):Jp (E b) (Qrh Tryd.prog (E b).G) (D0 b) none Qfp ⟨⟨81,t⟩,[],h0⟩ (Xq5 (E b) (DD b) Qce K):=by
 rw[Jm,Vp]
 refine Qs0 (KI R0 W FIN h) l.length ⟨_,h0,tv,l,count,p8,rfl,t4,t6,t7,t8,sn,hW,hR,ho,hw0,hR0,hne,hv,hf,rfl,hc,LaidIn.old hl ho⟩ ?_
 rintro k s' ⟨t,h1,tv,l,count,p8,rfl,t4,t6,t7,t8,sn,gW,gR,hold,_,_,_,hv,hf,rfl,hc,hl1⟩ _
 obtain⟨h2,e2⟩:∃ h2,h2=h1.push (.cells true 1 (List.replicate 64 (.int .u8 0))):=⟨_,rfl⟩
 have a12:Old h1 h2:=by rw[e2];exact Old.push _ _
 have n2:h2.next=h1.next+1:=by rw[e2];rfl
 have gB:h2.get h1.next=some (.cells true 1 (List.replicate 64 (.int .u8 0))):=by rw[e2,Heap.get_push,if_pos rfl]
 obtain⟨h3,c1,c2,c3,c4⟩:=X06 b gB (by simp) (sn.old a12)
 have a13:Old h1 h3:=⟨by omega,fun c hc=>by rw[c4 c (by omega),a12.2 c hc]⟩
 have lenB:=Qdr (b:=b) (h1:=h3) sn.sb
 have sn3:SN h3 tv l:=sn.old a13
 obtain⟨tv',h4,f1,f2,f3,f4,f5⟩:=Xhp (b:=b) sn3.sb (k:=.i64) (i:=((min l.length 64:Nat):Int)) (by omega) (by simp;omega)
 have sn4:SN h4 tv' (l.drop 64):=by
  have e:(l.map Int.ofNat).drop (min l.length 64)=(l.drop 64).map Int.ofNat:=by
   rw[← List.map_drop]
   congr 1
   rcases Nat.le_total l.length 64 with q | q
   ·rw[Nat.min_eq_left q,List.drop_eq_nil_of_le (Nat.le_refl _),List.drop_eq_nil_of_le q]
   ·rw[Nat.min_eq_right q]
  rw[Int.toNat_natCast,e]at f2
  exact SN.ofB f2
 have lenD:∀ hx,Qib (E b).toEnv 47 tv' hx=some (.int .i64 ((l.length-64:Nat):Int)):=fun hx=>by have:=Qdr (b:=b) (h1:=hx) sn4.sb;rw[List.length_map,List.length_drop]at this;exact this
 have a14:Old h1 h4:=a13.trans f3
 have gB4:h4.get h1.next=some (.cells true 1 ((l.take 64++List.replicate (64-l.length) 0).map u8v)):=by
  rw[f3.2 _ (by omega),c2]
  congr 2
  rw[List.map_append,List.map_replicate]
  congr 1
  rw[List.drop_replicate]
  congr 1
  omega
 have gW4:h4.get W=some (.cells true 1 ((Xmg p8).map Yx)):=a14.get gW
 have gR4:h4.get R0=some (.cells true 1 z32):=a14.get gR
 have ldW:Qgg h4 W 0 8=some (p8v p8):=by
  rw[Qau gW4 (by simp[Xmg])]
  rfl
 have lW:=Heap.get_lt gW4
 have lW1:=Heap.get_lt gW
 have hmin:((min l.length 64:Nat):Int)≤64:=by omega
 have wc:IntKind.u64.wrap ((min l.length 64:Nat):Int)=((min l.length 64:Nat):Int):=Xtn (by omega) (by omega)
 have wa:IntKind.u64.wrap ((count:Int)+((min l.length 64:Nat):Int))=((count+min l.length 64:Nat):Int):=by rw[Xtn (by omega) (by omega)];omega
 obtain⟨m,hm⟩:∃ m:Nat,m=min l.length 64:=⟨_,rfl⟩
 rw[← hm]at c1 f1 wc wa
 have hmx:¬ ((m:Int) < 0):=by omega
 have pd:Pad (l.take 64) (l.take 64++List.replicate (64-l.length) 0):=⟨_,rfl⟩
 have l64:(l.take 64++List.replicate (64-l.length) 0).length=64:=by simp;omega
 have key:∀ (last:Bool) (p8':Bl.P8),p8'=Bl.take p8 (l.take 64) (count+m) last→∀ K',K' (.ret (p8v p8')) h4→FnK Tryd.prog (E b).G 92 [p8v p8,.pointer (some ⟨h1.next,0,none⟩),.int .u64 (((count+m:Nat):Int)),.bool last] h4 K':=by
  intro last p8' hp K' hk'
  refine Xy8 b (LaidIn.old hl1 a14) p8 gB4 l64 (count+m) last K' ?_
  rw[Xwo p8 pd,← hp]
  exact hk'
 have stW:∀ p8':Bl.P8,Uv h4 W 0 ((Xmg p8').map Yx)=some (h4.set W (some (.cells true 1 ((Xmg p8').map Yx)))):=fun p8'=>by
  rw[Qeo gW4 (by simp[Xmg])]
  rfl
 have alB:Qdl (E b).toEnv 161 h1=some (.pointer (some ⟨h1.next,0,none⟩),h2):=by rw[e2];exact Qui b h1
 simp[Qui,-Qui,alB,t4,t6,t7,t8,Xs4,c1,f1,wc,wa,ldW]
 have stA:∀ p8':Bl.P8,Wy (E b).toEnv 158 (.pointer (some ⟨W,0,none⟩)) (p8v p8') h4=some (h4.set W (some (.cells true 1 ((Xmg p8').map Yx)))):=fun p8'=>(Qua b h4 W 0 _ (by simp)).trans (stW p8')
 have old5:∀ x,Old h (h4.set W x):=fun x=>(hold.trans a14).set _ (by assumption) lW
 have gW5:∀ x,(h4.set W x).get W=x:=fun x=>by rw[Heap.get_set _ _ _ _ lW,if_pos rfl]
 have gR5:∀ x,(h4.set W x).get R0=some (.cells true 1 z32):=fun x=>by rw[Heap.get_set _ _ _ _ lW,if_neg (by assumption),gR4]
 by_cases h64:l.length≤64
 ·have e0:((l.length-64:Nat):Int)=0:=by omega
  have em:m=l.length:=by omega
  have et:l.take 64=l:=List.take_of_length_le h64
  rw[e0]at lenD
  have hF:FIN=Bl.take p8 (l.take 64) (count+m) true:=by rw[← hf,Xrq h64,em,et]
  simp[lenD]
  refine key true FIN hF _ ?_
  simp[Qui,stA,t6,lenD]
  refine Xyw b (W:=W) (p8:=FIN) (h:=h) (R0:=R0) (by simp[t4]) (by simp[t6]) (gW5 _) (gR5 _) (old5 _) (by assumption) K hk
 ·have e0:¬ ((l.length-64:Nat):Int)=0:=by omega
  have em:m=64:=by omega
  subst em
  have e1:(decide (((l.length-64:Nat):Int)=0))=false:=by simpa using e0
  have hlt:64 < l.length:=by omega
  have e0n:¬ (l.length-64=0):=by omega
  simp only[lenD,Ym,e1]
  refine key false _ rfl _ ?_
  simp[Qui,stA,t6,lenD,e0n]
  refine⟨l.length-64,by omega,_,_,tv',l.drop 64,count+64,Bl.take p8 (l.take 64) (count+64) false,rfl,by simp[t4],by simp[t6],by simp,by simp,?_,gW5 _,gR5 _,old5 _,by assumption,by assumption,by assumption,?_,by rw[← hf];exact(Xrr hlt).symm,by simp,by simp;omega,?_⟩
  ·refine Sl.keep sn4 fun c hc hlt => ?_
   rw[Heap.get_set _ _ _ _ lW,if_neg]
   rintro rfl
   rcases f5 _ hc with q | q
   ·exact hv q
   ·omega
  ·intro q
   rcases f5 _ q with q | q
   ·exact hv q
   ·omega
  ·intro x hx
   have hlx:=hl1 x hx
   have hx2:x.1≠W:=by
    intro q
    have:=Xw3 hl x hx
    omega
   rw[Heap.get_set _ _ _ _ lW,if_neg (Ne.symm hx2)]
   exact a14.get hlx
end
end Go.Proofs.YtgeeklmjfbiieaaDoor
end
noncomputable section
namespace Go.Proofs.YtgeeklmjfbiieaaDoor
open Go Go.Ab
set_option maxRecDepth 100000
theorem gn0(b:Nat):(0 < (E b).G.n)=True:=eq_true (by show 0 < nv;decide)
theorem X41(x:Int):Qa3 (binOp .shl 156 (.int .u32 x) (.int .u64 8))=some (.int .u32 (IntKind.u32.wrap (x*2 ^ 8))):=by kernel_rfl
theorem Xr2(x y:Int):Qa3 (binOp .xor 156 (.int .u32 x) (.int .u32 y))=some (.int .u32 (Qvk x y)):=by kernel_rfl
def Xug(k:Nat):Int:=Qvk 1779033703 (Qvk (Qvk 16842752 (IntKind.u32.wrap (IntKind.u32.wrap (k:Int)*2 ^ 8))) 32)
theorem Xvr:∀ k,k < 33→Xug k=Int.ofNat (Bl.start k).h0:=by decide
def K0(k:Nat):Bl.P8:=Bl.start k
theorem Xc1:∀ n,(Bl.zeros n).map u8v=List.replicate n (.int .u8 0)
 | 0=>rfl
 | n+1=>by
  have : (Bl.zeros (n+1)).map u8v=u8v 0::(Bl.zeros n).map u8v:=rfl
  rw[this,Xc1 n,List.replicate_succ];rfl
theorem Q14(v:Value):∀ n,Vv [v] n=List.replicate n v
 | 0=>rfl
 | n+1=>by simp[Vv,Q14 v n,List.replicate_succ]
section
attribute [local simp] J1 Y5 Jf Yh Xh X6 Yj Q5 Qd Xg Qq Qe Xi Qk Y1 Z9 Z2 aop X4 nth Ab.g0 gv gs Qx X2 aev evs evO X7 Tr.get_put St.put Tm.put flat flatA Z3 Xe Xc Xf Xa Xb Xd X9 Xj X8 Qt Qu Q6 X5 Qo Qf Q2 Qp Qg Q7 Yf Yn Ye Y0 Yi.putAll Xy X0 Qb Q3 Qy Qz X1 Q4 Qc Qw
theorem Xo4(b:Nat){h:Heap}(laid:Ab.LaidIn h Qat){kv tv:Value}{key l:List Nat}(sk:SN h kv key)(sl:SN h tv l)(hkey:key.length≤32)(hl:l.length < 1000000000)(K:AEnd→Heap→Prop)(hk:∀ h',Old h h'→K (.ret (.agg ⟨(Bl.keyed1 key l).map u8v⟩)) h') :
  FnK Tryd.prog (E b).G 54 [kv,tv] h K:=by
 refine Qal (E b) (Wp b) (V2 b) Vm (Wv b) (Qak b) (J1 b) Q4s Xib Xck rfl ?_
 have lenk:∀ hx,Qib (E b).toEnv 47 kv hx=some (.int .i64 (key.length:Int)):=fun hx=>Qdu (T47 b) sk
 have lent:∀ hx,Qib (E b).toEnv 47 tv hx=some (.int .i64 (l.length:Int)):=fun hx=>Qdu (T47 b) sl
 have h32:¬ (32:Int) < (key.length:Int):=by omega
 have gbeg:h.get 0=some (.cells false 0 W4):=laid (0,W4) (by simp[Qat])
 obtain⟨hA,eA⟩:∃ hA,hA=h.push (.cells true 1 z32):=⟨_,rfl⟩
 obtain⟨hB,eB⟩:∃ hB,hB=hA.push (.cells true 1 (List.replicate 8 (.int .u32 0))):=⟨_,rfl⟩
 have aA:Old h hA:=by rw[eA];exact Old.push _ _
 have aB:Old hA hB:=by rw[eB];exact Old.push _ _
 have nA:hA.next=h.next+1:=by rw[eA];rfl
 have nB:hB.next=hA.next+1:=by rw[eB];rfl
 have gA:hA.get h.next=some (.cells true 1 z32):=by rw[eA,Heap.get_push,if_pos rfl]
 have gB:hB.get hA.next=some (.cells true 1 (List.replicate 8 (.int .u32 0))):=by rw[eB,Heap.get_push,if_pos rfl]
 have alA:Qdl (E b).toEnv 23 h=some (.pointer (some ⟨h.next,0,none⟩),hA):=by rw[eA];exact J8 b h
 have alB:Qdl (E b).toEnv 158 hA=some (.pointer (some ⟨hA.next,0,none⟩),hB):=by rw[eB];exact Qu7 b hA
 have ld0:Qgg hA 0 0 8=some (.agg ⟨W4⟩):=by
  rw[Qau (aA.get gbeg) (by simp[W4])];rfl
 obtain⟨hC,eC⟩:∃ hC,hC=hB.set hA.next (some (.cells true 1 W4)):=⟨_,rfl⟩
 have lB:=Heap.get_lt gB
 have gC:hC.get hA.next=some (.cells true 1 W4):=by rw[eC,Heap.get_set _ _ _ _ lB,if_pos rfl]
 have stC:Wy (E b).toEnv 158 (.pointer (some ⟨hA.next,0,none⟩)) (.agg ⟨W4⟩) hB=some hC:=(Qua b hB hA.next 0 _ (by simp[W4])).trans (by rw[Qeo gB (by simp[W4]),eC];rfl)
 have ldC:Vs hC hA.next 0=some (.int .u32 1779033703):=by rw[Qas gC];rfl
 obtain⟨hD,eD⟩:∃ hD,hD=hC.set hA.next (some (.cells true 1 (W4.set 0 (.int .u32 (Xug key.length))))):=⟨_,rfl⟩
 have lC:=Heap.get_lt gC
 have stD:Uv hC hA.next 0 [.int .u32 (Xug key.length)]=some hD:=by rw[eD];exact Qd1 gC (by simp[W4])
 have gD:hD.get hA.next=some (.cells true 1 ((Xmg (Bl.start key.length)).map Yx)):=by
  rw[eD,Heap.get_set _ _ _ _ lC,if_pos rfl,Xvr _ (by omega)];rfl
 have aC:Old h hC:=by rw[eC];exact(aA.trans aB).set _ (by omega) lB
 have aD:Old h hD:=by rw[eD];exact aC.set _ (by omega) lC
 have gR:hD.get h.next=some (.cells true 1 z32):=by
  rw[eD,Heap.get_set _ _ _ _ lC,if_neg (by omega),eC,Heap.get_set _ _ _ _ lB,if_neg (by omega)]
  exact aB.get gA
 have hx0:J7 (E b).toEnv 158 (.pointer (some ⟨hA.next,0,none⟩)) (.int .i64 0)=some (.pointer (some ⟨hA.next,0,none⟩)):=Quk b ⟨by omega,by omega⟩
 obtain⟨a0,ha0⟩:∃ a:Int,a=IntKind.u32.wrap (key.length:Int):=⟨_,rfl⟩
 obtain⟨a1,ha1⟩:∃ a:Int,a=IntKind.u32.wrap (a0*2 ^ 8):=⟨_,rfl⟩
 obtain⟨a2,ha2⟩:∃ a:Int,a=Qvk 16842752 a1:=⟨_,rfl⟩
 obtain⟨a3,ha3⟩:∃ a:Int,a=Qvk a2 32:=⟨_,rfl⟩
 obtain⟨a4,ha4⟩:∃ a:Int,a=Xug key.length:=⟨_,rfl⟩
 have x0:Qhm (E b).toEnv 3 156 (.int .i64 (key.length:Int))=some (.int .u32 a0):=by rw[ha0];exact Qfw b _ _
 have x1:Qa3 (binOp .shl 156 (.int .u32 a0) (.int .u64 8))=some (.int .u32 a1):=by rw[ha1];exact X41 a0
 have x2:Qa3 (binOp .xor 156 (.int .u32 16842752) (.int .u32 a1))=some (.int .u32 a2):=by rw[ha2];exact Xr2 _ _
 have x3:Qa3 (binOp .xor 156 (.int .u32 a2) (.int .u32 32))=some (.int .u32 a3):=by rw[ha3];exact Xr2 _ _
 have x4:Qa3 (binOp .xor 156 (.int .u32 1779033703) (.int .u32 a3))=some (.int .u32 a4):=by rw[ha4,Xug,← ha0,← ha1,← ha2,← ha3];exact Xr2 _ _
 rw[← ha4]at stD
 simp[U6,Wm,J8,Ys,Yv,Qzc,Qu7,Qua,Quk,Qzs,Qj6,Qfw,Qiw,Yw,J5,Qui,Qjc,Qj3,Qj8,Ym,Vl,Vp,Zo,Qj5,Qjb,Qet,Qj7,Qja,Xe2,Qz6,Qec,Jm,-J8,-Qu7,gn0,alA,alB,lenk,lent,h32,ld0,stC,hx0,ldC,stD,-Qfw,x0,x1,x2,x3,x4]
 have laidD:=LaidIn.old laid aD
 have fin:∀ (t:Tr Value) (h0:Heap) (v:Value) (text:List Nat),text=Bl.textOf key l→t.get 4=some (.pointer (some ⟨h.next,0,none⟩))→t.get 6=some (.pointer (some ⟨hA.next,0,none⟩))→t.get 7=some v→t.get 8=some (.int .u64 0)→SN h0 v text→Old hD h0→Vn v≠some hA.next →
   Jp (E b) (Qrh Tryd.prog (E b).G) (D0 b) none Qfp ⟨⟨81,t⟩,[],h0⟩ (Xq5 (E b) (DD b) Qce K):=by
  intro t h0 v text e t4 t6 t7 t8 sn o0 hv
  refine Xsq b (count:=0) (FIN:=Xxw (Bl.start key.length) text 0) laid t4 t6 t7 t8 sn (o0.get gD) (o0.get gR) (aD.trans o0) (by omega) (Nat.le_refl _) (by omega) hv rfl ?_ K fun h' q => ?_
  ·subst e
   cases key with
   | nil=>simp[Bl.textOf];omega
   | cons k ks =>
    have z:∀ n,(Bl.zeros n).length=n:=fun n=>by induction n with
     | zero=>rfl
     | succ n ih=>simp[Bl.zeros,ih]
    simp[Bl.textOf,z]at hkey ⊢;omega
  ·rw[e]at *
   exact hk h' q
 cases hkc:key with
 | nil =>
  subst hkc
  simp[U6,Wm,J8,Ys,Yv,Qzc,Qu7,Qua,Quk,Qzs,Qj6,Qfw,Qiw,Yw,J5,Qui,Qjc,Qj3,Qj8,Ym,Vl,Vp,Zo,Qj5,Qjb,Qet,Qj7,Qja,Xe2,Qz6,Qec,Jm,-Jm]
  refine fin _ hD tv l rfl (by simp) (by simp) (by simp) (by simp) (sl.old aD) (Old.refl _) fun q => ?_
  have:=sl.blk q
  omega
 | cons k ks =>
  have h0:0 < key.length:=by rw[hkc];simp
  rw[← hkc]
  have w1:IntKind.i64.wrap (64+(l.length:Int))=((64+l.length:Nat):Int):=by rw[Qbe (by omega) (by omega)];omega
  have w2:IntKind.i64.wrap (64-(key.length:Int))=((64-key.length:Nat):Int):=by rw[Qbe (by omega) (by omega)];omega
  obtain⟨h1,e1⟩:∃ h1,h1=hD.push (.cells true 1 (List.replicate (64+l.length) (.int .u8 0))):=⟨_,rfl⟩
  have a1:Old hD h1:=by rw[e1];exact Old.push _ _
  have mk:Qe4 (E b).toEnv 47 (.int .i64 0) (.int .i64 ((64+l.length:Nat):Int)) hD=some (.slice (some ⟨hD.next,0,none⟩) 0 (64+l.length),h1):=by
   simp only[Qe4,Qy5,(T47 b).d,Xpe]
   rw[if_pos ⟨by omega,by omega,by omega,by rw[Qp5];omega,by rw[Qb3];omega⟩,Xs9,e1]
   have : (Value.int .u8 0).cells.toList=[.int .u8 0]:=rfl
   rw[this,Q14]
   simp only[Int.toNat_natCast,Int.toNat_zero]
  have mk':Qe4 (E b).toEnv 47 (.int .i64 0) (.int .i64 (64+(l.length:Int))) hD=some (.slice (some ⟨hD.next,0,none⟩) 0 (64+l.length),h1):=by
   have:=mk
   rw[show((64+l.length:Nat):Int)=64+(l.length:Int) by omega]at this
   exact this
  have o1:Own h1 hD.next 1 (.slice (some ⟨hD.next,0,none⟩) 0 (64+l.length)) 0 []:=.inr ⟨hD.next,64+l.length,1,_,rfl,Nat.le_refl _,by rw[e1,Heap.get_push,if_pos rfl,List.nil_append],rfl,by omega,by unfold Qaz;omega,.inr ⟨by unfold Qaz;omega,by simp⟩⟩
  obtain⟨v2,h2,c1,o2,b2⟩:=Qwo (T47 b) (tx:=47) (m:=key.length) (ys:=key.map u8v) Qb3 (by omega) o1 a1.1 (Xgq (T47 b) Qb3 (sk.old (aD.trans a1))) (by simp) (by rw[Qp5];omega) (by omega)
  have nz:Q13 (E b).toEnv 3 R5 (.int .i64 ((64-key.length:Nat):Int)) h2=some (64-key.length,List.replicate (64-key.length) (.int .u8 0)):=by
   have hi:R3.desc=.int .i64:=by kernel_rfl
   simp only[Q13,X4l,hi]
   rw[if_pos ⟨by omega,by omega,by rw[Qp5];omega,by rw[Qb3];omega⟩,Xs9]
   have : (Value.int .u8 0).cells.toList=[.int .u8 0]:=rfl
   rw[this,Q14]
   simp
  obtain⟨v3,h3,c2,o3,b3⟩:=Qwo (T47 b) (tx:=3) Qb3 (by omega) o2 (Nat.le_trans a1.1 b2.1) nz (by simp) (by rw[Qp5];omega) (by omega)
  have a2:Old hD h2:=b2.old a1 o1
  have a3:Old hD h3:=b3.old a2 o2
  obtain⟨v4,h4,c3,o4,b4⟩:=Qwo (T47 b) (tx:=47) (m:=l.length) (ys:=l.map u8v) Qb3 (by omega) o3 a3.1 (Xgq (T47 b) Qb3 (sl.old (aD.trans a3))) (by simp) (by rw[Qp5];omega) (by omega)
  have a4:Old hD h4:=b4.old a3 o3
  simp[U6,Wm,J8,Ys,Yv,Qzc,Qu7,Qua,Quk,Qzs,Qj6,Qfw,Qiw,Yw,J5,Qui,Qjc,Qj3,Qj8,Ym,Vl,Vp,Zo,Qj5,Qjb,Qet,Qj7,Qja,Xe2,Qz6,Qec,Jm,-Jm,h0,lenk,lent,w1,w2,mk',c1,c2,c3]
  have zl:(Bl.zeros (64-key.length)).length=64-key.length:=by have:=congrArg List.length (Xc1 (64-key.length));simpa using this
  have tx:Bl.textOf key l=key++(Bl.zeros (64-key.length)++l):=by rw[hkc];rfl
  have sn:SN h4 v4 (key++(Bl.zeros (64-key.length)++l)):=by
   have:=o4.sl
   have e1 : []++key.map u8v++List.replicate (64-key.length) (Value.int .u8 0)++l.map u8v=(key++(Bl.zeros (64-key.length)++l)).map u8v:=by
    rw[List.map_append,List.map_append,Xc1]
    simp
   have e2:0+key.length+(64-key.length)+l.length=(key++(Bl.zeros (64-key.length)++l)).length:=by
    simp only[List.length_append,zl];omega
   rw[e1,e2]at this
   exact this
  refine fin _ h4 v4 _ tx.symm (by simp) (by simp) (by simp) (by simp) sn a4 fun q => ?_
  have:=(o4.from q).1
  have:=Heap.get_lt gD
  omega
theorem X12(b:Nat){h:Heap}(laid:Ab.LaidIn h Qat){tv:Value}{l:List Nat}(sl:SN h tv l)(hl:l.length < 1000000000)(K:AEnd→Heap→Prop)(hk:∀ h',Old h h'→K (.ret (.agg ⟨(Bl.keyed1 [] l).map u8v⟩)) h') :
  FnK Tryd.prog (E b).G 87 [tv] h K:=by
 refine Qal (E b) (Wp b) (V2 b) Vm (Wv b) (Qak b) (Y5 b) Xe8 Xmk Xjo rfl ?_
 obtain⟨hA,eA⟩:∃ hA,hA=h.push (.cells true 1 z32):=⟨_,rfl⟩
 have aA:Old h hA:=by rw[eA];exact Old.push _ _
 have gA:hA.get h.next=some (.cells true 1 z32):=by rw[eA,Heap.get_push,if_pos rfl]
 have alA:Qdl (E b).toEnv 23 h=some (.pointer (some ⟨h.next,0,none⟩),hA):=by rw[eA];exact J8 b h
 simp[Qmi,Q3f,J8,-J8,alA]
 refine Xo4 b (LaidIn.old laid aA) (kv:=.slice none 0 0) (key:=[]) Sl.nil (sl.old aA) (by simp) hl _ fun h2 a2 => ?_
 have g2:h2.get h.next=some (.cells true 1 z32):=a2.get gA
 have kl:(Bl.keyed1 [] l).length=32:=Qfs _
 have l2:=Heap.get_lt g2
 have st:Uv h2 h.next 0 ((Bl.keyed1 [] l).map u8v)=some (h2.set h.next (some (.cells true 1 ((Bl.keyed1 [] l).map u8v)))):=by
  rw[Qeo g2 (by simp[z32,kl])]
  congr 4
 have g3:Qgg (h2.set h.next (some (.cells true 1 ((Bl.keyed1 [] l).map u8v)))) h.next 0 32=some (.agg ⟨(Bl.keyed1 [] l).map u8v⟩):=by
  rw[Qau (by rw[Heap.get_set _ _ _ _ l2,if_pos rfl]) (by simp[kl])]
  congr 3
 simp[Qmi,Q3f,J8,Qec,st,kl,g3]
 exact hk _ ((aA.trans a2).set _ (Nat.le_refl _) l2)
end
end Go.Proofs.YtgeeklmjfbiieaaDoor
end
noncomputable section
namespace Go.Proofs.YtgeeklmjfbiieaaDoor
open Go Go.Ab
set_option maxRecDepth 100000
def Xzu(xs:List Int):ByteArray:=⟨⟨xs.map fun n=>UInt8.ofNat n.toNat⟩⟩
theorem Xfc:∀ xs:List Int,Qup (xs.map i8)=some xs
 | []=>rfl
 | x::xs=>by
  show(match Qup (xs.map i8)with | some r=>some (x::r) | none=>none)=_
  rw[Xfc xs]
theorem Xo6(b:Nat){h:Heap}{v:Value}{xs:List Int}(s:SB h v xs):Qv1 (E b).toEnv 47 9 v h=some (.string (Xzu xs),h):=by
 have h1:R47.desc=.slice 5:=(T47 b).d
 have h2:R9.desc=.string:=by kernel_rfl
 have h3:R5.desc=.int .u8:=by kernel_rfl
 rcases s with⟨c,rfl,_,e,e2⟩ | ⟨bk,o,c,ow,z',pre,post,rfl,g1,g2,g3, -⟩
 ·have : xs=[]:=List.map_eq_nil_iff.1 e2
  subst this
  simp only[Qv1,Qy5,X4c,h1,h2,Xpe,h3]
  rfl
 ·have h4:Ab.cellsAt h ⟨bk,o,none⟩ xs.length=some (xs.map i8):=by
   simp only[Ab.cellsAt,g1]
   rw[← g2,List.append_assoc,List.drop_left,Qm1 (by simp),List.take_append_of_le_length (by simp),List.take_of_length_le (by simp)]
  simp only[Qv1,Qy5,X4c,h1,h2,Xpe,h3,h4,Xfc]
  rfl
theorem Xxd(x y:ByteArray):Qa3 (binOp .eql 9 (.string x) (.string y))=some (.bool (x.toList == y.toList)):=by kernel_rfl
theorem X1w:∀ (xs ys:List Int),Bytes xs→Bytes ys→xs.map (fun n=>UInt8.ofNat n.toNat)=ys.map (fun n=>UInt8.ofNat n.toNat)→xs=ys:=by
 intro xs
 induction xs with
 | nil=>intro ys _ _ e;cases ys <;> simp_all
 | cons x xs ih =>
  intro ys hx hy e
  cases ys with
  | nil=>simp at e
  | cons y ys =>
   simp only[List.map_cons,List.cons.injEq]at e
   have b1:=hx x (by simp)
   have b2:=hy y (by simp)
   have e3:=congrArg UInt8.toNat e.1
   simp only[UInt8.toNat_ofNat']at e3
   have : x=y:=by omega
   rw[this,ih ys (fun z hz=>hx z (by simp[hz])) (fun z hz=>hy z (by simp[hz])) e.2]
theorem Xsu{xs ys:List Int}(hx:Bytes xs)(hy:Bytes ys):((Xzu xs).toList == (Xzu ys).toList)=decide (xs=ys):=by
 rw[ByteArray.toList_eq,ByteArray.toList_eq]
 show(xs.map (fun n=>UInt8.ofNat n.toNat) == ys.map (fun n=>UInt8.ofNat n.toNat))=decide (xs=ys)
 by_cases h:xs=ys
 ·subst h;simp
 ·rw[decide_eq_false h]
  simp only[beq_eq_false_iff_ne,ne_eq]
  exact fun e=>h (X1w xs ys hx hy e)
theorem Xx2(b:Nat){h:Heap}{v w:Value}{xs ys:List Int}(s1:SB h v xs)(s2:SB h w ys)(b1:Bytes xs)(b2:Bytes ys)(K:AEnd→Heap→Prop)(hk:K (.ret (.bool (decide (xs=ys)))) h):FnK Tryd.prog (E b).G 42 [v,w] h K:=by
 refine Qal (E b) (Wp b) (V2 b) Vm (Wv b) (Qak b) (Y2 b) Q6q Xgv Xco rfl ?_
 simp[Qs6,Xer,Y2,Xzf,Yh,Xh,X6,Yj,Q5,Qd,Xg,Qq,Qe,Xi,Qk,Y1,Z9,Z2,aop,X4,nth,Ab.g0,gv,gs,Qx,X2,aev,evs,evO,X7,Tr.get_put,St.put,Tm.put,flat,flatA,Z3,Xe,Xc,Xf,Xa,Xb,Xd,X9,Xj,X8,Qt,Qu,Q6,X5,Qo,Qf,Q2,Qp,Qg,Q7,Yf,Yn,Ye,Y0,Yi.putAll,Xy,X0,Qb,Q3,Qy,Qz,X1,Q4,Qc,Qw,Xo6 b s1,Xo6 b s2,Xxd,Xsu b1 b2]
 exact hk
end Go.Proofs.YtgeeklmjfbiieaaDoor
end
noncomputable section
namespace Go.Proofs.YtgeeklmjfbiieaaDoor
open Go Go.Ab
set_option maxRecDepth 100000
def X4i(a b:Int):Int:=IntKind.wrap .i64 ((BitVec.ofInt 64 a ||| BitVec.ofInt 64 b).toNat:Nat)
theorem X3h(x y:Int):Qa3 (binOp .or 3 (.int .i64 x) (.int .i64 y))=some (.int .i64 (X4i x y)):=by kernel_rfl
theorem X1e(x y:Int)(h:y=0∨y=8∨y=16∨y=24):Qa3 (binOp .shl 3 (.int .i64 x) (.int .i64 y))=some (.int .i64 (IntKind.i64.wrap (x*2 ^ y.toNat))):=by
 rcases h with rfl | rfl | rfl | rfl
 ·exact(by kernel_rfl:Qa3 (binOp .shl 3 (.int .i64 x) (.int .i64 0))=some (.int .i64 (IntKind.i64.wrap (x*2 ^ 0))))
 ·exact(by kernel_rfl:Qa3 (binOp .shl 3 (.int .i64 x) (.int .i64 8))=some (.int .i64 (IntKind.i64.wrap (x*2 ^ 8))))
 ·exact(by kernel_rfl:Qa3 (binOp .shl 3 (.int .i64 x) (.int .i64 16))=some (.int .i64 (IntKind.i64.wrap (x*2 ^ 16))))
 ·exact(by kernel_rfl:Qa3 (binOp .shl 3 (.int .i64 x) (.int .i64 24))=some (.int .i64 (IntKind.i64.wrap (x*2 ^ 24))))
def Xd8(x:List Int):Nat→Int
 | 0=>0
 | i+1=>X4i (Xd8 x i) (IntKind.i64.wrap (x.getD i 0*2 ^ (8*i)))
def UI(μ:Nat)(v:Value)(x:List Int)(h:Heap)(k:Nat)(s:St):Prop:=∃ (t:Tr Value) (i:Nat),s=⟨⟨35,t⟩,[],h⟩∧t.get 0=some (.pointer (some ⟨μ,0,none⟩))∧t.get 12=some v∧t.get 13=some (.int .i64 4)∧t.get 14=some (.int .i64 (i:Int))∧t.get 3=some (.int .i64 (Xd8 x i))∧i≤4∧k=4-i
theorem MRow.c33{h:Heap}{MB:Nat→Prop}{μ z:Nat}{e:Menv}{ps:List (Value × List Int)}{op:List Br}{sv ov:Value}(m:MRow h MB μ e ps op sv ov z):Vs h μ 33=some (.int .i64 e.lk):=by
 rw[Qas m.at',List.getElem?_append_left (by rw[e.len];omega)]
 simp[Menv.cells,e.hd]
section
attribute [local simp] Z8 Zq Qi Q0 Ys Ym Qa Zo Qaf Qiv W8 We Qet Yw Ua Qif Qa5 Qs9 Yh Xh X6 Yj Q5 Qd Xg Qq Qe Xi Qk Y1 Z9 Z2 aop X4 nth Ab.g0 gv gs Qx X2 aev evs evO X7 Tr.get_put St.put Tm.put flat flatA Z3 Xe Xc Xf Xa Xb Xd X9 Xj X8 Qt Qu Q6 X5 Qo Qf Q2 Qp Qg Q7 Yf Yn Ye Y0 Yi.putAll Xy X0 Qb Q3 Qy Qz X1 Q4 Qc Qw
theorem Xw7(b:Nat){h:Heap}{MB:Nat→Prop}{μ:Nat}{e:Menv}{v:Value}{x:List Int}{ps:List (Value × List Int)}{op:List Br}(M:Mach h MB μ e ((v,x)::ps) op)(hl:ps.length < 1000)(K:AEnd→Heap→Prop)(hk:x.length=4→Xd8 x 4≤e.lk→∀ h',Mach h' MB μ e ps op→Mv MB MB h h'→K (.ret (.tuple #[])) h')
  (h4:x.length≠4→∀ h',Mv MB MB h h'→K (.panic (pe 16)) h') (he:x.length=4→¬ Xd8 x 4≤e.lk→∀ h',Mv MB MB h h'→K (.panic (pe 18)) h'):FnK Tryd.prog (E b).G 90 [.pointer (some ⟨μ,0,none⟩)] h K:=by
 refine Qal (E b) (Wp b) (V2 b) Vm (Wv b) (Qak b) (Qi b) Qep Qgx Qg1 rfl ?_
 simp
 refine Qe3 b M hl _ fun h1 M1 m1 _ i1 _ => ?_
 have len:=fun hx=>Qdr (b:=b) (h1:=hx) i1.sb
 by_cases hx:x.length=4
 ·rw[hx]at len
  have len4:∀ hx,Qib (E b).toEnv 47 v hx=some (.int .i64 4):=len
  simp[len4]
  refine Qs2 b h1 16 _ ?_
  simp[len4]
  refine Qs0 (UI μ v x h1) 4 ⟨_,0,rfl,by simp,by simp,by simp,by simp,by simp[Xd8],by omega,rfl⟩ ?_
  rintro k s' ⟨t,i,rfl,t0,t12,t13,t14,t3,hi,rfl⟩ _
  obtain⟨⟨sv,ov,z,r⟩,its,low⟩:=M1
  by_cases hlt:i < 4
  ·have hlt':(i:Int) < 4:=by omega
   obtain⟨c,hc⟩:∃ c,x[i]? = some c:=⟨_,List.getElem?_eq_getElem (by omega)⟩
   obtain⟨bk,off,q1,q2,q3⟩:=Xp0 (b:=b) i1.sb (k:=.i64) hc
   have hb:=i1.by8 c (List.mem_of_getElem? hc)
   have w1:IntKind.i64.wrap c=c:=Qbe (by omega) (by omega)
   have w2:IntKind.i64.wrap (8*(i:Int))=8*(i:Int):=Qbe (by omega) (by omega)
   have w3:IntKind.i64.wrap ((i:Int)+1)=((i+1:Nat):Int):=by rw[Qbe (by omega) (by omega)];omega
   obtain⟨a1,ha1⟩:∃ a:Int,a=IntKind.i64.wrap (c*2 ^ (8*i)):=⟨_,rfl⟩
   have sh:Qa3 (binOp .shl 3 (.int .i64 c) (.int .i64 (8*(i:Int))))=some (.int .i64 a1):=by
    rw[X1e c _ (by omega),ha1]
    congr 5
   have orr:Qa3 (binOp .or 3 (.int .i64 (Xd8 x i)) (.int .i64 a1))=some (.int .i64 (Xd8 x (i+1))):=by
    rw[X3h,ha1,Xd8,List.getD_eq_getElem?_getD,hc]
    rfl
   simp only[i8]at q3
   simp[t0,t12,t13,t14,t3,hlt',q2,q3,w1,w2,w3,sh,orr]
   exact⟨4-(i+1),by omega,_,i+1,rfl,by simp[t0],by simp[t12],by simp[t13],by simp,by simp,by omega,rfl⟩
  ·have : i=4:=by omega
   subst this
   have c33:=r.c33
   by_cases hle:Xd8 x 4≤e.lk
   ·simp[Qb1,t0,t12,t13,t14,t3,c33,hle]
    refine Qs2 b h1 18 _ ?_
    simp
    exact hk hx hle h1 ⟨⟨sv,ov,z,r⟩,its,low⟩ m1
   ·simp[Qb1,t0,t12,t13,t14,t3,c33,hle]
    refine Qm9 b h1 18 _ ?_
    simp
    exact he hx hle h1 m1
 ·have hx':¬ (x.length:Int)=4:=by omega
  simp[len,hx,hx']
  refine Qm9 b h1 16 _ ?_
  simp
  exact h4 hx h1 m1
end
end Go.Proofs.YtgeeklmjfbiieaaDoor
end
noncomputable section
namespace Go.Proofs.YtgeeklmjfbiieaaDoor
open Go Go.Ab
set_option maxRecDepth 100000
section
attribute [local simp] Qbu Qgj Z6 Zo Yv Qee Qdy Qed J5 Xh9 Xo5 Yh Xh X6 Yj Q5 Qd Xg Qq Qe Xi Qk Y1 Z9 Z2 aop X4 nth Ab.g0 gv gs Qx X2 aev evs evO X7 Tr.get_put St.put Tm.put flat flatA Z3 Xe Xc Xf Xa Xb Xd X9 Xj X8 Qt Qu Q6 X5 Qo Qf Q2 Qp Qg Q7 Yf Yn Ye Y0 Yi.putAll Xy X0 Qb Q3 Qy Qz X1 Q4 Qc Qw
theorem Xwb(b:Nat)(h:Heap)(ν:Nat){o:Int}(ho:o < 1∨32 < o)(K:AEnd→Heap→Prop)(hk:K (.ret (.pointer none)) h):FnK Tryd.prog (E b).G 144 [.pointer (some ⟨ν,0,none⟩),.int .i64 o] h K:=by
 refine Qal (E b) (Wp b) (V2 b) Vm (Wv b) (Qak b) (Z6 b) Qip Qom Qmd rfl ?_
 by_cases h1:o < 1
 ·simp[h1]
  exact hk
 ·have h2:32 < o:=by omega
  simp[h1,h2]
  exact hk
theorem Xot(b:Nat)(h:Heap)(ν:Nat){o:Int}(h1:1≤o)(h2:o≤32)(K:AEnd→Heap→Prop)(hk:K (.ret (.pointer (some ⟨ν,(o-1).toNat*32,none⟩))) h):FnK Tryd.prog (E b).G 144 [.pointer (some ⟨ν,0,none⟩),.int .i64 o] h K:=by
 refine Qal (E b) (Wp b) (V2 b) Vm (Wv b) (Qak b) (Z6 b) Qip Qom Qmd rfl ?_
 have a1:¬ o < 1:=by omega
 have a2:¬ 32 < o:=by omega
 have w:IntKind.i64.wrap (o-1)=o-1:=Qbe (by omega) (by omega)
 have a3:0≤o-1∧o-1 < ((32:Nat):Int):=⟨by omega,by omega⟩
 have hx:J7 (E b).toEnv 109 (.pointer (some ⟨ν,0,none⟩)) (.int .i64 (o-1))=some (.pointer (some ⟨ν,(o-1).toNat*32,none⟩)):=by rw[Xo5 b a3];simp
 simp[Qb1,a1,a2,w,hx]
 rw[show o.toNat-1=(o-1).toNat by omega]
 exact hk
end
end Go.Proofs.YtgeeklmjfbiieaaDoor
end
noncomputable section
namespace Go.Proofs.YtgeeklmjfbiieaaDoor
open Go Go.Ab
set_option maxRecDepth 100000
def z16:List Value:=List.replicate 16 (.int .u8 0)
theorem Xvq(b:Nat):Xse (E b).toEnv .neq 227 (.pointer none) (.pointer none)=some (.bool false):=by kernel_rfl
theorem Xnd(b bk o:Nat):Xse (E b).toEnv .neq 227 (.pointer (some ⟨bk,o,none⟩)) (.pointer none)=some (.bool true):=by kernel_rfl
end Go.Proofs.YtgeeklmjfbiieaaDoor
end
noncomputable section
namespace Go.Proofs.YtgeeklmjfbiieaaDoor
open Go Go.Ab
set_option maxRecDepth 100000
theorem Xmo(b:Nat)(B o:Nat)(h:Heap):Wb (E b).toEnv 23 (.pointer (some ⟨B,o,none⟩)) none none none h=some (.slice (some ⟨B,o,none⟩) 32 32,h):=by kernel_rfl
theorem X01(b:Nat)(B o:Nat)(h:Heap):Wb (E b).toEnv 90 (.pointer (some ⟨B,o,none⟩)) none none none h=some (.slice (some ⟨B,o,none⟩) 16 16,h):=by kernel_rfl
theorem X1a(b:Nat){h:Heap}{B:Nat}{D:Nat}(hD:0 < D){ds:List Value}{v:Value}{l:List Nat}(hg:h.get B=some (.cells true 1 ds))(hd:ds.length=D)(s:SN h v l) :
  ∃ h',Qyp (E b).toEnv 47 (.slice (some ⟨B,0,none⟩) D D) v h=some (.int .i64 ((min l.length D:Nat):Int),h')∧h'.get B=some (.cells true 1 ((l.take D).map u8v++ds.drop (min l.length D)))∧h'.next=h.next∧∀ c,c≠B→h'.get c=h.get c:=by
 have hmin:Nat.min l.length D=min l.length D:=rfl
 have hlen:Qxm v=some l.length:=by rcases s with⟨c,rfl,_,e,_⟩ | ⟨bk,o,c,ow,z',pre,post,rfl,_⟩ <;> simp_all [Qxm]
 have hsrc:Xl9 1 (Nat.min l.length D) v h=some ((l.take D).map u8v):=by
  rcases s with⟨c,rfl,_,e,e2⟩ | ⟨bk,o,c,ow,z',pre,post,rfl,h1,h2,h3, -⟩
  ·have : l=[]:=List.eq_nil_of_length_eq_zero e
   subst this
   simp[Xl9]
  ·have h4:Qkh (Nat.min l.length D*1) ((pre++l.map u8v++post).drop o)=some ((l.take D).map u8v):=by
    rw[hmin,← h2,List.append_assoc,List.drop_left,Qm1 (by simp;omega),List.take_append_of_le_length (by simp;omega),← List.map_take,Nat.mul_one]
    congr 2
    rcases Nat.le_total l.length D with q | q
    ·rw[Nat.min_eq_left q,List.take_of_length_le (Nat.le_refl _),List.take_of_length_le q]
    ·rw[Nat.min_eq_right q]
   simp only[Xl9,Ab.cellsAt,h1,h4]
 have hr:R47.desc=.slice 5:=(T47 b).d
 cases hc:(l.take D).map u8v with
 | nil =>
  have : l=[]:=by
   cases l with
   | nil=>rfl
   | cons x l=>cases D with
    | zero=>omega
    | succ D=>simp at hc
  subst this
  refine⟨h,?_,by simpa using hg,rfl,fun _ _=>rfl⟩
  rw[hc]at hsrc
  simp only[Qyp,Qy5,hr,hlen,Xpe,Qb3,hsrc]
 | cons x xs =>
  have hle:(x::xs).length≤ds.length:=by rw[← hc,hd];simp;omega
  have hst:storeAt h ⟨B,0,none⟩ (x::xs)=some (h.set B (some (.cells true 1 ((x::xs)++ds.drop (x::xs).length)))):=by
   simp only[storeAt,hg]
   rw[Qkz (by simpa using hle)]
   simp
  rw[hc]at hsrc
  refine⟨h.set B (some (.cells true 1 ((x::xs)++ds.drop (x::xs).length))),?_,?_,rfl,fun c hc=>by rw[Heap.get_set _ _ _ _ (Heap.get_lt hg),if_neg (Ne.symm hc)]⟩
  ·simp only[Qyp,Qy5,hr,hlen,Xpe,Qb3,hsrc,hst]
   rfl
  ·rw[Heap.get_set _ _ _ _ (Heap.get_lt hg),if_pos rfl]
   congr 4
   rw[← hc,List.length_map,List.length_take,Nat.min_comm]
def Qms(ks ds:List Nat):List Nat:=(Bl.keyed1 ks ds).take 16
section
attribute [local simp] Jo U2 Ze Z6 Qa8 J1 Jf Qf1 Xji Yh Z2 aop X4 nth Ab.g0 gv gs Qx X2 aev evs evO X7 Tr.get_put St.put Tm.put flat flatA Z3 Xe Xc Xf Xa Xb Xd X9 Xj X8 Qt Qu Xy X0 Qb Q3 Qy Qz X1 Q4 Qc Qw
theorem Xsd(b:Nat){h:Heap}(laid:Ab.LaidIn h Qat){ν z:Nat}{ow:Bool}{pre post:List Value}{ks ds:List Nat}{o:Int}(h1:1≤o)(h2:o≤32)(hg:h.get ν=some (.cells ow z (pre++ks.map u8v++post)))(hp:pre.length=(o-1).toNat*32)(hks:ks.length=32)(hds:ds.length=32)
  (K:AEnd→Heap→Prop) (hk:∀ h',Old h h'→K (.ret (.agg ⟨(Qms ks ds).map u8v⟩)) h'):FnK Tryd.prog (E b).G 115 [.pointer (some ⟨ν,0,none⟩),.int .i64 o,.agg ⟨ds.map u8v⟩] h K:=by
 refine Qal (E b) (Wp b) (V2 b) Vm (Wv b) (Qak b) (Ze b) Qve Q0i Qys rfl ?_
 obtain⟨hA,eA⟩:∃ hA,hA=h.push (.cells true 1 (ds.map u8v)):=⟨_,rfl⟩
 obtain⟨hB,eB⟩:∃ hB,hB=hA.push (.cells true 1 z16):=⟨_,rfl⟩
 have aA:Old h hA:=by rw[eA];exact Old.push _ _
 have aB:Old hA hB:=by rw[eB];exact Old.push _ _
 have nA:hA.next=h.next+1:=by rw[eA];rfl
 have gA:hA.get h.next=some (.cells true 1 (ds.map u8v)):=by rw[eA,Heap.get_push,if_pos rfl]
 have gB:hB.get hA.next=some (.cells true 1 z16):=by rw[eB,Heap.get_push,if_pos rfl]
 have bx:Xmn (.agg ⟨ds.map u8v⟩) h=some (.pointer (some ⟨h.next,0,none⟩),hA):=by rw[eA];rfl
 have alB:Qdl (E b).toEnv 90 hA=some (.pointer (some ⟨hA.next,0,none⟩),hB):=by rw[eB];exact Xdp b hA
 have ld:(ds.map u8v).length=32:=by simpa using hds
 have sk:SN hB (.slice (some ⟨ν,(o-1).toNat*32,none⟩) 32 32) ks:=.inr ⟨ν,(o-1).toNat*32,32,ow,z,pre,post,by rw[hks],(aA.trans aB).get hg,hp,by simp,by omega,by unfold Qaz;omega,fun q=>by unfold Qaz at q;omega⟩
 have sd:SN hB (.slice (some ⟨h.next,0,none⟩) 32 32) ds:=.inr ⟨h.next,0,32,true,1,[],[],by rw[hds],by simpa using aB.get gA,rfl,by simp,by omega,by unfold Qaz;omega,fun q=>by unfold Qaz at q;omega⟩
 obtain⟨_,hC,c1,n1,rfl,aC⟩:=Xo4 b (LaidIn.old laid (aA.trans aB)) sk sd (by omega) (by omega) (fun r h'=>r=.ret (.agg ⟨(Bl.keyed1 ks ds).map u8v⟩)∧Old hB h') (fun h' q=>⟨rfl,q⟩)
 simp[Xdp,J8,Xh,X6,Yj,Q5,Qd,Xg,Qq,Qe,Xi,Qk,Y1,Z9,Q6,X5,Qo,Qf,Q2,Qp,Qg,Q7,Yf,Yn,Ye,Y0,Yi.putAll,hds,bx,-Xdp,alB]
 refine Xot b hB ν h1 h2 _ ?_
 simp[Xdp,J8,Xh,X6,Yj,Q5,Qd,Xg,Qq,Qe,Xi,Qk,Y1,Z9,Q6,X5,Qo,Qf,Q2,Qp,Qg,Q7,Yf,Yn,Ye,Y0,Yi.putAll,Xnd]
 have kl:(Bl.keyed1 ks ds).length=32:=Qfs _
 obtain⟨hZ,eZ⟩:∃ hZ,hZ=hC.push (.cells true 1 z32):=⟨_,rfl⟩
 have alZ:Qdl (E b).toEnv 23 hC=some (.pointer (some ⟨hC.next,0,none⟩),hZ):=by rw[eZ];exact J8 b hC
 have gZ:hZ.get hC.next=some (.cells true 1 z32):=by rw[eZ,Heap.get_push,if_pos rfl]
 have aZ:Old hC hZ:=by rw[eZ];exact Old.push _ _
 have lZ:=Heap.get_lt gZ
 obtain⟨hW,eW⟩:∃ hW,hW=hZ.set hC.next (some (.cells true 1 ((Bl.keyed1 ks ds).map u8v))):=⟨_,rfl⟩
 have stW:Uv hZ hC.next 0 ((Bl.keyed1 ks ds).map u8v)=some hW:=by
  rw[Qeo gZ (by simp[z32,kl]),eW]
  congr 4
 have gW:hW.get hC.next=some (.cells true 1 ((Bl.keyed1 ks ds).map u8v)):=by rw[eW,Heap.get_set _ _ _ _ lZ,if_pos rfl]
 have aW:Old hC hW:=by rw[eW];exact aZ.set _ (Nat.le_refl _) lZ
 refine Qke [⟨54,[.slice (some ⟨ν,(o-1).toNat*32,none⟩) 32 32,.slice (some ⟨h.next,0,none⟩) 32 32],hB,.agg ⟨(Bl.keyed1 ks ds).map u8v⟩,hC,true⟩] ?_ Qmw Qoe Qmq (by simp[Ab.runT,Zk,Zb,ldv,Nat.testBit,U8,Zj,Z1,Zt,loadAt,Qa9,Vo,Qq0,Qta,Xdp,J8,Qb1,Xmo,Q85,-J8,alZ,kl,stW];exact⟨rfl,rfl⟩) ?_ ?_
 ·simp only[List.mem_cons,List.not_mem_nil,or_false]
  rintro e rfl
  exact⟨c1,n1,fun _ c hc=>aC.2 c hc⟩
 ·simp[Zk,Zb,U3,ldv,Ab.runT,Zk,Zb,ldv,Nat.testBit,U8,Zj,Z1,Zt,loadAt,Qa9,Vo,Xdp,J8]
 simp[Xdp,J8,Xh,X6,Yj,Q5,Qd,Xg,Qq,Qe,Xi,Qk,Y1,Z9,Q6,X5,Qo,Qf,Q2,Qp,Qg,Q7,Yf,Yn,Ye,Y0,Yi.putAll]
 have gBW:hW.get hA.next=some (.cells true 1 z16):=aW.get (aC.get gB)
 have skW:SN hW (.slice (some ⟨hC.next,0,none⟩) 32 32) (Bl.keyed1 ks ds):=.inr ⟨hC.next,0,32,true,1,[],[],by rw[kl],by simpa using gW,rfl,by simp,by omega,by unfold Qaz;omega,fun q=>by unfold Qaz at q;omega⟩
 obtain⟨hX,cp,gX,nX,kX⟩:=X1a b (D:=16) (by omega) gBW (by simp[z16]) skW
 have gX':hX.get hA.next=some (.cells true 1 ((Qms ks ds).map u8v)):=by
  rw[gX]
  rw[kl]
  simp[z16,Qms]
 have lt16:(Qms ks ds).length=16:=by simp[Qms,kl]
 refine Qke [] (by simp) Qmy Qnz Qml (by simp[Ab.runT,Zk,Zb,ldv,Nat.testBit,U8,Zj,Z1,Zt,loadAt,Qa9,Vo,Qqj,Qtm,Xdp,J8,Qb1,Xmo,X01,cp];exact⟨rfl,rfl⟩) ?_ ?_
 ·simp[Zk,Zb,U5,ldv,Ab.runT,Zk,Zb,ldv,Nat.testBit,U8,Zj,Z1,Zt,loadAt,Qa9,Vo,Xdp,J8]
 have lX:=Heap.get_lt gX'
 have tk:((Qms ks ds).map u8v).take 16=(Qms ks ds).map u8v:=List.take_of_length_le (by simp[lt16])
 have tk':((Qms ks ds).map u8v).drop 16=[]:=List.drop_of_length_le (by simp[lt16])
 have ldX:Qgg hX hA.next 0 16=some (.agg ⟨(Qms ks ds).map u8v⟩):=by
  rw[Qau gX' (by simp[lt16])]
  simp[tk]
 have stX:Uv hX hA.next 0 ((Qms ks ds).map u8v)=some (hX.set hA.next (some (.cells true 1 ((Qms ks ds).map u8v)))):=by
  rw[Qeo gX' (by simp[lt16])]
  simp[lt16,tk']
 have ldX2:Qgg (hX.set hA.next (some (.cells true 1 ((Qms ks ds).map u8v)))) hA.next 0 16=some (.agg ⟨(Qms ks ds).map u8v⟩):=by
  rw[Qau (by rw[Heap.get_set _ _ _ _ lX,if_pos rfl]) (by simp[lt16])]
  simp[tk]
 simp[Xdp,J8,Xh,X6,Yj,Q5,Qd,Xg,Qq,Qe,Xi,Qk,Y1,Z9,Q6,X5,Qo,Qf,Q2,Qp,Qg,Q7,Yf,Yn,Ye,Y0,Yi.putAll,ldX,stX,lt16,ldX2]
 have aX:Old h hX:=⟨by rw[nX];exact Nat.le_trans (aA.trans aB).1 (aC.trans aW).1,fun c hc=>by
  rw[kX c (by omega),(aC.trans aW).2 c (Nat.lt_of_lt_of_le hc (aA.trans aB).1),(aA.trans aB).2 c hc]⟩
 exact hk _ (aX.set _ (by omega) lX)
end
end Go.Proofs.YtgeeklmjfbiieaaDoor
end
noncomputable section
namespace Go.Proofs.YtgeeklmjfbiieaaDoor
open Go Go.Ab
set_option maxRecDepth 100000
def Xda(ks:List Nat)(o:Int):List Nat:=(ks.drop ((o-1).toNat*32)).take 32
theorem Xg8:∀ (xs ys:List Nat),xs.length=ys.length→Vd (List.replicate xs.length 1) (xs.map u8v) (ys.map u8v)=some (decide (xs=ys))
 | [],[],_=>rfl
 | x::xs,y::ys,h=>by
  have ih:=Xg8 xs ys (by simpa using h)
  simp only[List.length_cons,List.replicate_succ,List.map_cons,Vd,ih]
  have : Xbm 1 (u8v x) (u8v y)=some (decide (x=y)):=by
   show(if IntKind.u8=IntKind.u8 then some ((x:Int) == (y:Int))else none)=_
   simp only[if_true]
   congr 1
   by_cases e:x=y
   ·subst e;simp
   ·simp[e];omega
  rw[this]
  simp only[List.cons.injEq,Bool.decide_and]
theorem X4w{x y:List Nat}(hx:x.length=16)(hy:y.length=16):Vd L90 (x.map u8v) (y.map u8v)=some (decide (x=y)):=by
 have:=Xg8 x y (by omega)
 rw[hx]at this
 rw[← this]
 congr 1
theorem teq(b:Nat){x y:List Nat}(hx:x.length=16)(hy:y.length=16):Xse (E b).toEnv .eql 90 (.agg ⟨x.map u8v⟩) (.agg ⟨y.map u8v⟩)=some (.bool (decide (x=y))):=by
 have e:Xse (E b).toEnv .eql 90 (.agg ⟨x.map u8v⟩) (.agg ⟨y.map u8v⟩)=(Vd L90 (x.map u8v) (y.map u8v)).map .bool:=by kernel_rfl
 rw[e,X4w hx hy]
 rfl
theorem Xtx{ks:List Nat}(hks:ks.length=1024){o:Int}(h1:1≤o)(h2:o≤32):(Xda ks o).length=32:=by
 simp[Xda];omega
theorem Xun{ks:List Nat}(o:Int):ks.map u8v=(ks.take ((o-1).toNat*32)).map u8v++(Xda ks o).map u8v++((ks.drop ((o-1).toNat*32)).drop 32).map u8v:=by
 rw[← List.map_append,← List.map_append,Xda,List.append_assoc,List.take_append_drop,List.take_append_drop]
theorem Xzh{k d:List Nat}:(Qms k d).length=16:=by
 have kl:(Bl.keyed1 k d).length=32:=Qfs _
 simp[Qms,kl]
theorem Xz4(b:Nat){h:Heap}(laid:Ab.LaidIn h Qat){ν z:Nat}{ow:Bool}{ks ds:List Nat}{o:Int}(h1:1≤o)(h2:o≤32)(hg:h.get ν=some (.cells ow z (ks.map u8v)))(hks:ks.length=1024)(hds:ds.length=32)
  (K:AEnd→Heap→Prop) (hk:∀ h',Old h h'→K (.ret (.agg ⟨(Qms (Xda ks o) ds).map u8v⟩)) h'):FnK Tryd.prog (E b).G 115 [.pointer (some ⟨ν,0,none⟩),.int .i64 o,.agg ⟨ds.map u8v⟩] h K :=
 Xsd b laid h1 h2 (by rw[hg,Xun o]) (by simp;omega) (Xtx hks h1 h2) hds K hk
section
attribute [local simp] Je Ve Yo Z6 Qa8 Qec Ze Qf1 Qw8 Yh Z2 aop X4 nth Ab.g0 gv gs Qx X2 aev evs evO X7 Tr.get_put St.put Tm.put flat flatA Z3 Xe Xc Xf Xa Xb Xd X9 Xj X8 Qt Qu Xy X0 Qb Q3 Qy Qz X1 Q4 Qc Qw
set_option maxHeartbeats 2000000 in
theorem Xmz(b:Nat){h:Heap}(laid:Ab.LaidIn h Qat){ν z:Nat}{ow:Bool}{ks ds tg:List Nat}{o:Int}(hg:h.get ν=some (.cells ow z (ks.map u8v)))(hks:ks.length=1024)(hds:ds.length=32)(htg:tg.length=16)
  (h1:1≤o) (h2:o≤32) (K:AEnd→Heap→Prop) (hk:∀ h',Old h h'→K (.ret (.bool (decide (Qms (Xda ks o) ds=tg)))) h'):FnK Tryd.prog (E b).G 123 [.pointer (some ⟨ν,0,none⟩),.int .i64 o,.agg ⟨ds.map u8v⟩,.agg ⟨tg.map u8v⟩] h K:=by
 refine Qal (E b) (Wp b) (V2 b) Vm (Wv b) (Qak b) (Yo b) Qgh Qiq Qi9 rfl ?_
 obtain⟨hA,eA⟩:∃ hA,hA=h.push (.cells true 1 (ds.map u8v)):=⟨_,rfl⟩
 obtain⟨hB,eB⟩:∃ hB,hB=hA.push (.cells true 1 (tg.map u8v)):=⟨_,rfl⟩
 have aA:Old h hA:=by rw[eA];exact Old.push _ _
 have aB:Old hA hB:=by rw[eB];exact Old.push _ _
 have gA:hA.get h.next=some (.cells true 1 (ds.map u8v)):=by rw[eA,Heap.get_push,if_pos rfl]
 have gB:hB.get hA.next=some (.cells true 1 (tg.map u8v)):=by rw[eB,Heap.get_push,if_pos rfl]
 have bxA:Xmn (.agg ⟨ds.map u8v⟩) h=some (.pointer (some ⟨h.next,0,none⟩),hA):=by rw[eA];rfl
 have bxB:Xmn (.agg ⟨tg.map u8v⟩) hA=some (.pointer (some ⟨hA.next,0,none⟩),hB):=by rw[eB];rfl
 simp[Xh,X6,Yj,Q5,Qd,Xg,Qq,Qe,Xi,Qk,Y1,Z9,Q6,X5,Qo,Qf,Q2,Qp,Qg,Q7,Yf,Yn,Ye,Y0,Yi.putAll,bxA,bxB]
 skip
 obtain⟨_,_,c1,n1,rfl,rfl⟩:=Xot b hB ν h1 h2 (fun r h'=>r=.ret (.pointer (some ⟨ν,(o-1).toNat*32,none⟩))∧hB=h') ⟨rfl,rfl⟩
 obtain⟨_,hC,c2,n2,rfl,aC⟩:=Xz4 b (LaidIn.old laid (aA.trans aB)) h1 h2 ((aA.trans aB).get hg) hks hds (fun r h'=>r=.ret (.agg ⟨(Qms (Xda ks o) ds).map u8v⟩)∧Old hB h') (fun h' q=>⟨rfl,q⟩)
 have ldA:Qgg hB h.next 0 32=some (.agg ⟨ds.map u8v⟩):=by
  rw[Qau (aB.get gA) (by simp[hds]),List.drop_zero,List.take_of_length_le (by simp[hds])]
 have ldB:Qgg hC hA.next 0 16=some (.agg ⟨tg.map u8v⟩):=by
  rw[Qau (aC.get gB) (by simp[htg]),List.drop_zero,List.take_of_length_le (by simp[htg])]
 refine Qke [⟨144,[.pointer (some ⟨ν,0,none⟩),.int .i64 o],hB,.pointer (some ⟨ν,(o-1).toNat*32,none⟩),hB,true⟩,⟨115,[.pointer (some ⟨ν,0,none⟩),.int .i64 o,.agg ⟨ds.map u8v⟩],hB,.agg ⟨(Qms (Xda ks o) ds).map u8v⟩,hC,true⟩] ?_ Qdt Qe8 Qdc (by simp[Ab.runT,Zk,Zb,ldv,Nat.testBit,U8,Zj,Z1,Zt,loadAt,Qa9,Vo,Qeh,Qeg,Qfa,Qfh,ldA,ldB,teq b Xzh htg,Qy8,Xnd];exact⟨rfl,rfl⟩) ?_ ?_
 ·simp only[List.mem_cons,List.not_mem_nil,or_false]
  rintro e (rfl | rfl)
  ·exact⟨c1,n1,fun _ _ _=>rfl⟩
  ·exact⟨c2,n2,fun _ c hc=>aC.2 c hc⟩
 ·simp[Zk,Zb,J4,ldv,Ab.runT,Zk,Zb,ldv,Nat.testBit,U8,Zj,Z1,Zt,loadAt,Qa9,Vo,ldA,ldB]
 simp[Xh,X6,Yj,Q5,Qd,Xg,Qq,Qe,Xi,Qk,Y1,Z9,Q6,X5,Qo,Qf,Q2,Qp,Qg,Q7,Yf,Yn,Ye,Y0,Yi.putAll]
 exact hk hC ((aA.trans aB).trans aC)
theorem Xli(b:Nat){h:Heap}(laid:Ab.LaidIn h Qat){ν z:Nat}{ow:Bool}{ks ds tg:List Nat}{o:Int}(hg:h.get ν=some (.cells ow z (ks.map u8v)))(hks:ks.length=1024)(hds:ds.length=32)(htg:tg.length=16)
  (ho:¬ (1≤o∧o≤32)) (K:AEnd→Heap→Prop) (hk:∀ h',Old h h'→K (.ret (.bool (false))) h'):FnK Tryd.prog (E b).G 123 [.pointer (some ⟨ν,0,none⟩),.int .i64 o,.agg ⟨ds.map u8v⟩,.agg ⟨tg.map u8v⟩] h K:=by
 refine Qal (E b) (Wp b) (V2 b) Vm (Wv b) (Qak b) (Yo b) Qgh Qiq Qi9 rfl ?_
 obtain⟨hA,eA⟩:∃ hA,hA=h.push (.cells true 1 (ds.map u8v)):=⟨_,rfl⟩
 obtain⟨hB,eB⟩:∃ hB,hB=hA.push (.cells true 1 (tg.map u8v)):=⟨_,rfl⟩
 have aA:Old h hA:=by rw[eA];exact Old.push _ _
 have aB:Old hA hB:=by rw[eB];exact Old.push _ _
 have gA:hA.get h.next=some (.cells true 1 (ds.map u8v)):=by rw[eA,Heap.get_push,if_pos rfl]
 have gB:hB.get hA.next=some (.cells true 1 (tg.map u8v)):=by rw[eB,Heap.get_push,if_pos rfl]
 have bxA:Xmn (.agg ⟨ds.map u8v⟩) h=some (.pointer (some ⟨h.next,0,none⟩),hA):=by rw[eA];rfl
 have bxB:Xmn (.agg ⟨tg.map u8v⟩) hA=some (.pointer (some ⟨hA.next,0,none⟩),hB):=by rw[eB];rfl
 simp[Xh,X6,Yj,Q5,Qd,Xg,Qq,Qe,Xi,Qk,Y1,Z9,Q6,X5,Qo,Qf,Q2,Qp,Qg,Q7,Yf,Yn,Ye,Y0,Yi.putAll,bxA,bxB]
 obtain⟨_,_,c1,n1,rfl,rfl⟩:=Xwb b hB ν (o:=o) (by omega) (fun r h'=>r=.ret (.pointer none)∧hB=h') ⟨rfl,rfl⟩
 refine Qke [⟨144,[.pointer (some ⟨ν,0,none⟩),.int .i64 o],hB,.pointer none,hB,true⟩] ?_ Qdt Qe8 Qdc (by simp[Ab.runT,Zk,Zb,ldv,Nat.testBit,U8,Zj,Z1,Zt,loadAt,Qa9,Vo,Qeh,Qeg,Qfa,Qfh,Q85,Xvq];exact⟨rfl,rfl⟩) ?_ ?_
 ·simp only[List.mem_cons,List.not_mem_nil,or_false]
  rintro e rfl
  exact⟨c1,n1,fun _ _ _=>rfl⟩
 ·simp[Zk,Zb,J4,ldv,Ab.runT,Zk,Zb,ldv,Nat.testBit,U8,Zj,Z1,Zt,loadAt,Qa9,Vo]
 simp[Xh,X6,Yj,Q5,Qd,Xg,Qq,Qe,Xi,Qk,Y1,Z9,Q6,X5,Qo,Qf,Q2,Qp,Qg,Q7,Yf,Yn,Ye,Y0,Yi.putAll]
 exact hk hB (aA.trans aB)
end
theorem Xtq(b:Nat){h:Heap}(laid:Ab.LaidIn h Qat){ν z:Nat}{ow:Bool}{ks ds tg:List Nat}{o:Int}(hg:h.get ν=some (.cells ow z (ks.map u8v)))(hks:ks.length=1024)(hds:ds.length=32)(htg:tg.length=16)
  (K:AEnd→Heap→Prop) (hk:∀ h',Old h h'→K (.ret (.bool (decide (1≤o∧o≤32) && decide (Qms (Xda ks o) ds=tg)))) h'):FnK Tryd.prog (E b).G 123 [.pointer (some ⟨ν,0,none⟩),.int .i64 o,.agg ⟨ds.map u8v⟩,.agg ⟨tg.map u8v⟩] h K:=by
 by_cases ho:1≤o∧o≤32
 ·exact Xmz b laid hg hks hds htg ho.1 ho.2 K fun h' a=>by
   have:=hk h' a
   rwa [decide_eq_true ho,Bool.true_and]at this
 ·exact Xli b laid hg hks hds htg ho K fun h' a=>by
   have:=hk h' a
   rwa [decide_eq_false ho,Bool.false_and]at this
end Go.Proofs.YtgeeklmjfbiieaaDoor
end
noncomputable section
namespace Go.Proofs.YtgeeklmjfbiieaaDoor
open Go Go.Ab
set_option maxRecDepth 100000
structure Asks where
 ks:List Nat
 dg:List Nat
 lk:Int
 hks:ks.length=1024
 hdg:dg.length=32
def X1h(l:List Nat):List Int:=l.map Int.ofNat
def Xlw(l:List Int):List Nat:=l.map Int.toNat
def X0n(a:Asks)(o:Int)(t:List Int):Bool:=decide (1≤o∧o≤32) && decide (Qms (Xda a.ks o) a.dg=Xlw t)
def Xms(x:List Int):List Int:=X1h (Bl.keyed1 [] (Xlw x))
def Qic(x:List Int)(st:List (List Int)):Except Int (List (List Int)):=if st.length < 16 then .ok (x::st)else .error 16
def doF(a:Asks)(code:Int)(data:List Int)(st:List (List Int)):Except Int (List (List Int)) :=
 if code=129 then(match st with | x::r=>(Qic x r).bind (Qic x) | [] => .error 16)
 else if code=130 then(match st with | _::r => .ok r | [] => .error 16)
 else if code=131 then(match st with | x::r=>Qic (Xms x) r | [] => .error 16)
 else if code=132 then(match st with | x::y::r=>Qic (Xzx (decide (x=y))) r | _ => .error 16)
 else if code=133 then(match st with | x::r=>if isT x then .ok r else .error 16 | [] => .error 16)
 else if code=134 then(match st with | x::y::r=>if x.length=1∧y.length=16 then Qic (Xzx (X0n a (x.getD 0 0) y)) r else .error 16 | _ => .error 16)
 else if code=135 then(match st with | x::r=>if x.length=4 then(if Xd8 x 4≤a.lk then .ok r else .error 18)else .error 16 | [] => .error 16)
 else if code=139 then(match st with | x::r=>(Qic x r).bind (Qic [(x.length:Int)]) | [] => .error 16)
 else Qic data st
def Qgi(a:Asks)(code:Int)(data:List Int)(st:List (List Int))(op:List Br):Except Int (List (List Int) × List Br) :=
 match brF code st op with
 | some none => .error 16
 | some (some p) => .ok p
 | none=>if Xlb op then .ok (st,op)else(doF a code data st).map fun st'=>(st',op)
def Wg(a:Asks):List (Int × List Int)→List (List Int)→List Br→Except Int (List (List Int) × List Br)
 | [],st,op => .ok (st,op)
 | (c,d)::l,st,op=>(Qgi a c d st op).bind fun p=>Wg a l p.1 p.2
def Qt7:List (List Int)→List (List Int)→Except Int (List (List Int))
 | [],st => .ok st
 | x::l,st=>if x.length≤64 then(Qic x st).bind (Qt7 l)else .error 16
def Xuu:Except Int (List (List Int) × List Br)→Int
 | .error z=>z
 | .ok (st,op)=>if op.length=0∧st.length=1∧isT (st.getD 0 [])=true then 0 else 16
def Xrc(a:Asks)(l:List (Int × List Int))(stk:List (List Int)):Int:=match Qt7 stk []with
 | .error z=>z
 | .ok st=>Xuu (Wg a l st [])
def Xij(a:Asks)(xs:List Int)(stk:List (List Int)):Int :=
 if xs.length > 256 then 16 else match pz xs.length xs with
 | none=>16
 | some l=>if l.length > 64 then 16 else Xrc a l stk
structure Wd (h:Heap) (MB:Nat→Prop) (e:Menv) (a:Asks):Prop where
 laid:Ab.LaidIn h Qat
 low:∀ c,MB c→3≤c
 next:3≤h.next
 nota:∃ ν z ow,e.nk=.pointer (some ⟨ν,0,none⟩)∧h.get ν=some (.cells ow z (a.ks.map u8v))∧¬ MB ν
 dg:e.dig=a.dg.map u8v
 lk:e.lk=a.lk
theorem Xz7{x:Nat × List Value}(hx:x ∈ Qat):x.1 < 3:=by
 simp only[Qat,List.mem_cons,List.not_mem_nil,or_false]at hx
 rcases hx with rfl | rfl
 ·exact of_decide_eq_true (by kernel_rfl)
 ·exact of_decide_eq_true (by kernel_rfl)
theorem Wd.mv{h h':Heap}{MB MB':Nat→Prop}{e:Menv}{a:Asks}(w:Wd h MB e a)(m:Mv MB MB' h h'):Wd h' MB' e a:=by
 obtain⟨laid,low,nx,⟨ν,z,ow,q1,q2,q3⟩,dg,lk⟩:=w
 refine⟨fun x hx => ?_,fun c hc => ?_,Nat.le_trans nx m.next,⟨ν,z,ow,q1,?_,fun hc => ?_⟩,dg,lk⟩
 ·have g:=laid x hx
  rw[m.same x.1 (Heap.get_lt g) (fun hb=>by have:=low _ hb;have:=Xz7 hx;omega)]
  exact g
 ·rcases m.sub c hc with h | h
  ·exact low c h
  ·omega
 ·rw[m.same ν (Heap.get_lt q2) q3];exact q2
 ·rcases m.sub ν hc with h | h
  ·exact q3 h
  ·have:=Heap.get_lt q2;omega
theorem MOk.wd{h h':Heap}{MB:Nat→Prop}{μ:Nat}{e:Menv}{a:Asks}{st:List (List Int)}{op:List Br}(w:Wd h MB e a)(m:MOk MB h μ e st op h'):∃ ps MB',ps.map (·.2)=st∧Mach h' MB' μ e ps op∧Mv MB MB' h h'∧Wd h' MB' e a:=by
 obtain⟨ps,MB',q1,q2,q3⟩:=m
 exact⟨ps,MB',q1,q2,q3,w.mv q3⟩
end Go.Proofs.YtgeeklmjfbiieaaDoor
end
