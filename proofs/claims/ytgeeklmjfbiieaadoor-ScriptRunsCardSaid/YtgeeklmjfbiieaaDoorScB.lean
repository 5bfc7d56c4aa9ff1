import Derived.Test.YtgeeklmjfbiieaaDoorBlA
import Derived.Test.YtgeeklmjfbiieaaDoorScA
import Derived.Test.YtgeeklmjfbiieaaDoorFA
import Derived.Test.YtgeeklmjfbiieaaDoorAbH
set_option linter.all false
noncomputable section
namespace Go.Proofs.YtgeeklmjfbiieaaDoor
open Go Go.Ab
set_option maxRecDepth 100000
theorem Zjp(b:Nat){h:Heap}(hl:Ab.LaidIn h Qge)(p8:Bl.P8){blk:Nat}{l:List Nat}(hg:h.get blk=some (.cells true 1 (l.map u8v)))(h64:l.length=64)(count:Nat)(last:Bool)(K:AEnd→Heap→Prop)(hk:K (.ret (p8v (Bl.take p8 l count last))) h) :
  FnK Tryd.prog (E b).G 92 [p8v p8,.pointer (some ⟨blk,0,none⟩),.int .u64 (.ofNat count),.bool last] h K:=by
 refine⟨_,_,?_,Nat.le_refl _,hk⟩
 refine Xxx (k:=100) (m:=4) Wf Yvi Ynd (fun b=>Zgq b p8.h0 p8.h1 p8.h2 p8.h3 p8.h4 p8.h5 p8.h6 p8.h7 count l h64 last) rfl hl Yua (bs:=[blk]) rfl (by simp) (fun k d r hd hr => ?_)
   (Qay (Qgd rfl) (Qay (You _ _) (Qay (Qgd rfl) (Qay (Qgd rfl) Qrk))))
 cases k with
 | zero=>simp at hd hr;subst hd;subst hr;exact⟨hg,X71 _⟩
 | succ k=>simp at hd
abbrev SN(h:Heap)(v:Value)(l:List Nat):Prop:=Sl h 1 v l.length (l.map u8v)
theorem SN.sb{h:Heap}{v:Value}{l:List Nat}(s:SN h v l):SB h v (l.map Int.ofNat):=by
 have e:(l.map Int.ofNat).map i8=l.map u8v:=by rw[List.map_map];rfl
 rw[SB,e,List.length_map];exact s
theorem Zin(b:Nat){h:Heap}{B:Nat}{ds:List Value}{v:Value}{l:List Nat}(hg:h.get B=some (.cells true 1 ds))(hd:ds.length=64)(s:SN h v l) :
  ∃ h',Xr5 (E b).toEnv 47 (.slice (some ⟨B,0,none⟩) 64 64) v h=some (.int .i64 ((min l.length 64:Nat):Int),h')∧h'.get B=some (.cells true 1 ((l.take 64).map u8v++ds.drop (min l.length 64)))∧h'.next=h.next∧∀ c,c≠B→h'.get c=h.get c:=by
 have hmin:Nat.min l.length 64=min l.length 64:=rfl
 have hlen:Xox v=some l.length:=by rcases s with⟨c,rfl,_,e,_⟩ | ⟨bk,o,c,ow,z',pre,post,rfl,_⟩ <;> simp_all [Xox]
 have hsrc:Yzj 1 (Nat.min l.length 64) v h=some ((l.take 64).map u8v):=by
  rcases s with⟨c,rfl,_,e,e2⟩ | ⟨bk,o,c,ow,z',pre,post,rfl,h1,h2,h3, -⟩
  ·have : l=[]:=List.eq_nil_of_length_eq_zero e
   subst this
   simp[Yzj]
  ·have h4:Qx5 (Nat.min l.length 64*1) ((pre++l.map u8v++post).drop o)=some ((l.take 64).map u8v):=by
    rw[hmin,← h2,List.append_assoc,List.drop_left,Q0t (by simp;omega),List.take_append_of_le_length (by simp;omega),← List.map_take,Nat.mul_one]
    congr 2
    rcases Nat.le_total l.length 64 with q | q
    ·rw[Nat.min_eq_left q,List.take_of_length_le (Nat.le_refl _),List.take_of_length_le q]
    ·rw[Nat.min_eq_right q]
   simp only[Yzj,Ab.cellsAt,h1,h4]
 have hr:R47.desc=.slice 5:=(T47 b).d
 cases hc:(l.take 64).map u8v with
 | nil =>
  have : l=[]:=by
   cases l with
   | nil=>rfl
   | cons x l=>simp at hc
  subst this
  refine⟨h,?_,by simpa using hg,rfl,fun _ _=>rfl⟩
  rw[hc]at hsrc
  simp only[Xr5,Xqz,hr,hlen,Y5r,Qbg,hsrc]
 | cons x xs =>
  have hle:(x::xs).length≤ds.length:=by rw[← hc,hd];simp;omega
  have hst:storeAt h ⟨B,0,none⟩ (x::xs)=some (h.set B (some (.cells true 1 ((x::xs)++ds.drop (x::xs).length)))):=by
   simp only[storeAt,hg]
   rw[Qm4 (by simpa using hle)]
   simp
  rw[hc]at hsrc
  refine⟨h.set B (some (.cells true 1 ((x::xs)++ds.drop (x::xs).length))),?_,?_,rfl,fun c hc=>by rw[Heap.get_set _ _ _ _ (Heap.get_lt hg),if_neg (Ne.symm hc)]⟩
  ·simp only[Xr5,Xqz,hr,hlen,Y5r,Qbg,hsrc,hst]
   rfl
  ·rw[Heap.get_set _ _ _ _ (Heap.get_lt hg),if_pos rfl]
   congr 4
   rw[← hc,List.length_map,List.length_take,Nat.min_comm]
theorem Yc6:∀ (n m:Nat) (h:Bl.P8) (text:List Nat) (count:Nat),text.length < n→text.length < m→Bl.blocks n h text count=Bl.blocks m h text count
 | 0,_,_,_,_,h,_=>by omega
 | n+1,0,_,_,_,_,h=>by omega
 | n+1,m+1,h,text,count,h1,h2=>by
  simp only[Bl.blocks]
  cases hb:Nat.ble text.length 64 with
  | true=>rfl
  | false =>
   have : ¬ text.length≤64:=fun q=>by rw[← Nat.ble_eq,hb]at q;cases q
   exact Yc6 n m _ _ _ (by rw[List.length_drop];omega) (by rw[List.length_drop];omega)
def Y4m(p8:Bl.P8)(text:List Nat)(count:Nat):Bl.P8:=Bl.blocks text.length.succ p8 text count
theorem Yuk{p8:Bl.P8}{text:List Nat}{count:Nat}(h:text.length≤64):Y4m p8 text count=Bl.take p8 text (count+text.length) true:=by
 simp[Y4m,Bl.blocks,Q3g h]
theorem Yxm{p8:Bl.P8}{text:List Nat}{count:Nat}(h:64 < text.length):Y4m p8 text count=Y4m (Bl.take p8 (text.take 64) (count+64) false) (text.drop 64) (count+64):=by
 have e:Nat.ble text.length 64=false:=by rw[Bool.eq_false_iff];intro q;rw[Nat.ble_eq]at q;omega
 simp only[Y4m,Bl.blocks,e]
 exact Yc6 text.length (text.drop 64).length.succ _ _ _ (by rw[List.length_drop];omega) (Nat.lt_succ_self _)
def Pad(l l':List Nat):Prop:=∃ n,l'=l++List.replicate n 0
theorem Qgv{l l':List Nat}(p:Pad l l'):∃ a r r',(∀ {A:Type} (K:Nat→List Nat→A),Bl.nx l K=K a r)∧(∀ {A:Type} (K:Nat→List Nat→A),Bl.nx l' K=K a r')∧Pad r r':=by
 obtain⟨n,rfl⟩:=p
 match l with
 | a::b::c::d::l=>exact⟨_,_,_,fun _=>rfl,fun _=>rfl,n,rfl⟩
 | [a,b,c] =>
  match n with
  | 0=>exact⟨_,_,_,fun _=>rfl,fun _=>rfl,0,rfl⟩
  | n+1=>exact⟨_,_,_,fun _=>rfl,fun _=>rfl,n,rfl⟩
 | [a,b] =>
  match n with
  | 0=>exact⟨_,_,_,fun _=>rfl,fun _=>rfl,0,rfl⟩
  | 1=>exact⟨_,_,_,fun _=>rfl,fun _=>rfl,0,rfl⟩
  | n+2=>exact⟨_,_,_,fun _=>rfl,fun _=>rfl,n,rfl⟩
 | [a] =>
  match n with
  | 0=>exact⟨_,_,_,fun _=>rfl,fun _=>rfl,0,rfl⟩
  | 1=>exact⟨_,_,_,fun _=>rfl,fun _=>rfl,0,rfl⟩
  | 2=>exact⟨_,_,_,fun _=>rfl,fun _=>rfl,0,rfl⟩
  | n+3=>exact⟨_,_,_,fun _=>rfl,fun _=>rfl,n,rfl⟩
 | [] =>
  match n with
  | 0=>exact⟨_,_,_,fun _=>rfl,fun _=>rfl,0,rfl⟩
  | 1=>exact⟨_,_,_,fun _=>rfl,fun _=>rfl,0,rfl⟩
  | 2=>exact⟨_,_,_,fun _=>rfl,fun _=>rfl,0,rfl⟩
  | 3=>exact⟨_,_,_,fun _=>rfl,fun _=>rfl,0,rfl⟩
  | n+4=>exact⟨_,_,_,fun _=>rfl,fun _=>rfl,n,rfl⟩
theorem Zbq{l l':List Nat}(p:Pad l l'){A:Type}(K:Nat→Nat→Nat→Nat→Nat→Nat→Nat→Nat→Nat→Nat→Nat→Nat→Nat→Nat→Nat→Nat→A):Bl.words l' K=Bl.words l K:=by
 unfold Bl.words
 obtain⟨_,_,_,a0,c0,p⟩:=Qgv p
 obtain⟨_,_,_,a1,c1,p⟩:=Qgv p
 obtain⟨_,_,_,a2,c2,p⟩:=Qgv p
 obtain⟨_,_,_,a3,c3,p⟩:=Qgv p
 obtain⟨_,_,_,a4,c4,p⟩:=Qgv p
 obtain⟨_,_,_,a5,c5,p⟩:=Qgv p
 obtain⟨_,_,_,a6,c6,p⟩:=Qgv p
 obtain⟨_,_,_,a7,c7,p⟩:=Qgv p
 obtain⟨_,_,_,a8,c8,p⟩:=Qgv p
 obtain⟨_,_,_,a9,c9,p⟩:=Qgv p
 obtain⟨_,_,_,a10,c10,p⟩:=Qgv p
 obtain⟨_,_,_,a11,c11,p⟩:=Qgv p
 obtain⟨_,_,_,a12,c12,p⟩:=Qgv p
 obtain⟨_,_,_,a13,c13,p⟩:=Qgv p
 obtain⟨_,_,_,a14,c14,p⟩:=Qgv p
 obtain⟨_,_,_,a15,c15,p⟩:=Qgv p
 rw[a0,c0,a1,c1,a2,c2,a3,c3,a4,c4,a5,c5,a6,c6,a7,c7,a8,c8,a9,c9,a10,c10,a11,c11,a12,c12,a13,c13,a14,c14,a15,c15]
theorem Y4f(p8:Bl.P8){l l':List Nat}(p:Pad l l')(count:Nat)(last:Bool):Bl.take p8 l' count last=Bl.take p8 l count last:=by
 obtain⟨h0,h1,h2,h3,h4,h5,h6,h7⟩:=p8
 simp only[Bl.take,Zbq p]
end Go.Proofs.YtgeeklmjfbiieaaDoor
end
noncomputable section
namespace Go.Proofs.YtgeeklmjfbiieaaDoor
open Go Go.Ab
set_option maxRecDepth 100000
def Q1r(p:Bl.P8):List Nat:=[p.h0,p.h1,p.h2,p.h3,p.h4,p.h5,p.h6,p.h7]
theorem Qj0(p:Bl.P8):(Bl.out p).length=32:=by obtain⟨_,_,_,_,_,_,_,_⟩:=p;rfl
theorem Zly(p:Bl.P8){q r w:Nat}(hq:q < 8)(hr:r < 4)(hw:(Q1r p)[q]? = some w):(Bl.out p)[4*q+r]? = some (w / 2 ^ (8*r) % 256):=by
 obtain⟨h0,h1,h2,h3,h4,h5,h6,h7⟩:=p
 have hq':q=0∨q=1∨q=2∨q=3∨q=4∨q=5∨q=6∨q=7:=by omega
 have hr':r=0∨r=1∨r=2∨r=3:=by omega
 rcases hq' with rfl | rfl | rfl | rfl | rfl | rfl | rfl | rfl <;> rcases hr' with rfl | rfl | rfl | rfl <;>
  (simp only[Q1r,List.getElem?_cons_succ,List.getElem?_cons_zero,Option.some.injEq]at hw;subst hw;first | rfl | (simp[Bl.out,Bl.by4];rfl) | simp[Bl.out,Bl.by4])
theorem Zoz(x:Nat):Qbv (binOp .shr 156 (.int .u32 (.ofNat x)) (.int .i64 0))=some (.int .u32 (Int.fdiv (.ofNat x) (2 ^ 0))):=by kernel_rfl
theorem Zob(x:Nat):Qbv (binOp .shr 156 (.int .u32 (.ofNat x)) (.int .i64 8))=some (.int .u32 (Int.fdiv (.ofNat x) (2 ^ 8))):=by kernel_rfl
theorem Zlj(x:Nat):Qbv (binOp .shr 156 (.int .u32 (.ofNat x)) (.int .i64 16))=some (.int .u32 (Int.fdiv (.ofNat x) (2 ^ 16))):=by kernel_rfl
theorem Zmr(x:Nat):Qbv (binOp .shr 156 (.int .u32 (.ofNat x)) (.int .i64 24))=some (.int .u32 (Int.fdiv (.ofNat x) (2 ^ 24))):=by kernel_rfl
theorem Zoy(x:Nat){r:Nat}(hr:r < 4):Qbv (binOp .shr 156 (.int .u32 (.ofNat x)) (.int .i64 (8*(r:Int))))=some (.int .u32 (Int.fdiv (.ofNat x) (2 ^ (8*r)))):=by
 have hr':r=0∨r=1∨r=2∨r=3:=by omega
 rcases hr' with rfl | rfl | rfl | rfl
 ·exact Zoz x
 ·exact Zob x
 ·exact Zlj x
 ·exact Zmr x
theorem Zew(x r:Nat):IntKind.u8.wrap (Int.fdiv (.ofNat x) (2 ^ (8*r)))=.ofNat (x / 2 ^ (8*r) % 256):=by
 have e:Int.fdiv (.ofNat x) (2 ^ (8*r))=.ofNat (x / 2 ^ (8*r)):=by
  have : ((2:Int) ^ (8*r))=Int.ofNat (2 ^ (8*r)):=by simp
  rw[this]
  show Int.fdiv (x:Int) ((2 ^ (8*r):Nat):Int)=((x / 2 ^ (8*r):Nat):Int)
  rw[Int.fdiv_eq_ediv_of_nonneg _ (Int.natCast_nonneg _)]
  exact(Int.natCast_ediv _ _).symm
 rw[e]
 show((Int.ofNat (x / 2 ^ (8*r))) % (2 ^ 8:Int))=_
 exact(Int.natCast_emod _ _).symm
def z32:List Value:=List.replicate 32 (.int .u8 0)
def OI(R0 W:Nat)(p8:Bl.P8)(h:Heap)(k:Nat)(s:St):Prop:=∃ (t:Tr Value) (h1:Heap) (O i:Nat),s=⟨⟨81,t⟩,[],h1⟩∧t.get 4=some (.pointer (some ⟨R0,0,none⟩))∧t.get 6=some (.pointer (some ⟨W,0,none⟩))∧t.get 11=some (.pointer (some ⟨O,0,none⟩))∧t.get 65=some (.int .i64 (i:Int)) ∧
 i≤32∧k=32-i∧h1.get O=some (.cells true 1 (((Bl.out p8).take i).map u8v++List.replicate (32-i) (.int .u8 0)))∧h1.get W=some (.cells true 1 ((Q1r p8).map Qa7))∧h1.get R0=some (.cells true 1 z32)∧Old h h1∧h.next≤O∧h.next≤R0∧O≠W∧O≠R0
section
attribute [local simp] Wj Qcu V0 Zt Yj Zk Y6 Je Xay Q0p Q0v Q0q Uq Qag Wr J6 Yi Vq Q16 Qa4 Qa3 Qo7 Y4 Wk Qa2 Xw Qad Qab Vx Qaf Qac Qhk Qaw Ui Uy Ux Xp Xm Xk Xt Qt X0 Xn X8 Qx Xo Q4 Xf Z4 Yt aop Qg nth Ab.g0 gv gs Q7 Qd aev evs evO Qi Tr.get_put St.put Tm.put flat flatA Yu Qp Qo Qm Qq Ql Qn Qk X3 Qj Q5 Q6 Qu Xj Xa Qz Qh X9 Qy Qr Yh Zb Yg Xv Xs.putAll X7 Qc Q2 Q1 Qa Qb Q9 Q0 Q3 Q8
theorem Zhx(b:Nat){h h0:Heap}{R0 W:Nat}{p8:Bl.P8}{t:Tr Value}(t4:t.get 4=some (.pointer (some ⟨R0,0,none⟩)))(t6:t.get 6=some (.pointer (some ⟨W,0,none⟩)))(hW:h0.get W=some (.cells true 1 ((Q1r p8).map Qa7)))(hR:h0.get R0=some (.cells true 1 z32))(ho:Old h h0)(hR0:h.next≤R0)
  (K:AEnd→Heap→Prop) (hk:∀ h',Old h h'→K (.ret (.agg ⟨(Bl.out p8).map u8v⟩)) h'):Wv (E b) (Qky Tryd.prog (E b).G) (D0 b) none Qz6 ⟨⟨81,t⟩,[],h0⟩ (Ykn (E b) (DD b) Qht K):=by
 have lW:=Heap.get_lt hW
 have lR:=Heap.get_lt hR
 simp
 refine Qfy (OI R0 W p8 h) 32 ⟨_,_,h0.next,0,rfl,by simp[t4],by simp[t6],by simp,by simp,by omega,rfl,by rw[Heap.get_push,if_pos rfl];rfl,by rw[Heap.get_push,if_neg (by omega),hW],by rw[Heap.get_push,if_neg (by omega),hR],ho.push' _,ho.1,hR0,by omega,by omega⟩ ?_
 rintro k s' ⟨t,h1,O,i,rfl,t4,t6,t11,t65,hi,rfl,gO,gW,gR,hold,hO,_,n1,n2⟩ _
 by_cases hlt:i < 32
 ·have hlt':(i:Int) < 32:=by omega
  obtain⟨q,r,rfl,hq,hr⟩:∃ q r,i=4*q+r∧q < 8∧r < 4:=⟨i / 4,i % 4,by omega,by omega,by omega⟩
  obtain⟨w,hw⟩:∃ w,(Q1r p8)[q]? = some w:=⟨_,List.getElem?_eq_getElem (by simpa[Q1r]using hq)⟩
  have ho1:=Zly p8 hq hr hw
  have hlt2:4*(q:Int)+(r:Int) < 32:=by omega
  have e1:Int.tdiv ((4*q+r:Nat):Int) 4=(q:Int):=by rw[Int.tdiv_eq_ediv_of_nonneg (by omega)];omega
  have e2:Int.tmod ((4*q+r:Nat):Int) 4=(r:Int):=by rw[Int.tmod_eq_emod_of_nonneg (by omega)];omega
  have e1':Int.tdiv (4*(q:Int)+(r:Int)) 4=(q:Int):=by rw[Int.tdiv_eq_ediv_of_nonneg (by omega)];omega
  have e2':Int.tmod (4*(q:Int)+(r:Int)) 4=(r:Int):=by rw[Int.tmod_eq_emod_of_nonneg (by omega)];omega
  have w1:IntKind.i64.wrap (q:Int)=(q:Int):=Ug (by omega) (by omega)
  have w2:IntKind.i64.wrap (8*(r:Int))=8*(r:Int):=Ug (by omega) (by omega)
  have w3:IntKind.i64.wrap (4*(q:Int)+(r:Int)+1)=((4*q+r+1:Nat):Int):=by rw[Ug (by omega) (by omega)];omega
  have x1:Zn (E b).toEnv 158 (.pointer (some ⟨W,0,none⟩)) (.int .i64 (q:Int))=some (.pointer (some ⟨W,q,none⟩)):=by rw[Q0q b ⟨by omega,by omega⟩];simp
  have x2:Zn (E b).toEnv 23 (.pointer (some ⟨O,0,none⟩)) (.int .i64 (4*(q:Int)+(r:Int)))=some (.pointer (some ⟨O,4*q+r,none⟩)):=by rw[Qhk b ⟨by omega,by omega⟩];simp
  have g1:V2 h1 W q=some (.int .u32 (.ofNat w)):=by rw[Up gW,List.getElem?_map,hw];rfl
  obtain⟨bv,hbv⟩:∃ bv:Nat,bv=w / 2 ^ (8*r) % 256:=⟨_,rfl⟩
  obtain⟨fv,hfv⟩:∃ fv:Int,fv=Int.fdiv (w:Int) (2 ^ (8*r)):=⟨_,rfl⟩
  have sh:Qbv (binOp .shr 156 (.int .u32 (w:Int)) (.int .i64 (8*(r:Int))))=some (.int .u32 fv):=by rw[hfv];exact Zoy w hr
  have ws:IntKind.u8.wrap fv=(bv:Int):=by rw[hfv,hbv];exact Zew w r
  rw[← hbv]at ho1
  obtain⟨h2,e⟩:∃ h2,h2=h1.set O (some (.cells true 1 ((((Bl.out p8).take (4*q+r)).map u8v++List.replicate (32-(4*q+r)) (Value.int .u8 0)).set (4*q+r) (Value.int .u8 (bv:Int))))):=⟨_,rfl⟩
  have st:Wg h1 O (4*q+r) [.int .u8 (bv:Int)]=some h2:=by rw[e];exact Qbz gO (by simp[Qj0];omega)
  simp[t4,t6,t11,t65,hlt2,e1',e2',w1,w2,w3,x1,x2,g1,sh,ws,st]
  have lO:=Heap.get_lt gO
  refine⟨32-(4*q+r+1),by omega,_,h2,O,4*q+r+1,rfl,by simp[t4],by simp[t6],by simp[t11],by simp,by omega,rfl,?_,?_,?_,?_,hO,hR0,n1,n2⟩
  ·rw[e,Heap.get_set _ _ _ _ lO,if_pos rfl]
   congr 2
   rw[List.set_append_right _ _ (by simp[Qj0];omega),List.take_succ,ho1]
   have : 32-(4*q+r)=(32-(4*q+r+1))+1:=by omega
   rw[this,List.replicate_succ]
   simp[Qj0]
   have e5:4*q+r-min (4*q+r) 32=0:=by omega
   rw[e5]
   rfl
  ·rw[e,Heap.get_set _ _ _ _ lO,if_neg (by omega),gW]
  ·rw[e,Heap.get_set _ _ _ _ lO,if_neg (by omega),gR]
  ·rw[e];exact hold.set _ hO lO
 ·have : i=32:=by omega
  subst this
  have ld:Qgi h1 O 0 32=some (.agg ⟨(Bl.out p8).map u8v⟩):=by
   rw[Qan gO (by simp[Qj0])]
   congr 3
  have st:Wg h1 R0 0 ((Bl.out p8).map u8v)=some (h1.set R0 (some (.cells true 1 ((Bl.out p8).map u8v)))):=by
   rw[Qd2 gR (by simp[z32,Qj0])]
   congr 4
  have lR:=Heap.get_lt gR
  have l32:((Bl.out p8).map u8v).length=32:=by simp[Qj0]
  have g2:Qgi (h1.set R0 (some (.cells true 1 ((Bl.out p8).map u8v)))) R0 0 32=some (.agg ⟨(Bl.out p8).map u8v⟩):=by
   rw[Qan (by rw[Heap.get_set _ _ _ _ lR,if_pos rfl]) (by simp[Qj0])]
   congr 3
  simp[t4,t6,t11,t65,ld,Qj0,st,g2]
  exact hk _ (hold.set _ (by omega) lR)
end
end Go.Proofs.YtgeeklmjfbiieaaDoor
end
noncomputable section
namespace Go.Proofs.YtgeeklmjfbiieaaDoor
open Go Go.Ab
set_option maxRecDepth 100000
def KI(R0 W:Nat)(FIN:Bl.P8)(h:Heap)(k:Nat)(s:St):Prop:=∃ (t:Tr Value) (h1:Heap) (tv:Value) (l:List Nat) (count:Nat) (p8:Bl.P8),s=⟨⟨81,t⟩,[],h1⟩∧t.get 4=some (.pointer (some ⟨R0,0,none⟩))∧t.get 6=some (.pointer (some ⟨W,0,none⟩))∧t.get 7=some tv∧t.get 8=some (.int .u64 (count:Int)) ∧
 SN h1 tv l∧h1.get W=some (.cells true 1 ((Q1r p8).map Qa7))∧h1.get R0=some (.cells true 1 z32)∧Old h h1∧h.next≤W∧h.next≤R0∧W≠R0∧U7 tv≠some W∧Y4m p8 l count=FIN∧k=l.length∧count+l.length < 1000000000000∧Ab.LaidIn h1 Qge
theorem SN.ofB{h:Heap}{v:Value}{l:List Nat}(s:SB h v (l.map Int.ofNat)):SN h v l:=by
 have e:(l.map Int.ofNat).map i8=l.map u8v:=by rw[List.map_map];rfl
 rw[SB,e,List.length_map]at s
 exact s
theorem LaidIn.old{h h':Heap}(l:Ab.LaidIn h Qge)(a:Old h h'):Ab.LaidIn h' Qge:=fun x hx=>a.get (l x hx)
theorem Y2g{z:Int}(h0:0≤z)(h1:z≤18446744073709551615):IntKind.u64.wrap z=z:=by
 have : IntKind.u64.wrap z=z % 18446744073709551616:=by simp[IntKind.wrap,IntKind.bits,IntKind.signed]
 rw[this]
 omega
theorem Y7x(b:Nat)(B:Nat)(h:Heap):Qcd (E b).toEnv 161 (.pointer (some ⟨B,0,none⟩)) none none none h=some (.slice (some ⟨B,0,none⟩) 64 64,h):=by kernel_rfl
theorem Zda{h:Heap}(l:Ab.LaidIn h Qge):∀ x ∈ Qge,x.1 < h.next:=fun x hx=>Heap.get_lt (l x hx)
section
attribute [local simp] Wj Qcu V0 Zt Yj Zk Y6 Je Xay Q0p Q0v Q0q Uq Qag Wr J6 Yi Vq Qa4 Qa3 Qo7 Y4 Wk Qa2 Xw Qad Qab Vx Qaf Qac Qhk Qaw Ui Uy Ux Xp Xm Xk Xt Qt X0 Xn X8 Qx Xo Q4 Xf Z4 Yt aop Qg nth Ab.g0 gv gs Q7 Qd aev evs evO Qi Tr.get_put St.put Tm.put flat flatA Yu Qp Qo Qm Qq Ql Qn Qk X3 Qj Q5 Q6 Qu Xj Xa Qz Qh X9 Qy Qr Yh Zb Yg Xv Xs.putAll X7 Qc Q2 Q1 Qa Qb Q9 Q0 Q3 Q8
theorem Y86(b:Nat){h h0:Heap}{R0 W:Nat}{p8 FIN:Bl.P8}{t:Tr Value}{tv:Value}{l:List Nat}{count:Nat}(hl:Ab.LaidIn h Qge)(t4:t.get 4=some (.pointer (some ⟨R0,0,none⟩)))(t6:t.get 6=some (.pointer (some ⟨W,0,none⟩)))(t7:t.get 7=some tv)(t8:t.get 8=some (.int .u64 (count:Int)))(sn:SN h0 tv l)
  (hW:h0.get W=some (.cells true 1 ((Q1r p8).map Qa7))) (hR:h0.get R0=some (.cells true 1 z32)) (ho:Old h h0) (hw0:h.next≤W) (hR0:h.next≤R0) (hne:W≠R0) (hv:U7 tv≠some W) (hf:Y4m p8 l count=FIN) (hc:count+l.length < 1000000000000)
  (K:AEnd→Heap→Prop) (hk:∀ h',Old h h'→K (.ret (.agg ⟨(Bl.out FIN).map u8v⟩)) h'):Wv (E b) (Qky Tryd.prog (E b).G) (D0 b) none Qps ⟨⟨81,t⟩,[],h0⟩ (Ykn (E b) (DD b) Qht K):=by
 rw[Uy,Qa2]
 refine Qfy (KI R0 W FIN h) l.length ⟨_,h0,tv,l,count,p8,rfl,t4,t6,t7,t8,sn,hW,hR,ho,hw0,hR0,hne,hv,hf,rfl,hc,LaidIn.old hl ho⟩ ?_
 rintro k s' ⟨t,h1,tv,l,count,p8,rfl,t4,t6,t7,t8,sn,gW,gR,hold,_,_,_,hv,hf,rfl,hc,hl1⟩ _
 obtain⟨h2,e2⟩:∃ h2,h2=h1.push (.cells true 1 (List.replicate 64 (.int .u8 0))):=⟨_,rfl⟩
 have a12:Old h1 h2:=by rw[e2];exact Old.push _ _
 have n2:h2.next=h1.next+1:=by rw[e2];rfl
 have gB:h2.get h1.next=some (.cells true 1 (List.replicate 64 (.int .u8 0))):=by rw[e2,Heap.get_push,if_pos rfl]
 obtain⟨h3,c1,c2,c3,c4⟩:=Zin b gB (by simp) (sn.old a12)
 have a13:Old h1 h3:=⟨by omega,fun c hc=>by rw[c4 c (by omega),a12.2 c hc]⟩
 have lenB:=Qcp (b:=b) (h1:=h3) sn.sb
 have sn3:SN h3 tv l:=sn.old a13
 obtain⟨tv',h4,f1,f2,f3,f4,f5⟩:=Ytr (b:=b) sn3.sb (k:=.i64) (i:=((min l.length 64:Nat):Int)) (by omega) (by simp;omega)
 have sn4:SN h4 tv' (l.drop 64):=by
  have e:(l.map Int.ofNat).drop (min l.length 64)=(l.drop 64).map Int.ofNat:=by
   rw[← List.map_drop]
   congr 1
   rcases Nat.le_total l.length 64 with q | q
   ·rw[Nat.min_eq_left q,List.drop_eq_nil_of_le (Nat.le_refl _),List.drop_eq_nil_of_le q]
   ·rw[Nat.min_eq_right q]
  rw[Int.toNat_natCast,e]at f2
  exact SN.ofB f2
 have lenD:∀ hx,Qkb (E b).toEnv 47 tv' hx=some (.int .i64 ((l.length-64:Nat):Int)):=fun hx=>by have:=Qcp (b:=b) (h1:=hx) sn4.sb;rw[List.length_map,List.length_drop]at this;exact this
 have a14:Old h1 h4:=a13.trans f3
 have gB4:h4.get h1.next=some (.cells true 1 ((l.take 64++List.replicate (64-l.length) 0).map u8v)):=by
  rw[f3.2 _ (by omega),c2]
  congr 2
  rw[List.map_append,List.map_replicate]
  congr 1
  rw[List.drop_replicate]
  congr 1
  omega
 have gW4:h4.get W=some (.cells true 1 ((Q1r p8).map Qa7)):=a14.get gW
 have gR4:h4.get R0=some (.cells true 1 z32):=a14.get gR
 have ldW:Qgi h4 W 0 8=some (p8v p8):=by
  rw[Qan gW4 (by simp[Q1r])]
  rfl
 have lW:=Heap.get_lt gW4
 have lW1:=Heap.get_lt gW
 have hmin:((min l.length 64:Nat):Int)≤64:=by omega
 have wc:IntKind.u64.wrap ((min l.length 64:Nat):Int)=((min l.length 64:Nat):Int):=Y2g (by omega) (by omega)
 have wa:IntKind.u64.wrap ((count:Int)+((min l.length 64:Nat):Int))=((count+min l.length 64:Nat):Int):=by rw[Y2g (by omega) (by omega)];omega
 obtain⟨m,hm⟩:∃ m:Nat,m=min l.length 64:=⟨_,rfl⟩
 rw[← hm]at c1 f1 wc wa
 have hmx:¬ ((m:Int) < 0):=by omega
 have pd:Pad (l.take 64) (l.take 64++List.replicate (64-l.length) 0):=⟨_,rfl⟩
 have l64:(l.take 64++List.replicate (64-l.length) 0).length=64:=by simp;omega
 have key:∀ (last:Bool) (p8':Bl.P8),p8'=Bl.take p8 (l.take 64) (count+m) last→∀ K',K' (.ret (p8v p8')) h4→FnK Tryd.prog (E b).G 92 [p8v p8,.pointer (some ⟨h1.next,0,none⟩),.int .u64 (((count+m:Nat):Int)),.bool last] h4 K':=by
  intro last p8' hp K' hk'
  refine Zjp b (LaidIn.old hl1 a14) p8 gB4 l64 (count+m) last K' ?_
  rw[Y4f p8 pd,← hp]
  exact hk'
 have stW:∀ p8':Bl.P8,Wg h4 W 0 ((Q1r p8').map Qa7)=some (h4.set W (some (.cells true 1 ((Q1r p8').map Qa7)))):=fun p8'=>by
  rw[Qd2 gW4 (by simp[Q1r])]
  rfl
 have alB:Qe4 (E b).toEnv 161 h1=some (.pointer (some ⟨h1.next,0,none⟩),h2):=by rw[e2];exact Q16 b h1
 simp[Q16,-Q16,alB,t4,t6,t7,t8,Y7x,c1,f1,wc,wa,ldW]
 have stA:∀ p8':Bl.P8,Qeu (E b).toEnv 158 (.pointer (some ⟨W,0,none⟩)) (p8v p8') h4=some (h4.set W (some (.cells true 1 ((Q1r p8').map Qa7)))):=fun p8'=>(Q0v b h4 W 0 _ (by simp)).trans (stW p8')
 have old5:∀ x,Old h (h4.set W x):=fun x=>(hold.trans a14).set _ (by assumption) lW
 have gW5:∀ x,(h4.set W x).get W=x:=fun x=>by rw[Heap.get_set _ _ _ _ lW,if_pos rfl]
 have gR5:∀ x,(h4.set W x).get R0=some (.cells true 1 z32):=fun x=>by rw[Heap.get_set _ _ _ _ lW,if_neg (by assumption),gR4]
 by_cases h64:l.length≤64
 ·have e0:((l.length-64:Nat):Int)=0:=by omega
  have em:m=l.length:=by omega
  have et:l.take 64=l:=List.take_of_length_le h64
  rw[e0]at lenD
  have hF:FIN=Bl.take p8 (l.take 64) (count+m) true:=by rw[← hf,Yuk h64,em,et]
  simp[lenD]
  refine key true FIN hF _ ?_
  simp[Q16,stA,t6,lenD]
  refine Zhx b (W:=W) (p8:=FIN) (h:=h) (R0:=R0) (by simp[t4]) (by simp[t6]) (gW5 _) (gR5 _) (old5 _) (by assumption) K hk
 ·have e0:¬ ((l.length-64:Nat):Int)=0:=by omega
  have em:m=64:=by omega
  subst em
  have e1:(decide (((l.length-64:Nat):Int)=0))=false:=by simpa using e0
  have hlt:64 < l.length:=by omega
  have e0n:¬ (l.length-64=0):=by omega
  simp only[lenD,Y4,e1]
  refine key false _ rfl _ ?_
  simp[Q16,stA,t6,lenD,e0n]
  refine⟨l.length-64,by omega,_,_,tv',l.drop 64,count+64,Bl.take p8 (l.take 64) (count+64) false,rfl,by simp[t4],by simp[t6],by simp,by simp,?_,gW5 _,gR5 _,old5 _,by assumption,by assumption,by assumption,?_,by rw[← hf];exact(Yxm hlt).symm,by simp,by simp;omega,?_⟩
  ·refine Sl.keep sn4 fun c hc hlt => ?_
   rw[Heap.get_set _ _ _ _ lW,if_neg]
   rintro rfl
   rcases f5 _ hc with q | q
   ·exact hv q
   ·omega
  ·intro q
   rcases f5 _ q with q | q
   ·exact hv q
   ·omega
  ·intro x hx
   have hlx:=hl1 x hx
   have hx2:x.1≠W:=by
    intro q
    have:=Zda hl x hx
    omega
   rw[Heap.get_set _ _ _ _ lW,if_neg (Ne.symm hx2)]
   exact a14.get hlx
end
end Go.Proofs.YtgeeklmjfbiieaaDoor
end
noncomputable section
namespace Go.Proofs.YtgeeklmjfbiieaaDoor
open Go Go.Ab
set_option maxRecDepth 100000
theorem gn0(b:Nat):(0 < (E b).G.n)=True:=eq_true (by show 0 < nv;decide)
theorem Zol(x:Int):Qbv (binOp .shl 156 (.int .u32 x) (.int .u64 8))=some (.int .u32 (IntKind.u32.wrap (x*2 ^ 8))):=by kernel_rfl
theorem Zbh(x y:Int):Qbv (binOp .xor 156 (.int .u32 x) (.int .u32 y))=some (.int .u32 (Q3a x y)):=by kernel_rfl
def Y9p(k:Nat):Int:=Q3a 1779033703 (Q3a (Q3a 16842752 (IntKind.u32.wrap (IntKind.u32.wrap (k:Int)*2 ^ 8))) 32)
theorem Zd7:∀ k,k < 33→Y9p k=Int.ofNat (Bl.start k).h0:=by decide
def K0(k:Nat):Bl.P8:=Bl.start k
theorem Yaa:∀ n,(Bl.zeros n).map u8v=List.replicate n (.int .u8 0)
 | 0=>rfl
 | n+1=>by
  have : (Bl.zeros (n+1)).map u8v=u8v 0::(Bl.zeros n).map u8v:=rfl
  rw[this,Yaa n,List.replicate_succ];rfl
theorem Xlt(v:Value):∀ n,Qbs [v] n=List.replicate n v
 | 0=>rfl
 | n+1=>by simp[Qbs,Xlt v n,List.replicate_succ]
section
attribute [local simp] Wj Qcu V0 Yj Zk Y6 Je Xay Q0v Q0q Uq Qag J6 Yi Vq Q16 Qa4 Qa3 Qo7 Y4 Wk Qa2 Xw Qad Qab Vx Qaf Qac Qhk Qaw Ui Xp kON kOC Xt kNN kNP kRR kRP kEN kER Q4 Xf Z4 Yt aop Qg nth Ab.g0 gv gs Q7 Qd aev evs evO Qi Tr.get_put St.put Tm.put flat flatA Yu Qp Qo Qm Qq Ql Qn Qk X3 Qj Q5 Q6 kTN kTR kTX kTP kBN kBR kBX kBP kCS kCR kCE kAM Xs.putAll X7 Qc Q2 Q1 Qa Qb Q9 Q0 Q3 Q8
theorem Yn9(b:Nat){h hA:Heap}(laid:Ab.LaidIn h Qge){R:Nat}{kv tv:Value}{key l:List Nat}{tr:Tr Value}(aA:Old h hA)(hR:h.next≤R)(gA:hA.get R=some (.cells true 1 z32))(sk:SN hA kv key)(sl:SN hA tv l)(hkey:key.length≤32)(hl:l.length < 1000000000)
  (t0:tr.get 0=some kv) (t1:tr.get 1=some tv) (t4:tr.get 4=some (.pointer (some ⟨R,0,none⟩))) (K:AEnd→Heap→Prop) (hk:∀ h',Old h h'→K (.ret (.agg ⟨(Bl.keyed1 key l).map u8v⟩)) h') :
  Wv (E b) (Qky Tryd.prog (E b).G) (D0 b) none Qya ⟨⟨81,tr⟩,[],hA⟩ (Ykn (E b) (DD b) Qht K):=by
 have lenk:∀ hx,Qkb (E b).toEnv 47 kv hx=some (.int .i64 (key.length:Int)):=fun hx=>Qdf (T47 b) sk
 have lent:∀ hx,Qkb (E b).toEnv 47 tv hx=some (.int .i64 (l.length:Int)):=fun hx=>Qdf (T47 b) sl
 have h32:¬ (32:Int) < (key.length:Int):=by omega
 have gbeg:h.get 0=some (.cells false 0 Qfh):=laid (0,Qfh) (by simp[Qge])
 obtain⟨hB,eB⟩:∃ hB,hB=hA.push (.cells true 1 (List.replicate 8 (.int .u32 0))):=⟨_,rfl⟩
 have lA:=Heap.get_lt gA
 have aB:Old hA hB:=by rw[eB];exact Old.push _ _
 have nB:hB.next=hA.next+1:=by rw[eB];rfl
 have gB:hB.get hA.next=some (.cells true 1 (List.replicate 8 (.int .u32 0))):=by rw[eB,Heap.get_push,if_pos rfl]
 have alB:Qe4 (E b).toEnv 158 hA=some (.pointer (some ⟨hA.next,0,none⟩),hB):=by rw[eB];exact Q0p b hA
 have ld0:Qgi hA 0 0 8=some (.agg ⟨Qfh⟩):=by
  rw[Qan (aA.get gbeg) (by simp[Qfh])];rfl
 obtain⟨hC,eC⟩:∃ hC,hC=hB.set hA.next (some (.cells true 1 Qfh)):=⟨_,rfl⟩
 have lB:=Heap.get_lt gB
 have gC:hC.get hA.next=some (.cells true 1 Qfh):=by rw[eC,Heap.get_set _ _ _ _ lB,if_pos rfl]
 have stC:Qeu (E b).toEnv 158 (.pointer (some ⟨hA.next,0,none⟩)) (.agg ⟨Qfh⟩) hB=some hC:=(Q0v b hB hA.next 0 _ (by simp[Qfh])).trans (by rw[Qd2 gB (by simp[Qfh]),eC];rfl)
 have ldC:V2 hC hA.next 0=some (.int .u32 1779033703):=by rw[Up gC];rfl
 obtain⟨hD,eD⟩:∃ hD,hD=hC.set hA.next (some (.cells true 1 (Qfh.set 0 (.int .u32 (Y9p key.length))))):=⟨_,rfl⟩
 have lC:=Heap.get_lt gC
 have stD:Wg hC hA.next 0 [.int .u32 (Y9p key.length)]=some hD:=by rw[eD];exact Qbz gC (by simp[Qfh])
 have gD:hD.get hA.next=some (.cells true 1 ((Q1r (Bl.start key.length)).map Qa7)):=by
  rw[eD,Heap.get_set _ _ _ _ lC,if_pos rfl,Zd7 _ (by omega)];rfl
 have aC:Old h hC:=by rw[eC];exact(aA.trans aB).set _ (by omega) lB
 have aAD:Old hA hD:=by rw[eD,eC];exact(aB.set _ (Nat.le_refl _) lB).set _ (Nat.le_refl _) (by rw[← eC];exact lC)
 have aD:Old h hD:=by rw[eD];exact aC.set _ (by omega) lC
 have gR:hD.get R=some (.cells true 1 z32):=by
  rw[eD,Heap.get_set _ _ _ _ lC,if_neg (by omega),eC,Heap.get_set _ _ _ _ lB,if_neg (by omega)]
  exact aB.get gA
 have hx0:Zn (E b).toEnv 158 (.pointer (some ⟨hA.next,0,none⟩)) (.int .i64 0)=some (.pointer (some ⟨hA.next,0,none⟩)):=Q0q b ⟨by omega,by omega⟩
 obtain⟨a0,ha0⟩:∃ a:Int,a=IntKind.u32.wrap (key.length:Int):=⟨_,rfl⟩
 obtain⟨a1,ha1⟩:∃ a:Int,a=IntKind.u32.wrap (a0*2 ^ 8):=⟨_,rfl⟩
 obtain⟨a2,ha2⟩:∃ a:Int,a=Q3a 16842752 a1:=⟨_,rfl⟩
 obtain⟨a3,ha3⟩:∃ a:Int,a=Q3a a2 32:=⟨_,rfl⟩
 obtain⟨a4,ha4⟩:∃ a:Int,a=Y9p key.length:=⟨_,rfl⟩
 have x0:Qli (E b).toEnv 3 156 (.int .i64 (key.length:Int))=some (.int .u32 a0):=by rw[ha0];exact Wr b _ _
 have x1:Qbv (binOp .shl 156 (.int .u32 a0) (.int .u64 8))=some (.int .u32 a1):=by rw[ha1];exact Zol a0
 have x2:Qbv (binOp .xor 156 (.int .u32 16842752) (.int .u32 a1))=some (.int .u32 a2):=by rw[ha2];exact Zbh _ _
 have x3:Qbv (binOp .xor 156 (.int .u32 a2) (.int .u32 32))=some (.int .u32 a3):=by rw[ha3];exact Zbh _ _
 have x4:Qbv (binOp .xor 156 (.int .u32 1779033703) (.int .u32 a3))=some (.int .u32 a4):=by rw[ha4,Y9p,← ha0,← ha1,← ha2,← ha3];exact Zbh _ _
 rw[← ha4]at stD
 simp[Zt,Q0p,Wr,Uy,Ux,-Q0p,gn0,t0,t1,t4,alB,lenk,lent,h32,ld0,stC,hx0,ldC,stD,-Wr,x0,x1,x2,x3,x4]
 have laidD:=LaidIn.old laid aD
 have fin:∀ (t:Tr Value) (h0:Heap) (v:Value) (text:List Nat),text=Bl.textOf key l→t.get 4=some (.pointer (some ⟨R,0,none⟩))→t.get 6=some (.pointer (some ⟨hA.next,0,none⟩))→t.get 7=some v→t.get 8=some (.int .u64 0)→SN h0 v text→Old hD h0→U7 v≠some hA.next →
   Wv (E b) (Qky Tryd.prog (E b).G) (D0 b) none Qps ⟨⟨81,t⟩,[],h0⟩ (Ykn (E b) (DD b) Qht K):=by
  intro t h0 v text e t4 t6 t7 t8 sn o0 hv
  refine Y86 b (count:=0) (FIN:=Y4m (Bl.start key.length) text 0) laid t4 t6 t7 t8 sn (o0.get gD) (o0.get gR) (aD.trans o0) (by omega) hR (by omega) hv rfl ?_ K fun h' q => ?_
  ·subst e
   cases key with
   | nil=>simp[Bl.textOf];omega
   | cons k ks =>
    have z:∀ n,(Bl.zeros n).length=n:=fun n=>by induction n with
     | zero=>rfl
     | succ n ih=>simp[Bl.zeros,ih]
    simp[Bl.textOf,z]at hkey ⊢;omega
  ·rw[e]at *
   exact hk h' q
 cases hkc:key with
 | nil =>
  subst hkc
  simp[Zt,Q0p,Wr,Uy,Ux,-Uy,t0,t1,t4]
  refine fin _ hD tv l rfl (by simp[t0,t1,t4]) (by simp[t0,t1,t4]) (by simp[t0,t1,t4]) (by simp[t0,t1,t4]) (sl.old aAD) (Old.refl _) fun q => ?_
  have:=sl.blk q
  omega
 | cons k ks =>
  have h0:0 < key.length:=by rw[hkc];simp
  rw[← hkc]
  have w1:IntKind.i64.wrap (64+(l.length:Int))=((64+l.length:Nat):Int):=by rw[Ug (by omega) (by omega)];omega
  have w2:IntKind.i64.wrap (64-(key.length:Int))=((64-key.length:Nat):Int):=by rw[Ug (by omega) (by omega)];omega
  obtain⟨h1,e1⟩:∃ h1,h1=hD.push (.cells true 1 (List.replicate (64+l.length) (.int .u8 0))):=⟨_,rfl⟩
  have a1:Old hD h1:=by rw[e1];exact Old.push _ _
  have mk:Qn3 (E b).toEnv 47 (.int .i64 0) (.int .i64 ((64+l.length:Nat):Int)) hD=some (.slice (some ⟨hD.next,0,none⟩) 0 (64+l.length),h1):=by
   simp only[Qn3,Xqz,(T47 b).d,Y5r]
   rw[if_pos ⟨by omega,by omega,by omega,by rw[Qmm];omega,by rw[Qbg];omega⟩,Y1h,e1]
   have : (Value.int .u8 0).cells.toList=[.int .u8 0]:=rfl
   rw[this,Xlt]
   simp only[Int.toNat_natCast,Int.toNat_zero]
  have mk':Qn3 (E b).toEnv 47 (.int .i64 0) (.int .i64 (64+(l.length:Int))) hD=some (.slice (some ⟨hD.next,0,none⟩) 0 (64+l.length),h1):=by
   have:=mk
   rw[show((64+l.length:Nat):Int)=64+(l.length:Int) by omega]at this
   exact this
  have o1:Own h1 hD.next 1 (.slice (some ⟨hD.next,0,none⟩) 0 (64+l.length)) 0 []:=.inr ⟨hD.next,64+l.length,1,_,rfl,Nat.le_refl _,by rw[e1,Heap.get_push,if_pos rfl,List.nil_append],rfl,by omega,by unfold Qfv;omega,.inr ⟨by unfold Qfv;omega,by simp⟩⟩
  obtain⟨v2,h2,c1,o2,b2⟩:=Qmo (T47 b) (tx:=47) (m:=key.length) (ys:=key.map u8v) Qbg (by omega) o1 a1.1 (Q2g (T47 b) Qbg (sk.old (aAD.trans a1))) (by simp) (by rw[Qmm];omega) (by omega)
  have nz:Xru (E b).toEnv 3 R5 (.int .i64 ((64-key.length:Nat):Int)) h2=some (64-key.length,List.replicate (64-key.length) (.int .u8 0)):=by
   have hi:R3.desc=.int .i64:=by kernel_rfl
   simp only[Xru,Znw,hi]
   rw[if_pos ⟨by omega,by omega,by rw[Qmm];omega,by rw[Qbg];omega⟩,Y1h]
   have : (Value.int .u8 0).cells.toList=[.int .u8 0]:=rfl
   rw[this,Xlt]
   simp
  obtain⟨v3,h3,c2,o3,b3⟩:=Qmo (T47 b) (tx:=3) Qbg (by omega) o2 (Nat.le_trans a1.1 b2.1) nz (by simp) (by rw[Qmm];omega) (by omega)
  have a2:Old hD h2:=b2.old a1 o1
  have a3:Old hD h3:=b3.old a2 o2
  obtain⟨v4,h4,c3,o4,b4⟩:=Qmo (T47 b) (tx:=47) (m:=l.length) (ys:=l.map u8v) Qbg (by omega) o3 a3.1 (Q2g (T47 b) Qbg (sl.old (aAD.trans a3))) (by simp) (by rw[Qmm];omega) (by omega)
  have a4:Old hD h4:=b4.old a3 o3
  simp[Zt,Q0p,Wr,Uy,Ux,-Uy,t0,t1,t4,h0,lenk,lent,w1,w2,mk',c1,c2,c3]
  have zl:(Bl.zeros (64-key.length)).length=64-key.length:=by have:=congrArg List.length (Yaa (64-key.length));simpa using this
  have tx:Bl.textOf key l=key++(Bl.zeros (64-key.length)++l):=by rw[hkc];rfl
  have sn:SN h4 v4 (key++(Bl.zeros (64-key.length)++l)):=by
   have:=o4.sl
   have e1 : []++key.map u8v++List.replicate (64-key.length) (Value.int .u8 0)++l.map u8v=(key++(Bl.zeros (64-key.length)++l)).map u8v:=by
    rw[List.map_append,List.map_append,Yaa]
    simp
   have e2:0+key.length+(64-key.length)+l.length=(key++(Bl.zeros (64-key.length)++l)).length:=by
    simp only[List.length_append,zl];omega
   rw[e1,e2]at this
   exact this
  refine fin _ h4 v4 _ tx.symm (by simp[t0,t1,t4]) (by simp[t0,t1,t4]) (by simp[t0,t1,t4]) (by simp[t0,t1,t4]) sn a4 fun q => ?_
  have:=(o4.from q).1
  have:=Heap.get_lt gD
  omega
theorem Yp8(b:Nat){h:Heap}(laid:Ab.LaidIn h Qge){kv tv:Value}{key l:List Nat}(sk:SN h kv key)(sl:SN h tv l)(hkey:key.length≤32)(hl:l.length < 1000000000)(K:AEnd→Heap→Prop)(hk:∀ h',Old h h'→K (.ret (.agg ⟨(Bl.keyed1 key l).map u8v⟩)) h') :
  FnK Tryd.prog (E b).G 54 [kv,tv] h K:=by
 refine Ur (E b) (Qa1 b) (Vj b) Wf (Qa5 b) (Us b) (V0 b) Xb2 Xvh Xoj rfl ?_
 have lenk:∀ hx,Qkb (E b).toEnv 47 kv hx=some (.int .i64 (key.length:Int)):=fun hx=>Qdf (T47 b) sk
 have h32:¬ (32:Int) < (key.length:Int):=by omega
 obtain⟨hA,eA⟩:∃ hA,hA=h.push (.cells true 1 z32):=⟨_,rfl⟩
 have aA:Old h hA:=by rw[eA];exact Old.push _ _
 have gA:hA.get h.next=some (.cells true 1 z32):=by rw[eA,Heap.get_push,if_pos rfl]
 have alA:Qe4 (E b).toEnv 23 h=some (.pointer (some ⟨h.next,0,none⟩),hA):=by rw[eA];exact Zt b h
 simp[Zt,Q0p,Wr,Uy,Ux,-Zt,-Ux,alA,lenk,h32]
 exact Yn9 b laid aA (Nat.le_refl _) gA (sk.old aA) (sl.old aA) hkey hl (by simp) (by simp) (by simp) K hk
end
section
attribute [local simp] Q2i X15 Y6 V0 Je Xp Xm Xk Xt Qt X0 Xn X8 Qx Xo Q4 Xf Z4 Yt aop Qg nth Ab.g0 gv gs Q7 Qd aev evs evO Qi Tr.get_put St.put Tm.put flat flatA Yu Qp Qo Qm Qq Ql Qn Qk X3 Qj Q5 Q6 Qu Xj Xa Qz Qh X9 Qy Qr Yh Zb Yg Xv Xs.putAll X7 Qc Q2 Q1 Qa Qb Q9 Q0 Q3 Q8
theorem Zgb(b:Nat){h:Heap}(laid:Ab.LaidIn h Qge){tv:Value}{l:List Nat}(sl:SN h tv l)(hl:l.length < 1000000000)(K:AEnd→Heap→Prop)(hk:∀ h',Old h h'→K (.ret (.agg ⟨(Bl.keyed1 [] l).map u8v⟩)) h') :
  FnK Tryd.prog (E b).G 87 [tv] h K:=by
 refine Ur (E b) (Qa1 b) (Vj b) Wf (Qa5 b) (Us b) (Y6 b) Yl1 Y0h Yve rfl ?_
 obtain⟨hA,eA⟩:∃ hA,hA=h.push (.cells true 1 z32):=⟨_,rfl⟩
 have aA:Old h hA:=by rw[eA];exact Old.push _ _
 have gA:hA.get h.next=some (.cells true 1 z32):=by rw[eA,Heap.get_push,if_pos rfl]
 have alA:Qe4 (E b).toEnv 23 h=some (.pointer (some ⟨h.next,0,none⟩),hA):=by rw[eA];exact Zt b h
 simp[Zt,-Zt,alA]
 refine Yp8 b (LaidIn.old laid aA) (kv:=.slice none 0 0) (key:=[]) Sl.nil (sl.old aA) (by simp) hl _ fun h2 a2 => ?_
 have g2:h2.get h.next=some (.cells true 1 z32):=a2.get gA
 have kl:(Bl.keyed1 [] l).length=32:=Qj0 _
 have l2:=Heap.get_lt g2
 have st:Wg h2 h.next 0 ((Bl.keyed1 [] l).map u8v)=some (h2.set h.next (some (.cells true 1 ((Bl.keyed1 [] l).map u8v)))):=by
  rw[Qd2 g2 (by simp[z32,kl])]
  congr 4
 have g3:Qgi (h2.set h.next (some (.cells true 1 ((Bl.keyed1 [] l).map u8v)))) h.next 0 32=some (.agg ⟨(Bl.keyed1 [] l).map u8v⟩):=by
  rw[Qan (by rw[Heap.get_set _ _ _ _ l2,if_pos rfl]) (by simp[kl])]
  congr 3
 simp[Zt,Ui,st,kl,g3]
 exact hk _ ((aA.trans a2).set _ (Nat.le_refl _) l2)
end
end Go.Proofs.YtgeeklmjfbiieaaDoor
end
noncomputable section
namespace Go.Proofs.YtgeeklmjfbiieaaDoor
open Go Go.Ab
set_option maxRecDepth 100000
def Zik(xs:List Int):ByteArray:=⟨⟨xs.map fun n=>UInt8.ofNat n.toNat⟩⟩
theorem Yng:∀ xs:List Int,Xkp (xs.map i8)=some xs
 | []=>rfl
 | x::xs=>by
  show(match Xkp (xs.map i8)with | some r=>some (x::r) | none=>none)=_
  rw[Yng xs]
theorem Y4v(b:Nat){h:Heap}{v:Value}{xs:List Int}(s:SB h v xs):Xtj (E b).toEnv 47 9 v h=some (.string (Zik xs),h):=by
 have h1:R47.desc=.slice 5:=(T47 b).d
 have h2:R9.desc=.string:=by kernel_rfl
 have h3:R5.desc=.int .u8:=by kernel_rfl
 rcases s with⟨c,rfl,_,e,e2⟩ | ⟨bk,o,c,ow,z',pre,post,rfl,g1,g2,g3, -⟩
 ·have : xs=[]:=List.map_eq_nil_iff.1 e2
  subst this
  simp only[Xtj,Xqz,Zpr,h1,h2,Y5r,h3]
  rfl
 ·have h4:Ab.cellsAt h ⟨bk,o,none⟩ xs.length=some (xs.map i8):=by
   simp only[Ab.cellsAt,g1]
   rw[← g2,List.append_assoc,List.drop_left,Q0t (by simp),List.take_append_of_le_length (by simp),List.take_of_length_le (by simp)]
  simp only[Xtj,Xqz,Zpr,h1,h2,Y5r,h3,h4,Yng]
  rfl
theorem Zcz(x y:ByteArray):Qbv (binOp .eql 9 (.string x) (.string y))=some (.bool (x.toList == y.toList)):=by kernel_rfl
theorem Zl1:∀ (xs ys:List Int),Bytes xs→Bytes ys→xs.map (fun n=>UInt8.ofNat n.toNat)=ys.map (fun n=>UInt8.ofNat n.toNat)→xs=ys:=by
 intro xs
 induction xs with
 | nil=>intro ys _ _ e;cases ys <;> simp_all
 | cons x xs ih =>
  intro ys hx hy e
  cases ys with
  | nil=>simp at e
  | cons y ys =>
   simp only[List.map_cons,List.cons.injEq]at e
   have b1:=hx x (by simp)
   have b2:=hy y (by simp)
   have e3:=congrArg UInt8.toNat e.1
   simp only[UInt8.toNat_ofNat']at e3
   have : x=y:=by omega
   rw[this,ih ys (fun z hz=>hx z (by simp[hz])) (fun z hz=>hy z (by simp[hz])) e.2]
theorem Zbk{xs ys:List Int}(hx:Bytes xs)(hy:Bytes ys):((Zik xs).toList == (Zik ys).toList)=decide (xs=ys):=by
 rw[ByteArray.toList_eq,ByteArray.toList_eq]
 show(xs.map (fun n=>UInt8.ofNat n.toNat) == ys.map (fun n=>UInt8.ofNat n.toNat))=decide (xs=ys)
 by_cases h:xs=ys
 ·subst h;simp
 ·rw[decide_eq_false h]
  simp only[beq_eq_false_iff_ne,ne_eq]
  exact fun e=>h (Zl1 xs ys hx hy e)
theorem Zf5(b:Nat){h:Heap}{v w:Value}{xs ys:List Int}(s1:SB h v xs)(s2:SB h w ys)(b1:Bytes xs)(b2:Bytes ys)(K:AEnd→Heap→Prop)(hk:K (.ret (.bool (decide (xs=ys)))) h):FnK Tryd.prog (E b).G 42 [v,w] h K:=by
 refine Ur (E b) (Qa1 b) (Vj b) Wf (Qa5 b) (Us b) (Y1 b) X5z Yoe Yks rfl ?_
 simp[Xbf,Ykp,Y1,Zhm,Xp,Xm,Xk,Xt,Qt,X0,Xn,X8,Qx,Xo,Q4,Xf,Z4,Yt,aop,Qg,nth,Ab.g0,gv,gs,Q7,Qd,aev,evs,evO,Qi,Tr.get_put,St.put,Tm.put,flat,flatA,Yu,Qp,Qo,Qm,Qq,Ql,Qn,Qk,X3,Qj,Q5,Q6,Qu,Xj,Xa,Qz,Qh,X9,Qy,Qr,Yh,Zb,Yg,Xv,Xs.putAll,X7,Qc,Q2,Q1,Qa,Qb,Q9,Q0,Q3,Q8,Y4v b s1,Y4v b s2,Zcz,Zbk b1 b2]
 exact hk
end Go.Proofs.YtgeeklmjfbiieaaDoor
end
noncomputable section
namespace Go.Proofs.YtgeeklmjfbiieaaDoor
open Go Go.Ab
set_option maxRecDepth 100000
def Znx(a b:Int):Int:=IntKind.wrap .i64 ((BitVec.ofInt 64 a ||| BitVec.ofInt 64 b).toNat:Nat)
theorem Zp7(x y:Int):Qbv (binOp .or 3 (.int .i64 x) (.int .i64 y))=some (.int .i64 (Znx x y)):=by kernel_rfl
theorem Zmw(x y:Int)(h:y=0∨y=8∨y=16∨y=24):Qbv (binOp .shl 3 (.int .i64 x) (.int .i64 y))=some (.int .i64 (IntKind.i64.wrap (x*2 ^ y.toNat))):=by
 rcases h with rfl | rfl | rfl | rfl
 ·exact(by kernel_rfl:Qbv (binOp .shl 3 (.int .i64 x) (.int .i64 0))=some (.int .i64 (IntKind.i64.wrap (x*2 ^ 0))))
 ·exact(by kernel_rfl:Qbv (binOp .shl 3 (.int .i64 x) (.int .i64 8))=some (.int .i64 (IntKind.i64.wrap (x*2 ^ 8))))
 ·exact(by kernel_rfl:Qbv (binOp .shl 3 (.int .i64 x) (.int .i64 16))=some (.int .i64 (IntKind.i64.wrap (x*2 ^ 16))))
 ·exact(by kernel_rfl:Qbv (binOp .shl 3 (.int .i64 x) (.int .i64 24))=some (.int .i64 (IntKind.i64.wrap (x*2 ^ 24))))
def Xc8(x:List Int):Nat→Int
 | 0=>0
 | i+1=>Znx (Xc8 x i) (IntKind.i64.wrap (x.getD i 0*2 ^ (8*i)))
def UI(μ:Nat)(v:Value)(x:List Int)(h:Heap)(k:Nat)(s:St):Prop:=∃ (t:Tr Value) (i:Nat),s=⟨⟨35,t⟩,[],h⟩∧t.get 0=some (.pointer (some ⟨μ,0,none⟩))∧t.get 12=some v∧t.get 13=some (.int .i64 4)∧t.get 14=some (.int .i64 (i:Int))∧t.get 3=some (.int .i64 (Xc8 x i))∧i≤4∧k=4-i
theorem MRow.c33{h:Heap}{MB:Nat→Prop}{μ z:Nat}{e:Menv}{ps:List (Value × List Int)}{op:List Br}{sv ov:Value}(m:MRow h MB μ e ps op sv ov z):V2 h μ 33=some (.int .i64 e.lk):=by
 rw[Up m.at',List.getElem?_append_left (by rw[e.len];omega)]
 simp[Menv.cells,e.hd]
section
attribute [local simp] V9 U8 X5 Qe Yj Y4 X2 Xw Uh Qd8 W9 Wb Vx Yi Qcz Qty U9 Qcf Xp Xm Xk Xt Qt X0 Xn X8 Qx Xo Q4 Xf Z4 Yt aop Qg nth Ab.g0 gv gs Q7 Qd aev evs evO Qi Tr.get_put St.put Tm.put flat flatA Yu Qp Qo Qm Qq Ql Qn Qk X3 Qj Q5 Q6 Qu Xj Xa Qz Qh X9 Qy Qr Yh Zb Yg Xv Xs.putAll X7 Qc Q2 Q1 Qa Qb Q9 Q0 Q3 Q8
theorem Zdf(b:Nat){h:Heap}{MB:Nat→Prop}{μ:Nat}{e:Menv}{v:Value}{x:List Int}{ps:List (Value × List Int)}{op:List Br}(M:Mach h MB μ e ((v,x)::ps) op)(hl:ps.length < 1000)(K:AEnd→Heap→Prop)(hk:x.length=4→Xc8 x 4≤e.lk→∀ h',Mach h' MB μ e ps op→Mv MB MB h h'→K (.ret (.tuple #[])) h')
  (h4:x.length≠4→∀ h',Mv MB MB h h'→K (.panic (pe 16)) h') (he:x.length=4→¬ Xc8 x 4≤e.lk→∀ h',Mv MB MB h h'→K (.panic (pe 18)) h'):FnK Tryd.prog (E b).G 90 [.pointer (some ⟨μ,0,none⟩)] h K:=by
 refine Ur (E b) (Qa1 b) (Vj b) Wf (Qa5 b) (Us b) (X5 b) Qnp Qrd Qq5 rfl ?_
 simp
 refine Qn2 b M hl _ fun h1 M1 m1 _ i1 _ => ?_
 have len:=fun hx=>Qcp (b:=b) (h1:=hx) i1.sb
 by_cases hx:x.length=4
 ·rw[hx]at len
  have len4:∀ hx,Qkb (E b).toEnv 47 v hx=some (.int .i64 4):=len
  simp[len4]
  refine Xam b h1 16 _ ?_
  simp[len4]
  refine Qfy (UI μ v x h1) 4 ⟨_,0,rfl,by simp,by simp,by simp,by simp,by simp[Xc8],by omega,rfl⟩ ?_
  rintro k s' ⟨t,i,rfl,t0,t12,t13,t14,t3,hi,rfl⟩ _
  obtain⟨⟨sv,ov,z,r⟩,its,low⟩:=M1
  by_cases hlt:i < 4
  ·have hlt':(i:Int) < 4:=by omega
   obtain⟨c,hc⟩:∃ c,x[i]? = some c:=⟨_,List.getElem?_eq_getElem (by omega)⟩
   obtain⟨bk,off,q1,q2,q3⟩:=Xnf (b:=b) i1.sb (k:=.i64) hc
   have hb:=i1.by8 c (List.mem_of_getElem? hc)
   have w1:IntKind.i64.wrap c=c:=Ug (by omega) (by omega)
   have w2:IntKind.i64.wrap (8*(i:Int))=8*(i:Int):=Ug (by omega) (by omega)
   have w3:IntKind.i64.wrap ((i:Int)+1)=((i+1:Nat):Int):=by rw[Ug (by omega) (by omega)];omega
   obtain⟨a1,ha1⟩:∃ a:Int,a=IntKind.i64.wrap (c*2 ^ (8*i)):=⟨_,rfl⟩
   have sh:Qbv (binOp .shl 3 (.int .i64 c) (.int .i64 (8*(i:Int))))=some (.int .i64 a1):=by
    rw[Zmw c _ (by omega),ha1]
    congr 5
   have orr:Qbv (binOp .or 3 (.int .i64 (Xc8 x i)) (.int .i64 a1))=some (.int .i64 (Xc8 x (i+1))):=by
    rw[Zp7,ha1,Xc8,List.getD_eq_getElem?_getD,hc]
    rfl
   simp only[i8]at q3
   simp[t0,t12,t13,t14,t3,hlt',q2,q3,w1,w2,w3,sh,orr]
   exact⟨4-(i+1),by omega,_,i+1,rfl,by simp[t0],by simp[t12],by simp[t13],by simp,by simp,by omega,rfl⟩
  ·have : i=4:=by omega
   subst this
   have c33:=r.c33
   by_cases hle:Xc8 x 4≤e.lk
   ·simp[Qax,t0,t12,t13,t14,t3,c33,hle]
    refine Xam b h1 18 _ ?_
    simp
    exact hk hx hle h1 ⟨⟨sv,ov,z,r⟩,its,low⟩ m1
   ·simp[Qax,t0,t12,t13,t14,t3,c33,hle]
    refine Q15 b h1 18 _ ?_
    simp
    exact he hx hle h1 m1
 ·have hx':¬ (x.length:Int)=4:=by omega
  simp[len,hx,hx']
  refine Q15 b h1 16 _ ?_
  simp
  exact h4 hx h1 m1
end
end Go.Proofs.YtgeeklmjfbiieaaDoor
end
noncomputable section
namespace Go.Proofs.YtgeeklmjfbiieaaDoor
open Go Go.Ab
set_option maxRecDepth 100000
section
attribute [local simp] Qiw Qp6 Jz Xw Zk Qnc Qm1 Qnf Vq Q12 Xok Xp Xm Xk Xt Qt X0 Xn X8 Qx Xo Q4 Xf Z4 Yt aop Qg nth Ab.g0 gv gs Q7 Qd aev evs evO Qi Tr.get_put St.put Tm.put flat flatA Yu Qp Qo Qm Qq Ql Qn Qk X3 Qj Q5 Q6 Qu Xj Xa Qz Qh X9 Qy Qr Yh Zb Yg Xv Xs.putAll X7 Qc Q2 Q1 Qa Qb Q9 Q0 Q3 Q8
theorem Zd6(b:Nat)(h:Heap)(ν:Nat){o:Int}(ho:o < 1∨32 < o)(K:AEnd→Heap→Prop)(hk:K (.ret (.pointer none)) h):FnK Tryd.prog (E b).G 144 [.pointer (some ⟨ν,0,none⟩),.int .i64 o] h K:=by
 refine Ur (E b) (Qa1 b) (Vj b) Wf (Qa5 b) (Us b) (Jz b) Qud Q44 Q0g rfl ?_
 by_cases h1:o < 1
 ·simp[h1]
  exact hk
 ·have h2:32 < o:=by omega
  simp[h1,h2]
  exact hk
theorem Y3r(b:Nat)(h:Heap)(ν:Nat){o:Int}(h1:1≤o)(h2:o≤32)(K:AEnd→Heap→Prop)(hk:K (.ret (.pointer (some ⟨ν,(o-1).toNat*32,none⟩))) h):FnK Tryd.prog (E b).G 144 [.pointer (some ⟨ν,0,none⟩),.int .i64 o] h K:=by
 refine Ur (E b) (Qa1 b) (Vj b) Wf (Qa5 b) (Us b) (Jz b) Qud Q44 Q0g rfl ?_
 have a1:¬ o < 1:=by omega
 have a2:¬ 32 < o:=by omega
 have w:IntKind.i64.wrap (o-1)=o-1:=Ug (by omega) (by omega)
 have a3:0≤o-1∧o-1 < ((32:Nat):Int):=⟨by omega,by omega⟩
 have hx:Zn (E b).toEnv 109 (.pointer (some ⟨ν,0,none⟩)) (.int .i64 (o-1))=some (.pointer (some ⟨ν,(o-1).toNat*32,none⟩)):=by rw[Xok b a3];simp
 simp[Qax,a1,a2,w,hx]
 rw[show o.toNat-1=(o-1).toNat by omega]
 exact hk
end
end Go.Proofs.YtgeeklmjfbiieaaDoor
end
noncomputable section
namespace Go.Proofs.YtgeeklmjfbiieaaDoor
open Go Go.Ab
set_option maxRecDepth 100000
def z16:List Value:=List.replicate 16 (.int .u8 0)
theorem Zfi(b:Nat):Y9t (E b).toEnv .neq 227 (.pointer none) (.pointer none)=some (.bool false):=by kernel_rfl
theorem Y57(b bk o:Nat):Y9t (E b).toEnv .neq 227 (.pointer (some ⟨bk,o,none⟩)) (.pointer none)=some (.bool true):=by kernel_rfl
end Go.Proofs.YtgeeklmjfbiieaaDoor
end
noncomputable section
namespace Go.Proofs.YtgeeklmjfbiieaaDoor
open Go Go.Ab
set_option maxRecDepth 100000
theorem Y2e(b:Nat)(B o:Nat)(h:Heap):Qcd (E b).toEnv 23 (.pointer (some ⟨B,o,none⟩)) none none none h=some (.slice (some ⟨B,o,none⟩) 32 32,h):=by kernel_rfl
theorem Y98(b:Nat)(B o:Nat)(h:Heap):Qcd (E b).toEnv 90 (.pointer (some ⟨B,o,none⟩)) none none none h=some (.slice (some ⟨B,o,none⟩) 16 16,h):=by kernel_rfl
theorem Znc(b:Nat){h:Heap}{B:Nat}{D:Nat}(hD:0 < D){ds:List Value}{v:Value}{l:List Nat}(hg:h.get B=some (.cells true 1 ds))(hd:ds.length=D)(s:SN h v l) :
  ∃ h',Xr5 (E b).toEnv 47 (.slice (some ⟨B,0,none⟩) D D) v h=some (.int .i64 ((min l.length D:Nat):Int),h')∧h'.get B=some (.cells true 1 ((l.take D).map u8v++ds.drop (min l.length D)))∧h'.next=h.next∧∀ c,c≠B→h'.get c=h.get c:=by
 have hmin:Nat.min l.length D=min l.length D:=rfl
 have hlen:Xox v=some l.length:=by rcases s with⟨c,rfl,_,e,_⟩ | ⟨bk,o,c,ow,z',pre,post,rfl,_⟩ <;> simp_all [Xox]
 have hsrc:Yzj 1 (Nat.min l.length D) v h=some ((l.take D).map u8v):=by
  rcases s with⟨c,rfl,_,e,e2⟩ | ⟨bk,o,c,ow,z',pre,post,rfl,h1,h2,h3, -⟩
  ·have : l=[]:=List.eq_nil_of_length_eq_zero e
   subst this
   simp[Yzj]
  ·have h4:Qx5 (Nat.min l.length D*1) ((pre++l.map u8v++post).drop o)=some ((l.take D).map u8v):=by
    rw[hmin,← h2,List.append_assoc,List.drop_left,Q0t (by simp;omega),List.take_append_of_le_length (by simp;omega),← List.map_take,Nat.mul_one]
    congr 2
    rcases Nat.le_total l.length D with q | q
    ·rw[Nat.min_eq_left q,List.take_of_length_le (Nat.le_refl _),List.take_of_length_le q]
    ·rw[Nat.min_eq_right q]
   simp only[Yzj,Ab.cellsAt,h1,h4]
 have hr:R47.desc=.slice 5:=(T47 b).d
 cases hc:(l.take D).map u8v with
 | nil =>
  have : l=[]:=by
   cases l with
   | nil=>rfl
   | cons x l=>cases D with
    | zero=>omega
    | succ D=>simp at hc
  subst this
  refine⟨h,?_,by simpa using hg,rfl,fun _ _=>rfl⟩
  rw[hc]at hsrc
  simp only[Xr5,Xqz,hr,hlen,Y5r,Qbg,hsrc]
 | cons x xs =>
  have hle:(x::xs).length≤ds.length:=by rw[← hc,hd];simp;omega
  have hst:storeAt h ⟨B,0,none⟩ (x::xs)=some (h.set B (some (.cells true 1 ((x::xs)++ds.drop (x::xs).length)))):=by
   simp only[storeAt,hg]
   rw[Qm4 (by simpa using hle)]
   simp
  rw[hc]at hsrc
  refine⟨h.set B (some (.cells true 1 ((x::xs)++ds.drop (x::xs).length))),?_,?_,rfl,fun c hc=>by rw[Heap.get_set _ _ _ _ (Heap.get_lt hg),if_neg (Ne.symm hc)]⟩
  ·simp only[Xr5,Xqz,hr,hlen,Y5r,Qbg,hsrc,hst]
   rfl
  ·rw[Heap.get_set _ _ _ _ (Heap.get_lt hg),if_pos rfl]
   congr 4
   rw[← hc,List.length_map,List.length_take,Nat.min_comm]
def Qq7(ks ds:List Nat):List Nat:=(Bl.keyed1 ks ds).take 16
section
attribute [local simp] Qao Qck Vo Jz Qgf V0 Zt Je Qe5 Qzg Xp Xm Xk Xt Qt X0 Xn X8 Qx Xo Q4 Xf Z4 Yt aop Qg nth Ab.g0 gv gs Q7 Qd aev evs evO Qi Tr.get_put St.put Tm.put flat flatA Yu Qp Qo Qm Qq Ql Qn Qk X3 Qj Q5 Q6 Qu Xj Xa Qz Qh X9 Qy Qr Yh Zb Yg Xv Xs.putAll X7 Qc Q2 Q1 Qa Qb Q9 Q0 Q3 Q8
theorem Zaq(b:Nat){h:Heap}(laid:Ab.LaidIn h Qge){ν z:Nat}{ow:Bool}{pre post:List Value}{ks ds:List Nat}{o:Int}(h1:1≤o)(h2:o≤32)(hg:h.get ν=some (.cells ow z (pre++ks.map u8v++post)))(hp:pre.length=(o-1).toNat*32)(hks:ks.length=32)(hds:ds.length=32)
  (K:AEnd→Heap→Prop) (hk:∀ h',Old h h'→K (.ret (.agg ⟨(Qq7 ks ds).map u8v⟩)) h'):FnK Tryd.prog (E b).G 115 [.pointer (some ⟨ν,0,none⟩),.int .i64 o,.agg ⟨ds.map u8v⟩] h K:=by
 refine Ur (E b) (Qa1 b) (Vj b) Wf (Qa5 b) (Us b) (Vo b) Xk9 Xvk Xrf rfl ?_
 obtain⟨hA,eA⟩:∃ hA,hA=h.push (.cells true 1 (ds.map u8v)):=⟨_,rfl⟩
 obtain⟨hB,eB⟩:∃ hB,hB=hA.push (.cells true 1 z16):=⟨_,rfl⟩
 have aA:Old h hA:=by rw[eA];exact Old.push _ _
 have aB:Old hA hB:=by rw[eB];exact Old.push _ _
 have nA:hA.next=h.next+1:=by rw[eA];rfl
 have gA:hA.get h.next=some (.cells true 1 (ds.map u8v)):=by rw[eA,Heap.get_push,if_pos rfl]
 have gB:hB.get hA.next=some (.cells true 1 z16):=by rw[eB,Heap.get_push,if_pos rfl]
 have bx:X7w (.agg ⟨ds.map u8v⟩) h=some (.pointer (some ⟨h.next,0,none⟩),hA):=by rw[eA];rfl
 have alB:Qe4 (E b).toEnv 90 hA=some (.pointer (some ⟨hA.next,0,none⟩),hB):=by rw[eB];exact Qhy b hA
 have ld:(ds.map u8v).length=32:=by simpa using hds
 have sk:SN hB (.slice (some ⟨ν,(o-1).toNat*32,none⟩) 32 32) ks:=.inr ⟨ν,(o-1).toNat*32,32,ow,z,pre,post,by rw[hks],(aA.trans aB).get hg,hp,by simp,by omega,by unfold Qfv;omega,fun q=>by unfold Qfv at q;omega⟩
 have sd:SN hB (.slice (some ⟨h.next,0,none⟩) 32 32) ds:=.inr ⟨h.next,0,32,true,1,[],[],by rw[hds],by simpa using aB.get gA,rfl,by simp,by omega,by unfold Qfv;omega,fun q=>by unfold Qfv at q;omega⟩
 obtain⟨_,hC,c1,n1,rfl,aC⟩:=Yp8 b (LaidIn.old laid (aA.trans aB)) sk sd (by omega) (by omega) (fun r h'=>r=.ret (.agg ⟨(Bl.keyed1 ks ds).map u8v⟩)∧Old hB h') (fun h' q=>⟨rfl,q⟩)
 simp[Qhy,hds,bx,-Qhy,alB]
 refine Y3r b hB ν h1 h2 _ ?_
 simp[Qhy,Y57]
 have kl:(Bl.keyed1 ks ds).length=32:=Qj0 _
 obtain⟨hZ,eZ⟩:∃ hZ,hZ=hC.push (.cells true 1 z32):=⟨_,rfl⟩
 have alZ:Qe4 (E b).toEnv 23 hC=some (.pointer (some ⟨hC.next,0,none⟩),hZ):=by rw[eZ];exact Zt b hC
 have gZ:hZ.get hC.next=some (.cells true 1 z32):=by rw[eZ,Heap.get_push,if_pos rfl]
 have aZ:Old hC hZ:=by rw[eZ];exact Old.push _ _
 have lZ:=Heap.get_lt gZ
 obtain⟨hW,eW⟩:∃ hW,hW=hZ.set hC.next (some (.cells true 1 ((Bl.keyed1 ks ds).map u8v))):=⟨_,rfl⟩
 have stW:Wg hZ hC.next 0 ((Bl.keyed1 ks ds).map u8v)=some hW:=by
  rw[Qd2 gZ (by simp[z32,kl]),eW]
  congr 4
 have gW:hW.get hC.next=some (.cells true 1 ((Bl.keyed1 ks ds).map u8v)):=by rw[eW,Heap.get_set _ _ _ _ lZ,if_pos rfl]
 have aW:Old hC hW:=by rw[eW];exact aZ.set _ (Nat.le_refl _) lZ
 refine Qeo [⟨54,[.slice (some ⟨ν,(o-1).toNat*32,none⟩) 32 32,.slice (some ⟨h.next,0,none⟩) 32 32],hB,.agg ⟨(Bl.keyed1 ks ds).map u8v⟩,hC,true⟩] ?_ Q1x Q5i Q1c (by simp[Ab.runT,Z2,Yp,ldv,Nat.testBit,Vu,Zc,Yy,Zf,loadAt,Qa6,J9,Q74,Xen,Qhy,Qax,Y2e,Qfr,-Zt,alZ,kl,stW];exact⟨rfl,rfl⟩) ?_ ?_
 ·simp only[List.mem_cons,List.not_mem_nil,or_false]
  rintro e rfl
  exact⟨c1,n1,fun _ c hc=>aC.2 c hc⟩
 ·simp[Z2,Yp,Qcm,ldv,Ab.runT,Z2,Yp,ldv,Nat.testBit,Vu,Zc,Yy,Zf,loadAt,Qa6,J9,Qhy]
 simp[Qhy]
 have gBW:hW.get hA.next=some (.cells true 1 z16):=aW.get (aC.get gB)
 have skW:SN hW (.slice (some ⟨hC.next,0,none⟩) 32 32) (Bl.keyed1 ks ds):=.inr ⟨hC.next,0,32,true,1,[],[],by rw[kl],by simpa using gW,rfl,by simp,by omega,by unfold Qfv;omega,fun q=>by unfold Qfv at q;omega⟩
 obtain⟨hX,cp,gX,nX,kX⟩:=Znc b (D:=16) (by omega) gBW (by simp[z16]) skW
 have gX':hX.get hA.next=some (.cells true 1 ((Qq7 ks ds).map u8v)):=by
  rw[gX]
  rw[kl]
  simp[z16,Qq7]
 have lt16:(Qq7 ks ds).length=16:=by simp[Qq7,kl]
 refine Qeo [] (by simp) Q1d Q2x Q24 (by simp[Ab.runT,Z2,Yp,ldv,Nat.testBit,Vu,Zc,Yy,Zf,loadAt,Qa6,J9,Q6s,Xdn,Qhy,Qax,Y2e,Y98,cp];exact⟨rfl,rfl⟩) ?_ ?_
 ·simp[Z2,Yp,Qcl,ldv,Ab.runT,Z2,Yp,ldv,Nat.testBit,Vu,Zc,Yy,Zf,loadAt,Qa6,J9,Qhy]
 have lX:=Heap.get_lt gX'
 have tk:((Qq7 ks ds).map u8v).take 16=(Qq7 ks ds).map u8v:=List.take_of_length_le (by simp[lt16])
 have tk':((Qq7 ks ds).map u8v).drop 16=[]:=List.drop_of_length_le (by simp[lt16])
 have ldX:Qgi hX hA.next 0 16=some (.agg ⟨(Qq7 ks ds).map u8v⟩):=by
  rw[Qan gX' (by simp[lt16])]
  simp[tk]
 have stX:Wg hX hA.next 0 ((Qq7 ks ds).map u8v)=some (hX.set hA.next (some (.cells true 1 ((Qq7 ks ds).map u8v)))):=by
  rw[Qd2 gX' (by simp[lt16])]
  simp[lt16,tk']
 have ldX2:Qgi (hX.set hA.next (some (.cells true 1 ((Qq7 ks ds).map u8v)))) hA.next 0 16=some (.agg ⟨(Qq7 ks ds).map u8v⟩):=by
  rw[Qan (by rw[Heap.get_set _ _ _ _ lX,if_pos rfl]) (by simp[lt16])]
  simp[tk]
 simp[Qhy,ldX,stX,lt16,ldX2]
 have aX:Old h hX:=⟨by rw[nX];exact Nat.le_trans (aA.trans aB).1 (aC.trans aW).1,fun c hc=>by
  rw[kX c (by omega),(aC.trans aW).2 c (Nat.lt_of_lt_of_le hc (aA.trans aB).1),(aA.trans aB).2 c hc]⟩
 exact hk _ (aX.set _ (by omega) lX)
end
end Go.Proofs.YtgeeklmjfbiieaaDoor
end
noncomputable section
namespace Go.Proofs.YtgeeklmjfbiieaaDoor
open Go Go.Ab
set_option maxRecDepth 100000
def Q9m(ks:List Nat)(o:Int):List Nat:=(ks.drop ((o-1).toNat*32)).take 32
theorem Yn1:∀ (xs ys:List Nat),xs.length=ys.length→Qbf (List.replicate xs.length 1) (xs.map u8v) (ys.map u8v)=some (decide (xs=ys))
 | [],[],_=>rfl
 | x::xs,y::ys,h=>by
  have ih:=Yn1 xs ys (by simpa using h)
  simp only[List.length_cons,List.replicate_succ,List.map_cons,Qbf,ih]
  have : Yda 1 (u8v x) (u8v y)=some (decide (x=y)):=by
   show(if IntKind.u8=IntKind.u8 then some ((x:Int) == (y:Int))else none)=_
   simp only[if_true]
   congr 1
   by_cases e:x=y
   ·subst e;simp
   ·simp[e];omega
  rw[this]
  simp only[List.cons.injEq,Bool.decide_and]
theorem Zq8{x y:List Nat}(hx:x.length=16)(hy:y.length=16):Qbf L90 (x.map u8v) (y.map u8v)=some (decide (x=y)):=by
 have:=Yn1 x y (by omega)
 rw[hx]at this
 rw[← this]
 congr 1
theorem teq(b:Nat){x y:List Nat}(hx:x.length=16)(hy:y.length=16):Y9t (E b).toEnv .eql 90 (.agg ⟨x.map u8v⟩) (.agg ⟨y.map u8v⟩)=some (.bool (decide (x=y))):=by
 have e:Y9t (E b).toEnv .eql 90 (.agg ⟨x.map u8v⟩) (.agg ⟨y.map u8v⟩)=(Qbf L90 (x.map u8v) (y.map u8v)).map .bool:=by kernel_rfl
 rw[e,Zq8 hx hy]
 rfl
theorem Zb7{ks:List Nat}(hks:ks.length=1024){o:Int}(h1:1≤o)(h2:o≤32):(Q9m ks o).length=32:=by
 simp[Q9m];omega
theorem Zau{ks:List Nat}(o:Int):ks.map u8v=(ks.take ((o-1).toNat*32)).map u8v++(Q9m ks o).map u8v++((ks.drop ((o-1).toNat*32)).drop 32).map u8v:=by
 rw[← List.map_append,← List.map_append,Q9m,List.append_assoc,List.take_append_drop,List.take_append_drop]
theorem Ypc{k d:List Nat}:(Qq7 k d).length=16:=by
 have kl:(Bl.keyed1 k d).length=32:=Qj0 _
 simp[Qq7,kl]
theorem Zj6(b:Nat){h:Heap}(laid:Ab.LaidIn h Qge){ν z:Nat}{ow:Bool}{ks ds:List Nat}{o:Int}(h1:1≤o)(h2:o≤32)(hg:h.get ν=some (.cells ow z (ks.map u8v)))(hks:ks.length=1024)(hds:ds.length=32)
  (K:AEnd→Heap→Prop) (hk:∀ h',Old h h'→K (.ret (.agg ⟨(Qq7 (Q9m ks o) ds).map u8v⟩)) h'):FnK Tryd.prog (E b).G 115 [.pointer (some ⟨ν,0,none⟩),.int .i64 o,.agg ⟨ds.map u8v⟩] h K :=
 Zaq b laid h1 h2 (by rw[hg,Zau o]) (by simp;omega) (Zb7 hks h1 h2) hds K hk
section
attribute [local simp] Wx Qbi Zh Jz Qgf Ui Vo Qe5 Qom Xp Xm Xk Xt Qt X0 Xn X8 Qx Xo Q4 Xf Z4 Yt aop Qg nth Ab.g0 gv gs Q7 Qd aev evs evO Qi Tr.get_put St.put Tm.put flat flatA Yu Qp Qo Qm Qq Ql Qn Qk X3 Qj Q5 Q6 Qu Xj Xa Qz Qh X9 Qy Qr Yh Zb Yg Xv Xs.putAll X7 Qc Q2 Q1 Qa Qb Q9 Q0 Q3 Q8
set_option maxHeartbeats 2000000 in
theorem Y1n(b:Nat){h:Heap}(laid:Ab.LaidIn h Qge){ν z:Nat}{ow:Bool}{ks ds tg:List Nat}{o:Int}(hg:h.get ν=some (.cells ow z (ks.map u8v)))(hks:ks.length=1024)(hds:ds.length=32)(htg:tg.length=16)
  (h1:1≤o) (h2:o≤32) (K:AEnd→Heap→Prop) (hk:∀ h',Old h h'→K (.ret (.bool (decide (Qq7 (Q9m ks o) ds=tg)))) h'):FnK Tryd.prog (E b).G 123 [.pointer (some ⟨ν,0,none⟩),.int .i64 o,.agg ⟨ds.map u8v⟩,.agg ⟨tg.map u8v⟩] h K:=by
 refine Ur (E b) (Qa1 b) (Vj b) Wf (Qa5 b) (Us b) (Zh b) Qpa Quk Qsi rfl ?_
 obtain⟨hA,eA⟩:∃ hA,hA=h.push (.cells true 1 (ds.map u8v)):=⟨_,rfl⟩
 obtain⟨hB,eB⟩:∃ hB,hB=hA.push (.cells true 1 (tg.map u8v)):=⟨_,rfl⟩
 have aA:Old h hA:=by rw[eA];exact Old.push _ _
 have aB:Old hA hB:=by rw[eB];exact Old.push _ _
 have gA:hA.get h.next=some (.cells true 1 (ds.map u8v)):=by rw[eA,Heap.get_push,if_pos rfl]
 have gB:hB.get hA.next=some (.cells true 1 (tg.map u8v)):=by rw[eB,Heap.get_push,if_pos rfl]
 have bxA:X7w (.agg ⟨ds.map u8v⟩) h=some (.pointer (some ⟨h.next,0,none⟩),hA):=by rw[eA];rfl
 have bxB:X7w (.agg ⟨tg.map u8v⟩) hA=some (.pointer (some ⟨hA.next,0,none⟩),hB):=by rw[eB];rfl
 simp[bxA,bxB]
 skip
 obtain⟨_,_,c1,n1,rfl,rfl⟩:=Y3r b hB ν h1 h2 (fun r h'=>r=.ret (.pointer (some ⟨ν,(o-1).toNat*32,none⟩))∧hB=h') ⟨rfl,rfl⟩
 obtain⟨_,hC,c2,n2,rfl,aC⟩:=Zj6 b (LaidIn.old laid (aA.trans aB)) h1 h2 ((aA.trans aB).get hg) hks hds (fun r h'=>r=.ret (.agg ⟨(Qq7 (Q9m ks o) ds).map u8v⟩)∧Old hB h') (fun h' q=>⟨rfl,q⟩)
 have ldA:Qgi hB h.next 0 32=some (.agg ⟨ds.map u8v⟩):=by
  rw[Qan (aB.get gA) (by simp[hds]),List.drop_zero,List.take_of_length_le (by simp[hds])]
 have ldB:Qgi hC hA.next 0 16=some (.agg ⟨tg.map u8v⟩):=by
  rw[Qan (aC.get gB) (by simp[htg]),List.drop_zero,List.take_of_length_le (by simp[htg])]
 refine Qeo [⟨144,[.pointer (some ⟨ν,0,none⟩),.int .i64 o],hB,.pointer (some ⟨ν,(o-1).toNat*32,none⟩),hB,true⟩,⟨115,[.pointer (some ⟨ν,0,none⟩),.int .i64 o,.agg ⟨ds.map u8v⟩],hB,.agg ⟨(Qq7 (Q9m ks o) ds).map u8v⟩,hC,true⟩] ?_ Qm8 Qn7 Qme (by simp[Ab.runT,Z2,Yp,ldv,Nat.testBit,Vu,Zc,Yy,Zf,loadAt,Qa6,J9,Qnl,Qnn,Qow,Qor,ldA,ldB,teq b Ypc htg,Qlu,Y57];exact⟨rfl,rfl⟩) ?_ ?_
 ·simp only[List.mem_cons,List.not_mem_nil,or_false]
  rintro e (rfl | rfl)
  ·exact⟨c1,n1,fun _ _ _=>rfl⟩
  ·exact⟨c2,n2,fun _ c hc=>aC.2 c hc⟩
 ·simp[Z2,Yp,W6,ldv,Ab.runT,Z2,Yp,ldv,Nat.testBit,Vu,Zc,Yy,Zf,loadAt,Qa6,J9,ldA,ldB]
 simp
 exact hk hC ((aA.trans aB).trans aC)
theorem Y2y(b:Nat){h:Heap}(laid:Ab.LaidIn h Qge){ν z:Nat}{ow:Bool}{ks ds tg:List Nat}{o:Int}(hg:h.get ν=some (.cells ow z (ks.map u8v)))(hks:ks.length=1024)(hds:ds.length=32)(htg:tg.length=16)
  (ho:¬ (1≤o∧o≤32)) (K:AEnd→Heap→Prop) (hk:∀ h',Old h h'→K (.ret (.bool (false))) h'):FnK Tryd.prog (E b).G 123 [.pointer (some ⟨ν,0,none⟩),.int .i64 o,.agg ⟨ds.map u8v⟩,.agg ⟨tg.map u8v⟩] h K:=by
 refine Ur (E b) (Qa1 b) (Vj b) Wf (Qa5 b) (Us b) (Zh b) Qpa Quk Qsi rfl ?_
 obtain⟨hA,eA⟩:∃ hA,hA=h.push (.cells true 1 (ds.map u8v)):=⟨_,rfl⟩
 obtain⟨hB,eB⟩:∃ hB,hB=hA.push (.cells true 1 (tg.map u8v)):=⟨_,rfl⟩
 have aA:Old h hA:=by rw[eA];exact Old.push _ _
 have aB:Old hA hB:=by rw[eB];exact Old.push _ _
 have gA:hA.get h.next=some (.cells true 1 (ds.map u8v)):=by rw[eA,Heap.get_push,if_pos rfl]
 have gB:hB.get hA.next=some (.cells true 1 (tg.map u8v)):=by rw[eB,Heap.get_push,if_pos rfl]
 have bxA:X7w (.agg ⟨ds.map u8v⟩) h=some (.pointer (some ⟨h.next,0,none⟩),hA):=by rw[eA];rfl
 have bxB:X7w (.agg ⟨tg.map u8v⟩) hA=some (.pointer (some ⟨hA.next,0,none⟩),hB):=by rw[eB];rfl
 simp[bxA,bxB]
 obtain⟨_,_,c1,n1,rfl,rfl⟩:=Zd6 b hB ν (o:=o) (by omega) (fun r h'=>r=.ret (.pointer none)∧hB=h') ⟨rfl,rfl⟩
 refine Qeo [⟨144,[.pointer (some ⟨ν,0,none⟩),.int .i64 o],hB,.pointer none,hB,true⟩] ?_ Qm8 Qn7 Qme (by simp[Ab.runT,Z2,Yp,ldv,Nat.testBit,Vu,Zc,Yy,Zf,loadAt,Qa6,J9,Qnl,Qnn,Qow,Qor,Qfr,Zfi];exact⟨rfl,rfl⟩) ?_ ?_
 ·simp only[List.mem_cons,List.not_mem_nil,or_false]
  rintro e rfl
  exact⟨c1,n1,fun _ _ _=>rfl⟩
 ·simp[Z2,Yp,W6,ldv,Ab.runT,Z2,Yp,ldv,Nat.testBit,Vu,Zc,Yy,Zf,loadAt,Qa6,J9]
 simp
 exact hk hB (aA.trans aB)
end
theorem Y9h(b:Nat){h:Heap}(laid:Ab.LaidIn h Qge){ν z:Nat}{ow:Bool}{ks ds tg:List Nat}{o:Int}(hg:h.get ν=some (.cells ow z (ks.map u8v)))(hks:ks.length=1024)(hds:ds.length=32)(htg:tg.length=16)
  (K:AEnd→Heap→Prop) (hk:∀ h',Old h h'→K (.ret (.bool (decide (1≤o∧o≤32) && decide (Qq7 (Q9m ks o) ds=tg)))) h'):FnK Tryd.prog (E b).G 123 [.pointer (some ⟨ν,0,none⟩),.int .i64 o,.agg ⟨ds.map u8v⟩,.agg ⟨tg.map u8v⟩] h K:=by
 by_cases ho:1≤o∧o≤32
 ·exact Y1n b laid hg hks hds htg ho.1 ho.2 K fun h' a=>by
   have:=hk h' a
   rwa [decide_eq_true ho,Bool.true_and]at this
 ·exact Y2y b laid hg hks hds htg ho K fun h' a=>by
   have:=hk h' a
   rwa [decide_eq_false ho,Bool.false_and]at this
end Go.Proofs.YtgeeklmjfbiieaaDoor
end
noncomputable section
namespace Go.Proofs.YtgeeklmjfbiieaaDoor
open Go Go.Ab
set_option maxRecDepth 100000
structure Asks where
 ks:List Nat
 dg:List Nat
 lk:Int
 hks:ks.length=1024
 hdg:dg.length=32
def Xsn(l:List Nat):List Int:=l.map Int.ofNat
def Xm5(l:List Int):List Nat:=l.map Int.toNat
def Y2t(a:Asks)(o:Int)(t:List Int):Bool:=decide (1≤o∧o≤32) && decide (Qq7 (Q9m a.ks o) a.dg=Xm5 t)
def Yps(x:List Int):List Int:=Xsn (Bl.keyed1 [] (Xm5 x))
def Qjj(x:List Int)(st:List (List Int)):Except Int (List (List Int)):=if st.length < 16 then .ok (x::st)else .error 16
def doF(a:Asks)(code:Int)(data:List Int)(st:List (List Int)):Except Int (List (List Int)) :=
 if code=129 then(match st with | x::r=>(Qjj x r).bind (Qjj x) | [] => .error 16)
 else if code=130 then(match st with | _::r => .ok r | [] => .error 16)
 else if code=131 then(match st with | x::r=>Qjj (Yps x) r | [] => .error 16)
 else if code=132 then(match st with | x::y::r=>Qjj (Y6f (decide (x=y))) r | _ => .error 16)
 else if code=133 then(match st with | x::r=>if isT x then .ok r else .error 16 | [] => .error 16)
 else if code=134 then(match st with | x::y::r=>if x.length=1∧y.length=16 then Qjj (Y6f (Y2t a (x.getD 0 0) y)) r else .error 16 | _ => .error 16)
 else if code=135 then(match st with | x::r=>if x.length=4 then(if Xc8 x 4≤a.lk then .ok r else .error 18)else .error 16 | [] => .error 16)
 else if code=139 then(match st with | x::r=>(Qjj x r).bind (Qjj [(x.length:Int)]) | [] => .error 16)
 else Qjj data st
def Qmp(a:Asks)(code:Int)(data:List Int)(st:List (List Int))(op:List Br):Except Int (List (List Int) × List Br) :=
 match brF code st op with
 | some none => .error 16
 | some (some p) => .ok p
 | none=>if Y72 op then .ok (st,op)else(doF a code data st).map fun st'=>(st',op)
def Qp4(a:Asks):List (Int × List Int)→List (List Int)→List Br→Except Int (List (List Int) × List Br)
 | [],st,op => .ok (st,op)
 | (c,d)::l,st,op=>(Qmp a c d st op).bind fun p=>Qp4 a l p.1 p.2
def Xei:List (List Int)→List (List Int)→Except Int (List (List Int))
 | [],st => .ok st
 | x::l,st=>if x.length≤64 then(Qjj x st).bind (Xei l)else .error 16
def Yop:Except Int (List (List Int) × List Br)→Int
 | .error z=>z
 | .ok (st,op)=>if op.length=0∧st.length=1∧isT (st.getD 0 [])=true then 0 else 16
def Zgw(a:Asks)(l:List (Int × List Int))(stk:List (List Int)):Int:=match Xei stk []with
 | .error z=>z
 | .ok st=>Yop (Qp4 a l st [])
def Xso(a:Asks)(xs:List Int)(stk:List (List Int)):Int :=
 if xs.length > 256 then 16 else match pz xs.length xs with
 | none=>16
 | some l=>if l.length > 64 then 16 else Zgw a l stk
structure Wd (h:Heap) (MB:Nat→Prop) (e:Menv) (a:Asks):Prop where
 laid:Ab.LaidIn h Qge
 low:∀ c,MB c→3≤c
 next:3≤h.next
 nota:∃ ν z ow,e.nk=.pointer (some ⟨ν,0,none⟩)∧h.get ν=some (.cells ow z (a.ks.map u8v))∧¬ MB ν
 dg:e.dig=a.dg.map u8v
 lk:e.lk=a.lk
theorem Ziv{x:Nat × List Value}(hx:x ∈ Qge):x.1 < 3:=by
 simp only[Qge,List.mem_cons,List.not_mem_nil,or_false]at hx
 rcases hx with rfl | rfl
 ·exact of_decide_eq_true (by kernel_rfl)
 ·exact of_decide_eq_true (by kernel_rfl)
theorem Wd.mv{h h':Heap}{MB MB':Nat→Prop}{e:Menv}{a:Asks}(w:Wd h MB e a)(m:Mv MB MB' h h'):Wd h' MB' e a:=by
 obtain⟨laid,low,nx,⟨ν,z,ow,q1,q2,q3⟩,dg,lk⟩:=w
 refine⟨fun x hx => ?_,fun c hc => ?_,Nat.le_trans nx m.next,⟨ν,z,ow,q1,?_,fun hc => ?_⟩,dg,lk⟩
 ·have g:=laid x hx
  rw[m.same x.1 (Heap.get_lt g) (fun hb=>by have:=low _ hb;have:=Ziv hx;omega)]
  exact g
 ·rcases m.sub c hc with h | h
  ·exact low c h
  ·omega
 ·rw[m.same ν (Heap.get_lt q2) q3];exact q2
 ·rcases m.sub ν hc with h | h
  ·exact q3 h
  ·have:=Heap.get_lt q2;omega
theorem MOk.wd{h h':Heap}{MB:Nat→Prop}{μ:Nat}{e:Menv}{a:Asks}{st:List (List Int)}{op:List Br}(w:Wd h MB e a)(m:MOk MB h μ e st op h'):∃ ps MB',ps.map (·.2)=st∧Mach h' MB' μ e ps op∧Mv MB MB' h h'∧Wd h' MB' e a:=by
 obtain⟨ps,MB',q1,q2,q3⟩:=m
 exact⟨ps,MB',q1,q2,q3,w.mv q3⟩
end Go.Proofs.YtgeeklmjfbiieaaDoor
end
noncomputable section
namespace Go.Proofs.YtgeeklmjfbiieaaDoor
open Go Go.Ab
set_option maxRecDepth 100000
theorem Yxu{y:List Int}(hy:Bytes y):y.map i8=(Xm5 y).map u8v:=by
 rw[Xm5,List.map_map]
 apply List.map_congr_left
 intro z hz
 have:=hy z hz
 show Value.int .u8 z=.int .u8 ((z.toNat:Nat):Int)
 rw[Int.toNat_of_nonneg this.1]
theorem Zni(b:Nat){h:Heap}{v:Value}{y:List Int}(s:SB h v y)(hy:y.length=16):∃ bk o,Xxu (E b).toEnv 90 v=some (.pointer (some ⟨bk,o,none⟩))∧Qgi h bk o 16=some (.agg ⟨y.map i8⟩):=by
 rcases s with⟨c,_,_,e,_⟩ | ⟨bk,o,c,ow,z',pre,post,rfl,g1,g2,g3,g4,_⟩
 ·omega
 ·refine⟨bk,o,?_,?_⟩
  ·have hd:R90.desc=.array 16 5:=by kernel_rfl
   simp only[Xxu,Zdl,hd,hy]
   rfl
  ·rw[Qan g1 (by simp;omega),List.append_assoc,← g2,List.drop_left,List.take_append_of_le_length (by simp;omega),List.take_of_length_le (by simp;omega)]
theorem Wd.old{h h':Heap}{MB:Nat→Prop}{e:Menv}{a:Asks}(w:Wd h MB e a)(o:Old h h'):Wd h' MB e a:=w.mv (Mv.old o)
theorem Mach.env{h:Heap}{MB:Nat→Prop}{μ:Nat}{e:Menv}{ps:List (Value × List Int)}{op:List Br}(M:Mach h MB μ e ps op):V2 h μ 0=some e.nk∧Qgi h μ 1 32=some (.agg ⟨e.dig⟩):=by
 obtain⟨⟨sv,ov,z,r⟩,_,_⟩:=M
 refine⟨?_,?_⟩
 ·rw[Up r.at'];rfl
 ·rw[Qan r.at' (by simp[e.len])]
  congr 3
  show((e.dig ++ [Value.int .i64 e.lk]) ++ [sv,ov]).take 32=_
  rw[List.append_assoc,List.take_append_of_le_length (by rw[e.hd];exact Nat.le_refl _),List.take_of_length_le (by rw[e.hd];exact Nat.le_refl _)]
section
attribute [local simp] Jq Vb X6 Jy Qe Yj Y4 X2 Jx Jr Qcz Qoi Xse Uh Qd8 W9 Wb Qof Ui Qe5 Zh Xp Xm Xk Xt Qt X0 Xn X8 Qx Xo Q4 Xf Z4 Yt aop Qg nth Ab.g0 gv gs Q7 Qd aev evs evO Qi Tr.get_put St.put Tm.put flat flatA Yu Qp Qo Qm Qq Ql Qn Qk X3 Qj Q5 Q6 Qu Xj Xa Qz Qh X9 Qy Qr Yh Zb Yg Xv Xs.putAll X7 Qc Q2 Q1 Qa Qb Q9 Q0 Q3 Q8
set_option maxHeartbeats 1000000 in
theorem Zfk(b:Nat){h:Heap}{MB:Nat→Prop}{μ:Nat}{e:Menv}{a:Asks}{v w:Value}{x y:List Int}{ps:List (Value × List Int)}{op:List Br}(M:Mach h MB μ e ((v,x)::(w,y)::ps) op)(wd:Wd h MB e a)(hl:ps.length < 900)(K:AEnd→Heap→Prop)
  (hk:x.length=1→y.length=16→∀ h',Mach h' MB μ e ps op→Mv MB MB h h'→K (.ret (.bool (Y2t a (x.getD 0 0) y))) h') (hp:¬ (x.length=1∧y.length=16)→∀ h',Mv MB MB h h'→K (.panic (pe 16)) h'):FnK Tryd.prog (E b).G 89 [.pointer (some ⟨μ,0,none⟩)] h K:=by
 refine Ur (E b) (Qa1 b) (Vj b) Wf (Qa5 b) (Us b) (X6 b) Qou Qte Qqo rfl ?_
 simp
 refine Qn2 b M (by simp;omega) _ fun h1 M1 m1 _ i1 _ => ?_
 simp
 refine Qn2 b M1 (by omega) _ fun h2 M2 m2 _ i2 _ => ?_
 have len1:=fun hx=>Qcp (b:=b) (h1:=hx) i1.sb
 have len2:=fun hx=>Qcp (b:=b) (h1:=hx) i2.sb
 have m12:=m1.trans m2
 by_cases hx:x.length=1
 ·rw[hx]at len1
  have len1':∀ hx,Qkb (E b).toEnv 47 v hx=some (.int .i64 1):=len1
  by_cases hy:y.length=16
  ·rw[hy]at len2
   have len2':∀ hx,Qkb (E b).toEnv 47 w hx=some (.int .i64 16):=len2
   simp[len1',len2']
   refine Xam b h2 16 _ ?_
   have wd2:=wd.mv m12
   obtain⟨ν,z,ow,q1,q2,q3⟩:=wd2.nota
   obtain⟨z1,rfl⟩:∃ z1,x=[z1]:=by
    match x,hx with
    | [z1],_=>exact⟨z1,rfl⟩
   have i1':=i1.mv m2
   obtain⟨bk,o,x1,x2,x3⟩:=Xnf (b:=b) i1'.sb (k:=.i64) (i:=0) (z:=z1) rfl
   obtain⟨bt,ot,y1,y2⟩:=Zni b i2.sb hy
   obtain⟨e1,e2⟩:=M2.env
   rw[q1]at e1
   rw[wd2.dg]at e2
   rw[Yxu i2.by8]at y2
   have hz:=i1.by8 z1 (by simp)
   have w1:IntKind.i64.wrap z1=z1:=Ug (by omega) (by omega)
   have htg:(Xm5 y).length=16:=by simp[Xm5,hy]
   obtain⟨_,h3,c1,n1,rfl,a3⟩:=Y9h b wd2.laid (o:=z1) q2 a.hks a.hdg htg (fun r h'=>r=.ret (.bool (Y2t a z1 y))∧Old h2 h') (fun h' q=>⟨rfl,q⟩)
   simp only[i8]at x3
   simp at x2
   simp
   refine Qeo [⟨123,[.pointer (some ⟨ν,0,none⟩),.int .i64 z1,.agg ⟨a.dg.map u8v⟩,.agg ⟨(Xm5 y).map u8v⟩],h2,.bool (Y2t a z1 y),h3,true⟩] ?_ Qv2 Qz1 Quy (by simp[Ab.runT,Z2,Yp,ldv,Nat.testBit,Vu,Zc,Yy,Zf,loadAt,Qa6,J9,Qzm,Qzq,Qax,e1,e2,x2,x3,y1,y2,w1,Qfr];exact⟨rfl,rfl⟩) ?_ ?_
   ·simp only[List.mem_cons,List.not_mem_nil,or_false]
    rintro e rfl
    exact⟨c1,n1,fun _ c hc=>a3.2 c hc⟩
   ·simp[Z2,Yp,Qb2,ldv,Ab.runT,Z2,Yp,ldv,Nat.testBit,Vu,Zc,Yy,Zf,loadAt,Qa6,J9]
   simp
   exact hk rfl hy h3 (M2.old a3) (m12.trans (Mv.old a3))
  ·have hy':¬ (y.length:Int)=16:=by omega
   simp[len1',len2,hy']
   refine Q15 b h2 16 _ ?_
   simp
   exact hp (fun q=>hy q.2) h2 m12
 ·have hx':¬ (x.length:Int)=1:=by omega
  simp[len1,hx']
  refine Q15 b h2 16 _ ?_
  simp
  exact hp (fun q=>hx q.1) h2 m12
theorem Yo6(b:Nat){h:Heap}{MB:Nat→Prop}{μ:Nat}{e:Menv}{ps:List (Value × List Int)}{op:List Br}(M:Mach h MB μ e ps op)(hl:ps.length < 2)(K:AEnd→Heap→Prop)
  (hp:∀ h',Mv MB MB h h'→K (.panic (pe 16)) h'):FnK Tryd.prog (E b).G 89 [.pointer (some ⟨μ,0,none⟩)] h K:=by
 refine Ur (E b) (Qa1 b) (Vj b) Wf (Qa5 b) (Us b) (X6 b) Qou Qte Qqo rfl ?_
 simp
 match ps,hl with
 | [],_ =>
  refine Qx7 b M _ ?_
  simp
  exact hp h (Mv.refl _ _)
 | [p],_ =>
  obtain⟨v,x⟩:=p
  refine Qn2 b M (by simp) _ fun h1 M1 m1 _ i1 _ => ?_
  simp
  refine Qx7 b M1 _ ?_
  simp
  exact hp h1 m1
end
end Go.Proofs.YtgeeklmjfbiieaaDoor
end
noncomputable section
namespace Go.Proofs.YtgeeklmjfbiieaaDoor
open Go Go.Ab
set_option maxRecDepth 100000
theorem Zlt(h:Nat):∀ n ∈ Bl.by4 h,n < 256:=by
 intro n hn
 simp only[Bl.by4,List.mem_cons,List.not_mem_nil,or_false]at hn
 rcases hn with rfl | rfl | rfl | rfl <;> exact Nat.mod_lt _ (by decide)
theorem Yuo(p:Bl.P8):∀ n ∈ Bl.out p,n < 256:=by
 obtain⟨h0,h1,h2,h3,h4,h5,h6,h7⟩:=p
 intro n hn
 simp only[Bl.out,List.mem_append]at hn
 rcases hn with((((((hn | hn) | hn) | hn) | hn) | hn) | hn) | hn <;> exact Zlt _ n hn
theorem Xm0{l:List Nat}(h:∀ n ∈ l,n < 256):Bytes (Xsn l):=by
 intro z hz
 obtain⟨n,hn,rfl⟩:=List.mem_map.1 hz
 have:=h n hn
 show(0:Int)≤(n:Int)∧(n:Int) < 256
 omega
theorem Ymr(l:List Nat):l.map u8v=(Xsn l).map i8:=by
 rw[Xsn,List.map_map]
 rfl
theorem Ytc(x:List Int):(Yps x).length=32:=by
 have : (Bl.keyed1 [] (Xm5 x)).length=32:=Qj0 _
 simp[Yps,Xsn,this]
theorem Y5n(x:List Int):Bytes (Yps x):=Xm0 (Yuo _)
theorem Itm.at{h:Heap}{MB:Nat→Prop}{B z:Nat}{ow:Bool}{xs:List Int}(hg:h.get B=some (.cells ow z (xs.map i8)))(hb:Bytes xs)(hl:xs.length < 1000000)(hm:¬ MB B):Itm h MB (.slice (some ⟨B,0,none⟩) xs.length xs.length) xs :=
 ⟨.inr ⟨B,0,xs.length,ow,z,[],[],rfl,by simpa using hg,rfl,by simp,Nat.le_refl _,by unfold Qfv;omega,fun q=>by unfold Qfv at q;omega⟩,hb,fun c hc=>by cases hc;exact hm⟩
theorem Qrv(b:Nat)(h:Heap)(code:Int)(dv:Value):X7w (.agg ⟨[.int .i64 code,dv]⟩) h=some (.pointer (some ⟨h.next,0,none⟩),h.push (.cells true 1 [.int .i64 code,dv])):=rfl
theorem Qz8(h:Heap)(code:Int)(dv:Value):V2 (h.push (.cells true 1 [.int .i64 code,dv])) h.next 0=some (.int .i64 code):=(Up (z:=1) (ow:=true) (c:=[.int .i64 code,dv]) ((Heap.get_push _ _ _).trans (if_pos rfl))).trans rfl
theorem Zpn(h:Heap)(code:Int)(dv:Value):V2 (h.push (.cells true 1 [.int .i64 code,dv])) h.next 1=some dv:=(Up (z:=1) (ow:=true) (c:=[.int .i64 code,dv]) ((Heap.get_push _ _ _).trans (if_pos rfl))).trans rfl
structure At (h:Heap) (MB:Nat→Prop) (μ:Nat) (e:Menv) (a:Asks) (ps:List (Value × List Int)) (op:List Br) (dv:Value) (data:List Int):Prop where
 m:Mach h MB μ e ps op
 w:Wd h MB e a
 i:Itm h MB dv data
 l1:ps.length≤16
 l2:op.length < 1000
 l3:∀ p ∈ ps,p.2.length≤64
section
variable(b:Nat){h:Heap}{MB:Nat→Prop}{μ:Nat}{e:Menv}{a:Asks}{ps:List (Value × List Int)}{op:List Br}{dv:Value}{data:List Int}(A:At h MB μ e a ps op dv data)
include A
section
attribute [local simp] Xc Xi Qv J2 U9 Qf Qw Xe Xb Y4 Qe X4 Y6 Zt Je Y1 Xg Xd X2 X6 X5 Yj J7 J8 Zm Z8 Xp Xm Xk Xt Qt X0 Xn X8 Qx Xo Q4 Xf Z4 Yt aop Qg nth Ab.g0 gv gs Q7 Qd aev evs evO Qi Tr.get_put St.put Tm.put flat flatA Yu Qp Qo Qm Qq Ql Qn Qk X3 Qj Q5 Q6 Qu Xj Xa Qz Qh X9 Qy Qr Yh Zb Yg Xv Xs.putAll X7 Qc Q2 Q1 Qa Qb Q9 Q0 Q3 Q8
theorem Zer(hoff:Y72 op=true){code:Int}(hc:brF code [] []=none)(K:AEnd→Heap→Prop)(hk:∀ h',MOk MB h μ e (ps.map (·.2)) op h'→K (.ret (.tuple #[])) h'):CallOK Tryd.prog (E b).G 52 [.pointer (some ⟨μ,0,none⟩),.agg ⟨[.int .i64 code,dv]⟩] h K:=by
 refine Qnt (E b) (Qc2 _ _) (Qa1 b) (Vj b) Wf (Qa5 b) (Qv b) Vn Ue U0 rfl ?_
 simp[Qrv b,Qz8]
 refine Q26 b hc _ ?_
 simp
 refine(Xku b (A.m.old (Old.push _ _)) A.l2 _ ?_).ok
 simp[hoff]
 exact hk _ ⟨ps,MB,rfl,A.m.old (Old.push _ _),Mv.old (Old.push _ _)⟩
end
variable(hoff:Y72 op=false)
include hoff
section
attribute [local simp] Xc Xi Qv J2 U9 Qf Qw Xe Xb Y4 Qe X4 Y6 Zt Je Y1 Xg Xd X2 X6 X5 Yj J7 J8 Zm Z8 Xp Xm Xk Xt Qt X0 Xn X8 Qx Xo Q4 Xf Z4 Yt aop Qg nth Ab.g0 gv gs Q7 Qd aev evs evO Qi Tr.get_put St.put Tm.put flat flatA Yu Qp Qo Qm Qq Ql Qn Qk X3 Qj Q5 Q6 Qu Xj Xa Qz Qh X9 Qy Qr Yh Zb Yg Xv Xs.putAll X7 Qc Q2 Q1 Qa Qb Q9 Q0 Q3 Q8
theorem Y9m(K:AEnd→Heap→Prop)(hk:∀ st',doF a 130 data (ps.map (·.2))=.ok st'→∀ h',MOk MB h μ e st' op h'→K (.ret (.tuple #[])) h')(hp:∀ z,doF a 130 data (ps.map (·.2))=.error z→∀ h',Y1b MB h h'→K (.panic (pe z)) h') :
  CallOK Tryd.prog (E b).G 52 [.pointer (some ⟨μ,0,none⟩),.agg ⟨[.int .i64 130,dv]⟩] h K:=by
 have M0:=A.m.old (Old.push h (.cells true 1 [.int .i64 130,dv]))
 have m0:Mv MB MB h (h.push (.cells true 1 [.int .i64 130,dv])):=Mv.old (Old.push _ _)
 refine Qnt (E b) (Qc2 _ _) (Qa1 b) (Vj b) Wf (Qa5 b) (Qv b) Vn Ue U0 rfl ?_
 simp[Qrv b,Qz8]
 refine Q26 b (by simp[brF]) _ ?_
 simp
 refine(Xku b M0 A.l2 _ ?_).ok
 simp[hoff,Qz8]
 match ps,A with
 | [],A =>
  refine(Qx7 b M0 _ ?_).ok
  simp
  exact hp 16 (by simp[doF]) _ ⟨MB,m0⟩
 | (v,x)::ps,A =>
  refine(Qn2 b M0 (by have:=A.l1;simp at this;omega) _ fun h1 M1 m1 _ i1 _ => ?_).ok
  simp
  exact hk _ (by simp[doF]) _ ⟨ps,MB,rfl,M1,m0.trans m1⟩
end
end
end Go.Proofs.YtgeeklmjfbiieaaDoor
end
noncomputable section
namespace Go.Proofs.YtgeeklmjfbiieaaDoor
open Go Go.Ab
set_option maxRecDepth 100000
section
attribute [local simp] V9 U8 X5 Qe Yj Y4 X2 Xw Uh Qd8 W9 Wb Vx Yi Qcz Qty U9 Qcf Xp Xm Xk Xt Qt X0 Xn X8 Qx Xo Q4 Xf Z4 Yt aop Qg nth Ab.g0 gv gs Q7 Qd aev evs evO Qi Tr.get_put St.put Tm.put flat flatA Yu Qp Qo Qm Qq Ql Qn Qk X3 Qj Q5 Q6 Qu Xj Xa Qz Qh X9 Qy Qr Yh Zb Yg Xv Xs.putAll X7 Qc Q2 Q1 Qa Qb Q9 Q0 Q3 Q8
theorem Y8r(b:Nat){h:Heap}{MB:Nat→Prop}{μ:Nat}{e:Menv}{op:List Br}(M:Mach h MB μ e [] op)(K:AEnd→Heap→Prop)(hp:K (.panic (pe 16)) h):FnK Tryd.prog (E b).G 90 [.pointer (some ⟨μ,0,none⟩)] h K:=by
 refine Ur (E b) (Qa1 b) (Vj b) Wf (Qa5 b) (Us b) (X5 b) Qnp Qrd Qq5 rfl ?_
 simp
 refine Qx7 b M _ ?_
 simp
 exact hp
end
section
variable(b:Nat){h:Heap}{MB:Nat→Prop}{μ:Nat}{e:Menv}{a:Asks}{ps:List (Value × List Int)}{op:List Br}{dv:Value}{data:List Int}(A:At h MB μ e a ps op dv data)(hoff:Y72 op=false)
include A hoff
section
attribute [local simp] Xc Xi Qv J2 U9 Qf Qw Xe Xb Y4 Qe X4 Y6 Je Y1 Xg Xd X2 X6 X5 Yj J7 J8 Zm Z8 Xp Xm Xk Xt Qt X0 Xn X8 Qx Xo Q4 Xf Z4 Yt aop Qg nth Ab.g0 gv gs Q7 Qd aev evs evO Qi Tr.get_put St.put Tm.put flat flatA Yu Qp Qo Qm Qq Ql Qn Qk X3 Qj Q5 Q6 Qu Xj Xa Qz Qh X9 Qy Qr Yh Zb Yg Xv Xs.putAll X7 Qc Q2 Q1 Qa Qb Q9 Q0 Q3 Q8
theorem Zdy(K:AEnd→Heap→Prop)(hk:∀ st',doF a 129 data (ps.map (·.2))=.ok st'→∀ h',MOk MB h μ e st' op h'→K (.ret (.tuple #[])) h')(hp:∀ z,doF a 129 data (ps.map (·.2))=.error z→∀ h',Y1b MB h h'→K (.panic (pe z)) h') :
  CallOK Tryd.prog (E b).G 52 [.pointer (some ⟨μ,0,none⟩),.agg ⟨[.int .i64 129,dv]⟩] h K:=by
 have M0:=A.m.old (Old.push h (.cells true 1 [.int .i64 129,dv]))
 have m0:Mv MB MB h (h.push (.cells true 1 [.int .i64 129,dv])):=Mv.old (Old.push _ _)
 refine Qnt (E b) (Qc2 _ _) (Qa1 b) (Vj b) Wf (Qa5 b) (Qv b) Vn Ue U0 rfl ?_
 simp[Zt,Qrv b,Qz8]
 refine Q26 b (by simp[brF]) _ ?_
 simp[Zt]
 refine(Xku b M0 A.l2 _ ?_).ok
 simp[Zt,hoff,Qz8]
 match ps,A with
 | [],A =>
  refine(Qx7 b M0 _ ?_).ok
  simp[Zt]
  exact hp 16 (by simp[doF]) _ ⟨MB,m0⟩
 | (v,x)::ps,A =>
  have l1:ps.length < 16:=by have:=A.l1;simp at this;omega
  have lx:x.length≤64:=A.l3 (v,x) (by simp)
  refine(Qn2 b M0 (by omega) _ fun h1 M1 m1 _ i1 _ => ?_).ok
  simp[Zt]
  refine(Q8l b M1 i1 l1 _ fun h2 MB2 M2 m2 => ?_).ok
  simp[Zt]
  by_cases l2:ps.length+1 < 16
  ·refine(Q8l b M2 (i1.mv m2) (by simpa using l2) _ fun h3 MB3 M3 m3 => ?_).ok
   simp[Zt]
   exact hk (x::x::ps.map (·.2)) (by simp[doF,Qjj,l1,l2,Except.bind]) _ ⟨_,MB3,by simp,M3,m0.trans (m1.trans (m2.trans m3))⟩
  ·refine(Q5h b M2 (by simp;omega) _ ?_).ok
   simp[Zt]
   exact hp 16 (by simp[doF,Qjj,l1,l2,Except.bind]) _ ⟨MB2,m0.trans (m1.trans m2)⟩
theorem Y9j(K:AEnd→Heap→Prop)(hk:∀ st',doF a 131 data (ps.map (·.2))=.ok st'→∀ h',MOk MB h μ e st' op h'→K (.ret (.tuple #[])) h')(hp:∀ z,doF a 131 data (ps.map (·.2))=.error z→∀ h',Y1b MB h h'→K (.panic (pe z)) h') :
  CallOK Tryd.prog (E b).G 52 [.pointer (some ⟨μ,0,none⟩),.agg ⟨[.int .i64 131,dv]⟩] h K:=by
 have M0:=A.m.old (Old.push h (.cells true 1 [.int .i64 131,dv]))
 have m0:Mv MB MB h (h.push (.cells true 1 [.int .i64 131,dv])):=Mv.old (Old.push _ _)
 refine Qnt (E b) (Qc2 _ _) (Qa1 b) (Vj b) Wf (Qa5 b) (Qv b) Vn Ue U0 rfl ?_
 simp[Zt,Qrv b,Qz8]
 refine Q26 b (by simp[brF]) _ ?_
 simp[Zt]
 refine(Xku b M0 A.l2 _ ?_).ok
 simp[Zt,hoff,Qz8]
 match ps,A with
 | [],A =>
  refine(Qx7 b M0 _ ?_).ok
  simp[Zt]
  exact hp 16 (by simp[doF]) _ ⟨MB,m0⟩
 | (v,x)::ps,A =>
  have l1:ps.length < 16:=by have:=A.l1;simp at this;omega
  have lx:x.length≤64:=A.l3 (v,x) (by simp)
  refine(Qn2 b M0 (by omega) _ fun h1 M1 m1 _ i1 _ => ?_).ok
  simp[Zt]
  have sn:SN h1 v (Xm5 x):=by
   have:=i1.sb
   rw[SB,Yxu i1.by8]at this
   rwa [show x.length=(Xm5 x).length by simp[Xm5]]at this
  refine(Zgb b ((A.w.mv (m0.trans m1)).laid) sn (by simp[Xm5];omega) _ fun h2 a2 => ?_).ok
  have kl:(Bl.keyed1 [] (Xm5 x)).length=32:=Qj0 _
  obtain⟨hZ,eZ⟩:∃ hZ,hZ=h2.push (.cells true 1 z32):=⟨_,rfl⟩
  have alZ:Qe4 (E b).toEnv 23 h2=some (.pointer (some ⟨h2.next,0,none⟩),hZ):=by rw[eZ];exact Zt b h2
  have gZ:hZ.get h2.next=some (.cells true 1 z32):=by rw[eZ,Heap.get_push,if_pos rfl]
  have aZ:Old h2 hZ:=by rw[eZ];exact Old.push _ _
  have lZ:=Heap.get_lt gZ
  obtain⟨hW,eW⟩:∃ hW,hW=hZ.set h2.next (some (.cells true 1 ((Bl.keyed1 [] (Xm5 x)).map u8v))):=⟨_,rfl⟩
  have stW:Wg hZ h2.next 0 ((Bl.keyed1 [] (Xm5 x)).map u8v)=some hW:=by
   rw[Qd2 gZ (by simp[z32,kl]),eW]
   congr 4
  have gW:hW.get h2.next=some (.cells true 1 ((Yps x).map i8)):=by rw[eW,Heap.get_set _ _ _ _ lZ,if_pos rfl,Ymr];rfl
  have aW:Old h2 hW:=by rw[eW];exact aZ.set _ (Nat.le_refl _) lZ
  simp[Zt,-Zt,alZ,kl,stW,Y2e]
  have M2:=(M1.old a2).old aW
  have iw:Itm hW MB (.slice (some ⟨h2.next,0,none⟩) 32 32) (Yps x):=by
   have:=Itm.at (MB:=MB) gW (Y5n x) (by rw[Ytc];omega) (fun q=>by have:=(M1.old a2).low _ q;omega)
   rwa [Ytc]at this
  refine(Q8l b M2 iw l1 _ fun h3 MB3 M3 m3 => ?_).ok
  simp[Zt]
  exact hk (Yps x::ps.map (·.2)) (by simp[doF,Qjj,l1]) _ ⟨_,MB3,by simp,M3,m0.trans (m1.trans ((Mv.old (a2.trans aW)).trans m3))⟩
theorem Y6p(K:AEnd→Heap→Prop)(hk:∀ st',doF a 132 data (ps.map (·.2))=.ok st'→∀ h',MOk MB h μ e st' op h'→K (.ret (.tuple #[])) h')(hp:∀ z,doF a 132 data (ps.map (·.2))=.error z→∀ h',Y1b MB h h'→K (.panic (pe z)) h') :
  CallOK Tryd.prog (E b).G 52 [.pointer (some ⟨μ,0,none⟩),.agg ⟨[.int .i64 132,dv]⟩] h K:=by
 have M0:=A.m.old (Old.push h (.cells true 1 [.int .i64 132,dv]))
 have m0:Mv MB MB h (h.push (.cells true 1 [.int .i64 132,dv])):=Mv.old (Old.push _ _)
 refine Qnt (E b) (Qc2 _ _) (Qa1 b) (Vj b) Wf (Qa5 b) (Qv b) Vn Ue U0 rfl ?_
 simp[Zt,Qrv b,Qz8]
 refine Q26 b (by simp[brF]) _ ?_
 simp[Zt]
 refine(Xku b M0 A.l2 _ ?_).ok
 simp[Zt,hoff,Qz8]
 match ps,A with
 | [],A =>
  refine(Qx7 b M0 _ ?_).ok
  simp[Zt]
  exact hp 16 (by simp[doF]) _ ⟨MB,m0⟩
 | [(v,x)],A =>
  refine(Qn2 b M0 (by simp) _ fun h1 M1 m1 _ i1 _ => ?_).ok
  simp[Zt]
  refine(Qx7 b M1 _ ?_).ok
  simp[Zt]
  exact hp 16 (by simp[doF]) _ ⟨MB,m0.trans m1⟩
 | (v,x)::(w,y)::ps,A =>
  have l1:ps.length < 15:=by have:=A.l1;simp at this;omega
  refine(Qn2 b M0 (by simp;omega) _ fun h1 M1 m1 _ i1 _ => ?_).ok
  simp[Zt]
  refine(Qn2 b M1 (by omega) _ fun h2 M2 m2 _ i2 _ => ?_).ok
  have i1':=i1.mv m2
  simp[Zt]
  refine(Zf5 b i1'.sb i2.sb i1.by8 i2.by8 _ ?_).ok
  simp[Zt]
  refine(Y82 b (decide (x=y)) M2 _ (fun _ v3 h3 MB3 M3 m3 => ?_) (fun q=>by omega)).ok
  simp[Zt]
  exact hk (Y6f (decide (x=y))::ps.map (·.2)) (by simp[doF,Qjj];omega) _ ⟨_,MB3,by simp,M3,m0.trans (m1.trans (m2.trans m3))⟩
theorem Y1x(K:AEnd→Heap→Prop)(hk:∀ st',doF a 133 data (ps.map (·.2))=.ok st'→∀ h',MOk MB h μ e st' op h'→K (.ret (.tuple #[])) h')(hp:∀ z,doF a 133 data (ps.map (·.2))=.error z→∀ h',Y1b MB h h'→K (.panic (pe z)) h') :
  CallOK Tryd.prog (E b).G 52 [.pointer (some ⟨μ,0,none⟩),.agg ⟨[.int .i64 133,dv]⟩] h K:=by
 have M0:=A.m.old (Old.push h (.cells true 1 [.int .i64 133,dv]))
 have m0:Mv MB MB h (h.push (.cells true 1 [.int .i64 133,dv])):=Mv.old (Old.push _ _)
 refine Qnt (E b) (Qc2 _ _) (Qa1 b) (Vj b) Wf (Qa5 b) (Qv b) Vn Ue U0 rfl ?_
 simp[Zt,Qrv b,Qz8]
 refine Q26 b (by simp[brF]) _ ?_
 simp[Zt]
 refine(Xku b M0 A.l2 _ ?_).ok
 simp[Zt,hoff,Qz8]
 match ps,A with
 | [],A =>
  refine(Qx7 b M0 _ ?_).ok
  simp[Zt]
  exact hp 16 (by simp[doF]) _ ⟨MB,m0⟩
 | (v,x)::ps,A =>
  have l1:ps.length < 16:=by have:=A.l1;simp at this;omega
  have lx:x.length≤64:=A.l3 (v,x) (by simp)
  refine(Qn2 b M0 (by omega) _ fun h1 M1 m1 _ i1 _ => ?_).ok
  simp[Zt]
  refine(X9s b i1.sb (by omega) _ fun h2 a2 => ?_).ok
  cases ht:isT x with
  | true =>
   simp[Zt]
   refine(Xam b h2 16 _ ?_).ok
   simp[Zt]
   exact hk (ps.map (·.2)) (by simp[doF,ht]) _ ⟨ps,MB,rfl,M1.old a2,m0.trans (m1.trans (Mv.old a2))⟩
  | false =>
   simp[Zt]
   refine(Q15 b h2 16 _ ?_).ok
   simp[Zt]
   exact hp 16 (by simp[doF,ht]) _ ⟨MB,m0.trans (m1.trans (Mv.old a2))⟩
theorem Y9d(K:AEnd→Heap→Prop)(hk:∀ st',doF a 134 data (ps.map (·.2))=.ok st'→∀ h',MOk MB h μ e st' op h'→K (.ret (.tuple #[])) h')(hp:∀ z,doF a 134 data (ps.map (·.2))=.error z→∀ h',Y1b MB h h'→K (.panic (pe z)) h') :
  CallOK Tryd.prog (E b).G 52 [.pointer (some ⟨μ,0,none⟩),.agg ⟨[.int .i64 134,dv]⟩] h K:=by
 have M0:=A.m.old (Old.push h (.cells true 1 [.int .i64 134,dv]))
 have m0:Mv MB MB h (h.push (.cells true 1 [.int .i64 134,dv])):=Mv.old (Old.push _ _)
 refine Qnt (E b) (Qc2 _ _) (Qa1 b) (Vj b) Wf (Qa5 b) (Qv b) Vn Ue U0 rfl ?_
 simp[Zt,Qrv b,Qz8]
 refine Q26 b (by simp[brF]) _ ?_
 simp[Zt]
 refine(Xku b M0 A.l2 _ ?_).ok
 simp[Zt,hoff,Qz8]
 match ps,A with
 | [],A =>
  refine(Yo6 b M0 (by simp) _ fun h1 m1 => ?_).ok
  simp[Zt]
  exact hp 16 (by simp[doF]) _ ⟨MB,m0.trans m1⟩
 | [(v,x)],A =>
  refine(Yo6 b M0 (by simp) _ fun h1 m1 => ?_).ok
  simp[Zt]
  exact hp 16 (by simp[doF]) _ ⟨MB,m0.trans m1⟩
 | (v,x)::(w,y)::ps,A =>
  have l1:ps.length < 15:=by have:=A.l1;simp at this;omega
  refine(Zfk b M0 (A.w.mv m0) (by omega) _ (fun q1 q2 h1 M1 m1 => ?_) (fun q h1 m1 => ?_)).ok
  ·simp[Zt]
   refine(Y82 b (Y2t a (x.getD 0 0) y) M1 _ (fun _ v3 h3 MB3 M3 m3 => ?_) (fun q=>by omega)).ok
   simp[Zt]
   exact hk (Y6f (Y2t a (x.getD 0 0) y)::ps.map (·.2)) (by simp[doF,Qjj,q1,q2];omega) _ ⟨_,MB3,by simp,M3,m0.trans (m1.trans m3)⟩
  ·simp[Zt]
   exact hp 16 (by simp only[doF,List.map_cons];simp[q]) _ ⟨MB,m0.trans m1⟩
theorem Y6t(K:AEnd→Heap→Prop)(hk:∀ st',doF a 135 data (ps.map (·.2))=.ok st'→∀ h',MOk MB h μ e st' op h'→K (.ret (.tuple #[])) h')(hp:∀ z,doF a 135 data (ps.map (·.2))=.error z→∀ h',Y1b MB h h'→K (.panic (pe z)) h') :
  CallOK Tryd.prog (E b).G 52 [.pointer (some ⟨μ,0,none⟩),.agg ⟨[.int .i64 135,dv]⟩] h K:=by
 have M0:=A.m.old (Old.push h (.cells true 1 [.int .i64 135,dv]))
 have m0:Mv MB MB h (h.push (.cells true 1 [.int .i64 135,dv])):=Mv.old (Old.push _ _)
 refine Qnt (E b) (Qc2 _ _) (Qa1 b) (Vj b) Wf (Qa5 b) (Qv b) Vn Ue U0 rfl ?_
 simp[Zt,Qrv b,Qz8]
 refine Q26 b (by simp[brF]) _ ?_
 simp[Zt]
 refine(Xku b M0 A.l2 _ ?_).ok
 simp[Zt,hoff,Qz8]
 match ps,A with
 | [],A =>
  refine(Y8r b M0 _ ?_).ok
  simp[Zt]
  exact hp 16 (by simp[doF]) _ ⟨MB,m0⟩
 | (v,x)::ps,A =>
  have l1:ps.length < 16:=by have:=A.l1;simp at this;omega
  refine(Zdf b M0 (by omega) _ (fun q1 q2 h1 M1 m1 => ?_) (fun q1 h1 m1 => ?_) (fun q1 q2 h1 m1 => ?_)).ok
  ·simp[Zt]
   rw[A.w.lk]at q2
   exact hk (ps.map (·.2)) (by simp[doF,q1,q2]) _ ⟨ps,MB,rfl,M1,m0.trans m1⟩
  ·simp[Zt]
   exact hp 16 (by simp[doF,q1]) _ ⟨MB,m0.trans m1⟩
  ·simp[Zt]
   rw[A.w.lk]at q2
   exact hp 18 (by simp[doF,q1,q2]) _ ⟨MB,m0.trans m1⟩
theorem Zbx(K:AEnd→Heap→Prop)(hk:∀ st',doF a 139 data (ps.map (·.2))=.ok st'→∀ h',MOk MB h μ e st' op h'→K (.ret (.tuple #[])) h')(hp:∀ z,doF a 139 data (ps.map (·.2))=.error z→∀ h',Y1b MB h h'→K (.panic (pe z)) h') :
  CallOK Tryd.prog (E b).G 52 [.pointer (some ⟨μ,0,none⟩),.agg ⟨[.int .i64 139,dv]⟩] h K:=by
 have M0:=A.m.old (Old.push h (.cells true 1 [.int .i64 139,dv]))
 have m0:Mv MB MB h (h.push (.cells true 1 [.int .i64 139,dv])):=Mv.old (Old.push _ _)
 refine Qnt (E b) (Qc2 _ _) (Qa1 b) (Vj b) Wf (Qa5 b) (Qv b) Vn Ue U0 rfl ?_
 simp[Zt,Qrv b,Qz8]
 refine Q26 b (by simp[brF]) _ ?_
 simp[Zt]
 refine(Xku b M0 A.l2 _ ?_).ok
 simp[Zt,hoff,Qz8]
 match ps,A with
 | [],A =>
  refine(Qx7 b M0 _ ?_).ok
  simp[Zt]
  exact hp 16 (by simp[doF]) _ ⟨MB,m0⟩
 | (v,x)::ps,A =>
  have l1:ps.length < 16:=by have:=A.l1;simp at this;omega
  have lx:x.length≤64:=A.l3 (v,x) (by simp)
  refine(Qn2 b M0 (by omega) _ fun h1 M1 m1 _ i1 _ => ?_).ok
  simp[Zt]
  refine(Q8l b M1 i1 l1 _ fun h2 MB2 M2 m2 => ?_).ok
  have i2:=i1.mv m2
  have len:=fun hx=>Qcp (b:=b) (h1:=hx) i2.sb
  have w8:IntKind.u8.wrap (x.length:Int)=(x.length:Int):=Zap (by omega)
  simp[Zt,len,w8,Qvn]
  have m3:Mv MB2 MB2 h2 (h2.push (.cells true 1 [i8 (x.length:Int)])):=Mv.old (Old.push _ _)
  have i3:=Itm.new (h:=h2) (MB:=MB2) M2.low (xs:=[(x.length:Int)]) (by intro z hz;simp at hz;omega) (by simp)
  by_cases l2:ps.length+1 < 16
  ·refine(Q8l b (M2.old (Old.push _ _)) i3 (by simpa using l2) _ fun h4 MB4 M4 m4 => ?_).ok
   simp[Zt]
   exact hk ([(x.length:Int)]::x::ps.map (·.2)) (by simp[doF,Qjj,l1,l2,Except.bind]) _ ⟨_,MB4,by simp,M4,m0.trans (m1.trans (m2.trans (m3.trans m4)))⟩
  ·refine(Q5h b (M2.old (Old.push _ _)) (by simp;omega) _ ?_).ok
   simp[Zt]
   exact hp 16 (by simp[doF,Qjj,l1,l2,Except.bind]) _ ⟨MB2,m0.trans (m1.trans (m2.trans m3))⟩
theorem Zai{code:Int}(e1:¬ code=129)(e2:¬ code=130)(e3:¬ code=131)(e4:¬ code=132)(e5:¬ code=133)(e6:¬ code=134)(e7:¬ code=135)(c8:¬ code=136)(c9:¬ code=137)(c10:¬ code=138)(e11:¬ code=139)(K:AEnd→Heap→Prop)(hk:∀ st',doF a code data (ps.map (·.2))=.ok st'→∀ h',MOk MB h μ e st' op h'→K (.ret (.tuple #[])) h')(hp:∀ z,doF a code data (ps.map (·.2))=.error z→∀ h',Y1b MB h h'→K (.panic (pe z)) h') :
  CallOK Tryd.prog (E b).G 52 [.pointer (some ⟨μ,0,none⟩),.agg ⟨[.int .i64 code,dv]⟩] h K:=by
 have M0:=A.m.old (Old.push h (.cells true 1 [.int .i64 code,dv]))
 have m0:Mv MB MB h (h.push (.cells true 1 [.int .i64 code,dv])):=Mv.old (Old.push _ _)
 refine Qnt (E b) (Qc2 _ _) (Qa1 b) (Vj b) Wf (Qa5 b) (Qv b) Vn Ue U0 rfl ?_
 simp[Zt,Qrv b,Qz8]
 refine Q26 b (by simp[brF,c8,c9,c10]) _ ?_
 simp[Zt]
 refine(Xku b M0 A.l2 _ ?_).ok
 simp[Zt,hoff,Qz8,Zpn,e1,e2,e3,e4,e5,e6,e7,e11]
 by_cases l1:ps.length < 16
 ·refine(Q8l b M0 (A.i.mv m0) l1 _ fun h2 MB2 M2 m2 => ?_).ok
  simp[Zt]
  exact hk (data::ps.map (·.2)) (by simp[doF,Qjj,l1,e1,e2,e3,e4,e5,e6,e7,e11]) _ ⟨_,MB2,by simp,M2,m0.trans m2⟩
 ·refine(Q5h b M0 (by omega) _ ?_).ok
  simp[Zt]
  exact hp 16 (by simp[doF,Qjj,l1,e1,e2,e3,e4,e5,e6,e7,e11]) _ ⟨MB,m0⟩
end
end
end Go.Proofs.YtgeeklmjfbiieaaDoor
end
noncomputable section
namespace Go.Proofs.YtgeeklmjfbiieaaDoor
open Go Go.Ab
set_option maxRecDepth 100000
section
variable(b:Nat){h:Heap}{MB:Nat→Prop}{μ:Nat}{e:Menv}{a:Asks}{ps:List (Value × List Int)}{op:List Br}{dv:Value}{data:List Int}(A:At h MB μ e a ps op dv data)
include A
section
attribute [local simp] Xc Xi Qv J2 U9 Qf Qw Xe Xb Y4 Qe X4 Y6 Zt Je Y1 Xg Xd X2 X6 X5 Yj J7 J8 Zm Z8 Xp Xm Xk Xt Qt X0 Xn X8 Qx Xo Q4 Xf Z4 Yt aop Qg nth Ab.g0 gv gs Q7 Qd aev evs evO Qi Tr.get_put St.put Tm.put flat flatA Yu Qp Qo Qm Qq Ql Qn Qk X3 Qj Q5 Q6 Qu Xj Xa Qz Qh X9 Qy Qr Yh Zb Yg Xv Xs.putAll X7 Qc Q2 Q1 Qa Qb Q9 Q0 Q3 Q8
theorem Zhy(K:AEnd→Heap→Prop)(hk:∀ st' op',brF 136 (ps.map (·.2)) op=some (some (st',op'))→∀ h',MOk MB h μ e st' op' h'→K (.ret (.tuple #[])) h')(hp:brF 136 (ps.map (·.2)) op=some none→∀ h',Y1b MB h h'→K (.panic (pe 16)) h') :
  CallOK Tryd.prog (E b).G 52 [.pointer (some ⟨μ,0,none⟩),.agg ⟨[.int .i64 136,dv]⟩] h K:=by
 have M0:=A.m.old (Old.push h (.cells true 1 [.int .i64 136,dv]))
 have m0:Mv MB MB h (h.push (.cells true 1 [.int .i64 136,dv])):=Mv.old (Old.push _ _)
 refine Qnt (E b) (Qc2 _ _) (Qa1 b) (Vj b) Wf (Qa5 b) (Qv b) Vn Ue U0 rfl ?_
 simp[Qrv b,Qz8]
 refine Zp5 b M0 (by have:=A.l1;omega) A.l2 (fun p hp=>by have:=A.l3 p hp;omega) _ (fun st' op' q h' m => ?_) (fun q h' m => ?_)
 ·obtain⟨ps',MB',q1,q2,q3⟩:=m
  simp
  exact hk st' op' q h' ⟨ps',MB',q1,q2,m0.trans q3⟩
 ·obtain⟨MB',q1⟩:=m
  simp
  exact hp q h' ⟨MB',m0.trans q1⟩
theorem Y80(K:AEnd→Heap→Prop)(hk:∀ st' op',brF 137 (ps.map (·.2)) op=some (some (st',op'))→∀ h',MOk MB h μ e st' op' h'→K (.ret (.tuple #[])) h')(hp:brF 137 (ps.map (·.2)) op=some none→∀ h',Y1b MB h h'→K (.panic (pe 16)) h') :
  CallOK Tryd.prog (E b).G 52 [.pointer (some ⟨μ,0,none⟩),.agg ⟨[.int .i64 137,dv]⟩] h K:=by
 have M0:=A.m.old (Old.push h (.cells true 1 [.int .i64 137,dv]))
 have m0:Mv MB MB h (h.push (.cells true 1 [.int .i64 137,dv])):=Mv.old (Old.push _ _)
 refine Qnt (E b) (Qc2 _ _) (Qa1 b) (Vj b) Wf (Qa5 b) (Qv b) Vn Ue U0 rfl ?_
 simp[Qrv b,Qz8]
 match op,A with
 | [],A =>
  refine Y8f b M0 (.inl rfl) _ ?_
  simp
  exact hp (by simp[brF]) _ ⟨MB,m0⟩
 | x::l,A =>
  refine Zh4 b M0 (by have:=A.l2;simp at this;omega) _ (fun ht h1 M1 m1 => ?_) (fun ht => ?_)
  ·simp
   exact hk _ _ (by simp[brF,ht]) _ ⟨ps,MB,rfl,M1,m0.trans m1⟩
  ·simp
   exact hp (by simp[brF,ht]) _ ⟨MB,m0⟩
theorem Zf7(K:AEnd→Heap→Prop)(hk:∀ st' op',brF 138 (ps.map (·.2)) op=some (some (st',op'))→∀ h',MOk MB h μ e st' op' h'→K (.ret (.tuple #[])) h')(hp:brF 138 (ps.map (·.2)) op=some none→∀ h',Y1b MB h h'→K (.panic (pe 16)) h') :
  CallOK Tryd.prog (E b).G 52 [.pointer (some ⟨μ,0,none⟩),.agg ⟨[.int .i64 138,dv]⟩] h K:=by
 have M0:=A.m.old (Old.push h (.cells true 1 [.int .i64 138,dv]))
 have m0:Mv MB MB h (h.push (.cells true 1 [.int .i64 138,dv])):=Mv.old (Old.push _ _)
 refine Qnt (E b) (Qc2 _ _) (Qa1 b) (Vj b) Wf (Qa5 b) (Qv b) Vn Ue U0 rfl ?_
 simp[Qrv b,Qz8]
 match op,A with
 | [],A =>
  refine Y8f b M0 (.inr rfl) _ ?_
  simp
  exact hp (by simp[brF]) _ ⟨MB,m0⟩
 | x::l,A =>
  refine Zms b M0 (by have:=A.l2;simp at this;omega) _ (fun h1 M1 m1 => ?_)
  simp
  exact hk _ _ (by simp[brF]) _ ⟨ps,MB,rfl,M1,m0.trans m1⟩
end
theorem Zjm{code:Int}(K:AEnd→Heap→Prop)(hk:∀ st' op',Qmp a code data (ps.map (·.2)) op=.ok (st',op')→∀ h',MOk MB h μ e st' op' h'→K (.ret (.tuple #[])) h')(hp:∀ z,Qmp a code data (ps.map (·.2)) op=.error z→∀ h',Y1b MB h h'→K (.panic (pe z)) h') :
  CallOK Tryd.prog (E b).G 52 [.pointer (some ⟨μ,0,none⟩),.agg ⟨[.int .i64 code,dv]⟩] h K:=by
 by_cases c8:code=136
 ·subst c8
  exact Zhy b A K (fun st' op' q=>hk st' op' (by simp only[Qmp,q])) (fun q=>hp 16 (by simp only[Qmp,q]))
 by_cases c9:code=137
 ·subst c9
  exact Y80 b A K (fun st' op' q=>hk st' op' (by simp only[Qmp,q])) (fun q=>hp 16 (by simp only[Qmp,q]))
 by_cases c10:code=138
 ·subst c10
  exact Zf7 b A K (fun st' op' q=>hk st' op' (by simp only[Qmp,q])) (fun q=>hp 16 (by simp only[Qmp,q]))
 have hbr:∀ st op,brF code st op=none:=fun st op=>by simp[brF,c8,c9,c10]
 cases hoff:Y72 op with
 | true=>exact Zer b A hoff (hbr _ _) K (fun h' m=>hk _ _ (by simp[Qmp,hbr,hoff]) h' m)
 | false =>
  have e1:∀ st',doF a code data (ps.map (·.2))=.ok st'→Qmp a code data (ps.map (·.2)) op=.ok (st',op):=fun st' q=>by simp[Qmp,hbr,hoff,q,Except.map]
  have e2:∀ z,doF a code data (ps.map (·.2))=.error z→Qmp a code data (ps.map (·.2)) op=.error z:=fun z q=>by simp[Qmp,hbr,hoff,q,Except.map]
  have k1:∀ st',doF a code data (ps.map (·.2))=.ok st'→∀ h',MOk MB h μ e st' op h'→K (.ret (.tuple #[])) h':=fun st' q h' m=>hk _ _ (e1 st' q) h' m
  have k2:∀ z,doF a code data (ps.map (·.2))=.error z→∀ h',Y1b MB h h'→K (.panic (pe z)) h':=fun z q h' m=>hp _ (e2 z q) h' m
  clear hk hp e1 e2
  by_cases c1:code=129
  ·subst c1;exact Zdy b A hoff K k1 k2
  by_cases c2:code=130
  ·subst c2;exact Y9m b A hoff K k1 k2
  by_cases c3:code=131
  ·subst c3;exact Y9j b A hoff K k1 k2
  by_cases c4:code=132
  ·subst c4;exact Y6p b A hoff K k1 k2
  by_cases c5:code=133
  ·subst c5;exact Y1x b A hoff K k1 k2
  by_cases c6:code=134
  ·subst c6;exact Y9d b A hoff K k1 k2
  by_cases c7:code=135
  ·subst c7;exact Y6t b A hoff K k1 k2
  by_cases c11:code=139
  ·subst c11;exact Zbx b A hoff K k1 k2
  exact Zai b A hoff c1 c2 c3 c4 c5 c6 c7 c8 c9 c10 c11 K k1 k2
end
end Go.Proofs.YtgeeklmjfbiieaaDoor
end
noncomputable section
namespace Go.Proofs.YtgeeklmjfbiieaaDoor
open Go Go.Ab
set_option maxRecDepth 100000
theorem Zi4(b:Nat){l:List Value}(hl:l.length=34):Qr0 (E b).toEnv 107 [(0,.agg ⟨l⟩)]=some (.agg ⟨l ++ [.slice none 0 0,.slice none 0 0]⟩):=by
 have e:Qr0 (E b).toEnv 107 [(0,.agg ⟨l⟩)]=(Xej (nth [(0,34),(34,1),(35,1)]) ((.pointer none::List.replicate 32 (.int .u8 0)) ++ [.int .i64 0,.slice none 0 0,.slice none 0 0]) [(0,.agg ⟨l⟩)]).map fun c => .agg c.toArray:=by kernel_rfl
 rw[e]
 have hc:(Value.agg ⟨l⟩).cells.toList=l:=rfl
 have hs:(Value.agg ⟨l⟩).cells.size=34:=hl
 have hz:((.pointer none::List.replicate 32 (.int .u8 0)) ++ [.int .i64 0,.slice none 0 0,.slice none 0 0]:List Value).length=36:=by simp
 have hp:Qjp ((.pointer none::List.replicate 32 (.int .u8 0)) ++ [.int .i64 0,.slice none 0 0,.slice none 0 0]:List Value) 0 l=some (l ++ [.slice none 0 0,.slice none 0 0]):=by
  rw[Qm4 (by rw[hz,hl];omega),hl]
  rfl
 have hb:(Qgc (.agg ⟨l⟩) && (Value.agg ⟨l⟩).cells.size == 34 && Nat.ble (0+34) ((.pointer none::List.replicate 32 (.int .u8 0)) ++ [.int .i64 0,.slice none 0 0,.slice none 0 0]:List Value).length)=true:=by
  rw[hs,hz];rfl
 simp only[Xej,nth,hb,if_true,hc,hp]
 rfl
def ItsAt(h:Heap)(items:List (Value × List Int)):Prop:=∀ p ∈ items,SB h p.1 p.2∧Bytes p.2
theorem ItsAt.old{h h':Heap}{items:List (Value × List Int)}(i:ItsAt h items)(a:Old h h'):ItsAt h' items:=fun p hp=>⟨(i p hp).1.old a,(i p hp).2⟩
def BGI(sv:Value)(items:List (Value × List Int))(e:Menv)(h:Heap)(μ:Nat)(k:Nat)(s:St):Prop:=∃ (t:Tr Value) (h1:Heap) (MB:Nat→Prop) (ps:List (Value × List Int)) (i:Nat),s=⟨⟨26,t⟩,[],h1⟩∧t.get 5=some (.pointer (some ⟨μ,0,none⟩))∧t.get 11=some sv∧t.get 12=some (.int .i64 (items.length:Int))∧t.get 13=some (.int .i64 (i:Int))∧i≤items.length∧k=items.length-i∧Mach h1 MB μ e ps []∧Old h h1∧(∀ c,MB c→h.next≤c) ∧
 Xei (items.map (·.2)) []=Xei ((items.drop i).map (·.2)) (ps.map (·.2))
section
attribute [local simp] Qd1 Qfp Jv Qs2 V4 Xw Qai Z8 Yj Wq X2 X4 Yi Xp Xm Xk Xt Qt X0 Xn X8 Qx Xo Q4 Xf Z4 Yt aop Qg nth Ab.g0 gv gs Q7 Qd aev evs evO Qi Tr.get_put St.put Tm.put flat flatA Yu Qp Qo Qm Qq Ql Qn Qk X3 Qj Q5 Q6 Qu Xj Xa Qz Qh X9 Qy Qr Yh Zb Yg Xv Xs.putAll X7 Qc Q2 Q1 Qa Qb Q9 Q0 Q3 Q8
theorem Zeo(b:Nat){h:Heap}{sv:Value}{items:List (Value × List Int)}{e:Menv}(ss:Sl h 1 sv items.length (items.map (·.1)))(hn:items.length < 1000000)(its:ItsAt h items)(K:AEnd→Heap→Prop)
  (hk:∀ h' μ MB ps,Xei (items.map (·.2)) []=.ok (ps.map (·.2))→Mach h' MB μ e ps []→Old h h'→(∀ c,MB c→h.next≤c)→K (.ret (.pointer (some ⟨μ,0,none⟩))) h')
  (hp:Xei (items.map (·.2)) []=.error 16→∀ h',Old h h'→K (.panic (pe 16)) h'):FnK Tryd.prog (E b).G 51 [sv,.agg ⟨e.cells⟩] h K:=by
 refine Ur (E b) (Qa1 b) (Vj b) Wf (Qa5 b) (Us b) (Jv b) Xxz Ykm X9b rfl ?_
 obtain⟨hA,eA⟩:∃ hA,hA=h.push (.cells true 1 e.cells):=⟨_,rfl⟩
 have bxA:X7w (.agg ⟨e.cells⟩) h=some (.pointer (some ⟨h.next,0,none⟩),hA):=by rw[eA];rfl
 have gA:hA.get h.next=some (.cells true 1 e.cells):=by rw[eA,Heap.get_push,if_pos rfl]
 have aA:Old h hA:=by rw[eA];exact Old.push _ _
 have nA:hA.next=h.next+1:=by rw[eA];rfl
 have ldA:Qgi hA h.next 0 34=some (.agg ⟨e.cells⟩):=by rw[Qan gA (by rw[e.len];omega),List.drop_zero,List.take_of_length_le (by rw[e.len];exact Nat.le_refl _)]
 have bxB:X7w (.agg ⟨e.cells ++ [.slice none 0 0,.slice none 0 0]⟩) hA=some (.pointer (some ⟨hA.next,0,none⟩),hA.push (.cells true 1 (e.cells ++ [.slice none 0 0,.slice none 0 0]))):=rfl
 obtain⟨hB,eB⟩:∃ hB,hB=hA.push (.cells true 1 (e.cells ++ [.slice none 0 0,.slice none 0 0])):=⟨_,rfl⟩
 rw[← eB]at bxB
 have gB:hB.get hA.next=some (.cells true 1 (e.cells ++ [.slice none 0 0,.slice none 0 0])):=by rw[eB,Heap.get_push,if_pos rfl]
 have aB:Old hA hB:=by rw[eB];exact Old.push _ _
 have lenS:∀ hx,Qkb (E b).toEnv 43 sv hx=some (.int .i64 (items.length:Int)):=fun hx=>Qdf (T43 b) ss
 simp[bxA,ldA,Zi4 b e.len,bxB,lenS]
 have lB:=Heap.get_lt gB
 have M0:Mach hB (fun c=>c=hA.next) hA.next e [] []:=by
  refine⟨⟨.slice none 0 0,.slice none 0 0,1,gB,rfl,?_,?_,fun c hc=>by simp[U7]at hc,fun c hc=>by simp[U7]at hc⟩,by simp,fun c hc=>by rw[hc];exact lB⟩
  ·exact Own.nil
  ·exact Own.nil
 refine Qfy (BGI sv items e h hA.next) items.length ⟨_,hB,fun c=>c=hA.next,[],0,rfl,by simp,by simp,by simp,by simp,by omega,rfl,M0,aA.trans aB,fun c hc=>by omega,by simp⟩ ?_
 rintro k s' ⟨t,h1,MB,ps,i,rfl,t5,t11,t12,t13,hi,rfl,M,hold,hmb,hF⟩ _
 by_cases hlt:i < items.length
 ·have hlt':(i:Int) < (items.length:Int):=by omega
  obtain⟨p,hpi⟩:∃ p,items[i]? = some p:=⟨_,List.getElem?_eq_getElem hlt⟩
  obtain⟨v,x⟩:=p
  have hd:items.drop i=(v,x)::items.drop (i+1):=by
   rw[List.drop_eq_getElem_cons hlt]
   rw[List.getElem?_eq_getElem hlt]at hpi
   rw[Option.some.inj hpi]
  obtain⟨bk,off,q1,q2,q3, -⟩:=Xfu (T43 b) Qdj (ss.old hold) (k:=.i64) (i:=(i:Int)) (by omega) (by omega)
  have q4:V2 h1 bk off=some v:=by
   have:=q3 0 (by omega)
   simpa[hpi]using this
  obtain⟨sx,bx⟩:=its (v,x) (List.mem_of_getElem? hpi)
  have iv:Itm h1 MB v x:=⟨sx.old hold,bx,fun c hc hm=>by have:=sx.blk hc;have:=hmb c hm;omega⟩
  have len:=fun hx=>Qcp (b:=b) (h1:=hx) iv.sb
  have hw:IntKind.i64.wrap ((i:Int)+1)=((i+1:Nat):Int):=by rw[Ug (by omega) (by omega)];omega
  rw[hd]at hF
  by_cases hx:x.length≤64
  ·have hx':(x.length:Int)≤64:=by omega
   simp[t5,t11,t12,t13,hlt',q2,q4,len,hx']
   refine Xam b h1 16 _ ?_
   simp[t5,t11,t12,t13]
   by_cases hl:ps.length < 16
   ·refine Q8l b M iv hl _ fun h2 MB2 M2 m2 => ?_
    simp[t5,t11,t12,t13,hw]
    refine⟨items.length-(i+1),by omega,_,h2,MB2,(v,x)::ps,i+1,rfl,by simp[t5],by simp[t11],by simp[t12],by simp,by omega,rfl,M2,⟨Nat.le_trans hold.1 m2.next,fun c hc => ?_⟩,fun c hc => ?_,?_⟩
    ·rw[m2.same c (Nat.lt_of_lt_of_le hc hold.1) (fun q=>by have:=hmb c q;omega),hold.2 c hc]
    ·rcases m2.sub c hc with q | q
     ·exact hmb c q
     ·exact Nat.le_trans hold.1 q
    ·rw[hF]
     simp[Xei,hx,Qjj,hl,Except.bind]
   ·refine Q5h b M (by omega) _ ?_
    simp[t5,t11,t12,t13]
    exact hp (by rw[hF];simp[Xei,hx,Qjj,hl,Except.bind]) h1 hold
  ·have hx':¬ (x.length:Int)≤64:=by omega
   simp[t5,t11,t12,t13,hlt',q2,q4,len,hx']
   refine Q15 b h1 16 _ ?_
   simp[t5,t11,t12,t13]
   exact hp (by rw[hF];simp[Xei,hx]) h1 hold
 ·have hlt':¬ (i:Int) < (items.length:Int):=by omega
  simp[t5,t11,t12,t13,hlt']
  have : i=items.length:=by omega
  subst this
  exact hk h1 hA.next MB ps (by rw[hF];simp[Xei]) M hold hmb
end
end Go.Proofs.YtgeeklmjfbiieaaDoor
end
noncomputable section
namespace Go.Ab
section
variable{P:Program}{E:Env2 P}{C:CallF}{k:Nat}
theorem Yh9:∀ l:List Oper,Yc1 (l.map bare)=Yc1 l
 | []=>rfl
 | o::r=>by
  simp only[List.map_cons,Yc1,Yh9 r]
  rfl
theorem Ywu(ops:List Oper):∀ (l:List Oper) (u:FrameMode) (s:St),Yzi E (ops.map bare) (l.map bare) u s=Yzi E ops l u s
 | [],u,s=>rfl
 | o::r,u,s=>by
  have ih:=Ywu ops r
  have e1:(bare o).dst=o.dst:=rfl
  have e2:Yuu (bare o)=Yuu o:=rfl
  have e3:Zf (bare o)=Zf o:=rfl
  have e4:∀ t h,aop E t h (bare o)=aop E t h o:=fun _ _=>rfl
  simp only[List.map_cons,Yzi,Qrq,e1,e2,e3,e4,ih]
theorem Q4x:∀ (c:Code) (u:FrameMode) (s:St),Qqg E C k (Ww c) u s=Qqg E C k c u s
 | .seq x y,u,s=>by
  simp only[Ww,Qqg,Q4x x]
  split
  ·exact Q4x y _ _
  ·rfl
 | .cond c x y,u,s=>by
  simp only[Ww,Qqg]
  split
  ·exact Q4x x u s
  ·exact Q4x y u s
  ·rfl
 | .block id c,u,s=>by simp only[Qqg,Qo0 (.block id c)];simp only[Ww,Qqg];rw[← Qo0 (.block id c)];rfl
 | .loop c,u,s=>by
  have:=Qo0 (E:=E) (C:=C) (rd:=none) (k:=k) (.loop c) s
  simp only[Ww]at this
  simp only[Ww,Qqg,this]
 | .region id ops false,u,s=>by
  have h1:=Qo0 (E:=E) (C:=C) (rd:=none) (k:=k) (.region id ops false) s
  simp only[Ww]at h1
  have h2:=Yh9 ops.toList
  have h3:=Ywu (E:=E) ops.toList ops.toList u s
  simp only[Ww,Qqg,h1,h2,h3]
 | .region id ops true,u,s=>rfl
 | .skip,u,s=>rfl
 | .label _,u,s=>rfl
 | .ret,u,s=>rfl
 | .exit _,u,s=>rfl
 | .rangeFunc ..,u,s=>rfl
 | .scope ..,u,s=>rfl
 | .goto ..,u,s=>rfl
 | .refuse ..,u,s=>rfl
theorem Y3i{f n:Nat}{args:List Value}{u u':FrameMode}{h h':Heap}{fn:Func}{c cb:Code}{e:Exit}{t:Tm}{v:Value}(hfn:E.fn.get f=some fn)(hb:fn.body=some c)(hn:fn.ntmps=n)(hc:Ww c=cb)(hle:Nat.ble args.length n=true)
  (hx:Qqg E C k cb u ⟨⟨n,Xs.putAll 0 args .leaf⟩,[],h⟩=some (e,u',⟨t,[],h'⟩)) (he:e=.normal∨e=.ret) (hr:Z4 E fn t h'=some v):Xas E C k f args u h=some (.ret v,u',h'):=by
 subst hn hc
 rw[Q4x]at hx
 unfold Xas
 simp only[hfn,hb,hle,Xs,hx]
 rcases he with rfl | rfl <;> simp only[hr]
end
end Go.Ab
namespace Go.Proofs.YtgeeklmjfbiieaaDoor
open Go Go.Ab
set_option maxRecDepth 100000
def peR(z:Int):List PanicEntry:=[{v:=.iface 35 (.int .i64 z),recovered:=true}]
theorem Zh7(b:Nat)(q:Bool)(t:TypeId)(v:Value):Yu (E b).toEnv .neq 20 q (.iface t v) .nilIface=some (.bool true):=by kernel_rfl
theorem Zhz(b:Nat):Yu (E b).toEnv .neq 20 true .nilIface .nilIface=some (.bool false):=by kernel_rfl
theorem Zel(b:Nat)(z:Int):X7i (E b).toEnv (.iface 35 (.int .i64 z)) 35 false=some (.int .i64 z):=by kernel_rfl
section
attribute [local simp] Qrx Qy1 Qx6 Qyo Qww Qz2 Qwr Qwi Qx2 Qyr Qqg Yc1 Yuu Yzi Y7t Zf pe Xs.putAll Qqa Q6a Xly Xl7 aop Qg nth Ab.g0 gv gs Q7 Qd Xp aev evs evO Qi Tr.get_put St.put Tm.put flat flatA Qp Qo Qm Qq Ql Qn Qk X3 Yt Qj Q5 Q6 X7 Qc Q2 Q1 Qa Qb Q9 Q0 Q3 Q8
theorem Zf8(b:Nat){h:Heap}{B:Nat}{y:Value}(z:Int)(hg:h.get B=some (.cells true 1 [y])):DD b 49 [.pointer (some ⟨B,0,none⟩)] (.panicking (pe z)) h=some (.ret (.tuple #[]),.panicking (peR z),h.set B (some (.cells true 1 [.int .i64 z]))):=by
 have e1:(E b).fn.get 49=some Qgw:=Qq1 b
 have st:Wg h B 0 [.int .i64 z]=some (h.set B (some (.cells true 1 [.int .i64 z]))):=Qbz hg (by simp)
 refine Y3i (e:=.normal) e1 Q43 Xp1 Xjz rfl (by simp[Yu,-Yu,Zh7,Zel,Qii,st];first | exact rfl | exact⟨rfl,rfl⟩) (.inl rfl) ?_
 simp[Z4,Xh8]
theorem Zl8(b:Nat){h:Heap}{B:Nat}{y:Value}:DD b 49 [.pointer (some ⟨B,0,none⟩)] .returning h=some (.ret (.tuple #[]),.returning,h):=by
 have e1:(E b).fn.get 49=some Qgw:=Qq1 b
 refine Y3i (e:=.normal) e1 Q43 Xp1 Xjz rfl (by simp[Yu,-Yu,Zhz];first | exact rfl | exact⟨rfl,rfl⟩) (.inl rfl) ?_
 simp[Z4,Xh8]
end
end Go.Proofs.YtgeeklmjfbiieaaDoor
end
noncomputable section
namespace Go.Proofs.YtgeeklmjfbiieaaDoor
open Go Go.Ab
set_option maxRecDepth 100000
def Bd(st:List (List Int)):Prop:=st.length≤16∧∀ x ∈ st,x.length≤64
theorem Qw2{x:List Int}{st st':List (List Int)}(h:Qjj x st=.ok st')(hb:Bd st)(hx:x.length≤64):Bd st':=by
 unfold Qjj at h
 split at h
 ·rename_i hl
  cases h
  refine⟨by simp;omega,fun y hy => ?_⟩
  rcases List.mem_cons.1 hy with rfl | hy
  ·exact hx
  ·exact hb.2 y hy
 ·cases h
theorem Xlb{x:List Int}{st:List (List Int)}(hb:Bd (x::st)):Bd st∧x.length≤64:=by
 obtain⟨h1,h2⟩:=hb
 simp at h1
 exact⟨⟨by omega,fun y hy=>h2 y (by simp[hy])⟩,h2 x (by simp)⟩
theorem Y0b{A B:Type}{x:Except Int A}{f:A→Except Int B}{y:B}(h:x.bind f=.ok y):∃ z,x=.ok z∧f z=.ok y:=by
 cases x with
 | error e=>cases h
 | ok z=>exact⟨z,rfl,h⟩
theorem Y8j(x:Bool):(Y6f x).length≤64:=by cases x <;> simp[Y6f]
theorem Y85{a:Asks}{code:Int}{data:List Int}{st st':List (List Int)}(h:doF a code data st=.ok st')(hb:Bd st)(hd:data.length≤64):Bd st':=by
 unfold doF at h
 split at h
 ·split at h
  ·obtain⟨p1,p2⟩:=Xlb hb
   obtain⟨z,z1,z2⟩:=Y0b h
   exact Qw2 z2 (Qw2 z1 p1 p2) p2
  ·cases h
 split at h
 ·split at h
  ·cases h;exact(Xlb hb).1
  ·cases h
 split at h
 ·split at h
  ·exact Qw2 h (Xlb hb).1 (by rw[Ytc];omega)
  ·cases h
 split at h
 ·split at h
  ·exact Qw2 h (Xlb (Xlb hb).1).1 (Y8j _)
  ·cases h
 split at h
 ·split at h
  ·split at h
   ·cases h;exact(Xlb hb).1
   ·cases h
  ·cases h
 split at h
 ·split at h
  ·split at h
   ·exact Qw2 h (Xlb (Xlb hb).1).1 (Y8j _)
   ·cases h
  ·cases h
 split at h
 ·split at h
  ·split at h
   ·split at h
    ·cases h;exact(Xlb hb).1
    ·cases h
   ·cases h
  ·cases h
 split at h
 ·split at h
  ·obtain⟨p1,p2⟩:=Xlb hb
   obtain⟨z,z1,z2⟩:=Y0b h
   exact Qw2 z2 (Qw2 z1 p1 p2) (by simp)
  ·cases h
 exact Qw2 h hb hd
theorem Zm8{code:Int}{st st':List (List Int)}{op op':List Br}(h:brF code st op=some (some (st',op')))(hb:Bd st):Bd st'∧op'.length≤op.length+1:=by
 unfold brF at h
 split at h
 ·split at h
  ·cases h;exact⟨hb,by simp⟩
  ·split at h
   ·cases h
   ·cases h;exact⟨(Xlb hb).1,by simp⟩
 ·split at h
  ·split at h
   ·cases h
   ·split at h
    ·cases h;exact⟨hb,by simp;omega⟩
    ·split at h
     ·cases h
     ·cases h;exact⟨hb,by simp⟩
  ·cases h
theorem Y59{a:Asks}{code:Int}{data:List Int}{st st':List (List Int)}{op op':List Br}(h:Qmp a code data st op=.ok (st',op'))(hb:Bd st)(hd:data.length≤64):Bd st'∧op'.length≤op.length+1:=by
 unfold Qmp at h
 split at h
 ·cases h
 ·rename_i p hp
  cases h
  exact Zm8 hp hb
 ·split at h
  ·cases h;exact⟨hb,by omega⟩
  ·cases hq:doF a code data st with
   | error e=>rw[hq]at h;cases h
   | ok st1 =>
    rw[hq]at h
    cases h
    exact⟨Y85 hq hb hd,by omega⟩
theorem Y5b:∀ {l st st':List (List Int)},Xei l st=.ok st'→Bd st→Bd st'
 | [],st,st',h,hb=>by cases h;exact hb
 | x::l,st,st',h,hb=>by
  unfold Xei at h
  split at h
  ·rename_i hx
   obtain⟨z,z1,z2⟩:=Y0b h
   exact Y5b z2 (Qw2 z1 hb hx)
  ·cases h
theorem Bd.nil:Bd []:=⟨by simp,by simp⟩
theorem X76:∀ {f:Nat} {xs:List Int} {l:List (Int × List Int)},Bytes xs→pz f xs=some l→∀ p ∈ l,Bytes p.2
 | f,[],l,_,h=>by cases f <;> (simp[pz]at h;subst h;simp)
 | 0,_::_,l,_,h=>by simp[pz]at h
 | f+1,c::r,l,hb,h=>by
  have hr:Bytes r:=fun z hz=>hb z (by simp[hz])
  simp only[pz]at h
  split at h
  ·rw[Option.map_eq_some_iff]at h
   obtain⟨l',h1,rfl⟩:=h
   intro p hp
   rcases List.mem_cons.1 hp with rfl | hp
   ·exact fun z hz=>hr z (List.mem_of_mem_take hz)
   ·exact X76 (fun z hz=>hr z (List.mem_of_mem_drop hz)) h1 p hp
  ·split at h
   ·cases h
   ·rw[Option.map_eq_some_iff]at h
    obtain⟨l',h1,rfl⟩:=h
    intro p hp
    rcases List.mem_cons.1 hp with rfl | hp
    ·intro z hz;simp at hz
    ·exact X76 hr h1 p hp
end Go.Proofs.YtgeeklmjfbiieaaDoor
end
noncomputable section
namespace Go.Proofs.YtgeeklmjfbiieaaDoor
open Go Go.Ab
set_option maxRecDepth 100000
def dfr(B:Nat):Deferred:={target:=.fn (.func 49) #[.pointer (some ⟨B,0,none⟩)],args:=#[]}
theorem Zq0(b:Nat)(h:Heap)(bk o:Nat):Qih (E b).toEnv 35 (.pointer (some ⟨bk,o,none⟩)) h=V2 h bk o:=Q4v (Zll b) Zk7
theorem Y7v(b:Nat){t:Tr Value}{h:Heap}{B:Nat}{y:Value}{z:Int}{K:AEnd→Heap→Prop}(ht:t.get 6=some (.pointer (some ⟨B,0,none⟩)))(hg:h.get B=some (.cells true 1 [y]))(hk:K (.ret (.int .i64 z)) (h.set B (some (.cells true 1 [.int .i64 z])))) :
  Ykn (E b) (DD b) Qgy K (.panic (pe z)) ⟨⟨59,t⟩,[dfr B],h⟩:=by
 have e1:(E b).fn.get 49=some Qgw:=Qq1 b
 have e2:=Zf8 b z hg
 have e3:settle (.panicking (peR z))=.returning:=by kernel_rfl
 have lt:=Heap.get_lt hg
 have e4:V2 (h.set B (some (.cells true 1 [.int .i64 z]))) B 0=some (.int .i64 z):=(Up (z:=1) (ow:=true) (c:=[.int .i64 z]) (by rw[Heap.get_set _ _ _ _ lt,if_pos rfl])).trans rfl
 show Qwu (E b) (DD b) Qgy K (.panicking (pe z)) ⟨⟨59,t⟩,[dfr B],h⟩
 rw[Q4]
 have e5:Xf (E b) (DD b) Qgy ⟨59,t⟩ [dfr B] (.panicking (pe z)) h=some (.ret (.int .i64 z),h.set B (some (.cells true 1 [.int .i64 z]))):=by
  simp only[Xf,dfr,e1]
  simp[e2,e3,Xf,Z4,Yt,Uz,ht,Zq0,e4]
 rw[e5]
 exact hk
theorem Zir(b:Nat){t:Tr Value}{h:Heap}{B:Nat}{z:Int}{K:AEnd→Heap→Prop}(ht:t.get 6=some (.pointer (some ⟨B,0,none⟩)))(hg:V2 h B 0=some (.int .i64 z))(hk:K (.ret (.int .i64 z)) h) :
  Qwu (E b) (DD b) Qgy K .returning ⟨⟨59,t⟩,[dfr B],h⟩:=by
 have e1:(E b).fn.get 49=some Qgw:=Qq1 b
 have e2:=Zl8 b (h:=h) (B:=B) (y:=.bool true)
 have e3:settle .returning=.returning:=by kernel_rfl
 rw[Q4]
 have e5:Xf (E b) (DD b) Qgy ⟨59,t⟩ [dfr B] .returning h=some (.ret (.int .i64 z),h):=by
  simp only[Xf,dfr,e1]
  simp[e2,e3,Xf,Z4,Yt,Uz,ht,Zq0,hg]
 rw[e5]
 exact hk
abbrev Wo(h:Heap)(e:Menv)(a:Asks):Prop:=Wd h (fun _=>False) e a
theorem Wo.old{h h':Heap}{e:Menv}{a:Asks}(w:Wo h e a)(o:Old h h'):Wo h' e a:=w.mv (Mv.old o)
theorem Wo.mb{h h':Heap}{MB:Nat→Prop}{e:Menv}{a:Asks}(w:Wo h e a)(o:Old h h')(hm:∀ c,MB c→h.next≤c):Wd h' MB e a :=
 w.mv ⟨o.1,fun c hc _=>o.2 c hc,fun c hc => .inr (hm c hc)⟩
theorem Zg4{h:Heap}{n0:Nat}{lv:Value}{os:List OpV}{te ts:TypeId}{re rs:TyRec}{b:Nat}(T:SlTy (E b).toEnv te ts re rs)(hz:re.size=2)(o:Own h n0 2 lv os.length (Q86 os)){i:Nat}{p:OpV}(hp:os[i]? = some p) :
  ∃ bk off,Zn (E b).toEnv ts lv (.int .i64 (i:Int))=some (.pointer (some ⟨bk,off,none⟩))∧Qgi h bk off 2=some (.agg ⟨[.int .i64 p.code,p.val]⟩):=by
 obtain⟨bk,off,h1,h2,h3,h4⟩:=Zgx (b:=b) T hz o hp
 refine⟨bk,off,h2,?_⟩
 unfold V2 at h3 h4
 unfold Qgi
 cases hg:h.get bk with
 | none=>rw[hg]at h3;cases h3
 | some x =>
  cases x with
  | cells ow z c =>
   rw[hg]at h3 h4
   simp only at h3 h4
   have : Qx5 2 (c.drop off)=some [.int .i64 p.code,p.val]:=by
    have l1:off < c.length:=(List.getElem?_eq_some_iff.1 h3).1
    have l2:off+1 < c.length:=(List.getElem?_eq_some_iff.1 h4).1
    rw[List.drop_eq_getElem_cons l1,List.drop_eq_getElem_cons l2]
    rw[List.getElem?_eq_getElem l1]at h3
    rw[List.getElem?_eq_getElem l2]at h4
    rw[Option.some.inj h3,Option.some.inj h4]
    simp[Qx5]
   simp only[this]
   rfl
  | _=>rw[hg]at h3;cases h3
def RLI(a:Asks)(l:List (Int × List Int))(st0:List (List Int))(lv:Value)(os:List OpV)(e:Menv)(hq:Heap)(B μ:Nat)(k:Nat)(s:St):Prop:=∃ (t:Tr Value) (h1:Heap) (MB:Nat→Prop) (ps:List (Value × List Int)) (op:List Br) (i:Nat),s=⟨⟨59,t⟩,[dfr B],h1⟩∧t.get 6=some (.pointer (some ⟨B,0,none⟩))∧t.get 9=some (.pointer (some ⟨μ,0,none⟩))∧t.get 25=some lv∧t.get 26=some (.int .i64 (os.length:Int))∧t.get 27=some (.int .i64 (i:Int))∧i≤os.length∧k=os.length-i ∧
 Mach h1 MB μ e ps op∧Old hq h1∧(∀ c,MB c→hq.next≤c)∧Bd (ps.map (·.2))∧op.length≤i∧Qp4 a l st0 []=Qp4 a (l.drop i) (ps.map (·.2)) op
theorem Mv.oldq{MB MB':Nat→Prop}{hq h h':Heap}(a:Old hq h)(hm:∀ c,MB c→hq.next≤c)(m:Mv MB MB' h h'):Old hq h'∧∀ c,MB' c→hq.next≤c :=
 ⟨⟨Nat.le_trans a.1 m.next,fun c hc=>by rw[m.same c (Nat.lt_of_lt_of_le hc a.1) (fun q=>by have:=hm c q;omega),a.2 c hc]⟩,fun c hc=>by
  rcases m.sub c hc with q | q
  ·exact hm c q
  ·exact Nat.le_trans a.1 q⟩
section
attribute [local simp] U3 Uz Z6 Jk Wp X2 Qs2 Jv Qpd Xw Q7r Qhv Qi1 Qi8 Qv Yi Vt Qb1 Qb5 Y4 Qaz Vr V4 Qai Z8 Xd U6 Vs Ve Qii Xp Xm Xk Xt Qt X0 Xn X8 Qx Xo Z4 Yt aop Qg nth Ab.g0 gv gs Q7 Qd aev evs evO Qi Tr.get_put St.put Tm.put flat flatA Yu Qp Qo Qm Qq Ql Qn Qk X3 Qj Q5 Q6 Qu Xj Xa Qz Qh X9 Qy Qr Yh Zb Yg Xv Xs.putAll X7 Qc Q2 Q1 Qa Qb Q9 Q0 Q3 Q8
set_option maxHeartbeats 1000000 in
theorem Yni(b:Nat){h:Heap}{v sv:Value}{xs:List Int}{items:List (Value × List Int)}{e:Menv}{a:Asks}(s:SB h v xs)(hb:Bytes xs)(ss:Sl h 1 sv items.length (items.map (·.1)))(hn:items.length < 1000000)(its:ItsAt h items)(wo:Wo h e a)(K:AEnd→Heap→Prop)
  (hk:∀ h',Old h h'→K (.ret (.int .i64 (Xso a xs (items.map (·.2))))) h'):CallOK Tryd.prog (E b).G 18 [v,sv,.agg ⟨e.cells⟩] h K:=by
 refine Qnt (E b) (Qc2 _ _) (Qa1 b) (Vj b) Wf (Qa5 b) (Z6 b) Yay Yz1 Yrx rfl ?_
 obtain⟨hA,eA⟩:∃ hA,hA=h.push (.cells true 1 e.cells):=⟨_,rfl⟩
 obtain⟨hB,eB⟩:∃ hB,hB=hA.push (.cells true 1 [.int .i64 0]):=⟨_,rfl⟩
 have aA:Old h hA:=by rw[eA];exact Old.push _ _
 have aB:Old hA hB:=by rw[eB];exact Old.push _ _
 have aAB:=aA.trans aB
 have nA:hA.next=h.next+1:=by rw[eA];rfl
 have gA:hA.get h.next=some (.cells true 1 e.cells):=by rw[eA,Heap.get_push,if_pos rfl]
 have gB:hB.get hA.next=some (.cells true 1 [.int .i64 0]):=by rw[eB,Heap.get_push,if_pos rfl]
 have bxA:X7w (.agg ⟨e.cells⟩) h=some (.pointer (some ⟨h.next,0,none⟩),hA):=by rw[eA];rfl
 have alB:Qe4 (E b).toEnv 35 hA=some (.pointer (some ⟨hA.next,0,none⟩),hB):=by rw[eB];exact Q2q b hA
 have die:∀ (t:Tr Value) (h1:Heap) (z:Int),t.get 6=some (.pointer (some ⟨hA.next,0,none⟩))→Old hB h1→Xso a xs (items.map (·.2))=z→Ykn (E b) (DD b) Qgy K (.panic (pe z)) ⟨⟨59,t⟩,[dfr hA.next],h1⟩:=by
  intro t h1 z ht ho hz
  have g1:=ho.get gB
  refine Y7v b ht g1 ?_
  rw[← hz]
  refine hk _ ((aAB.trans ho).set _ (by omega) (Heap.get_lt g1))
 simp[Q2q,Q4,Xf,bxA,-Q2q,alB,X0w]
 refine(Zey b (s.old aAB) hb _ (fun hno h3 a3 => ?_) (fun l g1 g2 g3 lv os h3 q3 os3 a3 => ?_)).ok
 ·simp[Q2q,Q4,Xf]
  refine(Q15 b h3 16 _ ?_).ok
  simp[Q2q,Q4,Xf]
  refine die _ h3 16 (by simp) a3 ?_
  rcases hno with q | q | ⟨l',q,q'⟩
  ·simp[Xso,q]
  ·unfold Xso
   split
   ·rfl
   ·rw[q]
  ·unfold Xso
   split
   ·rfl
   ·rw[q]
    simp only
    rw[if_pos q']
 ·have hF:Xso a xs (items.map (·.2))=Zgw a l (items.map (·.2)):=by
   unfold Xso
   rw[if_neg (by omega),g2]
   simp only
   rw[if_neg (by omega)]
  have ldA:Qgi h3 h.next 0 34=some (.agg ⟨e.cells⟩):=by rw[Qan ((aB.trans a3).get gA) (by rw[e.len];omega),List.drop_zero,List.take_of_length_le (by rw[e.len];exact Nat.le_refl _)]
  simp[Q2q,Q4,Xf]
  refine(Xam b h3 0 _ ?_).ok
  simp[Q2q,Q4,Xf,ldA]
  refine(Zeo b (ss.old (aAB.trans a3)) hn (its.old (aAB.trans a3)) _ (fun h4 μ MB ps p1 M4 a4 hmb => ?_) (fun p1 h4 a4 => ?_)).ok
  ·have hF1:Xso a xs (items.map (·.2))=Yop (Qp4 a l (ps.map (·.2)) []):=by
    rw[hF]
    unfold Zgw
    rw[p1]
   have e1:∀ h,Qkb (E b).toEnv 67 lv h=some (.int .i64 (os.length:Int)):=fun h=>Qdf (T67 b) os3.row.sl
   have hos:os.length≤64:=by rw[← Xk2 os,q3];exact g3
   simp[Q2q,Q4,Xf,e1]
   refine Qfy (RLI a l (ps.map (·.2)) lv os e h3 hA.next μ) os.length ⟨_,h4,MB,ps,[],0,rfl,?_,?_,?_,?_,?_,by omega,rfl,M4,a4,hmb,Y5b p1 Bd.nil,by simp,by simp⟩ ?_
   ·simp
   ·simp
   ·simp
   ·simp
   ·simp
   rintro k s' ⟨t,h5,MB5,ps5,op5,i,rfl,t6,t9,t25,t26,t27,hi,rfl,M5,a5,hm5,bd5,ol5,hS⟩ _
   have w5:Wd h5 MB5 e a:=(wo.old (aAB.trans a3)).mb a5 hm5
   by_cases hlt:i < os.length
   ·have hlt':(i:Int) < (os.length:Int):=by omega
    obtain⟨p,hpi⟩:∃ p,os[i]? = some p:=⟨_,List.getElem?_eq_getElem hlt⟩
    have hli:l[i]? = some (p.code,p.data):=by
     rw[← q3,Qnb,List.getElem?_map,hpi]
     rfl
    have hld:l.drop i=(p.code,p.data)::l.drop (i+1):=by
     obtain⟨hl1,hl2⟩:=List.getElem?_eq_some_iff.1 hli
     rw[List.drop_eq_getElem_cons hl1,hl2]
    have hdl:p.data.length≤64:=Yrv g2 (p.code,p.data) (List.mem_of_getElem? hli)
    have od:=(os3.old a5).data p (List.mem_of_getElem? hpi)
    obtain⟨bk,off,x1,x2⟩:=Zg4 (b:=b) (T67 b) Qsl (os3.old a5).row hpi
    have hw:IntKind.i64.wrap ((i:Int)+1)=((i+1:Nat):Int):=by rw[Ug (by omega) (by omega)];omega
    obtain⟨h6,e6⟩:∃ h6,h6=(h5.push (.cells true 1 [.int .i64 0,.slice none 0 0])).set h5.next (some (.cells true 1 [.int .i64 p.code,p.val])):=⟨_,rfl⟩
    have g5:(h5.push (.cells true 1 [.int .i64 0,.slice none 0 0])).get h5.next=some (.cells true 1 [.int .i64 0,.slice none 0 0]):=by rw[Heap.get_push,if_pos rfl]
    have lt5:=Heap.get_lt g5
    have st5:Wg (h5.push (.cells true 1 [.int .i64 0,.slice none 0 0])) h5.next 0 [.int .i64 p.code,p.val]=some h6:=by
     rw[Qd2 g5 (by simp),e6]
     rfl
    have a56:Old h5 h6:=by rw[e6];exact(Old.push _ _).set _ (Nat.le_refl _) lt5
    have g6:h6.get h5.next=some (.cells true 1 [.int .i64 p.code,p.val]):=by rw[e6,Heap.get_set _ _ _ _ lt5,if_pos rfl]
    have ld6:Qgi h6 h5.next 0 2=some (.agg ⟨[.int .i64 p.code,p.val]⟩):=by
     rw[Qan g6 (by simp)]
     rfl
    have dat:Bytes p.data:=X76 hb g2 (p.code,p.data) (List.mem_of_getElem? hli)
    have id:Itm h6 MB5 p.val p.data:=⟨(od.sl.old a56),dat,fun c hc hm=>by
     have:=(os3.data p (List.mem_of_getElem? hpi)).out hc
     have:=hm5 c hm
     omega⟩
    have A6:At h6 MB5 μ e a ps5 op5 p.val p.data:=⟨M5.old a56,w5.old a56,id,by simpa using bd5.1,by omega,fun q hq=>bd5.2 q.2 (List.mem_map.2 ⟨q,hq,rfl⟩)⟩
    rw[hld]at hS
    simp[Q2q,Q4,Xf,t6,t9,t25,t26,t27,hlt',x1,x2,st5,ld6]
    refine Zjm b A6 _ (fun st' op' q h7 m => ?_) (fun z q h7 m => ?_)
    ·obtain⟨ps7,MB7,rfl,M7,m7⟩:=m
     obtain⟨a7,hm7⟩:=Mv.oldq (a5.trans a56) hm5 m7
     obtain⟨bd7,ol7⟩:=Y59 q bd5 hdl
     simp[Q2q,Q4,Xf,t6,t9,t25,t26,t27,hw]
     refine⟨os.length-(i+1),by omega,_,h7,MB7,ps7,op',i+1,rfl,by simp[t6],by simp[t9],by simp[t25],by simp[t26],by simp,by omega,rfl,M7,a7,hm7,bd7,by omega,?_⟩
     rw[hS]
     simp only[Qp4,q,Except.bind]
    ·obtain⟨MB7,m7⟩:=m
     obtain⟨a7,hm7⟩:=Mv.oldq (a5.trans a56) hm5 m7
     simp[Q2q,Q4,Xf,t6,t9,t25,t26,t27]
     refine die _ h7 z (by simp[t6]) (a3.trans a7) ?_
     rw[hF1,hS]
     simp only[Qp4,q,Except.bind,Yop]
   ·have hlt':¬ (i:Int) < (os.length:Int):=by omega
    have hie:i=l.length:=by
     have : l.length=os.length:=by rw[← q3,Xk2]
     omega
    rw[hie,List.drop_length]at hS
    simp only[Qp4]at hS
    have hF2:Xso a xs (items.map (·.2))=if op5.length=0∧ps5.length=1∧isT ((ps5.map (·.2)).getD 0 [])=true then 0 else 16:=by
     rw[hF1,hS]
     simp only[Yop,List.length_map]
    have g5:=(a3.trans a5).get gB
    have lt5:=Heap.get_lt g5
    obtain⟨⟨sv5,ov5,z5,r⟩,its5,low5⟩:=M5
    have c35:=r.c35
    have c34:=r.c34
    have lo:∀ hx,Qkb (E b).toEnv 105 ov5 hx=some (.int .i64 (op5.length:Int)):=fun hx=>Qdf (Zcd b) r.op.sl
    have ls:∀ hx,Qkb (E b).toEnv 43 sv5 hx=some (.int .i64 (ps5.length:Int)):=fun hx=>Qdf (T43 b) r.st.sl
    by_cases ho:op5.length=0
    ·rw[ho]at lo
     have lo':∀ hx,Qkb (E b).toEnv 105 ov5 hx=some (.int .i64 0):=lo
     by_cases hp1:ps5.length=1
     ·rw[hp1]at ls
      have ls':∀ hx,Qkb (E b).toEnv 43 sv5 hx=some (.int .i64 1):=ls
      obtain⟨⟨v1,x1⟩,rfl⟩:∃ q,ps5=[q]:=by
       match ps5,hp1 with
       | [q],_=>exact⟨q,rfl⟩
      obtain⟨bk,o,y1,y2,y3, -⟩:=Xfu (T43 b) Qdj r.st.sl (k:=.i64) (i:=0) (by omega) (by simp)
      have y4:V2 h5 bk o=some v1:=by
       have:=y3 0 (by omega)
       simpa using this
      have i1:Itm h5 MB5 v1 x1:=its5 (v1,x1) (by simp)
      have lx:x1.length≤64:=bd5.2 x1 (by simp)
      simp only[List.map_cons,List.map_nil,List.getD_cons_zero,List.length_cons,List.length_nil,ho]at hF2
      simp[Q2q,Q4,Xf,t6,t9,t25,t26,t27,hlt',Qax,c35,c34,lo',ls',y2,y4]
      refine(X9s b i1.sb (by omega) _ fun h6 a6 => ?_).ok
      cases ht:isT x1 with
      | true =>
       have g6:=a6.get g5
       have lt6:=Heap.get_lt g6
       have st6:Wg h6 hA.next 0 [.int .i64 0]=some (h6.set hA.next (some (.cells true 1 [.int .i64 0]))):=Qbz g6 (by simp)
       simp[Q2q,Q4,Xf,-Q4,-Xf]
       refine(Xam b h6 16 _ ?_).ok
       simp[Q2q,Q4,Xf,-Q4,-Xf,t6,st6]
       refine Zir b (B:=hA.next) (z:=0) (by simp[t6]) ?_ ?_
       ·exact(Up (z:=1) (ow:=true) (c:=[.int .i64 0]) (by rw[Heap.get_set _ _ _ _ lt6,if_pos rfl])).trans rfl
       ·rw[ht]at hF2
        simp at hF2
        rw[← hF2]
        exact hk _ (((aAB.trans a3).trans (a5.trans a6)).set _ (by omega) lt6)
      | false =>
       simp[Q2q,Q4,Xf]
       refine(Q15 b h6 16 _ ?_).ok
       simp[Q2q,Q4,Xf]
       refine die _ h6 16 (by simp[t6]) (a3.trans (a5.trans a6)) ?_
       rw[hF2,ht]
       simp
     ·have hp1':¬ (ps5.length:Int)=1:=by omega
      simp[Q2q,Q4,Xf,t6,t9,t25,t26,t27,hlt',Qax,c35,c34,lo',ls,hp1']
      refine(Q15 b h5 16 _ ?_).ok
      simp[Q2q,Q4,Xf]
      exact die _ h5 16 (by simp[t6]) (a3.trans a5) (by rw[hF2,if_neg (fun q=>hp1 q.2.1)])
    ·have ho':¬ (op5.length:Int)=0:=by omega
     simp[Q2q,Q4,Xf,t6,t9,t25,t26,t27,hlt',Qax,c35,c34,lo,ho,ho']
     refine(Q15 b h5 16 _ ?_).ok
     simp[Q2q,Q4,Xf]
     exact die _ h5 16 (by simp[t6]) (a3.trans a5) (by rw[hF2,if_neg (fun q=>ho q.1)])
  ·simp[Q2q,Q4,Xf]
   exact die _ h4 16 (by simp) (a3.trans a4) (by rw[hF];unfold Zgw;rw[p1])
end
end Go.Proofs.YtgeeklmjfbiieaaDoor
end
noncomputable section
namespace Go.Proofs.YtgeeklmjfbiieaaDoor
open Go Go.Ab
set_option maxRecDepth 100000
theorem Qso(k l:List Nat):(Bl.keyed k l).length=32:=by
 unfold Bl.keyed
 split <;> exact Qj0 _
theorem Xij(seed:List Nat):∀ n i,(Qbu seed n i).length=n*32
 | 0,_=>rfl
 | n+1,i=>by simp only[Qbu,List.length_append,Qso,Xij seed n];omega
theorem Yna{h:Heap}(l:Ab.LaidIn h laidAll):Ab.LaidIn h Qge:=fun x hx=>l x (by
 simp only[Qge,laidAll,List.mem_cons,List.not_mem_nil,or_false]at hx ⊢
 rcases hx with rfl | rfl <;> simp)
end Go.Proofs.YtgeeklmjfbiieaaDoor
end
noncomputable section
namespace Go.Proofs.YtgeeklmjfbiieaaDoor
open Go Go.Ab
set_option maxRecDepth 100000
theorem Zcc(l:List Nat):Xm5 (Xsn l)=l:=by
 rw[Xm5,Xsn,List.map_map]
 exact(List.map_congr_left fun n _=>rfl).trans (List.map_id l)
end Go.Proofs.YtgeeklmjfbiieaaDoor
end
noncomputable section
namespace Go.Proofs.YtgeeklmjfbiieaaDoor
open Go Go.Ab
set_option maxRecDepth 100000
theorem SB.push{h:Heap}{xs:List Int}(hl:xs.length < 1000000):SB (h.push (.cells true 1 (xs.map i8))) (.slice (some ⟨h.next,0,none⟩) xs.length xs.length) xs :=
 (Own.new (n0:=0) (Nat.zero_le _) (by rw[Heap.get_push,if_pos rfl]) (by simp) (by unfold Qfv;omega) (.inr rfl)).sl
theorem Yoa(b:Nat)(h:Heap)(v:Value)(hv:Yhp v=true):Jp (E b).toEnv 43 1 [(0,v)] h=some (.slice (some ⟨h.next,0,none⟩) 1 1,h.push (.cells true 1 [v]))∧Sl (h.push (.cells true 1 [v])) 1 (.slice (some ⟨h.next,0,none⟩) 1 1) 1 [v]:=by
 obtain⟨hnt,hcl⟩:=Qrn hv
 refine⟨Q4t (T43 b) (z:=1) Qdj (by omega) (by omega) hnt (ys:=[v]) (by rw[hcl]) rfl,?_⟩
 exact(Own.new (n0:=0) (z:=1) (Nat.zero_le _) (by rw[Heap.get_push,if_pos rfl]) rfl (by decide) (.inr rfl)).sl
theorem Zgl{h:Heap}{B:Nat}{ow:Bool}{z:Nat}{l:List Nat}(hg:h.get B=some (.cells ow z (l.map u8v)))(hl:l.length < 1000000):SB h (.slice (some ⟨B,0,none⟩) l.length l.length) (Xsn l):=by
 have e:(Xsn l).length=l.length:=by simp[Xsn]
 rw[SB,e,← Ymr]
 exact .inr ⟨B,0,l.length,ow,z,[],[],rfl,by simpa using hg,rfl,by simp,Nat.le_refl _,by unfold Qfv;omega,fun q=>by unfold Qfv at q;omega⟩
end Go.Proofs.YtgeeklmjfbiieaaDoor
end
noncomputable section
namespace Go.Proofs.YtgeeklmjfbiieaaDoor
open Go Go.Ab
set_option maxRecDepth 100000
end Go.Proofs.YtgeeklmjfbiieaaDoor
end
noncomputable section
namespace Go.Proofs.YtgeeklmjfbiieaaDoor
open Go Go.Ab
set_option maxRecDepth 100000
def Zgg(z:Int):Int:=if 1099511627776 < z then 1099511627776 else z
def Zbf:List (List Int)→Int→Int
 | [],n=>n
 | x::l,n=>Zbf l (Zgg (n+x.length+1))
theorem Y04{z:Int}(h:0≤z):0≤Zgg z∧Zgg z≤1099511627776:=by unfold Zgg;split <;> omega
theorem Y42:∀ {l:List (List Int)} {n:Int},0≤n→Zbf l n≤4096→n+l.length≤4096∧∀ x ∈ l,n+x.length≤4096
 | [],n,h0,h=>by simp[Zbf]at h ⊢;exact h
 | x::l,n,h0,h=>by
  simp only[Zbf]at h
  obtain⟨h1,h2⟩:=Y42 (Y04 (by omega)).1 h
  have h3:Zgg (n+x.length+1)=n+x.length+1:=by
   unfold Zgg at h1 ⊢
   split
   ·rename_i q;rw[if_pos q]at h1;omega
   ·rfl
  rw[h3]at h1 h2
  refine⟨by simp;omega,fun y hy => ?_⟩
  rcases List.mem_cons.1 hy with rfl | hy
  ·omega
  ·have:=h2 y hy;omega
def ALI(sv:Value)(items:List (Value × List Int))(h:Heap)(k:Nat)(s:St):Prop:=∃ (t:Tr Value) (i:Nat) (n:Int),s=⟨⟨21,t⟩,[],h⟩∧t.get 0=some sv∧t.get 3=some (.int .i64 n)∧t.get 4=some (.int .i64 (i:Int))∧i≤items.length∧k=items.length-i∧0≤n∧n≤1099511627776∧Zbf (items.map (·.2)) 0=Zbf ((items.drop i).map (·.2)) n
section
attribute [local simp] Q18 Xzg Qmx Xj6 V4 Xw Xlg Qai Z8 Yj Yi Q6i Xp Xm Xk Xt Qt X0 Xn X8 Qx Xo Q4 Xf Z4 Yt aop Qg nth Ab.g0 gv gs Q7 Qd aev evs evO Qi Tr.get_put St.put Tm.put flat flatA Yu Qp Qo Qm Qq Ql Qn Qk X3 Qj Q5 Q6 Qu Xj Xa Qz Qh X9 Qy Qr Yh Zb Yg Xv Xs.putAll X7 Qc Q2 Q1 Qa Qb Q9 Q0 Q3 Q8
theorem Zne(b:Nat){h:Heap}{sv:Value}{items:List (Value × List Int)}(ss:Sl h 1 sv items.length (items.map (·.1)))(hn:items.length≤0x7ffffffff000)(its:ItsAt h items)(hl:∀ p ∈ items,p.2.length≤0x7ffffffff000)(K:AEnd→Heap→Prop)(hk:K (.ret (.int .i64 (Zbf (items.map (·.2)) 0))) h):FnK Tryd.prog (E b).G 25 [sv] h K:=by
 refine Ur (E b) (Qa1 b) (Vj b) Wf (Qa5 b) (Us b) (Qmx b) Yui Zbm Y66 rfl ?_
 have lenS:∀ hx,Qkb (E b).toEnv 43 sv hx=some (.int .i64 (items.length:Int)):=fun hx=>Qdf (T43 b) ss
 simp
 refine Qfy (ALI sv items h) items.length ⟨_,0,0,rfl,by simp,by simp,by simp,by omega,rfl,by omega,by omega,by simp⟩ ?_
 rintro k s' ⟨t,i,n,rfl,t0,t3,t4,hi,rfl,n0,n1,hF⟩ _
 by_cases hlt:i < items.length
 ·have hlt':(i:Int) < (items.length:Int):=by omega
  obtain⟨⟨v,x⟩,hpi⟩:∃ p,items[i]? = some p:=⟨_,List.getElem?_eq_getElem hlt⟩
  have hd:items.drop i=(v,x)::items.drop (i+1):=by
   rw[List.drop_eq_getElem_cons hlt]
   rw[List.getElem?_eq_getElem hlt]at hpi
   rw[Option.some.inj hpi]
  obtain⟨bk,off,q1,q2,q3, -⟩:=Xfu (T43 b) Qdj ss (k:=.i64) (i:=(i:Int)) (by omega) (by omega)
  have q4:V2 h bk off=some v:=by
   have:=q3 0 (by omega)
   simpa[hpi]using this
  obtain⟨sx,bx⟩:=its (v,x) (List.mem_of_getElem? hpi)
  have lx:=hl (v,x) (List.mem_of_getElem? hpi)
  simp only at lx
  have len:=fun hx=>Qcp (b:=b) (h1:=hx) sx
  have hw:IntKind.i64.wrap ((i:Int)+1)=((i+1:Nat):Int):=by rw[Ug (by omega) (by omega)];omega
  have w1:IntKind.i64.wrap (n+(x.length:Int))=n+(x.length:Int):=Ug (by omega) (by omega)
  have w2:IntKind.i64.wrap (n+(x.length:Int)+1)=n+(x.length:Int)+1:=Ug (by omega) (by omega)
  rw[hd]at hF
  simp[t0,t3,t4,lenS,hlt',q2,q4,len,w1,w2,hw,Y4l]
  refine⟨items.length-(i+1),by omega,_,i+1,Zgg (n+x.length+1),rfl,by simp[t0],by simp[Zgg],by simp,by omega,rfl,(Y04 (by omega)).1,(Y04 (by omega)).2,?_⟩
  rw[hF]
  simp only[List.map_cons,Zbf]
 ·have hlt':¬ (i:Int) < (items.length:Int):=by omega
  have : i=items.length:=by omega
  subst this
  simp[t0,t3,t4,lenS]
  rw[List.drop_length]at hF
  simp only[List.map_nil,Zbf]at hF
  rw[hF]at hk
  exact hk
end
def CNI(sv:Value)(items:List (Value × List Int))(h:Heap)(k:Nat)(s:St):Prop:=∃ (t:Tr Value) (h1:Heap) (o:Value) (i:Nat) (out:List (Value × List Int)),s=⟨⟨20,t⟩,[],h1⟩∧t.get 0=some sv∧t.get 3=some o∧t.get 4=some (.int .i64 (i:Int))∧i≤items.length∧k=items.length-i∧Own h1 h.next 1 o i (out.map (·.1))∧out.map (·.2)=(items.take i).map (·.2)∧(∀ p ∈ out,OB h1 h.next p.1 p.2∧Bytes p.2∧(∀ c,U7 p.1=some c→U7 o≠some c))∧Old h h1
section
attribute [local simp] Qh3 Qmy Yr Qka V4 Xw Qai Z8 Jg Yi Xp Xm Xk Xt Qt X0 Xn X8 Qx Xo Q4 Xf Z4 Yt aop Qg nth Ab.g0 gv gs Q7 Qd aev evs evO Qi Tr.get_put St.put Tm.put flat flatA Yu Qp Qo Qm Qq Ql Qn Qk X3 Qj Q5 Q6 Qu Xj Xa Qz Qh X9 Qy Qr Yh Zb Yg Xv Xs.putAll X7 Qc Q2 Q1 Qa Qb Q9 Q0 Q3 Q8
theorem Xyj(b:Nat){h:Heap}{sv:Value}{items:List (Value × List Int)}(ss:Sl h 1 sv items.length (items.map (·.1)))(hn:items.length≤1000000)(its:ItsAt h items)(hl:∀ p ∈ items,p.2.length < 1000000000)(K:AEnd→Heap→Prop)
  (hk:∀ o out h',Own h' h.next 1 o items.length (out.map (·.1))→out.map (·.2)=items.map (·.2)→ItsAt h' out→(∀ p ∈ out,∀ c,U7 p.1=some c→h.next≤c∧U7 o≠some c)→Old h h'→K (.ret o) h'):FnK Tryd.prog (E b).G 28 [sv] h K:=by
 refine Ur (E b) (Qa1 b) (Vj b) Wf (Qa5 b) (Us b) (Yr b) Xsg X2k X07 rfl ?_
 have lenS:∀ hx,Qkb (E b).toEnv 43 sv hx=some (.int .i64 (items.length:Int)):=fun hx=>Qdf (T43 b) ss
 simp
 refine Qfy (CNI sv items h) items.length ⟨_,h,.slice none 0 0,0,[],rfl,by simp,by simp,by simp,by omega,rfl,Own.nil,by simp,by simp,Old.refl _⟩ ?_
 rintro k s' ⟨t,h1,o,i,out,rfl,t0,t3,t4,hi,rfl,ho,hout,hits,hold⟩ _
 have s1:=ss.old hold
 by_cases hlt:i < items.length
 ·have hlt':(i:Int) < (items.length:Int):=by omega
  obtain⟨⟨v,x⟩,hpi⟩:∃ p,items[i]? = some p:=⟨_,List.getElem?_eq_getElem hlt⟩
  obtain⟨bk,off,q1,q2,q3, -⟩:=Xfu (T43 b) Qdj s1 (k:=.i64) (i:=(i:Int)) (by omega) (by omega)
  have q4:V2 h1 bk off=some v:=by
   have:=q3 0 (by omega)
   simpa[hpi]using this
  obtain⟨sx,bx⟩:=its (v,x) (List.mem_of_getElem? hpi)
  have lx:=hl (v,x) (List.mem_of_getElem? hpi)
  have hw:IntKind.i64.wrap ((i:Int)+1)=((i+1:Nat):Int):=by rw[Ug (by omega) (by omega)];omega
  simp[t0,t3,t4,lenS,hlt',q2,q4]
  refine Xj8 b (sx.old hold) lx _ fun v2 h2 o2 a2 => ?_
  obtain⟨o',h3,k1,k2,k3,k4⟩:=Qns (T43 b) Qdj (by omega) (ho.keep fun c _ hc=>a2.2 c hc) (Nat.le_trans hold.1 a2.1) (ys:=[v2]) rfl (by rw[Xve];omega) (by omega)
  obtain⟨bl, -⟩:=Yoa b h2 v2 o2.one
  have nb:∀ c,U7 v2=some c→U7 o≠some c:=fun c hc e=>by have:=(o2.from hc).1;have:=ho.out e;omega
  have far:∀ c,U7 v2=some c→c < h2.next:=fun c hc=>o2.out hc
  simp[t0,t3,t4,bl,k1,hw]
  refine⟨items.length-(i+1),by omega,_,h3,o',i+1,out ++ [(v2,x)],rfl,by simp[t0],by simp,by simp,by omega,rfl,by simpa using k2,?_,fun p hp => ?_,k3.old (hold.trans a2) (ho.keep fun c _ hc=>a2.2 c hc)⟩
  ·rw[List.take_succ,hpi]
   simp[hout]
  ·rcases List.mem_append.1 hp with hp | hp
   ·obtain⟨g1,g2,g3⟩:=hits p hp
    refine⟨(g1.keep fun c _ hc=>a2.2 c hc).keep fun c hc hlt3=>k3.2 c hlt3 (g3 c hc),g2,fun c hc e => ?_⟩
    rcases k4 c e with q | q
    ·exact g3 c hc q
    ·have:=g1.out hc;have:=a2.1;omega
   ·rw[List.mem_singleton.1 hp]
    refine⟨(o2.low hold.1).keep fun c hc hlt3=>k3.2 c hlt3 (nb c hc),bx,fun c hc e => ?_⟩
    rcases k4 c e with q | q
    ·exact nb c hc q
    ·have:=far c hc;omega
 ·have hlt':¬ (i:Int) < (items.length:Int):=by omega
  have : i=items.length:=by omega
  subst this
  simp[t0,t3,t4,lenS]
  rw[List.take_of_length_le (Nat.le_refl _)]at hout
  exact hk o out h1 ho hout (fun p hp=>⟨(hits p hp).1.sl,(hits p hp).2.1⟩) (fun p hp c hc=>⟨((hits p hp).1.from hc).1,(hits p hp).2.2 c hc⟩) hold
end
theorem Zml{b:Nat}{te ts:TypeId}{re rs:TyRec}(T:SlTy (E b).toEnv te ts re rs){h:Heap}{n0 z n:Nat}{v:Value}{xs:List Value}(hz:re.size=z)(o:Own h n0 z v n xs){k:IntKind}{i:Int}(h0:0≤i)(h1:i < n) :
  ∃ bk,U7 v=some bk∧Zn (E b).toEnv ts v (.int k i)=some (.pointer (some ⟨bk,i.toNat*z,none⟩))∧∀ j,i.toNat*z+j < xs.length→V2 h bk (i.toNat*z+j)=xs[i.toNat*z+j]? := by
 rcases o with⟨rfl,rfl,rfl⟩ | ⟨bk,c,z',rest,rfl,g1,g2,g3,g4,g5⟩
 ·omega
 ·refine⟨bk,rfl,?_,fun j hj => ?_⟩
  ·rw[Qhi T hz ⟨h0,h1⟩,Nat.zero_add]
  ·rw[Up g2,List.getElem?_append_left hj]
end Go.Proofs.YtgeeklmjfbiieaaDoor
end
noncomputable section
namespace Go.Proofs.YtgeeklmjfbiieaaDoor
open Go Go.Ab
set_option maxRecDepth 100000
end Go.Proofs.YtgeeklmjfbiieaaDoor
end
noncomputable section
namespace Go.Proofs.YtgeeklmjfbiieaaDoor
open Go Go.Ab
open Go.ChangeShapes Go.WideShapes Go.RowKit
set_option maxRecDepth 1000000
abbrev ByQ:Heap→List Value→Prop:=SlQ 1 (fun _ cs=>IntsOf [.u8] cs)
theorem Yun:∀ {rows:List (List Value)},(∀ r ∈ rows,IntsOf [.u8] r)→∃ xs:List Int,rows.flatten=xs.map i8∧xs.length=rows.length∧Bytes xs
 | [],_=>⟨[],rfl,rfl,by intro z hz;cases hz⟩
 | r::rows,h=>by
  obtain⟨n,r',rfl,hw,hr'⟩:=h r (by simp)
  have : r'=[]:=hr'
  subst this
  obtain⟨xs,h1,h2,h3⟩:=Yun (rows:=rows) fun q hq=>h q (by simp[hq])
  refine⟨n::xs,by simp[h1,i8],by simp[h2],fun z hz => ?_⟩
  rcases List.mem_cons.1 hz with rfl | hz
  ·exact Zn6 hw
  ·exact h3 z hz
theorem Zit{h:Heap}{v:Value}(q:ByQ h [v]):∃ xs,SB h v xs∧Bytes xs∧xs.length≤reachBytes:=by
 obtain⟨v',rows,e,s,hb,hr⟩:=q
 obtain rfl:v=v':=by simpa using e
 obtain⟨xs,h1,h2,h3⟩:=Yun fun r hm=>(hr r hm).1
 refine⟨xs,?_,h3,by rw[h2];exact hb⟩
 rw[SB,h2,← h1]
 exact s
theorem Y5d{h:Heap}:∀ {rows:List (List Value)},(∀ r ∈ rows,ByQ h r∧r.length=1)→∃ items:List (Value × List Int),rows.flatten=items.map (·.1)∧items.length=rows.length∧ItsAt h items∧∀ p ∈ items,p.2.length≤reachBytes
 | [],_=>⟨[],rfl,rfl,(fun p hp=>by cases hp),by simp⟩
 | r::rows,hr=>by
  obtain⟨q,hl⟩:=hr r (by simp)
  obtain⟨v,rfl⟩:∃ v,r=[v]:=by
   match r,hl with
   | [v],_=>exact⟨v,rfl⟩
  obtain⟨xs,s,b,lx⟩:=Zit q
  obtain⟨items,h1,h2,h3,h4⟩:=Y5d (rows:=rows) fun r hm=>hr r (by simp[hm])
  refine⟨(v,xs)::items,by simp[h1],by simp[h2],fun p hp => ?_,fun p hp => ?_⟩
  ·rcases List.mem_cons.1 hp with rfl | hp
   ·exact⟨s,b⟩
   ·exact h3 p hp
  ·rcases List.mem_cons.1 hp with rfl | hp
   ·exact lx
   ·exact h4 p hp
theorem Zdq{h:Heap}{v:Value}(q:SlQ 1 ByQ h [v]):∃ items:List (Value × List Int),Sl h 1 v items.length (items.map (·.1))∧items.length≤reachBytes∧ItsAt h items∧∀ p ∈ items,p.2.length≤reachBytes:=by
 obtain⟨v',rows,e,s,hb,hr⟩:=q
 obtain rfl:v=v':=by simpa using e
 obtain⟨items,h1,h2,h3,h4⟩:=Y5d hr
 refine⟨items,?_,by rw[h2];exact hb,h3,h4⟩
 rw[h2,← h1]
 exact s
section
variable{H:Type}{enc:TypeId × Value→H}{W:World}
theorem Xyf:Ze7 enc Tryd.prog ⟨nv,W.heap.size⟩ W 47 ByQ:=Ynv (e:=5) rfl (by kernel_rfl) (by kernel_rfl) (by omega) (by rw[show Tryd.prog.bytesOf 5=1 by kernel_rfl];omega) (Qlv _) (Xuc (by kernel_rfl))
theorem Y7w:Ze7 enc Tryd.prog ⟨nv,W.heap.size⟩ W 43 (SlQ 1 ByQ):=Ynv (e:=47) rfl (by kernel_rfl) (by kernel_rfl) (by omega) (by rw[show Tryd.prog.bytesOf 47=24 by kernel_rfl];omega) (SlQ.stable (Qlv _)) Xyf
end
end Go.Proofs.YtgeeklmjfbiieaaDoor
end
noncomputable section
namespace Go.Proofs.YtgeeklmjfbiieaaDoor
open Go Go.Ab
set_option maxRecDepth 100000
theorem X6w(b:Nat)(B o:Nat)(h:Heap):Qcd (E b).toEnv 23 (.pointer (some ⟨B,o,none⟩)) none none none h=some (.slice (some ⟨B,o,none⟩) 32 32,h):=by kernel_rfl
section
attribute [local simp] Wj Wj Qcu V0 Yj Zk Y6 Je Xay Q0p Q0v Q0q Uq Qag Wr J6 Yi Vq Q16 Qa4 Qa3 Qo7 Y4 Wk Qa2 Xw Qad Qab Vx Qaf Qac Qhk Qaw Ui Uy Xp kON kOC Xt kNN kNP kRR kRP kEN kER Q4 Xf Z4 Yt aop Qg nth Ab.g0 gv gs Q7 Qd aev evs evO Qi Tr.get_put St.put Tm.put flat flatA Yu Qp Qo Qm Qq Ql Qn Qk X3 Qj Q5 Q6 kTN kTR kTX kTP kBN kBR kBX kBP kCS kCR kCE kAM Xs.putAll X7 Qc Q2 Q1 Qa Qb Q9 Q0 Q3 Q8
theorem Zas(b:Nat){h:Heap}(laid:Ab.LaidIn h Qge){kv tv:Value}{key l:List Nat}(sk:SN h kv key)(sl:SN h tv l)(hkl:key.length < 1000000000)(hl:l.length < 1000000000)(K:AEnd→Heap→Prop)(hk:∀ h',Old h h'→K (.ret (.agg ⟨(Bl.keyed key l).map u8v⟩)) h') :
  FnK Tryd.prog (E b).G 54 [kv,tv] h K:=by
 by_cases h32:key.length≤32
 ·have e:Bl.keyed key l=Bl.keyed1 key l:=by unfold Bl.keyed;rw[Q3g h32]
  rw[e]at hk
  exact Yp8 b laid sk sl h32 hl K hk
 ·have e:Bl.keyed key l=Bl.keyed1 (Bl.keyed1 [] key) l:=by
   unfold Bl.keyed
   have : Nat.ble key.length 32=false:=by
    cases hq:Nat.ble key.length 32 with
    | false=>rfl
    | true=>rw[Nat.ble_eq]at hq;omega
   rw[this]
  rw[e]at hk
  refine Ur (E b) (Qa1 b) (Vj b) Wf (Qa5 b) (Us b) (V0 b) Xb2 Xvh Xoj rfl ?_
  have lenk:∀ hx,Qkb (E b).toEnv 47 kv hx=some (.int .i64 (key.length:Int)):=fun hx=>Qdf (T47 b) sk
  have h32':(32:Int) < (key.length:Int):=by omega
  obtain⟨hA,eA⟩:∃ hA,hA=h.push (.cells true 1 z32):=⟨_,rfl⟩
  have aA:Old h hA:=by rw[eA];exact Old.push _ _
  have gA:hA.get h.next=some (.cells true 1 z32):=by rw[eA,Heap.get_push,if_pos rfl]
  have alA:Qe4 (E b).toEnv 23 h=some (.pointer (some ⟨h.next,0,none⟩),hA):=by rw[eA];exact Zt b h
  simp[Zt,Ux,-Zt,-Ux,alA,lenk,h32']
  refine Zgb b (LaidIn.old laid aA) (sk.old aA) hkl _ fun h2 a2 => ?_
  obtain⟨dg,hdg⟩:∃ d,d=Bl.keyed1 [] key:=⟨_,rfl⟩
  rw[← hdg]at hk ⊢
  have kl:dg.length=32:=by rw[hdg];exact Qj0 _
  obtain⟨hB,eB⟩:∃ hB,hB=h2.push (.cells true 1 z32):=⟨_,rfl⟩
  have alB:Qe4 (E b).toEnv 23 h2=some (.pointer (some ⟨h2.next,0,none⟩),hB):=by rw[eB];exact Zt b h2
  have gB:hB.get h2.next=some (.cells true 1 z32):=by rw[eB,Heap.get_push,if_pos rfl]
  have lB:=Heap.get_lt gB
  obtain⟨hC,eC⟩:∃ hC,hC=hB.set h2.next (some (.cells true 1 (dg.map u8v))):=⟨_,rfl⟩
  have stC:Wg hB h2.next 0 (dg.map u8v)=some hC:=by
   rw[Qd2 gB (by simp[z32,kl]),eC]
   congr 4
   simp[z32,kl]
  have gC:hC.get h2.next=some (.cells true 1 (dg.map u8v)):=by rw[eC,Heap.get_set _ _ _ _ lB,if_pos rfl]
  have aC:Old h2 hC:=by rw[eC,eB];exact(Old.push _ _).set _ (Nat.le_refl _) (by rw[← eB];exact lB)
  simp[Zt,Ux,-Zt,-Ux,alB,kl,stC,X6w]
  refine Yn9 b laid (aA.trans (a2.trans aC)) (Nat.le_refl _) ((a2.trans aC).get gA) (kv:=.slice (some ⟨h2.next,0,none⟩) 32 32) (key:=dg) ?_ (sl.old (aA.trans (a2.trans aC))) (by omega) hl (by simp) (by simp) (by simp) K hk
  have:=(Own.new (n0:=0) (z:=1) (n:=32) (c:=32) (Nat.zero_le _) gC (by simp[kl]) (by decide) (.inr rfl)).sl
  rw[SN,kl]
  exact this
end
end Go.Proofs.YtgeeklmjfbiieaaDoor
end
noncomputable section
namespace Go.Proofs.YtgeeklmjfbiieaaDoor
open Go Go.Ab
set_option maxRecDepth 100000
theorem Zk5(b:Nat)(h:Heap):Zns (E b).toEnv 47 (.slice none 0 0)=some (.int .i64 0):=by kernel_rfl
theorem Zhc(b:Nat)(h:Heap)(v1 v2:Value)(n1:Qgc v1=true)(c1:v1.cells = #[v1])(n2:Qgc v2=true)(c2:v2.cells = #[v2]):Jp (E b).toEnv 43 2 [(0,v1),(1,v2)] h=some (.slice (some ⟨h.next,0,none⟩) 2 2,h.push (.cells true 1 [v1,v2])):=by
 have hz:R47.zero.cells.toList=[.slice none 0 0]:=by kernel_rfl
 have e1:(Nat.ble (2*R47.size) 16777216 && Nat.ble 1 R47.size)=true:=by rw[Qdj];rfl
 simp only[Jp,Zba,(T43 b).d,Xqz,e1,if_true,hz,Qdj]
 simp[Xej,n1,n2,c1,c2,Qbs,Qjp,over,Nat.ble]
theorem Yw8(b:Nat)(n:Nat)(hn:n < 1000000000)(h:Heap):Xru (E b).toEnv 3 R5 (.int .i64 (n:Int)) h=some (n,List.replicate n (.int .u8 0)):=by
 have hi:R3.desc=.int .i64:=by kernel_rfl
 simp only[Xru,Znw,hi]
 rw[if_pos ⟨by omega,by omega,by rw[Qmm];omega,by rw[Qbg];omega⟩,Y1h]
 have : (Value.int .u8 0).cells.toList=[.int .u8 0]:=rfl
 rw[this,Xlt]
 simp
section
attribute [local simp] Qh2 Qnx W5 Qly Xw Zg8 Yj Vq Zk Xp kON kOC Xt kNN kNP kRR kRP kEN kER Q4 Xf Z4 Yt aop Qg nth Ab.g0 gv gs Q7 Qd aev evs evO Qi Tr.get_put St.put Tm.put flat flatA Yu Qp Qo Qm Qq Ql Qn Qk X3 Qj Q5 Q6 kTN kTR kTX kTP kBN kBR kBX kBP kCS kCR kCE kAM Xs.putAll X7 Qc Q2 Q1 Qa Qb Q9 Q0 Q3 Q8
theorem Zfn(b:Nat){h:Heap}(n:Nat)(hn:n < 1000000000)(K:AEnd→Heap→Prop)(hk:∀ v h',OB h' h.next v []→Old h h'→K (.ret v) h'):FnK Tryd.prog (E b).G 166 [.slice none 0 0,.int .i64 (n:Int)] h K:=by
 refine Ur (E b) (Qa1 b) (Vj b) Wf (Qa5 b) (Us b) (W5 b) Qwm Q3t Q1a rfl ?_
 have c0:=Zk5 b h
 have l0:∀ hx,Qkb (E b).toEnv 47 (.slice none 0 0) hx=some (.int .i64 0):=fun hx=>Qcp (b:=b) (xs:=[]) (h:=h) Sl.nil
 have h0:¬ (n:Int) < 0:=by omega
 have w0:IntKind.i64.wrap (n:Int)=(n:Int):=Ug (by omega) (by omega)
 by_cases hz:n=0
 ·subst hz
  have wz:IntKind.i64.wrap 0=0:=Ug (by omega) (by omega)
  simp[c0,l0,wz]
  exact hk _ h Own.nil (Old.refl _)
 ·have hp:0 < (n:Int):=by omega
  have hp':0 < n:=by omega
  have wz:IntKind.i64.wrap 0=0:=Ug (by omega) (by omega)
  obtain⟨v1,k1,o1, -⟩:=Ynn (T47 b) (h:=h) (n0:=h.next) (v:=.slice none 0 0) (n:=0) (xs:=[]) (k:=.i64) (i:=0) Qbg (by omega) Own.nil (by omega) (by omega)
  obtain⟨v2,h2,k2,o2,b2⟩:=Qmo (T47 b) (tx:=3) (m:=n) Qbg (by omega) o1 (Nat.le_refl _) (Yw8 b n hn h) (by simp) (by rw[Qmm];omega) (by omega)
  obtain⟨v3,k3,o3, -⟩:=Ynn (T47 b) (k:=.i64) (i:=0) Qbg (by omega) o2 (by omega) (by omega)
  have a2:Old h h2:=b2.old (Old.refl _) o1
  simp[c0,l0,h0,wz,w0,hp,hp',k1,k2,k3]
  exact hk v3 h2 (by show Own h2 h.next 1 v3 0 [];simpa using o3) a2
end
def Yio(l:List (Value × List Int)):List Int:=(l.map (·.2)).flatten
theorem Yut{l:List (Value × List Int)}{i:Nat}{p:Value × List Int}(h:l[i]? = some p):Yio (l.take (i+1))=Yio (l.take i)++p.2:=by
 rw[List.take_succ,h]
 simp[Yio]
theorem Zag(l:List (Value × List Int))(i:Nat):(Yio (l.take i)).length≤(Yio l).length:=by
 have e:Yio l=Yio (l.take i)++Yio (l.drop i):=by unfold Yio;rw[← List.flatten_append,← List.map_append,List.take_append_drop]
 rw[e,List.length_append]
 omega
def CC1(sv:Value)(items:List (Value × List Int))(h:Heap)(k:Nat)(s:St):Prop:=∃ (t:Tr Value) (i:Nat),s=⟨⟨36,t⟩,[],h⟩∧t.get 0=some sv∧t.get 9=some sv∧t.get 10=some (.int .i64 (items.length:Int))∧t.get 3=some (.int .i64 ((Yio (items.take i)).length:Int))∧t.get 11=some (.int .i64 (i:Int))∧i≤items.length∧k=items.length-i
def CC2(sv:Value)(items:List (Value × List Int))(h:Heap)(k:Nat)(s:St):Prop:=∃ (t:Tr Value) (h1:Heap) (o:Value) (i:Nat),s=⟨⟨36,t⟩,[],h1⟩∧t.get 25=some sv∧t.get 26=some (.int .i64 (items.length:Int))∧t.get 6=some o∧t.get 27=some (.int .i64 (i:Int))∧i≤items.length∧k=items.length-i∧OB h1 h.next o (Yio (items.take i))∧Old h h1
section
attribute [local simp] Uj Xp kON kOC Xt kNN kNP kRR kRP kEN kER Q4 Xf Z4 Yt aop Qg nth Ab.g0 gv gs Q7 Qd aev evs evO Qi Tr.get_put St.put Tm.put flat flatA Yu Qp Qo Qm Qq Ql Qn Qk X3 Qj Q5 Q6 kTN kTR kTX kTP kBN kBR kBX kBP kCS kCR kCE kAM Xs.putAll X7 Qc Q2 Q1 Qa Qb Q9 Q0 Q3 Q8
theorem Zam(b:Nat){h:Heap}{sv:Value}{items:List (Value × List Int)}(ss:Sl h 1 sv items.length (items.map (·.1)))(hn:items.length≤1000000)(its:∀ p ∈ items,SB h p.1 p.2)(hl:(Yio items).length < 1000000000)(K:AEnd→Heap→Prop)
  (hk:∀ v h',OB h' h.next v (Yio items)→Old h h'→K (.ret v) h'):FnK Tryd.prog (E b).G 132 [sv] h K:=by
 refine Ur (E b) (Qa1 b) (Vj b) Wf (Qa5 b) (Us b) (Uj b) Qtq Qzu Qy4 rfl ?_
 have lenS:∀ hx,Qkb (E b).toEnv 43 sv hx=some (.int .i64 (items.length:Int)):=fun hx=>Qdf (T43 b) ss
 simp[Wl,Qb4,V4,Xw,Qai,Z8,Yj,Yi,Zg8,W5,Qaa,lenS]
 refine Qfy (CC1 sv items h) items.length ⟨_,0,rfl,by simp,by simp,by simp,by simp[Yio],by simp,by omega,rfl⟩ ?_
 rintro k s' ⟨t,i,rfl,t0,t9,t10,t3,t11,hi,rfl⟩ _
 by_cases hlt:i < items.length
 ·have hlt':(i:Int) < (items.length:Int):=by omega
  obtain⟨⟨v,x⟩,hpi⟩:∃ p,items[i]? = some p:=⟨_,List.getElem?_eq_getElem hlt⟩
  obtain⟨bk,off,q1,q2,q3, -⟩:=Xfu (T43 b) Qdj ss (k:=.i64) (i:=(i:Int)) (by omega) (by omega)
  have q4:V2 h bk off=some v:=by
   have:=q3 0 (by omega)
   simpa[hpi]using this
  have sx:=its (v,x) (List.mem_of_getElem? hpi)
  have len:=fun hx=>Qcp (b:=b) (h1:=hx) sx
  have hw:IntKind.i64.wrap ((i:Int)+1)=((i+1:Nat):Int):=by rw[Ug (by omega) (by omega)];omega
  have e1:=Yut hpi
  have e2:=Zag items (i+1)
  rw[e1,List.length_append]at e2
  simp only at e2 sx len
  have w1:IntKind.i64.wrap (((Yio (items.take i)).length:Int)+(x.length:Int))=((Yio (items.take i)).length:Int)+(x.length:Int):=Ug (by omega) (by omega)
  have n1:¬ ((Yio (items.take i)).length:Int)+(x.length:Int) < 0:=by omega
  simp[Wl,Qb4,V4,Xw,Qai,Z8,Yj,Yi,Zg8,W5,Qaa,t0,t9,t10,t3,t11,hlt',q2,q4,len,w1,n1,hw]
  refine⟨items.length-(i+1),by omega,_,i+1,rfl,by simp[t0],by simp[t9],by simp[t10],?_,by simp,by omega,rfl⟩
  rw[e1]
  simp
 ·have hlt':¬ (i:Int) < (items.length:Int):=by omega
  have : i=items.length:=by omega
  subst this
  rw[List.take_of_length_le (Nat.le_refl _)]at t3
  simp[Wl,Qb4,V4,Xw,Qai,Z8,Yj,Yi,Zg8,W5,Qaa,t0,t9,t10,t3,t11]
  refine Zfn b _ hl _ fun v0 h0 o0 a0 => ?_
  simp[Wl,Qb4,V4,Xw,Qai,Z8,Yj,Yi,Zg8,W5,Qaa,t0,lenS]
  refine Qfy (CC2 sv items h) items.length ⟨_,h0,v0,0,rfl,by simp,by simp,by simp,by simp,by omega,rfl,by simpa[Yio]using o0,a0⟩ ?_
  rintro k s' ⟨t,h1,o,i,rfl,t25,t26,t6,t27,hi,rfl,ob,hold⟩ _
  by_cases hlt:i < items.length
  ·have hlt':(i:Int) < (items.length:Int):=by omega
   obtain⟨⟨v,x⟩,hpi⟩:∃ p,items[i]? = some p:=⟨_,List.getElem?_eq_getElem hlt⟩
   obtain⟨bk,off,q1,q2,q3, -⟩:=Xfu (T43 b) Qdj (ss.old hold) (k:=.i64) (i:=(i:Int)) (by omega) (by omega)
   have q4:V2 h1 bk off=some v:=by
    have:=q3 0 (by omega)
    simpa[hpi]using this
   have sx:=its (v,x) (List.mem_of_getElem? hpi)
   have hw:IntKind.i64.wrap ((i:Int)+1)=((i+1:Nat):Int):=by rw[Ug (by omega) (by omega)];omega
   have e1:=Yut hpi
   have e2:=Zag items (i+1)
   rw[e1,List.length_append]at e2
   simp only at e2 sx
   obtain⟨v',h',k1,k2,k3⟩:=Zgu (b:=b) ob hold.1 (sx.old hold) (by omega)
   simp[Wl,Qb4,V4,Xw,Qai,Z8,Yj,Yi,Zg8,W5,Qaa,t25,t26,t6,t27,hlt',q2,q4,k1,hw]
   refine⟨items.length-(i+1),by omega,_,h',v',i+1,rfl,by simp[t25],by simp[t26],by simp,by simp,by omega,rfl,?_,k3.old hold ob⟩
   rw[e1]
   exact k2
  ·have hlt':¬ (i:Int) < (items.length:Int):=by omega
   have : i=items.length:=by omega
   subst this
   rw[List.take_of_length_le (Nat.le_refl _)]at ob
   simp[Wl,Qb4,V4,Xw,Qai,Z8,Yj,Yi,Zg8,W5,Qaa,t25,t26,t6,t27]
   exact hk o h1 ob hold
theorem Y9v(b:Nat){h:Heap}{v1 v2:Value}{xs ys:List Int}(s1:SB h v1 xs)(s2:SB h v2 ys)(hl:xs.length+ys.length < 1000000000)(K:AEnd→Heap→Prop)(hk:∀ v h',OB h' h.next v (xs++ys)→Old h h'→K (.ret v) h') :
  FnK Tryd.prog (E b).G 93 [v1,v2] h K:=by
 refine Ur (E b) (Qa1 b) (Vj b) Wf (Qa5 b) (Us b) (Qnj b) X4g Yrz Yi6 rfl ?_
 obtain⟨hA,eA⟩:∃ hA,hA=h.push (.cells true 1 [v1,v2]):=⟨_,rfl⟩
 have bl:Jp (E b).toEnv 43 2 [(0,v1),(1,v2)] h=some (.slice (some ⟨h.next,0,none⟩) 2 2,hA):=by
  obtain⟨n1,c1⟩:=Qrn s1.one
  obtain⟨n2,c2⟩:=Qrn s2.one
  rw[eA]
  exact Zhc b h v1 v2 n1 c1 n2 c2
 have aA:Old h hA:=by rw[eA];exact Old.push _ _
 have ss:Sl hA 1 (.slice (some ⟨h.next,0,none⟩) 2 2) 2 [v1,v2]:=(Own.new (n0:=0) (z:=1) (Nat.zero_le _) (by rw[eA,Heap.get_push,if_pos rfl]) rfl (by decide) (.inr rfl)).sl
 simp[Qua,Xp8,Qnj,Xap,bl]
 refine Zam b (items:=[(v1,xs),(v2,ys)]) ss (by simp) (fun p hp => ?_) (by simpa[Yio]using hl) _ fun v h' o a => ?_
 ·simp at hp
  rcases hp with rfl | rfl
  ·exact s1.old aA
  ·exact s2.old aA
 ·simp[Qua,Xp8,Qnj,Xap]
  exact hk v h' (by
   have q:=o.low aA.1
   have e:Yio [(v1,xs),(v2,ys)]=xs++ys:=by simp[Yio]
   rwa [e]at q) (aA.trans a)
end
end Go.Proofs.YtgeeklmjfbiieaaDoor
end
noncomputable section
namespace Go.Proofs.YtgeeklmjfbiieaaDoor
open Go Go.Ab
set_option maxRecDepth 100000
theorem gn1(b:Nat):(1 < (E b).G.n)=True:=eq_true (by show 1 < nv;decide)
section
attribute [local simp] Q7q Yc4 Qm0 Qa4 Qa3 Y9b Y3k Zgz Y3t J7 J8 Qnj Zgp Zgr Zgi Zgo Xw Zg6 Y38 Yi Y3f Qd8 Y3p U9 Vx Y47 Y3a Xp kON kOC Xt kNN kNP kRR kRP kEN kER Q4 Xf Z4 Yt aop Qg nth Ab.g0 gv gs Q7 Qd aev evs evO Qi Tr.get_put St.put Tm.put flat flatA Yu Qp Qo Qm Qq Ql Qn Qk X3 Qj Q5 Q6 kTN kTR kTX kTP kBN kBR kBX kBP kCS kCR kCE kAM Xs.putAll X7 Qc Q2 Q1 Qa Qb Q9 Q0 Q3 Q8
theorem Y93(b:Nat){h:Heap}(laid:Ab.LaidIn h laidAll){bv:Value}{xs:List Int}(s:SB h bv xs){n:Nat}(hn:n < 253)(hl:xs.length < 999999999)(K:AEnd→Heap→Prop)(hk:∀ v h',OB h' h.next v (xs ++ [(n:Int)])→Old h h'→K (.ret v) h') :
  FnK Tryd.prog (E b).G 55 [bv,.int .i64 (n:Int)] h K:=by
 refine Ur (E b) (Qa1 b) (Vj b) Wf (Qa5 b) (Us b) (Qm0 b) Ysf Y6b Y1m rfl ?_
 have g1:h.get 1=some (.cells false 0 Xw1):=laid (1,Xw1) (by simp[laidAll])
 have ld:V2 h 1 2=some (.int .u64 253):=by rw[Up g1];rfl
 have hx:Zn (E b).toEnv 166 (.pointer (some ⟨1,0,none⟩)) (.int .i64 0)=some (.pointer (some ⟨1,0,none⟩)):=by simpa using Y9b b (bk:=1) (o:=0) (k:=.i64) (i:=0) ⟨by omega,by omega⟩
 have w1:IntKind.u64.wrap (n:Int)=(n:Int):=Y2g (by omega) (by omega)
 have w2:IntKind.u8.wrap (n:Int)=(n:Int):=Zap (by omega)
 have c1:(n:Int) < 253:=by omega
 have c2:n < 253:=hn
 simp[gn1,hx,ld,w1,w2,c1,c2,Qvn]
 refine Y9v b (v2:=.slice (some ⟨h.next,0,none⟩) 1 1) (ys:=[(n:Int)]) (s.old (Old.push _ _)) (SB.push (xs:=[(n:Int)]) (by simp)) (by simp;omega) _ fun v h' o a => ?_
 simp
 exact hk v h' (o.low (Nat.le_succ _)) ((Old.push _ _).trans a)
end
theorem Xuh(seed:List Nat):∀ n i,Qbu seed (n+1) i=Qbu seed n i++Bl.keyed seed [i+n]
 | 0,i=>by simp[Qbu]
 | n+1,i=>by
  rw[Qbu,Xuh seed n (Nat.succ i)]
  conv=>rhs;rw[Qbu]
  rw[List.append_assoc]
  congr 3
  simp
  omega
theorem Y1v(k l:List Nat):∀ x ∈ Bl.keyed k l,x < 256:=by
 unfold Bl.keyed
 split <;> exact Yuo _
def NWI(sv:Value)(seed:List Nat)(h:Heap)(ν:Nat)(k:Nat)(s:St):Prop:=∃ (t:Tr Value) (h1:Heap) (i:Nat),s=⟨⟨17,t⟩,[],h1⟩∧t.get 0=some sv∧t.get 3=some (.pointer (some ⟨ν,0,none⟩))∧t.get 5=some (.int .i64 (i:Int))∧i≤32∧k=32-i∧h1.get ν=some (.cells true 1 ((Qbu seed i 1).map u8v++List.replicate ((32-i)*32) (.int .u8 0)))∧Old h h1
section
attribute [local simp] Qmt Qyj V8 Xw Yi Qm0 V0 Q12 Xok Je Xp kON kOC Xt kNN kNP kRR kRP kEN kER Q4 Xf Z4 Yt aop Qg nth Ab.g0 gv gs Q7 Qd aev evs evO Qi Tr.get_put St.put Tm.put flat flatA Yu Qp Qo Qm Qq Ql Qn Qk X3 Qj Q5 Q6 kTN kTR kTX kTP kBN kBR kBX kBP kCS kCR kCE kAM Xs.putAll X7 Qc Q2 Q1 Qa Qb Q9 Q0 Q3 Q8
theorem Znh(b:Nat){h:Heap}(laid:Ab.LaidIn h laidAll){sv:Value}{seed:List Nat}(s:SN h sv seed)(hl:seed.length < 1000000000)(K:AEnd→Heap→Prop)(hk:∀ ν h',h'.get ν=some (.cells true 1 ((Qbu seed 32 1).map u8v))→h.next≤ν→Old h h'→K (.ret (.pointer (some ⟨ν,0,none⟩))) h') :
  FnK Tryd.prog (E b).G 19 [sv] h K:=by
 refine Ur (E b) (Qa1 b) (Vj b) Wf (Qa5 b) (Us b) (V8 b) Yoj Y6a Y1q rfl ?_
 obtain⟨hA,eA⟩:∃ hA,hA=h.push (.cells true 1 (List.replicate 1024 (.int .u8 0))):=⟨_,rfl⟩
 have alA:Qe4 (E b).toEnv 111 h=some (.pointer (some ⟨h.next,0,none⟩),hA):=by rw[eA];exact X7k b h
 have aA:Old h hA:=by rw[eA];exact Old.push _ _
 have gA:hA.get h.next=some (.cells true 1 (List.replicate 1024 (.int .u8 0))):=by rw[eA,Heap.get_push,if_pos rfl]
 simp[X7k,-X7k,alA]
 refine Qfy (NWI sv seed h h.next) 32 ⟨_,hA,0,rfl,by simp,by simp,by simp,by omega,rfl,by simpa[Qbu]using gA,aA⟩ ?_
 rintro k s' ⟨t,h1,i,rfl,t0,t3,t5,hi,rfl,g1,hold⟩ _
 by_cases hlt:i < 32
 ·have hlt':(i:Int) < 32:=by omega
  have hw:IntKind.i64.wrap ((i:Int)+1)=((i+1:Nat):Int):=by rw[Ug (by omega) (by omega)];omega
  simp[X7k,t0,t3,t5,hlt',hw]
  refine Y93 b (Laid.old laid hold) (bv:=.slice none 0 0) (xs:=[]) (n:=i+1) Sl.nil (by omega) (by simp) _ fun v h2 o2 a2 => ?_
  have s2:SN h2 v [i+1]:=o2.sl
  simp[X7k,t0,t3,t5]
  refine Zas b (Yna (Laid.old laid (hold.trans a2))) (s.old (hold.trans a2)) s2 hl (by simp) _ fun h3 a3 => ?_
  obtain⟨dg,hdg⟩:∃ d,d=Bl.keyed seed [i+1]:=⟨_,rfl⟩
  rw[← hdg]
  have kl:dg.length=32:=by rw[hdg];exact Qso _ _
  have g3:=(a2.trans a3).get g1
  have l3:=Heap.get_lt g3
  have kf:((Qbu seed i 1).map u8v).length=i*32:=by rw[List.length_map,Xij]
  have hx:Zn (E b).toEnv 109 (.pointer (some ⟨h.next,0,none⟩)) (.int .i64 (i:Int))=some (.pointer (some ⟨h.next,i*32,none⟩)):=by simpa using Xok b (bk:=h.next) (o:=0) (k:=.i64) (i:=(i:Int)) ⟨by omega,by omega⟩
  obtain⟨h4,e4⟩:∃ h4,h4=h3.set h.next (some (.cells true 1 ((Qbu seed (i+1) 1).map u8v++List.replicate ((32-(i+1))*32) (.int .u8 0)))):=⟨_,rfl⟩
  have st:Wg h3 h.next (i*32) (dg.map u8v)=some h4:=by
   rw[Qd2 g3 (by rw[List.length_append,kf,List.length_map,kl,List.length_replicate];omega),e4]
   congr 4
   rw[← kf,List.take_left,Xuh,List.map_append,show 1+i=i+1 by omega,← hdg,← List.drop_drop,List.drop_left,List.drop_replicate,List.length_map,kl,show(32-i)*32-32=(32-(i+1))*32 by omega]
  have g4:h4.get h.next=some (.cells true 1 ((Qbu seed (i+1) 1).map u8v++List.replicate ((32-(i+1))*32) (.int .u8 0))):=by rw[e4,Heap.get_set _ _ _ _ l3,if_pos rfl]
  have a4:Old h h4:=by rw[e4];exact(hold.trans (a2.trans a3)).set _ (Nat.le_refl _) l3
  simp[X7k,t0,t3,t5,hx,kl,st,hw]
  exact⟨32-(i+1),by omega,_,h4,i+1,rfl,by simp[t0],by simp[t3],by simp,by omega,rfl,g4,a4⟩
 ·have hlt':¬ (i:Int) < 32:=by omega
  have : i=32:=by omega
  subst this
  simp[X7k,t0,t3,t5]
  exact hk h.next h1 (by simpa using g1) (Nat.le_refl _) hold
end
end Go.Proofs.YtgeeklmjfbiieaaDoor
end
