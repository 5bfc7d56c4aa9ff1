import Derived.Test.YtgjlmnnggnajmaaGreatDoorBlA
import Derived.Test.YtgjlmnnggnajmaaGreatDoorScA
import Derived.Test.YtgjlmnnggnajmaaGreatDoorFA
set_option linter.all false
noncomputable section
namespace Go.Proofs.YtgjlmnnggnajmaaGreatDoor
open Go Go.Ab
set_option maxRecDepth 100000
theorem Zt3(b:Nat){h:Heap}(hl:Ab.LaidIn h Qix)(p8:Bl.P8){blk:Nat}{l:List Nat}(hg:h.get blk=some (.cells true 1 (l.map u8v)))(h64:l.length=64)(count:Nat)(last:Bool)(K:KP)(hk:K (.ret (p8v (Bl.take p8 l count last))) h) :
  FK b 39 [p8v p8,.pointer (some ⟨blk,0,none⟩),.int .u64 (.ofNat count),.bool last] h K:=by
 refine⟨_,_,?_,Nat.le_refl _,hk⟩
 refine X5q (k:=100) (m:=4) Uz Y32 Yot (fun b=>Zpv b p8.h0 p8.h1 p8.h2 p8.h3 p8.h4 p8.h5 p8.h6 p8.h7 count l h64 last) rfl hl Yxy (bs:=[blk]) rfl (by simp) (fun k d r hd hr => ?_)
   (Qc2 (Qip rfl) (Qc2 (Yrn _ _) (Qc2 (Qip rfl) (Qc2 (Qip rfl) Qxm))))
 cases k with
 | zero=>simp at hd hr;subst hd;subst hr;exact⟨hg,Yay _⟩
 | succ k=>simp at hd
abbrev SN(h:Heap)(v:Value)(l:List Nat):Prop:=Sl h 1 v l.length (l.map u8v)
theorem SN.sb{h:Heap}{v:Value}{l:List Nat}(s:SN h v l):SB h v (l.map Int.ofNat):=by
 have e:(l.map Int.ofNat).map i8=l.map u8v:=by rw[List.map_map];rfl
 rw[SB,e,List.length_map];exact s
theorem SN.of{h:Heap}{v:Value}{xs:List Int}(s:SB h v xs)(hb:Bytes xs):SN h v (xs.map Int.toNat):=by
 have e:(xs.map Int.toNat).map u8v=xs.map i8:=by
  rw[List.map_map]
  refine List.map_congr_left fun z hz => ?_
  have:=hb z hz
  show Value.int .u8 (Int.ofNat z.toNat)=.int .u8 z
  rw[show Int.ofNat z.toNat=z from Int.toNat_of_nonneg this.1]
 rw[SN,e,List.length_map];exact s
theorem Zty(b:Nat){h:Heap}{B:Nat}{ds:List Value}{v:Value}{l:List Nat}(hg:h.get B=some (.cells true 1 ds))(hd:ds.length=64)(s:SN h v l) :
  ∃ h',Xxn (E b).toEnv 30 (.slice (some ⟨B,0,none⟩) 64 64) v h=some (.int .i64 ((min l.length 64:Nat):Int),h')/\h'.get B=some (.cells true 1 ((l.take 64).map u8v++ds.drop (min l.length 64)))/\h'.next=h.next/\∀ c,c≠B->h'.get c=h.get c:=by
 have hmin:Nat.min l.length 64=min l.length 64:=rfl
 have hlen:Xvw v=some l.length:=by rcases s with⟨c,rfl,_,e,_⟩ | ⟨bk,o,c,ow,z',pre,post,rfl,_⟩ <;> simp_all [Xvw]
 have hsrc:Y76 1 (Nat.min l.length 64) v h=some ((l.take 64).map u8v):=by
  rcases s with⟨c,rfl,_,e,e2⟩ | ⟨bk,o,c,ow,z',pre,post,rfl,h1,h2,h3, -⟩
  ·have : l=[]:=List.eq_nil_of_length_eq_zero e
   subst this
   simp[Y76]
  ·have h4:Q1n (Nat.min l.length 64*1) ((pre++l.map u8v++post).drop o)=some ((l.take 64).map u8v):=by
    rw[hmin,<- h2,List.append_assoc,List.drop_left,Q1h (by simp;omega),List.take_append_of_le_length (by simp;omega),<- List.map_take,Nat.mul_one]
    congr 2
    rcases Nat.le_total l.length 64 with q | q
    ·rw[Nat.min_eq_left q,List.take_of_length_le (Nat.le_refl _),List.take_of_length_le q]
    ·rw[Nat.min_eq_right q]
   simp only[Y76,Ab.cellsAt,h1,h4]
 have hr:R30.desc=.slice 5:=(T30 b).d
 cases hc:(l.take 64).map u8v with
 | nil =>
  have : l=[]:=by
   cases l with
   | nil=>rfl
   | cons x l=>simp at hc
  subst this
  refine⟨h,?_,by simpa using hg,rfl,fun _ _=>rfl⟩
  rw[hc]at hsrc
  simp only[Xxn,Xmj,hr,hlen,Zc5,Qgp,hsrc]
 | cons x xs =>
  have hle:(x::xs).length<=ds.length:=by rw[<- hc,hd];simp;omega
  have hst:storeAt h ⟨B,0,none⟩ (x::xs)=some (h.set B (some (.cells true 1 ((x::xs)++ds.drop (x::xs).length)))):=by
   simp only[storeAt,hg]
   rw[Qms (by simpa using hle)]
   simp
  rw[hc]at hsrc
  refine⟨h.set B (some (.cells true 1 ((x::xs)++ds.drop (x::xs).length))),?_,?_,rfl,fun c hc=>by rw[Heap.get_set _ _ _ _ (Heap.get_lt hg),if_neg (Ne.symm hc)]⟩
  ·simp only[Xxn,Xmj,hr,hlen,Zc5,Qgp,hsrc,hst]
   rfl
  ·rw[Heap.get_set _ _ _ _ (Heap.get_lt hg),if_pos rfl]
   congr 4
   rw[<- hc,List.length_map,List.length_take,Nat.min_comm]
theorem Ye8:∀ (n m:Nat) (h:Bl.P8) (text:List Nat) (count:Nat),text.length < n->text.length < m->Bl.blocks n h text count=Bl.blocks m h text count
 | 0,_,_,_,_,h,_=>by omega
 | n+1,0,_,_,_,_,h=>by omega
 | n+1,m+1,h,text,count,h1,h2=>by
  simp only[Bl.blocks]
  cases hb:Nat.ble text.length 64 with
  | true=>rfl
  | false =>
   have : ¬ text.length<=64:=fun q=>by rw[<- Nat.ble_eq,hb]at q;cases q
   exact Ye8 n m _ _ _ (by rw[List.length_drop];omega) (by rw[List.length_drop];omega)
def Zpl(p8:Bl.P8)(text:List Nat)(count:Nat):Bl.P8:=Bl.blocks text.length.succ p8 text count
theorem Zlk{p8:Bl.P8}{text:List Nat}{count:Nat}(h:text.length<=64):Zpl p8 text count=Bl.take p8 text (count+text.length) true:=by
 simp[Zpl,Bl.blocks,Q86 h]
theorem Zjp{p8:Bl.P8}{text:List Nat}{count:Nat}(h:64 < text.length):Zpl p8 text count=Zpl (Bl.take p8 (text.take 64) (count+64) false) (text.drop 64) (count+64):=by
 have e:Nat.ble text.length 64=false:=by rw[Bool.eq_false_iff];intro q;rw[Nat.ble_eq]at q;omega
 simp only[Zpl,Bl.blocks,e]
 exact Ye8 text.length (text.drop 64).length.succ _ _ _ (by rw[List.length_drop];omega) (Nat.lt_succ_self _)
def Pad(l l':List Nat):Prop:=∃ n,l'=l++List.replicate n 0
theorem Q0o{l l':List Nat}(p:Pad l l'):∃ a r r',(∀ {A:Type} (K:Nat->List Nat->A),Bl.nx l K=K a r)/\(∀ {A:Type} (K:Nat->List Nat->A),Bl.nx l' K=K a r')/\Pad r r':=by
 obtain⟨n,rfl⟩:=p
 match l with
 | a::b::c::d::l=>exact⟨_,_,_,fun _=>rfl,fun _=>rfl,n,rfl⟩
 | [a,b,c] =>
  match n with
  | 0=>exact⟨_,_,_,fun _=>rfl,fun _=>rfl,0,rfl⟩
  | n+1=>exact⟨_,_,_,fun _=>rfl,fun _=>rfl,n,rfl⟩
 | [a,b] =>
  match n with
  | 0=>exact⟨_,_,_,fun _=>rfl,fun _=>rfl,0,rfl⟩
  | 1=>exact⟨_,_,_,fun _=>rfl,fun _=>rfl,0,rfl⟩
  | n+2=>exact⟨_,_,_,fun _=>rfl,fun _=>rfl,n,rfl⟩
 | [a] =>
  match n with
  | 0=>exact⟨_,_,_,fun _=>rfl,fun _=>rfl,0,rfl⟩
  | 1=>exact⟨_,_,_,fun _=>rfl,fun _=>rfl,0,rfl⟩
  | 2=>exact⟨_,_,_,fun _=>rfl,fun _=>rfl,0,rfl⟩
  | n+3=>exact⟨_,_,_,fun _=>rfl,fun _=>rfl,n,rfl⟩
 | [] =>
  match n with
  | 0=>exact⟨_,_,_,fun _=>rfl,fun _=>rfl,0,rfl⟩
  | 1=>exact⟨_,_,_,fun _=>rfl,fun _=>rfl,0,rfl⟩
  | 2=>exact⟨_,_,_,fun _=>rfl,fun _=>rfl,0,rfl⟩
  | 3=>exact⟨_,_,_,fun _=>rfl,fun _=>rfl,0,rfl⟩
  | n+4=>exact⟨_,_,_,fun _=>rfl,fun _=>rfl,n,rfl⟩
theorem Zkm{l l':List Nat}(p:Pad l l'){A:Type}(K:Nat->Nat->Nat->Nat->Nat->Nat->Nat->Nat->Nat->Nat->Nat->Nat->Nat->Nat->Nat->Nat->A):Bl.words l' K=Bl.words l K:=by
 unfold Bl.words
 obtain⟨_,_,_,a0,c0,p⟩:=Q0o p
 obtain⟨_,_,_,a1,c1,p⟩:=Q0o p
 obtain⟨_,_,_,a2,c2,p⟩:=Q0o p
 obtain⟨_,_,_,a3,c3,p⟩:=Q0o p
 obtain⟨_,_,_,a4,c4,p⟩:=Q0o p
 obtain⟨_,_,_,a5,c5,p⟩:=Q0o p
 obtain⟨_,_,_,a6,c6,p⟩:=Q0o p
 obtain⟨_,_,_,a7,c7,p⟩:=Q0o p
 obtain⟨_,_,_,a8,c8,p⟩:=Q0o p
 obtain⟨_,_,_,a9,c9,p⟩:=Q0o p
 obtain⟨_,_,_,a10,c10,p⟩:=Q0o p
 obtain⟨_,_,_,a11,c11,p⟩:=Q0o p
 obtain⟨_,_,_,a12,c12,p⟩:=Q0o p
 obtain⟨_,_,_,a13,c13,p⟩:=Q0o p
 obtain⟨_,_,_,a14,c14,p⟩:=Q0o p
 obtain⟨_,_,_,a15,c15,p⟩:=Q0o p
 rw[a0,c0,a1,c1,a2,c2,a3,c3,a4,c4,a5,c5,a6,c6,a7,c7,a8,c8,a9,c9,a10,c10,a11,c11,a12,c12,a13,c13,a14,c14,a15,c15]
theorem Zoz(p8:Bl.P8){l l':List Nat}(p:Pad l l')(count:Nat)(last:Bool):Bl.take p8 l' count last=Bl.take p8 l count last:=by
 obtain⟨h0,h1,h2,h3,h4,h5,h6,h7⟩:=p8
 simp only[Bl.take,Zkm p]
def Y7i(p:Bl.P8):List Nat:=[p.h0,p.h1,p.h2,p.h3,p.h4,p.h5,p.h6,p.h7]
theorem Qls(p:Bl.P8):(Bl.out p).length=32:=by obtain⟨_,_,_,_,_,_,_,_⟩:=p;rfl
theorem Zvl(p:Bl.P8){q r w:Nat}(hq:q < 8)(hr:r < 4)(hw:(Y7i p)[q]? = some w):(Bl.out p)[4*q+r]? = some (w / 2 ^ (8*r) % 256):=by
 obtain⟨h0,h1,h2,h3,h4,h5,h6,h7⟩:=p
 have hq':q=0∨q=1∨q=2∨q=3∨q=4∨q=5∨q=6∨q=7:=by omega
 have hr':r=0∨r=1∨r=2∨r=3:=by omega
 rcases hq' with rfl | rfl | rfl | rfl | rfl | rfl | rfl | rfl <;> rcases hr' with rfl | rfl | rfl | rfl <;>
  (simp only[Y7i,List.getElem?_cons_succ,List.getElem?_cons_zero,Option.some.injEq]at hw;subst hw;first | rfl | (simp[Bl.out,Bl.by4];rfl) | simp[Bl.out,Bl.by4])
theorem Zze(x:Nat):Qep (binOp .shr 92 (.int .u32 (.ofNat x)) (.int .i64 0))=some (.int .u32 (Int.fdiv (.ofNat x) (2 ^ 0))):=by kernel_rfl
theorem Zzp(x:Nat):Qep (binOp .shr 92 (.int .u32 (.ofNat x)) (.int .i64 8))=some (.int .u32 (Int.fdiv (.ofNat x) (2 ^ 8))):=by kernel_rfl
theorem Zw7(x:Nat):Qep (binOp .shr 92 (.int .u32 (.ofNat x)) (.int .i64 16))=some (.int .u32 (Int.fdiv (.ofNat x) (2 ^ 16))):=by kernel_rfl
theorem Zwx(x:Nat):Qep (binOp .shr 92 (.int .u32 (.ofNat x)) (.int .i64 24))=some (.int .u32 (Int.fdiv (.ofNat x) (2 ^ 24))):=by kernel_rfl
theorem Zyr(x:Nat){r:Nat}(hr:r < 4):Qep (binOp .shr 92 (.int .u32 (.ofNat x)) (.int .i64 (8*(r:Int))))=some (.int .u32 (Int.fdiv (.ofNat x) (2 ^ (8*r)))):=by
 have hr':r=0∨r=1∨r=2∨r=3:=by omega
 rcases hr' with rfl | rfl | rfl | rfl
 ·exact Zze x
 ·exact Zzp x
 ·exact Zw7 x
 ·exact Zwx x
theorem Zns(x r:Nat):IntKind.u8.wrap (Int.fdiv (.ofNat x) (2 ^ (8*r)))=.ofNat (x / 2 ^ (8*r) % 256):=by
 have e:Int.fdiv (.ofNat x) (2 ^ (8*r))=.ofNat (x / 2 ^ (8*r)):=by
  have : ((2:Int) ^ (8*r))=Int.ofNat (2 ^ (8*r)):=by simp
  rw[this]
  show Int.fdiv (x:Int) ((2 ^ (8*r):Nat):Int)=((x / 2 ^ (8*r):Nat):Int)
  rw[Int.fdiv_eq_ediv_of_nonneg _ (Int.natCast_nonneg _)]
  exact(Int.natCast_ediv _ _).symm
 rw[e]
 show((Int.ofNat (x / 2 ^ (8*r))) % (2 ^ 8:Int))=_
 exact(Int.natCast_emod _ _).symm
def z32:List Value:=List.replicate 32 (.int .u8 0)
def OI(R0 W:Nat)(p8:Bl.P8)(h:Heap)(k:Nat)(s:St):Prop:=∃ (t:Tr Value) (h1:Heap) (O i:Nat),s=⟨⟨81,t⟩,[],h1⟩/\t.get 4=some (.pointer (some ⟨R0,0,none⟩))/\t.get 6=some (.pointer (some ⟨W,0,none⟩))/\t.get 11=some (.pointer (some ⟨O,0,none⟩))/\t.get 65=some (.int .i64 (i:Int)) /\
 i<=32/\k=32-i/\h1.get O=some (.cells true 1 (((Bl.out p8).take i).map u8v++List.replicate (32-i) (.int .u8 0)))/\h1.get W=some (.cells true 1 ((Y7i p8).map Qeq))/\h1.get R0=some (.cells true 1 z32)/\Old h h1/\h.next<=O/\h.next<=R0/\O≠W/\O≠R0
attribute [local simp] Yy Z4 Yx Z5 Qy Xb Z3 Xx X9 Z2 Q4 Xg J4 Zv aop Qg nth Ab.g0 gv gs Qb Qa aev evs evO Qh Tr.get_put St.put Tm.put flat flatA Zu Qm Qp Qn Qo Qk Ql Qj Qw Qi Q5 Q6 Qz Yw Xy Xa Qr Xw Xc Qx Zs Jh Zr Za Z1.putAll X7 Q9 Q3 Q0 Q8 Qc Qd Q1 Q2 Q7 Zp Zz ldv J7 J0 J3 Nat.testBit loadAt Ab.runT Jm Vv Qal
section
attribute [local simp] Qah Qeo Ve Vr Va Zq Xv Jn X92 X1y X0y X01 X84 Qzo Qup Q01 Zd Zy X26 Qlo Qlp Qzg J2 Qag Qb8 Z7 Qsy Qsv Qis Qzx Qz8 X5o Xlo Uh Wi Wh
theorem Ztb(b:Nat){h h0:Heap}{R0 W:Nat}{p8:Bl.P8}{t:Tr Value}(t4:t.get 4=some (.pointer (some ⟨R0,0,none⟩)))(t6:t.get 6=some (.pointer (some ⟨W,0,none⟩)))(hW:h0.get W=some (.cells true 1 ((Y7i p8).map Qeq)))(hR:h0.get R0=some (.cells true 1 z32))(ho:Old h h0)(hR0:h.next<=R0)
  (K:KP) (hk:∀ h',Old h h'->K (.ret (.agg ⟨(Bl.out p8).map u8v⟩)) h'):Wv (E b) (Q53 Tryz.prog (E b).G) (D0 b) none Q4y ⟨⟨81,t⟩,[],h0⟩ (Yas (E b) (DD b) Ql5 K):=by
 have lW:=Heap.get_lt hW
 have lR:=Heap.get_lt hR
 simp
 refine Qj1 (OI R0 W p8 h) 32 ⟨_,_,h0.next,0,rfl,by simp[t4],by simp[t6],by simp,by simp,by omega,rfl,by rw[Heap.get_push,if_pos rfl];rfl,by rw[Heap.get_push,if_neg (by omega),hW],by rw[Heap.get_push,if_neg (by omega),hR],ho.push' _,ho.1,hR0,by omega,by omega⟩ ?_
 rintro k s' ⟨t,h1,O,i,rfl,t4,t6,t11,t65,hi,rfl,gO,gW,gR,hold,hO,_,n1,n2⟩ _
 by_cases hlt:i < 32
 ·have hlt':(i:Int) < 32:=by omega
  obtain⟨q,r,rfl,hq,hr⟩:∃ q r,i=4*q+r/\q < 8/\r < 4:=⟨i / 4,i % 4,by omega,by omega,by omega⟩
  obtain⟨w,hw⟩:∃ w,(Y7i p8)[q]? = some w:=⟨_,List.getElem?_eq_getElem (by simpa[Y7i]using hq)⟩
  have ho1:=Zvl p8 hq hr hw
  have hlt2:4*(q:Int)+(r:Int) < 32:=by omega
  have e1:Int.tdiv ((4*q+r:Nat):Int) 4=(q:Int):=by rw[Int.tdiv_eq_ediv_of_nonneg (by omega)];omega
  have e2:Int.tmod ((4*q+r:Nat):Int) 4=(r:Int):=by rw[Int.tmod_eq_emod_of_nonneg (by omega)];omega
  have e1':Int.tdiv (4*(q:Int)+(r:Int)) 4=(q:Int):=by rw[Int.tdiv_eq_ediv_of_nonneg (by omega)];omega
  have e2':Int.tmod (4*(q:Int)+(r:Int)) 4=(r:Int):=by rw[Int.tmod_eq_emod_of_nonneg (by omega)];omega
  have w1:IntKind.i64.wrap (q:Int)=(q:Int):=Qao (by omega) (by omega)
  have w2:IntKind.i64.wrap (8*(r:Int))=8*(r:Int):=Qao (by omega) (by omega)
  have w3:IntKind.i64.wrap (4*(q:Int)+(r:Int)+1)=((4*q+r+1:Nat):Int):=by rw[Qao (by omega) (by omega)];omega
  have x1:Vg (E b).toEnv 94 (.pointer (some ⟨W,0,none⟩)) (.int .i64 (q:Int))=some (.pointer (some ⟨W,q,none⟩)):=by rw[X01 b ⟨by omega,by omega⟩];simp
  have x2:Vg (E b).toEnv 23 (.pointer (some ⟨O,0,none⟩)) (.int .i64 (4*(q:Int)+(r:Int)))=some (.pointer (some ⟨O,4*q+r,none⟩)):=by rw[X5o b ⟨by omega,by omega⟩];simp
  have g1:Jl h1 W q=some (.int .u32 (.ofNat w)):=by rw[J5 gW,List.getElem?_map,hw];rfl
  obtain⟨bv,hbv⟩:∃ bv:Nat,bv=w / 2 ^ (8*r) % 256:=⟨_,rfl⟩
  obtain⟨fv,hfv⟩:∃ fv:Int,fv=Int.fdiv (w:Int) (2 ^ (8*r)):=⟨_,rfl⟩
  have sh:Qep (binOp .shr 92 (.int .u32 (w:Int)) (.int .i64 (8*(r:Int))))=some (.int .u32 fv):=by rw[hfv];exact Zyr w hr
  have ws:IntKind.u8.wrap fv=(bv:Int):=by rw[hfv,hbv];exact Zns w r
  rw[<- hbv]at ho1
  obtain⟨h2,e⟩:∃ h2,h2=h1.set O (some (.cells true 1 ((((Bl.out p8).take (4*q+r)).map u8v++List.replicate (32-(4*q+r)) (Value.int .u8 0)).set (4*q+r) (Value.int .u8 (bv:Int))))):=⟨_,rfl⟩
  have st:Uj h1 O (4*q+r) [.int .u8 (bv:Int)]=some h2:=by rw[e];exact Qhj gO (by simp[Qls];omega)
  simp[t4,t6,t11,t65,hlt2,e1',e2',w1,w2,w3,x1,x2,g1,sh,ws,st]
  have lO:=Heap.get_lt gO
  refine⟨32-(4*q+r+1),by omega,_,h2,O,4*q+r+1,rfl,by simp[t4],by simp[t6],by simp[t11],by simp,by omega,rfl,?_,?_,?_,?_,hO,hR0,n1,n2⟩
  ·rw[e,Heap.get_set _ _ _ _ lO,if_pos rfl]
   congr 2
   rw[List.set_append_right _ _ (by simp[Qls];omega),List.take_succ,ho1]
   have : 32-(4*q+r)=(32-(4*q+r+1))+1:=by omega
   rw[this,List.replicate_succ]
   simp[Qls]
   have e5:4*q+r-min (4*q+r) 32=0:=by omega
   rw[e5]
   rfl
  ·rw[e,Heap.get_set _ _ _ _ lO,if_neg (by omega),gW]
  ·rw[e,Heap.get_set _ _ _ _ lO,if_neg (by omega),gR]
  ·rw[e];exact hold.set _ hO lO
 ·have : i=32:=by omega
  subst this
  have ld:Qb9 h1 O 0 32=some (.agg ⟨(Bl.out p8).map u8v⟩):=by
   rw[Jx gO (by simp[Qls])]
   congr 3
  have st:Uj h1 R0 0 ((Bl.out p8).map u8v)=some (h1.set R0 (some (.cells true 1 ((Bl.out p8).map u8v)))):=by
   rw[W5 gR (by simp[z32,Qls])]
   congr 4
  have lR:=Heap.get_lt gR
  have l32:((Bl.out p8).map u8v).length=32:=by simp[Qls]
  have g2:Qb9 (h1.set R0 (some (.cells true 1 ((Bl.out p8).map u8v)))) R0 0 32=some (.agg ⟨(Bl.out p8).map u8v⟩):=by
   rw[Jx (by rw[Heap.get_set _ _ _ _ lR,if_pos rfl]) (by simp[Qls])]
   congr 3
  simp[t4,t6,t11,t65,ld,Qls,st,g2]
  exact hk _ (hold.set _ (by omega) lR)
end
def KI(R0 W:Nat)(FIN:Bl.P8)(h:Heap)(k:Nat)(s:St):Prop:=∃ (t:Tr Value) (h1:Heap) (tv:Value) (l:List Nat) (count:Nat) (p8:Bl.P8),s=⟨⟨81,t⟩,[],h1⟩/\t.get 4=some (.pointer (some ⟨R0,0,none⟩))/\t.get 6=some (.pointer (some ⟨W,0,none⟩))/\t.get 7=some tv/\t.get 8=some (.int .u64 (count:Int)) /\
 SN h1 tv l/\h1.get W=some (.cells true 1 ((Y7i p8).map Qeq))/\h1.get R0=some (.cells true 1 z32)/\Old h h1/\h.next<=W/\h.next<=R0/\W≠R0/\U1 tv≠some W/\Zpl p8 l count=FIN/\k=l.length/\count+l.length < 1000000000000/\Ab.LaidIn h1 Qix
theorem SN.ofB{h:Heap}{v:Value}{l:List Nat}(s:SB h v (l.map Int.ofNat)):SN h v l:=by
 have e:(l.map Int.ofNat).map i8=l.map u8v:=by rw[List.map_map];rfl
 rw[SB,e,List.length_map]at s
 exact s
theorem LaidIn.old{h h':Heap}(l:Ab.LaidIn h Qix)(a:Old h h'):Ab.LaidIn h' Qix:=fun x hx=>a.get (l x hx)
theorem Ytw{z:Int}(h0:0<=z)(h1:z<=18446744073709551615):IntKind.u64.wrap z=z:=by
 have : IntKind.u64.wrap z=z % 18446744073709551616:=by simp[IntKind.wrap,IntKind.bits,IntKind.signed]
 rw[this]
 omega
theorem Zl9(b:Nat)(B:Nat)(h:Heap):Qer (E b).toEnv 97 (.pointer (some ⟨B,0,none⟩)) none none none h=some (.slice (some ⟨B,0,none⟩) 64 64,h):=by kernel_rfl
theorem Zn5{h:Heap}(l:Ab.LaidIn h Qix):∀ x ∈ Qix,x.1 < h.next:=fun x hx=>Heap.get_lt (l x hx)
section
attribute [local simp] Qah Qeo Ve Vr Va Zq Xv Jn X92 X1y X0y X01 X84 Qzo Qup Q01 Zd Zy Qlo Qlp Qzg J2 Qag Qb8 Z7 Qsy Qsv Qis Qzx Qz8 X5o Xlo Uh Wi Wh
theorem Zl8(b:Nat){h h0:Heap}{R0 W:Nat}{p8 FIN:Bl.P8}{t:Tr Value}{tv:Value}{l:List Nat}{count:Nat}(hl:Ab.LaidIn h Qix)(t4:t.get 4=some (.pointer (some ⟨R0,0,none⟩)))(t6:t.get 6=some (.pointer (some ⟨W,0,none⟩)))(t7:t.get 7=some tv)(t8:t.get 8=some (.int .u64 (count:Int)))(sn:SN h0 tv l)
  (hW:h0.get W=some (.cells true 1 ((Y7i p8).map Qeq))) (hR:h0.get R0=some (.cells true 1 z32)) (ho:Old h h0) (hw0:h.next<=W) (hR0:h.next<=R0) (hne:W≠R0) (hv:U1 tv≠some W) (hf:Zpl p8 l count=FIN) (hc:count+l.length < 1000000000000)
  (K:KP) (hk:∀ h',Old h h'->K (.ret (.agg ⟨(Bl.out FIN).map u8v⟩)) h'):Wv (E b) (Q53 Tryz.prog (E b).G) (D0 b) none Quu ⟨⟨81,t⟩,[],h0⟩ (Yas (E b) (DD b) Ql5 K):=by
 rw[Wi,Qb8]
 refine Qj1 (KI R0 W FIN h) l.length ⟨_,h0,tv,l,count,p8,rfl,t4,t6,t7,t8,sn,hW,hR,ho,hw0,hR0,hne,hv,hf,rfl,hc,LaidIn.old hl ho⟩ ?_
 rintro k s' ⟨t,h1,tv,l,count,p8,rfl,t4,t6,t7,t8,sn,gW,gR,hold,_,_,_,hv,hf,rfl,hc,hl1⟩ _
 obtain⟨h2,e2⟩:∃ h2,h2=h1.push (.cells true 1 (List.replicate 64 (.int .u8 0))):=⟨_,rfl⟩
 have a12:=Qkm e2
 have n2:=Q4v e2
 have gB:h2.get h1.next=some (.cells true 1 (List.replicate 64 (.int .u8 0))):=by rw[e2,Heap.get_push,if_pos rfl]
 obtain⟨h3,c1,c2,c3,c4⟩:=Zty b gB (by simp) (sn.old a12)
 have a13:Old h1 h3:=⟨by omega,fun c hc=>by rw[c4 c (by omega),a12.2 c hc]⟩
 have lenB:=Qpb (b:=b) (h1:=h3) sn.sb
 have sn3:SN h3 tv l:=sn.old a13
 obtain⟨tv',h4,f1,f2,f3,f4,f5⟩:=Yxg (b:=b) sn3.sb (k:=.i64) (i:=((min l.length 64:Nat):Int)) (by omega) (by simp;omega)
 have sn4:SN h4 tv' (l.drop 64):=by
  have e:(l.map Int.ofNat).drop (min l.length 64)=(l.drop 64).map Int.ofNat:=by
   rw[<- List.map_drop]
   congr 1
   rcases Nat.le_total l.length 64 with q | q
   ·rw[Nat.min_eq_left q,List.drop_eq_nil_of_le (Nat.le_refl _),List.drop_eq_nil_of_le q]
   ·rw[Nat.min_eq_right q]
  rw[Int.toNat_natCast,e]at f2
  exact SN.ofB f2
 have lenD:∀ hx,Qn4 (E b).toEnv 30 tv' hx=some (.int .i64 ((l.length-64:Nat):Int)):=fun hx=>by have:=Qpb (b:=b) (h1:=hx) sn4.sb;rw[List.length_map,List.length_drop]at this;exact this
 have a14:Old h1 h4:=a13.trans f3
 have gB4:h4.get h1.next=some (.cells true 1 ((l.take 64++List.replicate (64-l.length) 0).map u8v)):=by
  rw[f3.2 _ (by omega),c2]
  congr 2
  rw[List.map_append,List.map_replicate]
  congr 1
  rw[List.drop_replicate]
  congr 1
  omega
 have gW4:h4.get W=some (.cells true 1 ((Y7i p8).map Qeq)):=a14.get gW
 have gR4:h4.get R0=some (.cells true 1 z32):=a14.get gR
 have ldW:Qb9 h4 W 0 8=some (p8v p8):=by
  rw[Jx gW4 (by simp[Y7i])]
  rfl
 have lW:=Heap.get_lt gW4
 have lW1:=Heap.get_lt gW
 have hmin:((min l.length 64:Nat):Int)<=64:=by omega
 have wc:IntKind.u64.wrap ((min l.length 64:Nat):Int)=((min l.length 64:Nat):Int):=Ytw (by omega) (by omega)
 have wa:IntKind.u64.wrap ((count:Int)+((min l.length 64:Nat):Int))=((count+min l.length 64:Nat):Int):=by rw[Ytw (by omega) (by omega)];omega
 obtain⟨m,hm⟩:∃ m:Nat,m=min l.length 64:=⟨_,rfl⟩
 rw[<- hm]at c1 f1 wc wa
 have hmx:¬ ((m:Int) < 0):=by omega
 have pd:Pad (l.take 64) (l.take 64++List.replicate (64-l.length) 0):=⟨_,rfl⟩
 have l64:(l.take 64++List.replicate (64-l.length) 0).length=64:=by simp;omega
 have key:∀ (last:Bool) (p8':Bl.P8),p8'=Bl.take p8 (l.take 64) (count+m) last->∀ K',K' (.ret (p8v p8')) h4->FK b 39 [p8v p8,.pointer (some ⟨h1.next,0,none⟩),.int .u64 (((count+m:Nat):Int)),.bool last] h4 K':=by
  intro last p8' hp K' hk'
  refine Zt3 b (LaidIn.old hl1 a14) p8 gB4 l64 (count+m) last K' ?_
  rw[Zoz p8 pd,<- hp]
  exact hk'
 have stW:∀ p8':Bl.P8,Uj h4 W 0 ((Y7i p8').map Qeq)=some (h4.set W (some (.cells true 1 ((Y7i p8').map Qeq)))):=fun p8'=>by
  rw[W5 gW4 (by simp[Y7i])]
  rfl
 have alB:Qba (E b).toEnv 97 h1=some (.pointer (some ⟨h1.next,0,none⟩),h2):=by rw[e2];exact X26 b h1
 simp[X26,-X26,alB,t4,t6,t7,t8,Zl9,c1,f1,wc,wa,ldW]
 have stA:∀ p8':Bl.P8,Qdm (E b).toEnv 94 (.pointer (some ⟨W,0,none⟩)) (p8v p8') h4=some (h4.set W (some (.cells true 1 ((Y7i p8').map Qeq)))):=fun p8'=>(X0y b h4 W 0 _ (by simp)).trans (stW p8')
 have old5:∀ x,Old h (h4.set W x):=fun x=>(hold.trans a14).set _ (by assumption) lW
 have gW5:∀ x,(h4.set W x).get W=x:=fun x=>by rw[Heap.get_set _ _ _ _ lW,if_pos rfl]
 have gR5:∀ x,(h4.set W x).get R0=some (.cells true 1 z32):=fun x=>by rw[Heap.get_set _ _ _ _ lW,if_neg (by assumption),gR4]
 by_cases h64:l.length<=64
 ·have e0:((l.length-64:Nat):Int)=0:=by omega
  have em:m=l.length:=by omega
  have et:l.take 64=l:=List.take_of_length_le h64
  rw[e0]at lenD
  have hF:FIN=Bl.take p8 (l.take 64) (count+m) true:=by rw[<- hf,Zlk h64,em,et]
  simp[lenD]
  refine key true FIN hF _ ?_
  simp[X26,stA,t6,lenD]
  refine Ztb b (W:=W) (p8:=FIN) (h:=h) (R0:=R0) (by simp[t4]) (by simp[t6]) (gW5 _) (gR5 _) (old5 _) (by assumption) K hk
 ·have e0:¬ ((l.length-64:Nat):Int)=0:=by omega
  have em:m=64:=by omega
  subst em
  have e1:(decide (((l.length-64:Nat):Int)=0))=false:=by simpa using e0
  have hlt:64 < l.length:=by omega
  have e0n:¬ (l.length-64=0):=by omega
  simp only[lenD,J2,e1]
  refine key false _ rfl _ ?_
  simp[X26,stA,t6,lenD,e0n]
  refine⟨l.length-64,by omega,_,_,tv',l.drop 64,count+64,Bl.take p8 (l.take 64) (count+64) false,rfl,by simp[t4],by simp[t6],by simp,by simp,?_,gW5 _,gR5 _,old5 _,by assumption,by assumption,by assumption,?_,by rw[<- hf];exact(Zjp hlt).symm,by simp,by simp;omega,?_⟩
  ·refine Sl.keep sn4 fun c hc hlt => ?_
   rw[Heap.get_set _ _ _ _ lW,if_neg]
   rintro rfl
   rcases f5 _ hc with q | q
   ·exact hv q
   ·omega
  ·intro q
   rcases f5 _ q with q | q
   ·exact hv q
   ·omega
  ·intro x hx
   have hlx:=hl1 x hx
   have hx2:x.1≠W:=by
    intro q
    have:=Zn5 hl x hx
    omega
   rw[Heap.get_set _ _ _ _ lW,if_neg (Ne.symm hx2)]
   exact a14.get hlx
end
theorem gn0(b:Nat):(0 < (E b).G.n)=True:=eq_true (by show 0 < nv;decide)
theorem Zyg(x:Int):Qep (binOp .shl 92 (.int .u32 x) (.int .u64 8))=some (.int .u32 (IntKind.u32.wrap (x*2 ^ 8))):=by kernel_rfl
theorem Zln(x y:Int):Qep (binOp .xor 92 (.int .u32 x) (.int .u32 y))=some (.int .u32 (Xpy x y)):=by kernel_rfl
def Zif(k:Nat):Int:=Xpy 1779033703 (Xpy (Xpy 16842752 (IntKind.u32.wrap (IntKind.u32.wrap (k:Int)*2 ^ 8))) 32)
theorem Zmz:∀ k,k < 33->Zif k=Int.ofNat (Bl.start k).h0:=by decide
def K0(k:Nat):Bl.P8:=Bl.start k
theorem Yeu:∀ n,(Bl.zeros n).map u8v=List.replicate n (.int .u8 0)
 | 0=>rfl
 | n+1=>by
  have : (Bl.zeros (n+1)).map u8v=u8v 0::(Bl.zeros n).map u8v:=rfl
  rw[this,Yeu n,List.replicate_succ];rfl
theorem Xsc(v:Value):∀ n,Qdi [v] n=List.replicate n v
 | 0=>rfl
 | n+1=>by simp[Qdi,Xsc v n,List.replicate_succ]
section
attribute [local simp] Qah Qeo Ve Va Zq Xv Jn X92 X0y X01 X84 Qzo Q01 Zd Zy X26 Qlo Qlp Qzg J2 Qag Qb8 Z7 Qsy Qsv Qis Qzx Qz8 X5o Xlo Uh kON kOC kNN kNP kRR kRP kEN kER kTN kTR kTX kTP kBN kBR kBX kBP kCS kCR kCE kAM
theorem Yp6(b:Nat){h hA:Heap}(laid:Ab.LaidIn h Qix){R:Nat}{kv tv:Value}{key l:List Nat}{tr:Tr Value}(aA:Old h hA)(hR:h.next<=R)(gA:hA.get R=some (.cells true 1 z32))(sk:SN hA kv key)(sl:SN hA tv l)(hkey:key.length<=32)(hl:l.length < 1000000000)
  (t0:tr.get 0=some kv) (t1:tr.get 1=some tv) (t4:tr.get 4=some (.pointer (some ⟨R,0,none⟩))) (K:KP) (hk:∀ h',Old h h'->K (.ret (.agg ⟨(Bl.keyed1 key l).map u8v⟩)) h') :
  Wv (E b) (Q53 Tryz.prog (E b).G) (D0 b) none Q4l ⟨⟨81,tr⟩,[],hA⟩ (Yas (E b) (DD b) Ql5 K):=by
 have lenk:∀ hx,Qn4 (E b).toEnv 30 kv hx=some (.int .i64 (key.length:Int)):=fun hx=>Qfg (T30 b) sk
 have lent:∀ hx,Qn4 (E b).toEnv 30 tv hx=some (.int .i64 (l.length:Int)):=fun hx=>Qfg (T30 b) sl
 have h32:¬ (32:Int) < (key.length:Int):=by omega
 have gbeg:h.get 0=some (.cells false 0 Qge):=laid (0,Qge) (by simp[Qix])
 obtain⟨hB,eB⟩:∃ hB,hB=hA.push (.cells true 1 (List.replicate 8 (.int .u32 0))):=⟨_,rfl⟩
 have lA:=Heap.get_lt gA
 have aB:=Qkm eB
 have nB:=Q4v eB
 have gB:hB.get hA.next=some (.cells true 1 (List.replicate 8 (.int .u32 0))):=by rw[eB,Heap.get_push,if_pos rfl]
 have alB:Qba (E b).toEnv 94 hA=some (.pointer (some ⟨hA.next,0,none⟩),hB):=by rw[eB];exact X1y b hA
 have ld0:Qb9 hA 0 0 8=some (.agg ⟨Qge⟩):=by
  rw[Jx (aA.get gbeg) (by simp[Qge])];rfl
 obtain⟨hC,eC⟩:∃ hC,hC=hB.set hA.next (some (.cells true 1 Qge)):=⟨_,rfl⟩
 have lB:=Heap.get_lt gB
 have gC:hC.get hA.next=some (.cells true 1 Qge):=by rw[eC,Heap.get_set _ _ _ _ lB,if_pos rfl]
 have stC:Qdm (E b).toEnv 94 (.pointer (some ⟨hA.next,0,none⟩)) (.agg ⟨Qge⟩) hB=some hC:=(X0y b hB hA.next 0 _ (by simp[Qge])).trans (by rw[W5 gB (by simp[Qge]),eC];rfl)
 have ldC:Jl hC hA.next 0=some (.int .u32 1779033703):=by rw[J5 gC];rfl
 obtain⟨hD,eD⟩:∃ hD,hD=hC.set hA.next (some (.cells true 1 (Qge.set 0 (.int .u32 (Zif key.length))))):=⟨_,rfl⟩
 have lC:=Heap.get_lt gC
 have stD:Uj hC hA.next 0 [.int .u32 (Zif key.length)]=some hD:=by rw[eD];exact Qhj gC (by simp[Qge])
 have gD:hD.get hA.next=some (.cells true 1 ((Y7i (Bl.start key.length)).map Qeq)):=by
  rw[eD,Heap.get_set _ _ _ _ lC,if_pos rfl,Zmz _ (by omega)];rfl
 have aC:Old h hC:=by rw[eC];exact(aA.trans aB).set _ (by omega) lB
 have aAD:Old hA hD:=by rw[eD,eC];exact(aB.set _ (Nat.le_refl _) lB).set _ (Nat.le_refl _) (by rw[<- eC];exact lC)
 have aD:Old h hD:=by rw[eD];exact aC.set _ (by omega) lC
 have gR:hD.get R=some (.cells true 1 z32):=by
  rw[eD,Heap.get_set _ _ _ _ lC,if_neg (by omega),eC,Heap.get_set _ _ _ _ lB,if_neg (by omega)]
  exact aB.get gA
 have hx0:Vg (E b).toEnv 94 (.pointer (some ⟨hA.next,0,none⟩)) (.int .i64 0)=some (.pointer (some ⟨hA.next,0,none⟩)):=X01 b ⟨by omega,by omega⟩
 obtain⟨a0,ha0⟩:∃ a:Int,a=IntKind.u32.wrap (key.length:Int):=⟨_,rfl⟩
 obtain⟨a1,ha1⟩:∃ a:Int,a=IntKind.u32.wrap (a0*2 ^ 8):=⟨_,rfl⟩
 obtain⟨a2,ha2⟩:∃ a:Int,a=Xpy 16842752 a1:=⟨_,rfl⟩
 obtain⟨a3,ha3⟩:∃ a:Int,a=Xpy a2 32:=⟨_,rfl⟩
 obtain⟨a4,ha4⟩:∃ a:Int,a=Zif key.length:=⟨_,rfl⟩
 have x0:Qv7 (E b).toEnv 3 92 (.int .i64 (key.length:Int))=some (.int .u32 a0):=by rw[ha0];exact Qup b _ _
 have x1:Qep (binOp .shl 92 (.int .u32 a0) (.int .u64 8))=some (.int .u32 a1):=by rw[ha1];exact Zyg a0
 have x2:Qep (binOp .xor 92 (.int .u32 16842752) (.int .u32 a1))=some (.int .u32 a2):=by rw[ha2];exact Zln _ _
 have x3:Qep (binOp .xor 92 (.int .u32 a2) (.int .u32 32))=some (.int .u32 a3):=by rw[ha3];exact Zln _ _
 have x4:Qep (binOp .xor 92 (.int .u32 1779033703) (.int .u32 a3))=some (.int .u32 a4):=by rw[ha4,Zif,<- ha0,<- ha1,<- ha2,<- ha3];exact Zln _ _
 rw[<- ha4]at stD
 simp[Vr,X1y,Qup,Wi,Wh,-X1y,gn0,t0,t1,t4,alB,lenk,lent,h32,ld0,stC,hx0,ldC,stD,-Qup,x0,x1,x2,x3,x4]
 have laidD:=LaidIn.old laid aD
 have fin:∀ (t:Tr Value) (h0:Heap) (v:Value) (text:List Nat),text=Bl.textOf key l->t.get 4=some (.pointer (some ⟨R,0,none⟩))->t.get 6=some (.pointer (some ⟨hA.next,0,none⟩))->t.get 7=some v->t.get 8=some (.int .u64 0)->SN h0 v text->Old hD h0->U1 v≠some hA.next ->
   Wv (E b) (Q53 Tryz.prog (E b).G) (D0 b) none Quu ⟨⟨81,t⟩,[],h0⟩ (Yas (E b) (DD b) Ql5 K):=by
  intro t h0 v text e t4 t6 t7 t8 sn o0 hv
  refine Zl8 b (count:=0) (FIN:=Zpl (Bl.start key.length) text 0) laid t4 t6 t7 t8 sn (o0.get gD) (o0.get gR) (aD.trans o0) (by omega) hR (by omega) hv rfl ?_ K fun h' q => ?_
  ·subst e
   cases key with
   | nil=>simp[Bl.textOf];omega
   | cons k ks =>
    have z:∀ n,(Bl.zeros n).length=n:=fun n=>by induction n with
     | zero=>rfl
     | succ n ih=>simp[Bl.zeros,ih]
    simp[Bl.textOf,z]at hkey ⊢;omega
  ·rw[e]at *
   exact hk h' q
 cases hkc:key with
 | nil =>
  subst hkc
  simp[Vr,X1y,Qup,Wi,Wh,-Wi,t0,t1,t4]
  refine fin _ hD tv l rfl (by simp[t0,t1,t4]) (by simp[t0,t1,t4]) (by simp[t0,t1,t4]) (by simp[t0,t1,t4]) (sl.old aAD) (Old.refl _) fun q => ?_
  have:=sl.blk q
  omega
 | cons k ks =>
  have h0:0 < key.length:=by rw[hkc];simp
  rw[<- hkc]
  have w1:IntKind.i64.wrap (64+(l.length:Int))=((64+l.length:Nat):Int):=by rw[Qao (by omega) (by omega)];omega
  have w2:IntKind.i64.wrap (64-(key.length:Int))=((64-key.length:Nat):Int):=by rw[Qao (by omega) (by omega)];omega
  obtain⟨h1,e1⟩:∃ h1,h1=hD.push (.cells true 1 (List.replicate (64+l.length) (.int .u8 0))):=⟨_,rfl⟩
  have a1:=Qkm e1
  have mk:Qqn (E b).toEnv 30 (.int .i64 0) (.int .i64 ((64+l.length:Nat):Int)) hD=some (.slice (some ⟨hD.next,0,none⟩) 0 (64+l.length),h1):=by
   simp only[Qqn,Xmj,(T30 b).d,Zc5]
   rw[if_pos ⟨by omega,by omega,by omega,by rw[Qxt];omega,by rw[Qgp];omega⟩,Zbb,e1]
   have : (Value.int .u8 0).cells.toList=[.int .u8 0]:=rfl
   rw[this,Xsc]
   simp only[Int.toNat_natCast,Int.toNat_zero]
  have mk':Qqn (E b).toEnv 30 (.int .i64 0) (.int .i64 (64+(l.length:Int))) hD=some (.slice (some ⟨hD.next,0,none⟩) 0 (64+l.length),h1):=by
   have:=mk
   rw[show((64+l.length:Nat):Int)=64+(l.length:Int) by omega]at this
   exact this
  have o1:Own h1 hD.next 1 (.slice (some ⟨hD.next,0,none⟩) 0 (64+l.length)) 0 []:=.inr ⟨hD.next,64+l.length,1,_,rfl,Nat.le_refl _,by rw[e1,Heap.get_push,if_pos rfl,List.nil_append],rfl,by omega,by unfold Qhx;omega,.inr ⟨by unfold Qhx;omega,by simp⟩⟩
  obtain⟨v2,h2,c1,o2,b2⟩:=Q3d (T30 b) (tx:=30) (m:=key.length) (ys:=key.map u8v) Qgp (by omega) o1 a1.1 (Xpp (T30 b) Qgp (sk.old (aAD.trans a1))) (by simp) (by rw[Qxt];omega) (by omega)
  have nz:Xxi (E b).toEnv 3 R5 (.int .i64 ((64-key.length:Nat):Int)) h2=some (64-key.length,List.replicate (64-key.length) (.int .u8 0)):=by
   have hi:R3.desc=.int .i64:=by kernel_rfl
   simp only[Xxi,Zxv,hi]
   rw[if_pos ⟨by omega,by omega,by rw[Qxt];omega,by rw[Qgp];omega⟩,Zbb]
   have : (Value.int .u8 0).cells.toList=[.int .u8 0]:=rfl
   rw[this,Xsc]
   simp
  obtain⟨v3,h3,c2,o3,b3⟩:=Q3d (T30 b) (tx:=3) Qgp (by omega) o2 (Nat.le_trans a1.1 b2.1) nz (by simp) (by rw[Qxt];omega) (by omega)
  have a2:Old hD h2:=b2.old a1 o1
  have a3:Old hD h3:=b3.old a2 o2
  obtain⟨v4,h4,c3,o4,b4⟩:=Q3d (T30 b) (tx:=30) (m:=l.length) (ys:=l.map u8v) Qgp (by omega) o3 a3.1 (Xpp (T30 b) Qgp (sl.old (aAD.trans a3))) (by simp) (by rw[Qxt];omega) (by omega)
  have a4:Old hD h4:=b4.old a3 o3
  simp[Vr,X1y,Qup,Wi,Wh,-Wi,t0,t1,t4,h0,lenk,lent,w1,w2,mk',c1,c2,c3]
  have zl:(Bl.zeros (64-key.length)).length=64-key.length:=by have:=congrArg List.length (Yeu (64-key.length));simpa using this
  have tx:Bl.textOf key l=key++(Bl.zeros (64-key.length)++l):=by rw[hkc];rfl
  have sn:SN h4 v4 (key++(Bl.zeros (64-key.length)++l)):=by
   have:=o4.sl
   have e1 : []++key.map u8v++List.replicate (64-key.length) (Value.int .u8 0)++l.map u8v=(key++(Bl.zeros (64-key.length)++l)).map u8v:=by
    rw[List.map_append,List.map_append,Yeu]
    simp
   have e2:0+key.length+(64-key.length)+l.length=(key++(Bl.zeros (64-key.length)++l)).length:=by
    simp only[List.length_append,zl];omega
   rw[e1,e2]at this
   exact this
  refine fin _ h4 v4 _ tx.symm (by simp[t0,t1,t4]) (by simp[t0,t1,t4]) (by simp[t0,t1,t4]) (by simp[t0,t1,t4]) sn a4 fun q => ?_
  have:=(o4.from q).1
  have:=Heap.get_lt gD
  omega
theorem Ysu(b:Nat){h:Heap}(laid:Ab.LaidIn h Qix){kv tv:Value}{key l:List Nat}(sk:SN h kv key)(sl:SN h tv l)(hkey:key.length<=32)(hl:l.length < 1000000000)(K:KP)(hk:∀ h',Old h h'->K (.ret (.agg ⟨(Bl.keyed1 key l).map u8v⟩)) h') :
  FK b 17 [kv,tv] h K:=by
 refine FF b (Ve b) Xld X00 Xw5 rfl ?_
 have lenk:∀ hx,Qn4 (E b).toEnv 30 kv hx=some (.int .i64 (key.length:Int)):=fun hx=>Qfg (T30 b) sk
 have h32:¬ (32:Int) < (key.length:Int):=by omega
 obtain⟨hA,eA,aA,gA⟩:=Qoa h z32
 have alA:Qba (E b).toEnv 23 h=some (.pointer (some ⟨h.next,0,none⟩),hA):=by rw[eA];exact Vr b h
 simp[Vr,X1y,Qup,Wi,Wh,-Vr,-Wh,alA,lenk,h32]
 exact Yp6 b laid aA (Nat.le_refl _) gA (sk.old aA) (sl.old aA) hkey hl (by simp) (by simp) (by simp) K hk
end
section
attribute [local simp] Q9y X6f Xv Ve Jn
theorem Yp3(b:Nat){h:Heap}(laid:Ab.LaidIn h Qix){tv:Value}{l:List Nat}(sl:SN h tv l)(hl:l.length < 1000000000)(K:KP)(hk:∀ h',Old h h'->K (.ret (.agg ⟨(Bl.keyed1 [] l).map u8v⟩)) h') :
  FK b 5 [tv] h K:=by
 refine FF b (Xv b) Yic Y7v Y4n rfl ?_
 obtain⟨hA,eA,aA,gA⟩:=Qoa h z32
 have alA:Qba (E b).toEnv 23 h=some (.pointer (some ⟨h.next,0,none⟩),hA):=by rw[eA];exact Vr b h
 simp[Vr,-Vr,alA]
 refine Ysu b (LaidIn.old laid aA) (kv:=.slice none 0 0) (key:=[]) Sl.nil (sl.old aA) (by simp) hl _ fun h2 a2 => ?_
 have g2:h2.get h.next=some (.cells true 1 z32):=a2.get gA
 have kl:(Bl.keyed1 [] l).length=32:=Qls _
 have l2:=Heap.get_lt g2
 have st:Uj h2 h.next 0 ((Bl.keyed1 [] l).map u8v)=some (h2.set h.next (some (.cells true 1 ((Bl.keyed1 [] l).map u8v)))):=by
  rw[W5 g2 (by simp[z32,kl])]
  congr 4
 have g3:Qb9 (h2.set h.next (some (.cells true 1 ((Bl.keyed1 [] l).map u8v)))) h.next 0 32=some (.agg ⟨(Bl.keyed1 [] l).map u8v⟩):=by
  rw[Jx (by rw[Heap.get_set _ _ _ _ l2,if_pos rfl]) (by simp[kl])]
  congr 3
 simp[Vr,Uh,st,kl,g3]
 exact hk _ ((aA.trans a2).set _ (Nat.le_refl _) l2)
end
theorem Yat(b:Nat)(B o:Nat)(h:Heap):Qer (E b).toEnv 23 (.pointer (some ⟨B,o,none⟩)) none none none h=some (.slice (some ⟨B,o,none⟩) 32 32,h):=by kernel_rfl
section
attribute [local simp] Qah Qah Qeo Ve Va Zq Xv Jn X92 X1y X0y X01 X84 Qzo Qup Q01 Zd Zy X26 Qlo Qlp Qzg J2 Qag Qb8 Z7 Qsy Qsv Qis Qzx Qz8 X5o Xlo Uh Wi kON kOC kNN kNP kRR kRP kEN kER kTN kTR kTX kTP kBN kBR kBX kBP kCS kCR kCE kAM
theorem Zkn(b:Nat){h:Heap}(laid:Ab.LaidIn h Qix){kv tv:Value}{key l:List Nat}(sk:SN h kv key)(sl:SN h tv l)(hkl:key.length < 1000000000)(hl:l.length < 1000000000)(K:KP)(hk:∀ h',Old h h'->K (.ret (.agg ⟨(Bl.keyed key l).map u8v⟩)) h') :
  FK b 17 [kv,tv] h K:=by
 by_cases h32:key.length<=32
 ·have e:Bl.keyed key l=Bl.keyed1 key l:=by unfold Bl.keyed;rw[Q86 h32]
  rw[e]at hk
  exact Ysu b laid sk sl h32 hl K hk
 ·have e:Bl.keyed key l=Bl.keyed1 (Bl.keyed1 [] key) l:=by
   unfold Bl.keyed
   have : Nat.ble key.length 32=false:=by
    cases hq:Nat.ble key.length 32 with
    | false=>rfl
    | true=>rw[Nat.ble_eq]at hq;omega
   rw[this]
  rw[e]at hk
  refine FF b (Ve b) Xld X00 Xw5 rfl ?_
  have lenk:∀ hx,Qn4 (E b).toEnv 30 kv hx=some (.int .i64 (key.length:Int)):=fun hx=>Qfg (T30 b) sk
  have h32':(32:Int) < (key.length:Int):=by omega
  obtain⟨hA,eA,aA,gA⟩:=Qoa h z32
  have alA:Qba (E b).toEnv 23 h=some (.pointer (some ⟨h.next,0,none⟩),hA):=by rw[eA];exact Vr b h
  simp[Vr,Wh,-Vr,-Wh,alA,lenk,h32']
  refine Yp3 b (LaidIn.old laid aA) (sk.old aA) hkl _ fun h2 a2 => ?_
  obtain⟨dg,hdg⟩:∃ d,d=Bl.keyed1 [] key:=⟨_,rfl⟩
  rw[<- hdg]at hk ⊢
  have kl:dg.length=32:=by rw[hdg];exact Qls _
  obtain⟨hB,eB⟩:∃ hB,hB=h2.push (.cells true 1 z32):=⟨_,rfl⟩
  have alB:Qba (E b).toEnv 23 h2=some (.pointer (some ⟨h2.next,0,none⟩),hB):=by rw[eB];exact Vr b h2
  have gB:hB.get h2.next=some (.cells true 1 z32):=by rw[eB,Heap.get_push,if_pos rfl]
  have lB:=Heap.get_lt gB
  obtain⟨hC,eC⟩:∃ hC,hC=hB.set h2.next (some (.cells true 1 (dg.map u8v))):=⟨_,rfl⟩
  have stC:Uj hB h2.next 0 (dg.map u8v)=some hC:=by
   rw[W5 gB (by simp[z32,kl]),eC]
   congr 4
   simp[z32,kl]
  have gC:hC.get h2.next=some (.cells true 1 (dg.map u8v)):=by rw[eC,Heap.get_set _ _ _ _ lB,if_pos rfl]
  have aC:Old h2 hC:=by rw[eC,eB];exact(Old.push _ _).set _ (Nat.le_refl _) (by rw[<- eB];exact lB)
  simp[Vr,Wh,-Vr,-Wh,alB,kl,stC,Yat]
  refine Yp6 b laid (aA.trans (a2.trans aC)) (Nat.le_refl _) ((a2.trans aC).get gA) (kv:=.slice (some ⟨h2.next,0,none⟩) 32 32) (key:=dg) ?_ (sl.old (aA.trans (a2.trans aC))) (by omega) hl (by simp) (by simp) (by simp) K hk
  have:=(Own.new (n0:=0) (z:=1) (n:=32) (c:=32) (Nat.zero_le _) gC (by simp[kl]) (by decide) (.inr rfl)).sl
  rw[SN,kl]
  exact this
end
section
attribute [local simp] Qmc Qvk Vd Z7 Zq Qro Qpc Qrn Zy Q8w Xwl
theorem Zoc(b:Nat)(h:Heap)(ν:Nat){o:Int}(ho:o < 1∨32 < o)(K:KP)(hk:K (.ret (.pointer none)) h):FK b 70 [.pointer (some ⟨ν,0,none⟩),.int .i64 o] h K:=by
 refine FF b (Vd b) Q0l Xbr Q8y rfl ?_
 by_cases h1:o < 1
 ·simp[h1]
  exact hk
 ·have h2:32 < o:=by omega
  simp[h1,h2]
  exact hk
theorem Ze7(b:Nat)(h:Heap)(ν:Nat){o:Int}(h1:1<=o)(h2:o<=32)(K:KP)(hk:K (.ret (.pointer (some ⟨ν,(o-1).toNat*32,none⟩))) h):FK b 70 [.pointer (some ⟨ν,0,none⟩),.int .i64 o] h K:=by
 refine FF b (Vd b) Q0l Xbr Q8y rfl ?_
 have a1:¬ o < 1:=by omega
 have a2:¬ 32 < o:=by omega
 have w:IntKind.i64.wrap (o-1)=o-1:=Qao (by omega) (by omega)
 have a3:0<=o-1/\o-1 < ((32:Nat):Int):=⟨by omega,by omega⟩
 have hx:Vg (E b).toEnv 106 (.pointer (some ⟨ν,0,none⟩)) (.int .i64 (o-1))=some (.pointer (some ⟨ν,(o-1).toNat*32,none⟩)):=by rw[Xwl b a3];simp
 simp[Qga,a1,a2,w,hx]
 rw[show o.toNat-1=(o-1).toNat by omega]
 exact hk
end
def z16:List Value:=List.replicate 16 (.int .u8 0)
theorem Zp7(b:Nat):Y1s (E b).toEnv .neq 153 (.pointer none) (.pointer none)=some (.bool false):=by kernel_rfl
theorem Zdc(b bk o:Nat):Y1s (E b).toEnv .neq 153 (.pointer (some ⟨bk,o,none⟩)) (.pointer none)=some (.bool true):=by kernel_rfl
theorem Zb6(b:Nat)(B o:Nat)(h:Heap):Qer (E b).toEnv 23 (.pointer (some ⟨B,o,none⟩)) none none none h=some (.slice (some ⟨B,o,none⟩) 32 32,h):=by kernel_rfl
theorem Zsj(b:Nat)(B o:Nat)(h:Heap):Qer (E b).toEnv 90 (.pointer (some ⟨B,o,none⟩)) none none none h=some (.slice (some ⟨B,o,none⟩) 16 16,h):=by kernel_rfl
theorem Zx7(b:Nat){h:Heap}{B:Nat}{D:Nat}(hD:0 < D){ds:List Value}{v:Value}{l:List Nat}(hg:h.get B=some (.cells true 1 ds))(hd:ds.length=D)(s:SN h v l) :
  ∃ h',Xxn (E b).toEnv 30 (.slice (some ⟨B,0,none⟩) D D) v h=some (.int .i64 ((min l.length D:Nat):Int),h')/\h'.get B=some (.cells true 1 ((l.take D).map u8v++ds.drop (min l.length D)))/\h'.next=h.next/\∀ c,c≠B->h'.get c=h.get c:=by
 have hmin:Nat.min l.length D=min l.length D:=rfl
 have hlen:Xvw v=some l.length:=by rcases s with⟨c,rfl,_,e,_⟩ | ⟨bk,o,c,ow,z',pre,post,rfl,_⟩ <;> simp_all [Xvw]
 have hsrc:Y76 1 (Nat.min l.length D) v h=some ((l.take D).map u8v):=by
  rcases s with⟨c,rfl,_,e,e2⟩ | ⟨bk,o,c,ow,z',pre,post,rfl,h1,h2,h3, -⟩
  ·have : l=[]:=List.eq_nil_of_length_eq_zero e
   subst this
   simp[Y76]
  ·have h4:Q1n (Nat.min l.length D*1) ((pre++l.map u8v++post).drop o)=some ((l.take D).map u8v):=by
    rw[hmin,<- h2,List.append_assoc,List.drop_left,Q1h (by simp;omega),List.take_append_of_le_length (by simp;omega),<- List.map_take,Nat.mul_one]
    congr 2
    rcases Nat.le_total l.length D with q | q
    ·rw[Nat.min_eq_left q,List.take_of_length_le (Nat.le_refl _),List.take_of_length_le q]
    ·rw[Nat.min_eq_right q]
   simp only[Y76,Ab.cellsAt,h1,h4]
 have hr:R30.desc=.slice 5:=(T30 b).d
 cases hc:(l.take D).map u8v with
 | nil =>
  have : l=[]:=by
   cases l with
   | nil=>rfl
   | cons x l=>cases D with
    | zero=>omega
    | succ D=>simp at hc
  subst this
  refine⟨h,?_,by simpa using hg,rfl,fun _ _=>rfl⟩
  rw[hc]at hsrc
  simp only[Xxn,Xmj,hr,hlen,Zc5,Qgp,hsrc]
 | cons x xs =>
  have hle:(x::xs).length<=ds.length:=by rw[<- hc,hd];simp;omega
  have hst:storeAt h ⟨B,0,none⟩ (x::xs)=some (h.set B (some (.cells true 1 ((x::xs)++ds.drop (x::xs).length)))):=by
   simp only[storeAt,hg]
   rw[Qms (by simpa using hle)]
   simp
  rw[hc]at hsrc
  refine⟨h.set B (some (.cells true 1 ((x::xs)++ds.drop (x::xs).length))),?_,?_,rfl,fun c hc=>by rw[Heap.get_set _ _ _ _ (Heap.get_lt hg),if_neg (Ne.symm hc)]⟩
  ·simp only[Xxn,Xmj,hr,hlen,Zc5,Qgp,hsrc,hst]
   rfl
  ·rw[Heap.get_set _ _ _ _ (Heap.get_lt hg),if_pos rfl]
   congr 4
   rw[<- hc,List.length_map,List.length_take,Nat.min_comm]
def Ql8(ks ds:List Nat):List Nat:=(Bl.keyed1 ks ds).take 16
section
attribute [local simp] Qbp Qee Jg Vd Qj2 Ve Vr Jn Qly Xms
theorem Ziv(b:Nat){h:Heap}(laid:Ab.LaidIn h Qix){ν z:Nat}{ow:Bool}{pre post:List Value}{ks ds:List Nat}{o:Int}(h1:1<=o)(h2:o<=32)(hg:h.get ν=some (.cells ow z (pre++ks.map u8v++post)))(hp:pre.length=(o-1).toNat*32)(hks:ks.length=32)(hds:ds.length=32)
  (K:KP) (hk:∀ h',Old h h'->K (.ret (.agg ⟨(Ql8 ks ds).map u8v⟩)) h'):FK b 46 [.pointer (some ⟨ν,0,none⟩),.int .i64 o,.agg ⟨ds.map u8v⟩] h K:=by
 refine FF b (Jg b) Xp5 Xzt Xxd rfl ?_
 obtain⟨hA,eA⟩:∃ hA,hA=h.push (.cells true 1 (ds.map u8v)):=⟨_,rfl⟩
 obtain⟨hB,eB⟩:∃ hB,hB=hA.push (.cells true 1 z16):=⟨_,rfl⟩
 have aA:=Qkm eA
 have aB:=Qkm eB
 have nA:=Q4v eA
 have gA:hA.get h.next=some (.cells true 1 (ds.map u8v)):=by rw[eA,Heap.get_push,if_pos rfl]
 have gB:hB.get hA.next=some (.cells true 1 z16):=by rw[eB,Heap.get_push,if_pos rfl]
 have bx:=Qr2 eA
 have alB:Qba (E b).toEnv 90 hA=some (.pointer (some ⟨hA.next,0,none⟩),hB):=by rw[eB];exact Q6z b hA
 have ld:(ds.map u8v).length=32:=by simpa using hds
 have sk:SN hB (.slice (some ⟨ν,(o-1).toNat*32,none⟩) 32 32) ks:=.inr ⟨ν,(o-1).toNat*32,32,ow,z,pre,post,by rw[hks],(aA.trans aB).get hg,hp,by simp,by omega,by unfold Qhx;omega,fun q=>by unfold Qhx at q;omega⟩
 have sd:SN hB (.slice (some ⟨h.next,0,none⟩) 32 32) ds:=.inr ⟨h.next,0,32,true,1,[],[],by rw[hds],by simpa using aB.get gA,rfl,by simp,by omega,by unfold Qhx;omega,fun q=>by unfold Qhx at q;omega⟩
 obtain⟨_,hC,c1,n1,rfl,aC⟩:=Ysu b (LaidIn.old laid (aA.trans aB)) sk sd (by omega) (by omega) (fun r h'=>r=.ret (.agg ⟨(Bl.keyed1 ks ds).map u8v⟩)/\Old hB h') (fun h' q=>⟨rfl,q⟩)
 simp[Q6z,hds,bx,-Q6z,alB]
 refine Ze7 b hB ν h1 h2 _ ?_
 simp[Q6z,Zdc]
 have kl:(Bl.keyed1 ks ds).length=32:=Qls _
 obtain⟨hZ,eZ⟩:∃ hZ,hZ=hC.push (.cells true 1 z32):=⟨_,rfl⟩
 have alZ:Qba (E b).toEnv 23 hC=some (.pointer (some ⟨hC.next,0,none⟩),hZ):=by rw[eZ];exact Vr b hC
 have gZ:hZ.get hC.next=some (.cells true 1 z32):=by rw[eZ,Heap.get_push,if_pos rfl]
 have aZ:=Qkm eZ
 have lZ:=Heap.get_lt gZ
 obtain⟨hW,eW⟩:∃ hW,hW=hZ.set hC.next (some (.cells true 1 ((Bl.keyed1 ks ds).map u8v))):=⟨_,rfl⟩
 have stW:Uj hZ hC.next 0 ((Bl.keyed1 ks ds).map u8v)=some hW:=by
  rw[W5 gZ (by simp[z32,kl]),eW]
  congr 4
 have gW:hW.get hC.next=some (.cells true 1 ((Bl.keyed1 ks ds).map u8v)):=by rw[eW,Heap.get_set _ _ _ _ lZ,if_pos rfl]
 have aW:Old hC hW:=by rw[eW];exact aZ.set _ (Nat.le_refl _) lZ
 refine Qfn [⟨17,[.slice (some ⟨ν,(o-1).toNat*32,none⟩) 32 32,.slice (some ⟨h.next,0,none⟩) 32 32],hB,.agg ⟨(Bl.keyed1 ks ds).map u8v⟩,hC,true⟩] ?_ Q9o Xd4 Xao (by simp[Xic,Xnb,Q6z,Qga,Zb6,Qe6,-Vr,alZ,kl,stW];exact⟨rfl,rfl⟩) ?_ ?_
 ·exact zk1 ⟨c1,n1,fun _ c hc=>aC.2 c hc⟩
 ·simp[Qeg,Q6z]
 simp[Q6z]
 have gBW:hW.get hA.next=some (.cells true 1 z16):=aW.get (aC.get gB)
 have skW:SN hW (.slice (some ⟨hC.next,0,none⟩) 32 32) (Bl.keyed1 ks ds):=.inr ⟨hC.next,0,32,true,1,[],[],by rw[kl],by simpa using gW,rfl,by simp,by omega,by unfold Qhx;omega,fun q=>by unfold Qhx at q;omega⟩
 obtain⟨hX,cp,gX,nX,kX⟩:=Zx7 b (D:=16) (by omega) gBW (by simp[z16]) skW
 have gX':hX.get hA.next=some (.cells true 1 ((Ql8 ks ds).map u8v)):=by
  rw[gX]
  rw[kl]
  simp[z16,Ql8]
 have lt16:(Ql8 ks ds).length=16:=by simp[Ql8,kl]
 refine Qfn [] (by simp) Xan Xdn Q9f (by simp[Xgr,Xne,Q6z,Qga,Zb6,Zsj,cp];exact⟨rfl,rfl⟩) ?_ ?_
 ·simp[Qed,Q6z]
 have lX:=Heap.get_lt gX'
 have tk:((Ql8 ks ds).map u8v).take 16=(Ql8 ks ds).map u8v:=List.take_of_length_le (by simp[lt16])
 have tk':((Ql8 ks ds).map u8v).drop 16=[]:=List.drop_of_length_le (by simp[lt16])
 have ldX:Qb9 hX hA.next 0 16=some (.agg ⟨(Ql8 ks ds).map u8v⟩):=by
  rw[Jx gX' (by simp[lt16])]
  simp[tk]
 have stX:Uj hX hA.next 0 ((Ql8 ks ds).map u8v)=some (hX.set hA.next (some (.cells true 1 ((Ql8 ks ds).map u8v)))):=by
  rw[W5 gX' (by simp[lt16])]
  simp[lt16,tk']
 have ldX2:Qb9 (hX.set hA.next (some (.cells true 1 ((Ql8 ks ds).map u8v)))) hA.next 0 16=some (.agg ⟨(Ql8 ks ds).map u8v⟩):=by
  rw[Jx (by rw[Heap.get_set _ _ _ _ lX,if_pos rfl]) (by simp[lt16])]
  simp[tk]
 simp[Q6z,ldX,stX,lt16,ldX2]
 have aX:Old h hX:=⟨by rw[nX];exact Nat.le_trans (aA.trans aB).1 (aC.trans aW).1,fun c hc=>by
  rw[kX c (by omega),(aC.trans aW).2 c (Nat.lt_of_lt_of_le hc (aA.trans aB).1),(aA.trans aB).2 c hc]⟩
 exact hk _ (aX.set _ (by omega) lX)
end
def Quk(ks:List Nat)(o:Int):List Nat:=(ks.drop ((o-1).toNat*32)).take 32
theorem X34:∀ (xs ys:List Nat),xs.length=ys.length->Qaf (List.replicate xs.length 1) (xs.map u8v) (ys.map u8v)=some (decide (xs=ys))
 | [],[],_=>rfl
 | x::xs,y::ys,h=>by
  have ih:=X34 xs ys (by simpa using h)
  simp only[List.length_cons,List.replicate_succ,List.map_cons,Qaf,ih]
  have : X6j 1 (u8v x) (u8v y)=some (decide (x=y)):=by
   show(if IntKind.u8=IntKind.u8 then some ((x:Int) == (y:Int))else none)=_
   simp only[if_true]
   congr 1
   by_cases e:x=y
   ·subst e;simp
   ·simp[e];omega
  rw[this]
  simp only[List.cons.injEq,Bool.decide_and]
theorem Z0k{x y:List Nat}(hx:x.length=16)(hy:y.length=16):Qaf L90 (x.map u8v) (y.map u8v)=some (decide (x=y)):=by
 have:=X34 x y (by omega)
 rw[hx]at this
 rw[<- this]
 congr 1
theorem teq(b:Nat){x y:List Nat}(hx:x.length=16)(hy:y.length=16):Y1s (E b).toEnv .eql 90 (.agg ⟨x.map u8v⟩) (.agg ⟨y.map u8v⟩)=some (.bool (decide (x=y))):=by
 have e:Y1s (E b).toEnv .eql 90 (.agg ⟨x.map u8v⟩) (.agg ⟨y.map u8v⟩)=(Qaf L90 (x.map u8v) (y.map u8v)).map .bool:=by kernel_rfl
 rw[e,Z0k hx hy]
 rfl
theorem Zle{ks:List Nat}(hks:ks.length=1024){o:Int}(h1:1<=o)(h2:o<=32):(Quk ks o).length=32:=by
 simp[Quk];omega
theorem Zld{ks:List Nat}(o:Int):ks.map u8v=(ks.take ((o-1).toNat*32)).map u8v++(Quk ks o).map u8v++((ks.drop ((o-1).toNat*32)).drop 32).map u8v:=by
 rw[<- List.map_append,<- List.map_append,Quk,List.append_assoc,List.take_append_drop,List.take_append_drop]
theorem Zu3{k d:List Nat}:(Ql8 k d).length=16:=by
 have kl:(Bl.keyed1 k d).length=32:=Qls _
 simp[Ql8,kl]
theorem Zly(b:Nat){h:Heap}(laid:Ab.LaidIn h Qix){ν z:Nat}{ow:Bool}{ks ds:List Nat}{o:Int}(h1:1<=o)(h2:o<=32)(hg:h.get ν=some (.cells ow z (ks.map u8v)))(hks:ks.length=1024)(hds:ds.length=32)
  (K:KP) (hk:∀ h',Old h h'->K (.ret (.agg ⟨(Ql8 (Quk ks o) ds).map u8v⟩)) h'):FK b 46 [.pointer (some ⟨ν,0,none⟩),.int .i64 o,.agg ⟨ds.map u8v⟩] h K :=
 Ziv b laid h1 h2 (by rw[hg,Zld o]) (by simp;omega) (Zle hks h1 h2) hds K hk
section
attribute [local simp] Qat Qcl Jd Vd Qj2 Uh Jg Qly Xol
set_option maxHeartbeats 2000000 in
theorem Y9k(b:Nat){h:Heap}(laid:Ab.LaidIn h Qix){ν z:Nat}{ow:Bool}{ks ds tg:List Nat}{o:Int}(hg:h.get ν=some (.cells ow z (ks.map u8v)))(hks:ks.length=1024)(hds:ds.length=32)(htg:tg.length=16)
  (h1:1<=o) (h2:o<=32) (K:KP) (hk:∀ h',Old h h'->K (.ret (.bool (decide (Ql8 (Quk ks o) ds=tg)))) h'):FK b 95 [.pointer (some ⟨ν,0,none⟩),.int .i64 o,.agg ⟨ds.map u8v⟩,.agg ⟨tg.map u8v⟩] h K:=by
 refine FF b (Jd b) Qut Q14 Qz0 rfl ?_
 obtain⟨hA,eA⟩:∃ hA,hA=h.push (.cells true 1 (ds.map u8v)):=⟨_,rfl⟩
 obtain⟨hB,eB⟩:∃ hB,hB=hA.push (.cells true 1 (tg.map u8v)):=⟨_,rfl⟩
 have aA:=Qkm eA
 have aB:=Qkm eB
 have gA:hA.get h.next=some (.cells true 1 (ds.map u8v)):=by rw[eA,Heap.get_push,if_pos rfl]
 have gB:hB.get hA.next=some (.cells true 1 (tg.map u8v)):=by rw[eB,Heap.get_push,if_pos rfl]
 have bxA:=Qr2 eA
 have bxB:=Qr2 eB
 simp[bxA,bxB]
 skip
 obtain⟨_,_,c1,n1,rfl,rfl⟩:=Ze7 b hB ν h1 h2 (fun r h'=>r=.ret (.pointer (some ⟨ν,(o-1).toNat*32,none⟩))/\hB=h') ⟨rfl,rfl⟩
 obtain⟨_,hC,c2,n2,rfl,aC⟩:=Zly b (LaidIn.old laid (aA.trans aB)) h1 h2 ((aA.trans aB).get hg) hks hds (fun r h'=>r=.ret (.agg ⟨(Ql8 (Quk ks o) ds).map u8v⟩)/\Old hB h') (fun h' q=>⟨rfl,q⟩)
 have ldA:Qb9 hB h.next 0 32=some (.agg ⟨ds.map u8v⟩):=by
  rw[Jx (aB.get gA) (by simp[hds]),List.drop_zero,List.take_of_length_le (by simp[hds])]
 have ldB:Qb9 hC hA.next 0 16=some (.agg ⟨tg.map u8v⟩):=by
  rw[Jx (aC.get gB) (by simp[htg]),List.drop_zero,List.take_of_length_le (by simp[htg])]
 refine Qfn [⟨70,[.pointer (some ⟨ν,0,none⟩),.int .i64 o],hB,.pointer (some ⟨ν,(o-1).toNat*32,none⟩),hB,true⟩,⟨46,[.pointer (some ⟨ν,0,none⟩),.int .i64 o,.agg ⟨ds.map u8v⟩],hB,.agg ⟨(Ql8 (Quk ks o) ds).map u8v⟩,hC,true⟩] ?_ Qot Qqs Qp3 (by simp[Qs5,Qs8,Qtk,Qtw,ldA,ldB,teq b Zu3 htg,Qm0,Zdc];exact⟨rfl,rfl⟩) ?_ ?_
 ·exact zk2 ⟨c1,n1,fun _ _ _=>rfl⟩ ⟨c2,n2,fun _ c hc=>aC.2 c hc⟩
 ·simp[Wp,ldA,ldB]
 simp
 exact hk hC ((aA.trans aB).trans aC)
theorem Zb3(b:Nat){h:Heap}(laid:Ab.LaidIn h Qix){ν z:Nat}{ow:Bool}{ks ds tg:List Nat}{o:Int}(hg:h.get ν=some (.cells ow z (ks.map u8v)))(hks:ks.length=1024)(hds:ds.length=32)(htg:tg.length=16)
  (ho:¬ (1<=o/\o<=32)) (K:KP) (hk:∀ h',Old h h'->K (.ret (.bool (false))) h'):FK b 95 [.pointer (some ⟨ν,0,none⟩),.int .i64 o,.agg ⟨ds.map u8v⟩,.agg ⟨tg.map u8v⟩] h K:=by
 refine FF b (Jd b) Qut Q14 Qz0 rfl ?_
 obtain⟨hA,eA⟩:∃ hA,hA=h.push (.cells true 1 (ds.map u8v)):=⟨_,rfl⟩
 obtain⟨hB,eB⟩:∃ hB,hB=hA.push (.cells true 1 (tg.map u8v)):=⟨_,rfl⟩
 have aA:=Qkm eA
 have aB:=Qkm eB
 have gA:hA.get h.next=some (.cells true 1 (ds.map u8v)):=by rw[eA,Heap.get_push,if_pos rfl]
 have gB:hB.get hA.next=some (.cells true 1 (tg.map u8v)):=by rw[eB,Heap.get_push,if_pos rfl]
 have bxA:=Qr2 eA
 have bxB:=Qr2 eB
 simp[bxA,bxB]
 obtain⟨_,_,c1,n1,rfl,rfl⟩:=Zoc b hB ν (o:=o) (by omega) (fun r h'=>r=.ret (.pointer none)/\hB=h') ⟨rfl,rfl⟩
 refine Qfn [⟨70,[.pointer (some ⟨ν,0,none⟩),.int .i64 o],hB,.pointer none,hB,true⟩] ?_ Qot Qqs Qp3 (by simp[Qs5,Qs8,Qtk,Qtw,Qe6,Zp7];exact⟨rfl,rfl⟩) ?_ ?_
 ·exact zk1 ⟨c1,n1,fun _ _ _=>rfl⟩
 ·simp[Wp]
 simp
 exact hk hB (aA.trans aB)
end
theorem Zim(b:Nat){h:Heap}(laid:Ab.LaidIn h Qix){ν z:Nat}{ow:Bool}{ks ds tg:List Nat}{o:Int}(hg:h.get ν=some (.cells ow z (ks.map u8v)))(hks:ks.length=1024)(hds:ds.length=32)(htg:tg.length=16)
  (K:KP) (hk:∀ h',Old h h'->K (.ret (.bool (decide (1<=o/\o<=32) && decide (Ql8 (Quk ks o) ds=tg)))) h'):FK b 95 [.pointer (some ⟨ν,0,none⟩),.int .i64 o,.agg ⟨ds.map u8v⟩,.agg ⟨tg.map u8v⟩] h K:=by
 by_cases ho:1<=o/\o<=32
 ·exact Y9k b laid hg hks hds htg ho.1 ho.2 K fun h' a=>by
   have:=hk h' a
   rwa [decide_eq_true ho,Bool.true_and]at this
 ·exact Zb3 b laid hg hks hds htg ho K fun h' a=>by
   have:=hk h' a
   rwa [decide_eq_false ho,Bool.false_and]at this
structure Asks where
 ks:List Nat
 dg:List Nat
 lk:Int
 hks:ks.length=1024
 hdg:dg.length=32
def Qlz(l:List Nat):List Int:=l.map Int.ofNat
def Yv9(l:List Int):List Nat:=l.map Int.toNat
def Zgr(a:Asks)(o:Int)(t:List Int):Bool:=decide (1<=o/\o<=32) && decide (Ql8 (Quk a.ks o) a.dg=Yv9 t)
def Xz5(x:List Int):List Int:=Qlz (Bl.keyed1 [] (Yv9 x))
def Qzs(x:List Int)(st:List (List Int)):Except Int (List (List Int)):=if st.length < 16 then .ok (x::st)else .error 16
def doF(a:Asks)(code:Int)(data:List Int)(st:List (List Int)):Except Int (List (List Int)) :=
 if code=129 then(match st with | x::r=>(Qzs x r).bind (Qzs x) | [] => .error 16)
 else if code=130 then(match st with | _::r => .ok r | [] => .error 16)
 else if code=131 then(match st with | x::r=>Qzs (Xz5 x) r | [] => .error 16)
 else if code=132 then(match st with | x::y::r=>Qzs (Zm7 (decide (x=y))) r | _ => .error 16)
 else if code=133 then(match st with | x::r=>if isT x then .ok r else .error 16 | [] => .error 16)
 else if code=134 then(match st with | x::y::r=>if x.length=1/\y.length=16 then Qzs (Zm7 (Zgr a (x.getD 0 0) y)) r else .error 16 | _ => .error 16)
 else if code=135 then(match st with | x::r=>if x.length=4 then(if X1u x 4<=a.lk then .ok r else .error 18)else .error 16 | [] => .error 16)
 else if code=139 then(match st with | x::r=>(Qzs x r).bind (Qzs [(x.length:Int)]) | [] => .error 16)
 else Qzs data st
def Qlx(a:Asks)(code:Int)(data:List Int)(st:List (List Int))(op:List Br):Except Int (List (List Int) × List Br) :=
 match brF code st op with
 | some none => .error 16
 | some (some p) => .ok p
 | none=>if Zh9 op then .ok (st,op)else(doF a code data st).map fun st'=>(st',op)
def Xle(a:Asks):List (Int × List Int)->List (List Int)->List Br->Except Int (List (List Int) × List Br)
 | [],st,op => .ok (st,op)
 | (c,d)::l,st,op=>(Qlx a c d st op).bind fun p=>Xle a l p.1 p.2
def Qzl:List (List Int)->List (List Int)->Except Int (List (List Int))
 | [],st => .ok st
 | x::l,st=>if x.length<=64 then(Qzs x st).bind (Qzl l)else .error 16
def Zgf:Except Int (List (List Int) × List Br)->Int
 | .error z=>z
 | .ok (st,op)=>if op.length=0/\st.length=1/\isT (st.getD 0 [])=true then 0 else 16
def Zpo(a:Asks)(l:List (Int × List Int))(stk:List (List Int)):Int:=match Qzl stk []with
 | .error z=>z
 | .ok st=>Zgf (Xle a l st [])
def Xza(a:Asks)(xs:List Int)(stk:List (List Int)):Int :=
 if xs.length > 256 then 16 else match pz xs.length xs with
 | none=>16
 | some l=>if l.length > 64 then 16 else Zpo a l stk
structure Wd (h:Heap) (MB:Nat->Prop) (e:Menv) (a:Asks):Prop where
 laid:Ab.LaidIn h Qix
 low:∀ c,MB c->3<=c
 next:3<=h.next
 nota:∃ ν z ow,e.nk=.pointer (some ⟨ν,0,none⟩)/\h.get ν=some (.cells ow z (a.ks.map u8v))/\¬ MB ν
 dg:e.dig=a.dg.map u8v
 lk:e.lk=a.lk
theorem Ztm{x:Nat × List Value}(hx:x ∈ Qix):x.1 < 3:=by
 simp only[Qix,List.mem_cons,List.not_mem_nil,or_false]at hx
 rcases hx with rfl | rfl
 ·exact of_decide_eq_true (by kernel_rfl)
 ·exact of_decide_eq_true (by kernel_rfl)
theorem Wd.mv{h h':Heap}{MB MB':Nat->Prop}{e:Menv}{a:Asks}(w:Wd h MB e a)(m:Mv MB MB' h h'):Wd h' MB' e a:=by
 obtain⟨laid,low,nx,⟨ν,z,ow,q1,q2,q3⟩,dg,lk⟩:=w
 refine⟨fun x hx => ?_,fun c hc => ?_,Nat.le_trans nx m.next,⟨ν,z,ow,q1,?_,fun hc => ?_⟩,dg,lk⟩
 ·have g:=laid x hx
  rw[m.same x.1 (Heap.get_lt g) (fun hb=>by have:=low _ hb;have:=Ztm hx;omega)]
  exact g
 ·rcases m.sub c hc with h | h
  ·exact low c h
  ·omega
 ·rw[m.same ν (Heap.get_lt q2) q3];exact q2
 ·rcases m.sub ν hc with h | h
  ·exact q3 h
  ·have:=Heap.get_lt q2;omega
theorem Zpy{y:List Int}(hy:Bytes y):y.map i8=(Yv9 y).map u8v:=by
 rw[Yv9,List.map_map]
 apply List.map_congr_left
 intro z hz
 have:=hy z hz
 show Value.int .u8 z=.int .u8 ((z.toNat:Nat):Int)
 rw[Int.toNat_of_nonneg this.1]
theorem Zwh(b:Nat){h:Heap}{v:Value}{y:List Int}(s:SB h v y)(hy:y.length=16):∃ bk o,X3x (E b).toEnv 90 v=some (.pointer (some ⟨bk,o,none⟩))/\Qb9 h bk o 16=some (.agg ⟨y.map i8⟩):=by
 rcases s with⟨c,_,_,e,_⟩ | ⟨bk,o,c,ow,z',pre,post,rfl,g1,g2,g3,g4,_⟩
 ·omega
 ·refine⟨bk,o,?_,?_⟩
  ·have hd:R90.desc=.array 16 5:=by kernel_rfl
   simp only[X3x,Zra,hd,hy]
   rfl
  ·rw[Jx g1 (by simp;omega),List.append_assoc,<- g2,List.drop_left,List.take_append_of_le_length (by simp;omega),List.take_of_length_le (by simp;omega)]
theorem Wd.old{h h':Heap}{MB:Nat->Prop}{e:Menv}{a:Asks}(w:Wd h MB e a)(o:Old h h'):Wd h' MB e a:=w.mv (Mv.old o)
theorem Mach.env{h:Heap}{MB:Nat->Prop}{μ:Nat}{e:Menv}{ps:List (Value × List Int)}{op:List Br}(M:Mach h MB μ e ps op):Jl h μ 0=some e.nk/\Qb9 h μ 1 32=some (.agg ⟨e.dig⟩):=by
 obtain⟨⟨sv,ov,z,r⟩,_,_⟩:=M
 refine⟨?_,?_⟩
 ·rw[J5 r.at'];rfl
 ·rw[Jx r.at' (by simp[e.len])]
  congr 3
  show((e.dig ++ [Value.int .i64 e.lk]) ++ [sv,ov]).take 32=_
  rw[List.append_assoc,List.take_append_of_le_length (by rw[e.hd];exact Nat.le_refl _),List.take_of_length_le (by rw[e.hd];exact Nat.le_refl _)]
section
attribute [local simp] V0 Vq X6 Vc Qe Va J2 Qv Vb V4 Qet Qtj Qoq Qkw Qxs Qh0 Qgz Qt1 Uh Qly Jd
set_option maxHeartbeats 1000000 in
theorem Zml(b:Nat){h:Heap}{MB:Nat->Prop}{μ:Nat}{e:Menv}{a:Asks}{v w:Value}{x y:List Int}{ps:List (Value × List Int)}{op:List Br}(M:Mach h MB μ e ((v,x)::(w,y)::ps) op)(wd:Wd h MB e a)(hl:ps.length < 900)(K:KP)
  (hk:x.length=1->y.length=16->∀ h',Mach h' MB μ e ps op->Mv MB MB h h'->K (.ret (.bool (Zgr a (x.getD 0 0) y))) h') (hp:¬ (x.length=1/\y.length=16)->∀ h',Mv MB MB h h'->K (.panic (pe 16)) h'):FK b 81 [.pointer (some ⟨μ,0,none⟩)] h K:=by
 refine FF b (X6 b) Qu0 Qyn Qwh rfl ?_
 simp
 refine Qqg b M (by simp;omega) _ fun h1 M1 m1 _ i1 _ => ?_
 simp
 refine Qqg b M1 (by omega) _ fun h2 M2 m2 _ i2 _ => ?_
 have len1:=fun hx=>Qpb (b:=b) (h1:=hx) i1.sb
 have len2:=fun hx=>Qpb (b:=b) (h1:=hx) i2.sb
 have m12:=m1.trans m2
 by_cases hx:x.length=1
 ·rw[hx]at len1
  have len1':∀ hx,Qn4 (E b).toEnv 30 v hx=some (.int .i64 1):=len1
  by_cases hy:y.length=16
  ·rw[hy]at len2
   have len2':∀ hx,Qn4 (E b).toEnv 30 w hx=some (.int .i64 16):=len2
   simp[len1',len2']
   refine Xl7 b h2 16 _ ?_
   have wd2:=wd.mv m12
   obtain⟨ν,z,ow,q1,q2,q3⟩:=wd2.nota
   obtain⟨z1,rfl⟩:∃ z1,x=[z1]:=by
    match x,hx with
    | [z1],_=>exact⟨z1,rfl⟩
   have i1':=i1.mv m2
   obtain⟨bk,o,x1,x2,x3⟩:=Zlw (b:=b) i1'.sb (k:=.i64) (i:=0) (z:=z1) rfl
   obtain⟨bt,ot,y1,y2⟩:=Zwh b i2.sb hy
   obtain⟨e1,e2⟩:=M2.env
   rw[q1]at e1
   rw[wd2.dg]at e2
   rw[Zpy i2.by8]at y2
   have hz:=i1.by8 z1 (by simp)
   have w1:IntKind.i64.wrap z1=z1:=Qao (by omega) (by omega)
   have htg:(Yv9 y).length=16:=by simp[Yv9,hy]
   obtain⟨_,h3,c1,n1,rfl,a3⟩:=Zim b wd2.laid (o:=z1) q2 a.hks a.hdg htg (fun r h'=>r=.ret (.bool (Zgr a z1 y))/\Old h2 h') (fun h' q=>⟨rfl,q⟩)
   simp only[i8]at x3
   simp at x2
   simp
   refine Qfn [⟨95,[.pointer (some ⟨ν,0,none⟩),.int .i64 z1,.agg ⟨a.dg.map u8v⟩,.agg ⟨(Yv9 y).map u8v⟩],h2,.bool (Zgr a z1 y),h3,true⟩] ?_ Q2z Q5l Q2l (by simp[Q7g,Q6o,Qga,e1,e2,x2,x3,y1,y2,w1,Qe6];exact⟨rfl,rfl⟩) ?_ ?_
   ·exact zk1 ⟨c1,n1,fun _ c hc=>a3.2 c hc⟩
   ·simp[Qca]
   simp
   exact hk rfl hy h3 (M2.old a3) (m12.trans (Mv.old a3))
  ·have hy':¬ (y.length:Int)=16:=by omega
   simp[len1',len2,hy']
   refine Q8d b h2 16 _ ?_
   simp
   exact hp (fun q=>hy q.2) h2 m12
 ·have hx':¬ (x.length:Int)=1:=by omega
  simp[len1,hx']
  refine Q8d b h2 16 _ ?_
  simp
  exact hp (fun q=>hx q.1) h2 m12
theorem Yq1(b:Nat){h:Heap}{MB:Nat->Prop}{μ:Nat}{e:Menv}{ps:List (Value × List Int)}{op:List Br}(M:Mach h MB μ e ps op)(hl:ps.length < 2)(K:KP)
  (hp:∀ h',Mv MB MB h h'->K (.panic (pe 16)) h'):FK b 81 [.pointer (some ⟨μ,0,none⟩)] h K:=by
 refine FF b (X6 b) Qu0 Qyn Qwh rfl ?_
 simp
 match ps,hl with
 | [],_ =>
  refine Q4s b M _ ?_
  simp
  exact hp h (Mv.refl _ _)
 | [p],_ =>
  obtain⟨v,x⟩:=p
  refine Qqg b M (by simp) _ fun h1 M1 m1 _ i1 _ => ?_
  simp
  refine Q4s b M1 _ ?_
  simp
  exact hp h1 m1
end
theorem Zum(h:Nat):∀ n ∈ Bl.by4 h,n < 256:=by
 intro n hn
 simp only[Bl.by4,List.mem_cons,List.not_mem_nil,or_false]at hn
 rcases hn with rfl | rfl | rfl | rfl <;> exact Nat.mod_lt _ (by decide)
theorem Zbw(p:Bl.P8):∀ n ∈ Bl.out p,n < 256:=by
 obtain⟨h0,h1,h2,h3,h4,h5,h6,h7⟩:=p
 intro n hn
 simp only[Bl.out,List.mem_append]at hn
 rcases hn with((((((hn | hn) | hn) | hn) | hn) | hn) | hn) | hn <;> exact Zum _ n hn
theorem Zfh{l:List Nat}(h:∀ n ∈ l,n < 256):Bytes (Qlz l):=by
 intro z hz
 obtain⟨n,hn,rfl⟩:=List.mem_map.1 hz
 have:=h n hn
 show(0:Int)<=(n:Int)/\(n:Int) < 256
 omega
theorem Yf4(l:List Nat):l.map u8v=(Qlz l).map i8:=by
 rw[Qlz,List.map_map]
 rfl
theorem Yqo(x:List Int):(Xz5 x).length=32:=by
 have : (Bl.keyed1 [] (Yv9 x)).length=32:=Qls _
 simp[Xz5,Qlz,this]
theorem Zgo(x:List Int):Bytes (Xz5 x):=Zfh (Zbw _)
theorem Itm.at{h:Heap}{MB:Nat->Prop}{B z:Nat}{ow:Bool}{xs:List Int}(hg:h.get B=some (.cells ow z (xs.map i8)))(hb:Bytes xs)(hl:xs.length < 1000000)(hm:¬ MB B):Itm h MB (.slice (some ⟨B,0,none⟩) xs.length xs.length) xs :=
 ⟨.inr ⟨B,0,xs.length,ow,z,[],[],rfl,by simpa using hg,rfl,by simp,Nat.le_refl _,by unfold Qhx;omega,fun q=>by unfold Qhx at q;omega⟩,hb,fun c hc=>by cases hc;exact hm⟩
theorem Qx9(b:Nat)(h:Heap)(code:Int)(dv:Value):Yz6 (.agg ⟨[.int .i64 code,dv]⟩) h=some (.pointer (some ⟨h.next,0,none⟩),h.push (.cells true 1 [.int .i64 code,dv])):=rfl
theorem Q7w(h:Heap)(code:Int)(dv:Value):Jl (h.push (.cells true 1 [.int .i64 code,dv])) h.next 0=some (.int .i64 code):=(J5 (z:=1) (ow:=true) (c:=[.int .i64 code,dv]) ((Heap.get_push _ _ _).trans (if_pos rfl))).trans rfl
theorem Zyz(h:Heap)(code:Int)(dv:Value):Jl (h.push (.cells true 1 [.int .i64 code,dv])) h.next 1=some dv:=(J5 (z:=1) (ow:=true) (c:=[.int .i64 code,dv]) ((Heap.get_push _ _ _).trans (if_pos rfl))).trans rfl
structure At (h:Heap) (MB:Nat->Prop) (μ:Nat) (e:Menv) (a:Asks) (ps:List (Value × List Int)) (op:List Br) (dv:Value) (data:List Int):Prop where
 m:Mach h MB μ e ps op
 w:Wd h MB e a
 i:Itm h MB dv data
 l1:ps.length<=16
 l2:op.length < 1000
 l3:∀ p ∈ ps,p.2.length<=64
section
variable(b:Nat){h:Heap}{MB:Nat->Prop}{μ:Nat}{e:Menv}{a:Asks}{ps:List (Value × List Int)}{op:List Br}{dv:Value}{data:List Int}(A:At h MB μ e a ps op dv data)
include A
section
attribute [local simp] Xd Xz Qt Ji Uk Qf Qu Xf X8 J2 Qe X4 Xv Vr Jn Z9 Xh Xe Qv X6 X5 Va U6 U5 Ja Vf
theorem Zny(hoff:Zh9 op=true){code:Int}(hc:brF code [] []=none)(K:KP)(hk:∀ h',MOk MB h μ e (ps.map (·.2)) op h'->K (.ret (.tuple #[])) h'):CallOK Tryz.prog (E b).G 62 [.pointer (some ⟨μ,0,none⟩),.agg ⟨[.int .i64 code,dv]⟩] h K:=by
 refine Qm4 (E b) (Qa4 _ _) (We b) (V7 b) Uz (Wg b) (Qt b) U7 Uv Ul rfl ?_
 simp[Qx9 b,Q7w]
 refine Q9r b hc _ ?_
 simp
 refine(Xov b (A.m.old (Old.push _ _)) A.l2 _ ?_).ok
 simp[hoff]
 exact hk _ ⟨ps,MB,rfl,A.m.old (Old.push _ _),Mv.old (Old.push _ _)⟩
end
variable(hoff:Zh9 op=false)
include hoff
section
attribute [local simp] Xd Xz Qt Ji Uk Qf Qu Xf X8 J2 Qe X4 Xv Vr Jn Z9 Xh Xe Qv X6 X5 Va U6 U5 Ja Vf
theorem Zj1(K:KP)(hk:∀ st',doF a 130 data (ps.map (·.2))=.ok st'->∀ h',MOk MB h μ e st' op h'->K (.ret (.tuple #[])) h')(hp:∀ z,doF a 130 data (ps.map (·.2))=.error z->∀ h',Zaa MB h h'->K (.panic (pe z)) h') :
  CallOK Tryz.prog (E b).G 62 [.pointer (some ⟨μ,0,none⟩),.agg ⟨[.int .i64 130,dv]⟩] h K:=by
 have M0:=A.m.old (Old.push h (.cells true 1 [.int .i64 130,dv]))
 have m0:Mv MB MB h (h.push (.cells true 1 [.int .i64 130,dv])):=Mv.old (Old.push _ _)
 refine Qm4 (E b) (Qa4 _ _) (We b) (V7 b) Uz (Wg b) (Qt b) U7 Uv Ul rfl ?_
 simp[Qx9 b,Q7w]
 refine Q9r b (by simp[brF]) _ ?_
 simp
 refine(Xov b M0 A.l2 _ ?_).ok
 simp[hoff,Q7w]
 match ps,A with
 | [],A =>
  refine(Q4s b M0 _ ?_).ok
  simp
  exact hp 16 (by simp[doF]) _ ⟨MB,m0⟩
 | (v,x)::ps,A =>
  refine(Qqg b M0 (by have:=A.l1;simp at this;omega) _ fun h1 M1 m1 _ i1 _ => ?_).ok
  simp
  exact hk _ (by simp[doF]) _ ⟨ps,MB,rfl,M1,m0.trans m1⟩
end
end
section
attribute [local simp] Vp Uq X5 Qe Va J2 Qv Z7 Qkw Qxs Qh0 Qgz Qis Zd Qet Qzh Uk Jy
theorem Zk1(b:Nat){h:Heap}{MB:Nat->Prop}{μ:Nat}{e:Menv}{op:List Br}(M:Mach h MB μ e [] op)(K:KP)(hp:K (.panic (pe 16)) h):FK b 82 [.pointer (some ⟨μ,0,none⟩)] h K:=by
 refine FF b (X5 b) Qs0 Qwf Qv2 rfl ?_
 simp
 refine Q4s b M _ ?_
 simp
 exact hp
end
section
variable(b:Nat){h:Heap}{MB:Nat->Prop}{μ:Nat}{e:Menv}{a:Asks}{ps:List (Value × List Int)}{op:List Br}{dv:Value}{data:List Int}(A:At h MB μ e a ps op dv data)(hoff:Zh9 op=false)
include A hoff
section
attribute [local simp] Xd Xz Qt Ji Uk Qf Qu Xf X8 J2 Qe X4 Xv Jn Z9 Xh Xe Qv X6 X5 Va U6 U5 Ja Vf
theorem Zog(K:KP)(hk:∀ st',doF a 129 data (ps.map (·.2))=.ok st'->∀ h',MOk MB h μ e st' op h'->K (.ret (.tuple #[])) h')(hp:∀ z,doF a 129 data (ps.map (·.2))=.error z->∀ h',Zaa MB h h'->K (.panic (pe z)) h') :
  CallOK Tryz.prog (E b).G 62 [.pointer (some ⟨μ,0,none⟩),.agg ⟨[.int .i64 129,dv]⟩] h K:=by
 have M0:=A.m.old (Old.push h (.cells true 1 [.int .i64 129,dv]))
 have m0:Mv MB MB h (h.push (.cells true 1 [.int .i64 129,dv])):=Mv.old (Old.push _ _)
 refine Qm4 (E b) (Qa4 _ _) (We b) (V7 b) Uz (Wg b) (Qt b) U7 Uv Ul rfl ?_
 simp[Vr,Qx9 b,Q7w]
 refine Q9r b (by simp[brF]) _ ?_
 simp[Vr]
 refine(Xov b M0 A.l2 _ ?_).ok
 simp[Vr,hoff,Q7w]
 match ps,A with
 | [],A =>
  refine(Q4s b M0 _ ?_).ok
  simp[Vr]
  exact hp 16 (by simp[doF]) _ ⟨MB,m0⟩
 | (v,x)::ps,A =>
  have l1:ps.length < 16:=by have:=A.l1;simp at this;omega
  have lx:x.length<=64:=A.l3 (v,x) (by simp)
  refine(Qqg b M0 (by omega) _ fun h1 M1 m1 _ i1 _ => ?_).ok
  simp[Vr]
  refine(Xis b M1 i1 l1 _ fun h2 MB2 M2 m2 => ?_).ok
  simp[Vr]
  by_cases l2:ps.length+1 < 16
  ·refine(Xis b M2 (i1.mv m2) (by simpa using l2) _ fun h3 MB3 M3 m3 => ?_).ok
   simp[Vr]
   exact hk (x::x::ps.map (·.2)) (by simp[doF,Qzs,l1,l2,Except.bind]) _ ⟨_,MB3,by simp,M3,m0.trans (m1.trans (m2.trans m3))⟩
  ·refine(Xdg b M2 (by simp;omega) _ ?_).ok
   simp[Vr]
   exact hp 16 (by simp[doF,Qzs,l1,l2,Except.bind]) _ ⟨MB2,m0.trans (m1.trans m2)⟩
theorem Zh1(K:KP)(hk:∀ st',doF a 131 data (ps.map (·.2))=.ok st'->∀ h',MOk MB h μ e st' op h'->K (.ret (.tuple #[])) h')(hp:∀ z,doF a 131 data (ps.map (·.2))=.error z->∀ h',Zaa MB h h'->K (.panic (pe z)) h') :
  CallOK Tryz.prog (E b).G 62 [.pointer (some ⟨μ,0,none⟩),.agg ⟨[.int .i64 131,dv]⟩] h K:=by
 have M0:=A.m.old (Old.push h (.cells true 1 [.int .i64 131,dv]))
 have m0:Mv MB MB h (h.push (.cells true 1 [.int .i64 131,dv])):=Mv.old (Old.push _ _)
 refine Qm4 (E b) (Qa4 _ _) (We b) (V7 b) Uz (Wg b) (Qt b) U7 Uv Ul rfl ?_
 simp[Vr,Qx9 b,Q7w]
 refine Q9r b (by simp[brF]) _ ?_
 simp[Vr]
 refine(Xov b M0 A.l2 _ ?_).ok
 simp[Vr,hoff,Q7w]
 match ps,A with
 | [],A =>
  refine(Q4s b M0 _ ?_).ok
  simp[Vr]
  exact hp 16 (by simp[doF]) _ ⟨MB,m0⟩
 | (v,x)::ps,A =>
  have l1:ps.length < 16:=by have:=A.l1;simp at this;omega
  have lx:x.length<=64:=A.l3 (v,x) (by simp)
  refine(Qqg b M0 (by omega) _ fun h1 M1 m1 _ i1 _ => ?_).ok
  simp[Vr]
  have sn:SN h1 v (Yv9 x):=by
   have:=i1.sb
   rw[SB,Zpy i1.by8]at this
   rwa [show x.length=(Yv9 x).length by simp[Yv9]]at this
  refine(Yp3 b ((A.w.mv (m0.trans m1)).laid) sn (by simp[Yv9];omega) _ fun h2 a2 => ?_).ok
  have kl:(Bl.keyed1 [] (Yv9 x)).length=32:=Qls _
  obtain⟨hZ,eZ⟩:∃ hZ,hZ=h2.push (.cells true 1 z32):=⟨_,rfl⟩
  have alZ:Qba (E b).toEnv 23 h2=some (.pointer (some ⟨h2.next,0,none⟩),hZ):=by rw[eZ];exact Vr b h2
  have gZ:hZ.get h2.next=some (.cells true 1 z32):=by rw[eZ,Heap.get_push,if_pos rfl]
  have aZ:=Qkm eZ
  have lZ:=Heap.get_lt gZ
  obtain⟨hW,eW⟩:∃ hW,hW=hZ.set h2.next (some (.cells true 1 ((Bl.keyed1 [] (Yv9 x)).map u8v))):=⟨_,rfl⟩
  have stW:Uj hZ h2.next 0 ((Bl.keyed1 [] (Yv9 x)).map u8v)=some hW:=by
   rw[W5 gZ (by simp[z32,kl]),eW]
   congr 4
  have gW:hW.get h2.next=some (.cells true 1 ((Xz5 x).map i8)):=by rw[eW,Heap.get_set _ _ _ _ lZ,if_pos rfl,Yf4];rfl
  have aW:Old h2 hW:=by rw[eW];exact aZ.set _ (Nat.le_refl _) lZ
  simp[Vr,-Vr,alZ,kl,stW,Zb6]
  have M2:=(M1.old a2).old aW
  have iw:Itm hW MB (.slice (some ⟨h2.next,0,none⟩) 32 32) (Xz5 x):=by
   have:=Itm.at (MB:=MB) gW (Zgo x) (by rw[Yqo];omega) (fun q=>by have:=(M1.old a2).low _ q;omega)
   rwa [Yqo]at this
  refine(Xis b M2 iw l1 _ fun h3 MB3 M3 m3 => ?_).ok
  simp[Vr]
  exact hk (Xz5 x::ps.map (·.2)) (by simp[doF,Qzs,l1]) _ ⟨_,MB3,by simp,M3,m0.trans (m1.trans ((Mv.old (a2.trans aW)).trans m3))⟩
theorem Zgp(K:KP)(hk:∀ st',doF a 132 data (ps.map (·.2))=.ok st'->∀ h',MOk MB h μ e st' op h'->K (.ret (.tuple #[])) h')(hp:∀ z,doF a 132 data (ps.map (·.2))=.error z->∀ h',Zaa MB h h'->K (.panic (pe z)) h') :
  CallOK Tryz.prog (E b).G 62 [.pointer (some ⟨μ,0,none⟩),.agg ⟨[.int .i64 132,dv]⟩] h K:=by
 have M0:=A.m.old (Old.push h (.cells true 1 [.int .i64 132,dv]))
 have m0:Mv MB MB h (h.push (.cells true 1 [.int .i64 132,dv])):=Mv.old (Old.push _ _)
 refine Qm4 (E b) (Qa4 _ _) (We b) (V7 b) Uz (Wg b) (Qt b) U7 Uv Ul rfl ?_
 simp[Vr,Qx9 b,Q7w]
 refine Q9r b (by simp[brF]) _ ?_
 simp[Vr]
 refine(Xov b M0 A.l2 _ ?_).ok
 simp[Vr,hoff,Q7w]
 match ps,A with
 | [],A =>
  refine(Q4s b M0 _ ?_).ok
  simp[Vr]
  exact hp 16 (by simp[doF]) _ ⟨MB,m0⟩
 | [(v,x)],A =>
  refine(Qqg b M0 (by simp) _ fun h1 M1 m1 _ i1 _ => ?_).ok
  simp[Vr]
  refine(Q4s b M1 _ ?_).ok
  simp[Vr]
  exact hp 16 (by simp[doF]) _ ⟨MB,m0.trans m1⟩
 | (v,x)::(w,y)::ps,A =>
  have l1:ps.length < 15:=by have:=A.l1;simp at this;omega
  refine(Qqg b M0 (by simp;omega) _ fun h1 M1 m1 _ i1 _ => ?_).ok
  simp[Vr]
  refine(Qqg b M1 (by omega) _ fun h2 M2 m2 _ i2 _ => ?_).ok
  have i1':=i1.mv m2
  simp[Vr]
  refine(Zn1 b i1'.sb i2.sb i1.by8 i2.by8 _ ?_).ok
  simp[Vr]
  refine(Zja b (decide (x=y)) M2 _ (fun _ v3 h3 MB3 M3 m3 => ?_) (fun q=>by omega)).ok
  simp[Vr]
  exact hk (Zm7 (decide (x=y))::ps.map (·.2)) (by simp[doF,Qzs];omega) _ ⟨_,MB3,by simp,M3,m0.trans (m1.trans (m2.trans m3))⟩
theorem Zae(K:KP)(hk:∀ st',doF a 133 data (ps.map (·.2))=.ok st'->∀ h',MOk MB h μ e st' op h'->K (.ret (.tuple #[])) h')(hp:∀ z,doF a 133 data (ps.map (·.2))=.error z->∀ h',Zaa MB h h'->K (.panic (pe z)) h') :
  CallOK Tryz.prog (E b).G 62 [.pointer (some ⟨μ,0,none⟩),.agg ⟨[.int .i64 133,dv]⟩] h K:=by
 have M0:=A.m.old (Old.push h (.cells true 1 [.int .i64 133,dv]))
 have m0:Mv MB MB h (h.push (.cells true 1 [.int .i64 133,dv])):=Mv.old (Old.push _ _)
 refine Qm4 (E b) (Qa4 _ _) (We b) (V7 b) Uz (Wg b) (Qt b) U7 Uv Ul rfl ?_
 simp[Vr,Qx9 b,Q7w]
 refine Q9r b (by simp[brF]) _ ?_
 simp[Vr]
 refine(Xov b M0 A.l2 _ ?_).ok
 simp[Vr,hoff,Q7w]
 match ps,A with
 | [],A =>
  refine(Q4s b M0 _ ?_).ok
  simp[Vr]
  exact hp 16 (by simp[doF]) _ ⟨MB,m0⟩
 | (v,x)::ps,A =>
  have l1:ps.length < 16:=by have:=A.l1;simp at this;omega
  have lx:x.length<=64:=A.l3 (v,x) (by simp)
  refine(Qqg b M0 (by omega) _ fun h1 M1 m1 _ i1 _ => ?_).ok
  simp[Vr]
  refine(Yc6 b i1.sb (by omega) _ fun h2 a2 => ?_).ok
  cases ht:isT x with
  | true =>
   simp[Vr]
   refine(Xl7 b h2 16 _ ?_).ok
   simp[Vr]
   exact hk (ps.map (·.2)) (by simp[doF,ht]) _ ⟨ps,MB,rfl,M1.old a2,m0.trans (m1.trans (Mv.old a2))⟩
  | false =>
   simp[Vr]
   refine(Q8d b h2 16 _ ?_).ok
   simp[Vr]
   exact hp 16 (by simp[doF,ht]) _ ⟨MB,m0.trans (m1.trans (Mv.old a2))⟩
theorem Zl3(K:KP)(hk:∀ st',doF a 134 data (ps.map (·.2))=.ok st'->∀ h',MOk MB h μ e st' op h'->K (.ret (.tuple #[])) h')(hp:∀ z,doF a 134 data (ps.map (·.2))=.error z->∀ h',Zaa MB h h'->K (.panic (pe z)) h') :
  CallOK Tryz.prog (E b).G 62 [.pointer (some ⟨μ,0,none⟩),.agg ⟨[.int .i64 134,dv]⟩] h K:=by
 have M0:=A.m.old (Old.push h (.cells true 1 [.int .i64 134,dv]))
 have m0:Mv MB MB h (h.push (.cells true 1 [.int .i64 134,dv])):=Mv.old (Old.push _ _)
 refine Qm4 (E b) (Qa4 _ _) (We b) (V7 b) Uz (Wg b) (Qt b) U7 Uv Ul rfl ?_
 simp[Vr,Qx9 b,Q7w]
 refine Q9r b (by simp[brF]) _ ?_
 simp[Vr]
 refine(Xov b M0 A.l2 _ ?_).ok
 simp[Vr,hoff,Q7w]
 match ps,A with
 | [],A =>
  refine(Yq1 b M0 (by simp) _ fun h1 m1 => ?_).ok
  simp[Vr]
  exact hp 16 (by simp[doF]) _ ⟨MB,m0.trans m1⟩
 | [(v,x)],A =>
  refine(Yq1 b M0 (by simp) _ fun h1 m1 => ?_).ok
  simp[Vr]
  exact hp 16 (by simp[doF]) _ ⟨MB,m0.trans m1⟩
 | (v,x)::(w,y)::ps,A =>
  have l1:ps.length < 15:=by have:=A.l1;simp at this;omega
  refine(Zml b M0 (A.w.mv m0) (by omega) _ (fun q1 q2 h1 M1 m1 => ?_) (fun q h1 m1 => ?_)).ok
  ·simp[Vr]
   refine(Zja b (Zgr a (x.getD 0 0) y) M1 _ (fun _ v3 h3 MB3 M3 m3 => ?_) (fun q=>by omega)).ok
   simp[Vr]
   exact hk (Zm7 (Zgr a (x.getD 0 0) y)::ps.map (·.2)) (by simp[doF,Qzs,q1,q2];omega) _ ⟨_,MB3,by simp,M3,m0.trans (m1.trans m3)⟩
  ·simp[Vr]
   exact hp 16 (by simp only[doF,List.map_cons];simp[q]) _ ⟨MB,m0.trans m1⟩
theorem Zgd(K:KP)(hk:∀ st',doF a 135 data (ps.map (·.2))=.ok st'->∀ h',MOk MB h μ e st' op h'->K (.ret (.tuple #[])) h')(hp:∀ z,doF a 135 data (ps.map (·.2))=.error z->∀ h',Zaa MB h h'->K (.panic (pe z)) h') :
  CallOK Tryz.prog (E b).G 62 [.pointer (some ⟨μ,0,none⟩),.agg ⟨[.int .i64 135,dv]⟩] h K:=by
 have M0:=A.m.old (Old.push h (.cells true 1 [.int .i64 135,dv]))
 have m0:Mv MB MB h (h.push (.cells true 1 [.int .i64 135,dv])):=Mv.old (Old.push _ _)
 refine Qm4 (E b) (Qa4 _ _) (We b) (V7 b) Uz (Wg b) (Qt b) U7 Uv Ul rfl ?_
 simp[Vr,Qx9 b,Q7w]
 refine Q9r b (by simp[brF]) _ ?_
 simp[Vr]
 refine(Xov b M0 A.l2 _ ?_).ok
 simp[Vr,hoff,Q7w]
 match ps,A with
 | [],A =>
  refine(Zk1 b M0 _ ?_).ok
  simp[Vr]
  exact hp 16 (by simp[doF]) _ ⟨MB,m0⟩
 | (v,x)::ps,A =>
  have l1:ps.length < 16:=by have:=A.l1;simp at this;omega
  refine(Zmv b M0 (by omega) _ (fun q1 q2 h1 M1 m1 => ?_) (fun q1 h1 m1 => ?_) (fun q1 q2 h1 m1 => ?_)).ok
  ·simp[Vr]
   rw[A.w.lk]at q2
   exact hk (ps.map (·.2)) (by simp[doF,q1,q2]) _ ⟨ps,MB,rfl,M1,m0.trans m1⟩
  ·simp[Vr]
   exact hp 16 (by simp[doF,q1]) _ ⟨MB,m0.trans m1⟩
  ·simp[Vr]
   rw[A.w.lk]at q2
   exact hp 18 (by simp[doF,q1,q2]) _ ⟨MB,m0.trans m1⟩
theorem Zgv(K:KP)(hk:∀ st',doF a 139 data (ps.map (·.2))=.ok st'->∀ h',MOk MB h μ e st' op h'->K (.ret (.tuple #[])) h')(hp:∀ z,doF a 139 data (ps.map (·.2))=.error z->∀ h',Zaa MB h h'->K (.panic (pe z)) h') :
  CallOK Tryz.prog (E b).G 62 [.pointer (some ⟨μ,0,none⟩),.agg ⟨[.int .i64 139,dv]⟩] h K:=by
 have M0:=A.m.old (Old.push h (.cells true 1 [.int .i64 139,dv]))
 have m0:Mv MB MB h (h.push (.cells true 1 [.int .i64 139,dv])):=Mv.old (Old.push _ _)
 refine Qm4 (E b) (Qa4 _ _) (We b) (V7 b) Uz (Wg b) (Qt b) U7 Uv Ul rfl ?_
 simp[Vr,Qx9 b,Q7w]
 refine Q9r b (by simp[brF]) _ ?_
 simp[Vr]
 refine(Xov b M0 A.l2 _ ?_).ok
 simp[Vr,hoff,Q7w]
 match ps,A with
 | [],A =>
  refine(Q4s b M0 _ ?_).ok
  simp[Vr]
  exact hp 16 (by simp[doF]) _ ⟨MB,m0⟩
 | (v,x)::ps,A =>
  have l1:ps.length < 16:=by have:=A.l1;simp at this;omega
  have lx:x.length<=64:=A.l3 (v,x) (by simp)
  refine(Qqg b M0 (by omega) _ fun h1 M1 m1 _ i1 _ => ?_).ok
  simp[Vr]
  refine(Xis b M1 i1 l1 _ fun h2 MB2 M2 m2 => ?_).ok
  have i2:=i1.mv m2
  have len:=fun hx=>Qpb (b:=b) (h1:=hx) i2.sb
  have w8:IntKind.u8.wrap (x.length:Int)=(x.length:Int):=Zrw (by omega)
  simp[Vr,len,w8,Q22]
  have m3:Mv MB2 MB2 h2 (h2.push (.cells true 1 [i8 (x.length:Int)])):=Mv.old (Old.push _ _)
  have i3:=Itm.new (h:=h2) (MB:=MB2) M2.low (xs:=[(x.length:Int)]) (by intro z hz;simp at hz;omega) (by simp)
  by_cases l2:ps.length+1 < 16
  ·refine(Xis b (M2.old (Old.push _ _)) i3 (by simpa using l2) _ fun h4 MB4 M4 m4 => ?_).ok
   simp[Vr]
   exact hk ([(x.length:Int)]::x::ps.map (·.2)) (by simp[doF,Qzs,l1,l2,Except.bind]) _ ⟨_,MB4,by simp,M4,m0.trans (m1.trans (m2.trans (m3.trans m4)))⟩
  ·refine(Xdg b (M2.old (Old.push _ _)) (by simp;omega) _ ?_).ok
   simp[Vr]
   exact hp 16 (by simp[doF,Qzs,l1,l2,Except.bind]) _ ⟨MB2,m0.trans (m1.trans (m2.trans m3))⟩
theorem Zht{code:Int}(e1:¬ code=129)(e2:¬ code=130)(e3:¬ code=131)(e4:¬ code=132)(e5:¬ code=133)(e6:¬ code=134)(e7:¬ code=135)(c8:¬ code=136)(c9:¬ code=137)(c10:¬ code=138)(e11:¬ code=139)(K:KP)(hk:∀ st',doF a code data (ps.map (·.2))=.ok st'->∀ h',MOk MB h μ e st' op h'->K (.ret (.tuple #[])) h')(hp:∀ z,doF a code data (ps.map (·.2))=.error z->∀ h',Zaa MB h h'->K (.panic (pe z)) h') :
  CallOK Tryz.prog (E b).G 62 [.pointer (some ⟨μ,0,none⟩),.agg ⟨[.int .i64 code,dv]⟩] h K:=by
 have M0:=A.m.old (Old.push h (.cells true 1 [.int .i64 code,dv]))
 have m0:Mv MB MB h (h.push (.cells true 1 [.int .i64 code,dv])):=Mv.old (Old.push _ _)
 refine Qm4 (E b) (Qa4 _ _) (We b) (V7 b) Uz (Wg b) (Qt b) U7 Uv Ul rfl ?_
 simp[Vr,Qx9 b,Q7w]
 refine Q9r b (by simp[brF,c8,c9,c10]) _ ?_
 simp[Vr]
 refine(Xov b M0 A.l2 _ ?_).ok
 simp[Vr,hoff,Q7w,Zyz,e1,e2,e3,e4,e5,e6,e7,e11]
 by_cases l1:ps.length < 16
 ·refine(Xis b M0 (A.i.mv m0) l1 _ fun h2 MB2 M2 m2 => ?_).ok
  simp[Vr]
  exact hk (data::ps.map (·.2)) (by simp[doF,Qzs,l1,e1,e2,e3,e4,e5,e6,e7,e11]) _ ⟨_,MB2,by simp,M2,m0.trans m2⟩
 ·refine(Xdg b M0 (by omega) _ ?_).ok
  simp[Vr]
  exact hp 16 (by simp[doF,Qzs,l1,e1,e2,e3,e4,e5,e6,e7,e11]) _ ⟨MB,m0⟩
end
end
section
variable(b:Nat){h:Heap}{MB:Nat->Prop}{μ:Nat}{e:Menv}{a:Asks}{ps:List (Value × List Int)}{op:List Br}{dv:Value}{data:List Int}(A:At h MB μ e a ps op dv data)
include A
section
attribute [local simp] Xd Xz Qt Ji Uk Qf Qu Xf X8 J2 Qe X4 Xv Vr Jn Z9 Xh Xe Qv X6 X5 Va U6 U5 Ja Vf
theorem Zqw(K:KP)(hk:∀ st' op',brF 136 (ps.map (·.2)) op=some (some (st',op'))->∀ h',MOk MB h μ e st' op' h'->K (.ret (.tuple #[])) h')(hp:brF 136 (ps.map (·.2)) op=some none->∀ h',Zaa MB h h'->K (.panic (pe 16)) h') :
  CallOK Tryz.prog (E b).G 62 [.pointer (some ⟨μ,0,none⟩),.agg ⟨[.int .i64 136,dv]⟩] h K:=by
 have M0:=A.m.old (Old.push h (.cells true 1 [.int .i64 136,dv]))
 have m0:Mv MB MB h (h.push (.cells true 1 [.int .i64 136,dv])):=Mv.old (Old.push _ _)
 refine Qm4 (E b) (Qa4 _ _) (We b) (V7 b) Uz (Wg b) (Qt b) U7 Uv Ul rfl ?_
 simp[Qx9 b,Q7w]
 refine Zyy b M0 (by have:=A.l1;omega) A.l2 (fun p hp=>by have:=A.l3 p hp;omega) _ (fun st' op' q h' m => ?_) (fun q h' m => ?_)
 ·obtain⟨ps',MB',q1,q2,q3⟩:=m
  simp
  exact hk st' op' q h' ⟨ps',MB',q1,q2,m0.trans q3⟩
 ·obtain⟨MB',q1⟩:=m
  simp
  exact hp q h' ⟨MB',m0.trans q1⟩
theorem Zha(K:KP)(hk:∀ st' op',brF 137 (ps.map (·.2)) op=some (some (st',op'))->∀ h',MOk MB h μ e st' op' h'->K (.ret (.tuple #[])) h')(hp:brF 137 (ps.map (·.2)) op=some none->∀ h',Zaa MB h h'->K (.panic (pe 16)) h') :
  CallOK Tryz.prog (E b).G 62 [.pointer (some ⟨μ,0,none⟩),.agg ⟨[.int .i64 137,dv]⟩] h K:=by
 have M0:=A.m.old (Old.push h (.cells true 1 [.int .i64 137,dv]))
 have m0:Mv MB MB h (h.push (.cells true 1 [.int .i64 137,dv])):=Mv.old (Old.push _ _)
 refine Qm4 (E b) (Qa4 _ _) (We b) (V7 b) Uz (Wg b) (Qt b) U7 Uv Ul rfl ?_
 simp[Qx9 b,Q7w]
 match op,A with
 | [],A =>
  refine Zlg b M0 (.inl rfl) _ ?_
  simp
  exact hp (by simp[brF]) _ ⟨MB,m0⟩
 | x::l,A =>
  refine Ztp b M0 (by have:=A.l2;simp at this;omega) _ (fun ht h1 M1 m1 => ?_) (fun ht => ?_)
  ·simp
   exact hk _ _ (by simp[brF,ht]) _ ⟨ps,MB,rfl,M1,m0.trans m1⟩
  ·simp
   exact hp (by simp[brF,ht]) _ ⟨MB,m0⟩
theorem Zp9(K:KP)(hk:∀ st' op',brF 138 (ps.map (·.2)) op=some (some (st',op'))->∀ h',MOk MB h μ e st' op' h'->K (.ret (.tuple #[])) h')(hp:brF 138 (ps.map (·.2)) op=some none->∀ h',Zaa MB h h'->K (.panic (pe 16)) h') :
  CallOK Tryz.prog (E b).G 62 [.pointer (some ⟨μ,0,none⟩),.agg ⟨[.int .i64 138,dv]⟩] h K:=by
 have M0:=A.m.old (Old.push h (.cells true 1 [.int .i64 138,dv]))
 have m0:Mv MB MB h (h.push (.cells true 1 [.int .i64 138,dv])):=Mv.old (Old.push _ _)
 refine Qm4 (E b) (Qa4 _ _) (We b) (V7 b) Uz (Wg b) (Qt b) U7 Uv Ul rfl ?_
 simp[Qx9 b,Q7w]
 match op,A with
 | [],A =>
  refine Zlg b M0 (.inr rfl) _ ?_
  simp
  exact hp (by simp[brF]) _ ⟨MB,m0⟩
 | x::l,A =>
  refine Zv6 b M0 (by have:=A.l2;simp at this;omega) _ (fun h1 M1 m1 => ?_)
  simp
  exact hk _ _ (by simp[brF]) _ ⟨ps,MB,rfl,M1,m0.trans m1⟩
end
theorem Ztr{code:Int}(K:KP)(hk:∀ st' op',Qlx a code data (ps.map (·.2)) op=.ok (st',op')->∀ h',MOk MB h μ e st' op' h'->K (.ret (.tuple #[])) h')(hp:∀ z,Qlx a code data (ps.map (·.2)) op=.error z->∀ h',Zaa MB h h'->K (.panic (pe z)) h') :
  CallOK Tryz.prog (E b).G 62 [.pointer (some ⟨μ,0,none⟩),.agg ⟨[.int .i64 code,dv]⟩] h K:=by
 by_cases c8:code=136
 ·subst c8
  exact Zqw b A K (fun st' op' q=>hk st' op' (by simp only[Qlx,q])) (fun q=>hp 16 (by simp only[Qlx,q]))
 by_cases c9:code=137
 ·subst c9
  exact Zha b A K (fun st' op' q=>hk st' op' (by simp only[Qlx,q])) (fun q=>hp 16 (by simp only[Qlx,q]))
 by_cases c10:code=138
 ·subst c10
  exact Zp9 b A K (fun st' op' q=>hk st' op' (by simp only[Qlx,q])) (fun q=>hp 16 (by simp only[Qlx,q]))
 have hbr:∀ st op,brF code st op=none:=fun st op=>by simp[brF,c8,c9,c10]
 cases hoff:Zh9 op with
 | true=>exact Zny b A hoff (hbr _ _) K (fun h' m=>hk _ _ (by simp[Qlx,hbr,hoff]) h' m)
 | false =>
  have e1:∀ st',doF a code data (ps.map (·.2))=.ok st'->Qlx a code data (ps.map (·.2)) op=.ok (st',op):=fun st' q=>by simp[Qlx,hbr,hoff,q,Except.map]
  have e2:∀ z,doF a code data (ps.map (·.2))=.error z->Qlx a code data (ps.map (·.2)) op=.error z:=fun z q=>by simp[Qlx,hbr,hoff,q,Except.map]
  have k1:∀ st',doF a code data (ps.map (·.2))=.ok st'->∀ h',MOk MB h μ e st' op h'->K (.ret (.tuple #[])) h':=fun st' q h' m=>hk _ _ (e1 st' q) h' m
  have k2:∀ z,doF a code data (ps.map (·.2))=.error z->∀ h',Zaa MB h h'->K (.panic (pe z)) h':=fun z q h' m=>hp _ (e2 z q) h' m
  clear hk hp e1 e2
  by_cases c1:code=129
  ·subst c1;exact Zog b A hoff K k1 k2
  by_cases c2:code=130
  ·subst c2;exact Zj1 b A hoff K k1 k2
  by_cases c3:code=131
  ·subst c3;exact Zh1 b A hoff K k1 k2
  by_cases c4:code=132
  ·subst c4;exact Zgp b A hoff K k1 k2
  by_cases c5:code=133
  ·subst c5;exact Zae b A hoff K k1 k2
  by_cases c6:code=134
  ·subst c6;exact Zl3 b A hoff K k1 k2
  by_cases c7:code=135
  ·subst c7;exact Zgd b A hoff K k1 k2
  by_cases c11:code=139
  ·subst c11;exact Zgv b A hoff K k1 k2
  exact Zht b A hoff c1 c2 c3 c4 c5 c6 c7 c8 c9 c10 c11 K k1 k2
end
theorem Zrx(b:Nat){l:List Value}(hl:l.length=34):Qg1 (E b).toEnv 133 [(0,.agg ⟨l⟩)]=some (.agg ⟨l ++ [.slice none 0 0,.slice none 0 0]⟩):=by
 have e:Qg1 (E b).toEnv 133 [(0,.agg ⟨l⟩)]=(Xqw (nth [(0,34),(34,1),(35,1)]) ((.pointer none::List.replicate 32 (.int .u8 0)) ++ [.int .i64 0,.slice none 0 0,.slice none 0 0]) [(0,.agg ⟨l⟩)]).map fun c => .agg c.toArray:=by kernel_rfl
 rw[e]
 have hc:(Value.agg ⟨l⟩).cells.toList=l:=rfl
 have hs:(Value.agg ⟨l⟩).cells.size=34:=hl
 have hz:((.pointer none::List.replicate 32 (.int .u8 0)) ++ [.int .i64 0,.slice none 0 0,.slice none 0 0]:List Value).length=36:=by simp
 have hp:Qk8 ((.pointer none::List.replicate 32 (.int .u8 0)) ++ [.int .i64 0,.slice none 0 0,.slice none 0 0]:List Value) 0 l=some (l ++ [.slice none 0 0,.slice none 0 0]):=by
  rw[Qms (by rw[hz,hl];omega),hl]
  rfl
 have hb:(Qgn (.agg ⟨l⟩) && (Value.agg ⟨l⟩).cells.size == 34 && Nat.ble (0+34) ((.pointer none::List.replicate 32 (.int .u8 0)) ++ [.int .i64 0,.slice none 0 0,.slice none 0 0]:List Value).length)=true:=by
  rw[hs,hz];rfl
 simp only[Xqw,nth,hb,if_true,hc,hp]
 rfl
def ItsAt(h:Heap)(items:List (Value × List Int)):Prop:=∀ p ∈ items,SB h p.1 p.2/\Bytes p.2
theorem ItsAt.old{h h':Heap}{items:List (Value × List Int)}(i:ItsAt h items)(a:Old h h'):ItsAt h' items:=fun p hp=>⟨(i p hp).1.old a,(i p hp).2⟩
def BGI(sv:Value)(items:List (Value × List Int))(e:Menv)(h:Heap)(μ:Nat)(k:Nat)(s:St):Prop:=∃ (t:Tr Value) (h1:Heap) (MB:Nat->Prop) (ps:List (Value × List Int)) (i:Nat),s=⟨⟨26,t⟩,[],h1⟩/\t.get 5=some (.pointer (some ⟨μ,0,none⟩))/\t.get 11=some sv/\t.get 12=some (.int .i64 (items.length:Int))/\t.get 13=some (.int .i64 (i:Int))/\i<=items.length/\k=items.length-i/\Mach h1 MB μ e ps []/\Old h h1/\(∀ c,MB c->h.next<=c) /\
 Qzl (items.map (·.2)) []=Qzl ((items.drop i).map (·.2)) (ps.map (·.2))
section
attribute [local simp] Qez Qie V8 Qjt Qh6 Z7 Qju Vf Va Qpx Qv X4 Zd
theorem Zor(b:Nat){h:Heap}{sv:Value}{items:List (Value × List Int)}{e:Menv}(ss:Sl h 1 sv items.length (items.map (·.1)))(hn:items.length < 1000000)(its:ItsAt h items)(K:KP)
  (hk:∀ h' μ MB ps,Qzl (items.map (·.2)) []=.ok (ps.map (·.2))->Mach h' MB μ e ps []->Old h h'->(∀ c,MB c->h.next<=c)->K (.ret (.pointer (some ⟨μ,0,none⟩))) h')
  (hp:Qzl (items.map (·.2)) []=.error 16->∀ h',Old h h'->K (.panic (pe 16)) h'):FK b 61 [sv,.agg ⟨e.cells⟩] h K:=by
 refine FF b (V8 b) X51 Ymq Ybe rfl ?_
 obtain⟨hA,eA⟩:∃ hA,hA=h.push (.cells true 1 e.cells):=⟨_,rfl⟩
 have bxA:=Qr2 eA
 have gA:hA.get h.next=some (.cells true 1 e.cells):=by rw[eA,Heap.get_push,if_pos rfl]
 have aA:=Qkm eA
 have nA:=Q4v eA
 have ldA:Qb9 hA h.next 0 34=some (.agg ⟨e.cells⟩):=agW gA (by rw[e.len];omega) (by rw[e.len];exact Nat.le_refl _)
 have bxB:Yz6 (.agg ⟨e.cells ++ [.slice none 0 0,.slice none 0 0]⟩) hA=some (.pointer (some ⟨hA.next,0,none⟩),hA.push (.cells true 1 (e.cells ++ [.slice none 0 0,.slice none 0 0]))):=rfl
 obtain⟨hB,eB⟩:∃ hB,hB=hA.push (.cells true 1 (e.cells ++ [.slice none 0 0,.slice none 0 0])):=⟨_,rfl⟩
 rw[<- eB]at bxB
 have gB:hB.get hA.next=some (.cells true 1 (e.cells ++ [.slice none 0 0,.slice none 0 0])):=by rw[eB,Heap.get_push,if_pos rfl]
 have aB:=Qkm eB
 have lenS:∀ hx,Qn4 (E b).toEnv 71 sv hx=some (.int .i64 (items.length:Int)):=fun hx=>Qfg (T71 b) ss
 simp[bxA,ldA,Zrx b e.len,bxB,lenS]
 have lB:=Heap.get_lt gB
 have M0:Mach hB (fun c=>c=hA.next) hA.next e [] []:=by
  refine⟨⟨.slice none 0 0,.slice none 0 0,1,gB,rfl,?_,?_,fun c hc=>by simp[U1]at hc,fun c hc=>by simp[U1]at hc⟩,by simp,fun c hc=>by rw[hc];exact lB⟩
  ·exact Own.nil
  ·exact Own.nil
 refine Qj1 (BGI sv items e h hA.next) items.length ⟨_,hB,fun c=>c=hA.next,[],0,rfl,by simp,by simp,by simp,by simp,by omega,rfl,M0,aA.trans aB,fun c hc=>by omega,by simp⟩ ?_
 rintro k s' ⟨t,h1,MB,ps,i,rfl,t5,t11,t12,t13,hi,rfl,M,hold,hmb,hF⟩ _
 by_cases hlt:i < items.length
 ·have hlt':(i:Int) < (items.length:Int):=by omega
  obtain⟨p,hpi⟩:∃ p,items[i]? = some p:=⟨_,List.getElem?_eq_getElem hlt⟩
  obtain⟨v,x⟩:=p
  have hd:items.drop i=(v,x)::items.drop (i+1):=by
   rw[List.drop_eq_getElem_cons hlt]
   rw[List.getElem?_eq_getElem hlt]at hpi
   rw[Option.some.inj hpi]
  obtain⟨bk,off,q1,q2,q3, -⟩:=Xqk (T71 b) Qom (ss.old hold) (k:=.i64) (i:=(i:Int)) (by omega) (by omega)
  have q4:Jl h1 bk off=some v:=by
   have:=q3 0 (by omega)
   simpa[hpi]using this
  obtain⟨sx,bx⟩:=its (v,x) (List.mem_of_getElem? hpi)
  have iv:Itm h1 MB v x:=⟨sx.old hold,bx,fun c hc hm=>by have:=sx.blk hc;have:=hmb c hm;omega⟩
  have len:=fun hx=>Qpb (b:=b) (h1:=hx) iv.sb
  have hw:=wS (i:=i) (by omega)
  rw[hd]at hF
  by_cases hx:x.length<=64
  ·have hx':(x.length:Int)<=64:=by omega
   simp[t5,t11,t12,t13,hlt',q2,q4,len,hx']
   refine Xl7 b h1 16 _ ?_
   simp[t5,t11,t12,t13]
   by_cases hl:ps.length < 16
   ·refine Xis b M iv hl _ fun h2 MB2 M2 m2 => ?_
    simp[t5,t11,t12,t13,hw]
    refine⟨items.length-(i+1),by omega,_,h2,MB2,(v,x)::ps,i+1,rfl,by simp[t5],by simp[t11],by simp[t12],by simp,by omega,rfl,M2,⟨Nat.le_trans hold.1 m2.next,fun c hc => ?_⟩,fun c hc => ?_,?_⟩
    ·rw[m2.same c (Nat.lt_of_lt_of_le hc hold.1) (fun q=>by have:=hmb c q;omega),hold.2 c hc]
    ·rcases m2.sub c hc with q | q
     ·exact hmb c q
     ·exact Nat.le_trans hold.1 q
    ·rw[hF]
     simp[Qzl,hx,Qzs,hl,Except.bind]
   ·refine Xdg b M (by omega) _ ?_
    simp[t5,t11,t12,t13]
    exact hp (by rw[hF];simp[Qzl,hx,Qzs,hl,Except.bind]) h1 hold
  ·have hx':¬ (x.length:Int)<=64:=by omega
   simp[t5,t11,t12,t13,hlt',q2,q4,len,hx']
   refine Q8d b h1 16 _ ?_
   simp[t5,t11,t12,t13]
   exact hp (by rw[hF];simp[Qzl,hx]) h1 hold
 ·have hlt':¬ (i:Int) < (items.length:Int):=by omega
  simp[t5,t11,t12,t13,hlt']
  have : i=items.length:=by omega
  subst this
  exact hk h1 hA.next MB ps (by rw[hF];simp[Qzl]) M hold hmb
end
end Go.Proofs.YtgjlmnnggnajmaaGreatDoor
end
noncomputable section
namespace Go.Ab
section
variable{P:Program}{E:Env2 P}{C:CallF}{k:Nat}
theorem Ydl:∀ l:List Oper,Ygz (l.map bare)=Ygz l
 | []=>rfl
 | o::r=>by
  simp only[List.map_cons,Ygz,Ydl r]
  rfl
theorem Y6u(ops:List Oper):∀ (l:List Oper) (u:FrameMode) (s:St),Y75 E (ops.map bare) (l.map bare) u s=Y75 E ops l u s
 | [],u,s=>rfl
 | o::r,u,s=>by
  have ih:=Y6u ops r
  have e1:(bare o).dst=o.dst:=rfl
  have e2:Y52 (bare o)=Y52 o:=rfl
  have e3:J7 (bare o)=J7 o:=rfl
  have e4:∀ t h,aop E t h (bare o)=aop E t h o:=fun _ _=>rfl
  simp only[List.map_cons,Y75,Qx4,e1,e2,e3,e4,ih]
theorem Xc7:∀ (c:Code) (u:FrameMode) (s:St),Qw1 E C k (Ux c) u s=Qw1 E C k c u s
 | .seq x y,u,s=>by
  simp only[Ux,Qw1,Xc7 x]
  split
  ·exact Xc7 y _ _
  ·rfl
 | .cond c x y,u,s=>by
  simp only[Ux,Qw1]
  split
  ·exact Xc7 x u s
  ·exact Xc7 y u s
  ·rfl
 | .block id c,u,s=>by simp only[Qw1,Qse (.block id c)];simp only[Ux,Qw1];rw[<- Qse (.block id c)];rfl
 | .loop c,u,s=>by
  have:=Qse (E:=E) (C:=C) (rd:=none) (k:=k) (.loop c) s
  simp only[Ux]at this
  simp only[Ux,Qw1,this]
 | .region id ops false,u,s=>by
  have h1:=Qse (E:=E) (C:=C) (rd:=none) (k:=k) (.region id ops false) s
  simp only[Ux]at h1
  have h2:=Ydl ops.toList
  have h3:=Y6u (E:=E) ops.toList ops.toList u s
  simp only[Ux,Qw1,h1,h2,h3]
 | .region id ops true,u,s=>rfl
 | .skip,u,s=>rfl
 | .label _,u,s=>rfl
 | .ret,u,s=>rfl
 | .exit _,u,s=>rfl
 | .rangeFunc ..,u,s=>rfl
 | .scope ..,u,s=>rfl
 | .goto ..,u,s=>rfl
 | .refuse ..,u,s=>rfl
theorem Zct{f n:Nat}{args:List Value}{u u':FrameMode}{h h':Heap}{fn:Func}{c cb:Code}{e:Exit}{t:Tm}{v:Value}(hfn:E.fn.get f=some fn)(hb:fn.body=some c)(hn:fn.ntmps=n)(hc:Ux c=cb)(hle:Nat.ble args.length n=true)
  (hx:Qw1 E C k cb u ⟨⟨n,Z1.putAll 0 args .leaf⟩,[],h⟩=some (e,u',⟨t,[],h'⟩)) (he:e=.normal∨e=.ret) (hr:J4 E fn t h'=some v):Xl0 E C k f args u h=some (.ret v,u',h'):=by
 subst hn hc
 rw[Xc7]at hx
 unfold Xl0
 simp only[hfn,hb,hle,Z1,hx]
 rcases he with rfl | rfl <;> simp only[hr]
end
end Go.Ab
namespace Go.Proofs.YtgjlmnnggnajmaaGreatDoor
open Go Go.Ab
set_option maxRecDepth 100000
def peR(z:Int):List PanicEntry:=[{v:=.iface 42 (.int .i64 z),recovered:=true}]
theorem Zu1(b:Nat)(q:Bool)(t:TypeId)(v:Value):Zu (E b).toEnv .neq 20 q (.iface t v) .nilIface=some (.bool true):=by kernel_rfl
theorem Zsw(b:Nat):Zu (E b).toEnv .neq 20 true .nilIface .nilIface=some (.bool false):=by kernel_rfl
theorem Zox(b:Nat)(z:Int):Xq9 (E b).toEnv (.iface 42 (.int .i64 z)) 42 false=some (.int .i64 z):=by kernel_rfl
section
attribute [local simp] Qxb Q64 Q6a Q65 Q3i Q45 Q5y Q6c Q6j Q4r Qw1 Ygz Y52 Y75 Zgt J7 pe Z1.putAll Qvw Xqs Xyu Xyb aop Qg nth Ab.g0 gv gs Qb Qa Yy aev evs evO Qh Tr.get_put St.put Tm.put flat flatA Qm Qp Qn Qo Qk Ql Qj Qw Zv Qi Q5 Q6 X7 Q9 Q3 Q0 Q8 Qc Qd Q1 Q2 Q7
theorem Zn8(b:Nat){h:Heap}{B:Nat}{y:Value}(z:Int)(hg:h.get B=some (.cells true 1 [y])):DD b 58 [.pointer (some ⟨B,0,none⟩)] (.panicking (pe z)) h=some (.ret (.tuple #[]),.panicking (peR z),h.set B (some (.cells true 1 [.int .i64 z]))):=by
 have e1:(E b).fn.get 58=some Qjp:=Qvm b
 have st:Uj h B 0 [.int .i64 z]=some (h.set B (some (.cells true 1 [.int .i64 z]))):=Qhj hg (by simp)
 refine Zct (e:=.normal) e1 Xct Xvy Xpr rfl (by simp[Zu,-Zu,Zu1,Zox,Qln,st];first | exact rfl | exact⟨rfl,rfl⟩) (.inl rfl) ?_
 simp[J4,Xp1]
theorem Zxa(b:Nat){h:Heap}{B:Nat}{y:Value}:DD b 58 [.pointer (some ⟨B,0,none⟩)] .returning h=some (.ret (.tuple #[]),.returning,h):=by
 have e1:(E b).fn.get 58=some Qjp:=Qvm b
 refine Zct (e:=.normal) e1 Xct Xvy Xpr rfl (by simp[Zu,-Zu,Zsw];first | exact rfl | exact⟨rfl,rfl⟩) (.inl rfl) ?_
 simp[J4,Xp1]
end
end Go.Proofs.YtgjlmnnggnajmaaGreatDoor
end
noncomputable section
namespace Go.Proofs.YtgjlmnnggnajmaaGreatDoor
open Go Go.Ab
set_option maxRecDepth 100000
def Bd(st:List (List Int)):Prop:=st.length<=16/\∀ x ∈ st,x.length<=64
theorem Q25{x:List Int}{st st':List (List Int)}(h:Qzs x st=.ok st')(hb:Bd st)(hx:x.length<=64):Bd st':=by
 unfold Qzs at h
 split at h
 ·rename_i hl
  cases h
  refine⟨by simp;omega,fun y hy => ?_⟩
  rcases List.mem_cons.1 hy with rfl | hy
  ·exact hx
  ·exact hb.2 y hy
 ·cases h
theorem Xr1{x:List Int}{st:List (List Int)}(hb:Bd (x::st)):Bd st/\x.length<=64:=by
 obtain⟨h1,h2⟩:=hb
 simp at h1
 exact⟨⟨by omega,fun y hy=>h2 y (by simp[hy])⟩,h2 x (by simp)⟩
theorem Y8e{A B:Type}{x:Except Int A}{f:A->Except Int B}{y:B}(h:x.bind f=.ok y):∃ z,x=.ok z/\f z=.ok y:=by
 cases x with
 | error e=>cases h
 | ok z=>exact⟨z,rfl,h⟩
theorem Zjs(x:Bool):(Zm7 x).length<=64:=by cases x <;> simp[Zm7]
theorem Zvc{a:Asks}{code:Int}{data:List Int}{st st':List (List Int)}(h:doF a code data st=.ok st')(hb:Bd st)(hd:data.length<=64):Bd st':=by
 unfold doF at h
 split at h
 ·split at h
  ·obtain⟨p1,p2⟩:=Xr1 hb
   obtain⟨z,z1,z2⟩:=Y8e h
   exact Q25 z2 (Q25 z1 p1 p2) p2
  ·cases h
 split at h
 ·split at h
  ·cases h;exact(Xr1 hb).1
  ·cases h
 split at h
 ·split at h
  ·exact Q25 h (Xr1 hb).1 (by rw[Yqo];omega)
  ·cases h
 split at h
 ·split at h
  ·exact Q25 h (Xr1 (Xr1 hb).1).1 (Zjs _)
  ·cases h
 split at h
 ·split at h
  ·split at h
   ·cases h;exact(Xr1 hb).1
   ·cases h
  ·cases h
 split at h
 ·split at h
  ·split at h
   ·exact Q25 h (Xr1 (Xr1 hb).1).1 (Zjs _)
   ·cases h
  ·cases h
 split at h
 ·split at h
  ·split at h
   ·split at h
    ·cases h;exact(Xr1 hb).1
    ·cases h
   ·cases h
  ·cases h
 split at h
 ·split at h
  ·obtain⟨p1,p2⟩:=Xr1 hb
   obtain⟨z,z1,z2⟩:=Y8e h
   exact Q25 z2 (Q25 z1 p1 p2) (by simp)
  ·cases h
 exact Q25 h hb hd
theorem Zug{code:Int}{st st':List (List Int)}{op op':List Br}(h:brF code st op=some (some (st',op')))(hb:Bd st):Bd st'/\op'.length<=op.length+1:=by
 unfold brF at h
 split at h
 ·split at h
  ·cases h;exact⟨hb,by simp⟩
  ·split at h
   ·cases h
   ·cases h;exact⟨(Xr1 hb).1,by simp⟩
 ·split at h
  ·split at h
   ·cases h
   ·split at h
    ·cases h;exact⟨hb,by simp;omega⟩
    ·split at h
     ·cases h
     ·cases h;exact⟨hb,by simp⟩
  ·cases h
theorem Zms{a:Asks}{code:Int}{data:List Int}{st st':List (List Int)}{op op':List Br}(h:Qlx a code data st op=.ok (st',op'))(hb:Bd st)(hd:data.length<=64):Bd st'/\op'.length<=op.length+1:=by
 unfold Qlx at h
 split at h
 ·cases h
 ·rename_i p hp
  cases h
  exact Zug hp hb
 ·split at h
  ·cases h;exact⟨hb,by omega⟩
  ·cases hq:doF a code data st with
   | error e=>rw[hq]at h;cases h
   | ok st1 =>
    rw[hq]at h
    cases h
    exact⟨Zvc hq hb hd,by omega⟩
theorem Zd6:∀ {l st st':List (List Int)},Qzl l st=.ok st'->Bd st->Bd st'
 | [],st,st',h,hb=>by cases h;exact hb
 | x::l,st,st',h,hb=>by
  unfold Qzl at h
  split at h
  ·rename_i hx
   obtain⟨z,z1,z2⟩:=Y8e h
   exact Zd6 z2 (Q25 z1 hb hx)
  ·cases h
theorem Bd.nil:Bd []:=⟨by simp,by simp⟩
theorem Yxu:∀ {f:Nat} {xs:List Int} {l:List (Int × List Int)},Bytes xs->pz f xs=some l->∀ p ∈ l,Bytes p.2
 | f,[],l,_,h=>by cases f <;> (simp[pz]at h;subst h;simp)
 | 0,_::_,l,_,h=>by simp[pz]at h
 | f+1,c::r,l,hb,h=>by
  have hr:Bytes r:=fun z hz=>hb z (by simp[hz])
  simp only[pz]at h
  split at h
  ·rw[Option.map_eq_some_iff]at h
   obtain⟨l',h1,rfl⟩:=h
   intro p hp
   rcases List.mem_cons.1 hp with rfl | hp
   ·exact fun z hz=>hr z (List.mem_of_mem_take hz)
   ·exact Yxu (fun z hz=>hr z (List.mem_of_mem_drop hz)) h1 p hp
  ·split at h
   ·cases h
   ·rw[Option.map_eq_some_iff]at h
    obtain⟨l',h1,rfl⟩:=h
    intro p hp
    rcases List.mem_cons.1 hp with rfl | hp
    ·intro z hz;simp at hz
    ·exact Yxu hr h1 p hp
def dfr(B:Nat):Deferred:={target:=.fn (.func 58) #[.pointer (some ⟨B,0,none⟩)],args:=#[]}
theorem Z00(b:Nat)(h:Heap)(bk o:Nat):Qhr (E b).toEnv 42 (.pointer (some ⟨bk,o,none⟩)) h=Jl h bk o:=Qva (Zxi b) Zru
theorem Zhy(b:Nat){t:Tr Value}{h:Heap}{B:Nat}{y:Value}{z:Int}{K:AEnd->Heap->Prop}(ht:t.get 6=some (.pointer (some ⟨B,0,none⟩)))(hg:h.get B=some (.cells true 1 [y]))(hk:K (.ret (.int .i64 z)) (h.set B (some (.cells true 1 [.int .i64 z])))) :
  Yas (E b) (DD b) Qjl K (.panic (pe z)) ⟨⟨59,t⟩,[dfr B],h⟩:=by
 have e1:(E b).fn.get 58=some Qjp:=Qvm b
 have e2:=Zn8 b z hg
 have e3:settle (.panicking (peR z))=.returning:=by kernel_rfl
 have lt:=Heap.get_lt hg
 have e4:Jl (h.set B (some (.cells true 1 [.int .i64 z]))) B 0=some (.int .i64 z):=(J5 (z:=1) (ow:=true) (c:=[.int .i64 z]) (by rw[Heap.get_set _ _ _ _ lt,if_pos rfl])).trans rfl
 show Q56 (E b) (DD b) Qjl K (.panicking (pe z)) ⟨⟨59,t⟩,[dfr B],h⟩
 rw[Q4]
 have e5:Xg (E b) (DD b) Qjl ⟨59,t⟩ [dfr B] (.panicking (pe z)) h=some (.ret (.int .i64 z),h.set B (some (.cells true 1 [.int .i64 z]))):=by
  simp only[Xg,dfr,e1]
  simp[e2,e3,Xg,J4,Zv,Wn,ht,Z00,e4]
 rw[e5]
 exact hk
theorem Ztj(b:Nat){t:Tr Value}{h:Heap}{B:Nat}{z:Int}{K:AEnd->Heap->Prop}(ht:t.get 6=some (.pointer (some ⟨B,0,none⟩)))(hg:Jl h B 0=some (.int .i64 z))(hk:K (.ret (.int .i64 z)) h) :
  Q56 (E b) (DD b) Qjl K .returning ⟨⟨59,t⟩,[dfr B],h⟩:=by
 have e1:(E b).fn.get 58=some Qjp:=Qvm b
 have e2:=Zxa b (h:=h) (B:=B) (y:=.bool true)
 have e3:settle .returning=.returning:=by kernel_rfl
 rw[Q4]
 have e5:Xg (E b) (DD b) Qjl ⟨59,t⟩ [dfr B] .returning h=some (.ret (.int .i64 z),h):=by
  simp only[Xg,dfr,e1]
  simp[e2,e3,Xg,J4,Zv,Wn,ht,Z00,hg]
 rw[e5]
 exact hk
abbrev Wo(h:Heap)(e:Menv)(a:Asks):Prop:=Wd h (fun _=>False) e a
theorem Wo.old{h h':Heap}{e:Menv}{a:Asks}(w:Wo h e a)(o:Old h h'):Wo h' e a:=w.mv (Mv.old o)
theorem Wo.mb{h h':Heap}{MB:Nat->Prop}{e:Menv}{a:Asks}(w:Wo h e a)(o:Old h h')(hm:∀ c,MB c->h.next<=c):Wd h' MB e a :=
 w.mv ⟨o.1,fun c hc _=>o.2 c hc,fun c hc => .inr (hm c hc)⟩
theorem Zuw{h:Heap}{n0:Nat}{lv:Value}{os:List OpV}{te ts:TypeId}{re rs:TyRec}{b:Nat}(T:SlTy (E b).toEnv te ts re rs)(hz:re.size=2)(o:Own h n0 2 lv os.length (Qmr os)){i:Nat}{p:OpV}(hp:os[i]? = some p) :
  ∃ bk off,Vg (E b).toEnv ts lv (.int .i64 (i:Int))=some (.pointer (some ⟨bk,off,none⟩))/\Qb9 h bk off 2=some (.agg ⟨[.int .i64 p.code,p.val]⟩):=by
 obtain⟨bk,off,h1,h2,h3,h4⟩:=Zv1 (b:=b) T hz o hp
 refine⟨bk,off,h2,?_⟩
 unfold Jl at h3 h4
 unfold Qb9
 cases hg:h.get bk with
 | none=>rw[hg]at h3;cases h3
 | some x =>
  cases x with
  | cells ow z c =>
   rw[hg]at h3 h4
   simp only at h3 h4
   have : Q1n 2 (c.drop off)=some [.int .i64 p.code,p.val]:=by
    have l1:off < c.length:=(List.getElem?_eq_some_iff.1 h3).1
    have l2:off+1 < c.length:=(List.getElem?_eq_some_iff.1 h4).1
    rw[List.drop_eq_getElem_cons l1,List.drop_eq_getElem_cons l2]
    rw[List.getElem?_eq_getElem l1]at h3
    rw[List.getElem?_eq_getElem l2]at h4
    rw[Option.some.inj h3,Option.some.inj h4]
    simp[Q1n]
   simp only[this]
   rfl
  | _=>rw[hg]at h3;cases h3
def RLI(a:Asks)(l:List (Int × List Int))(st0:List (List Int))(lv:Value)(os:List OpV)(e:Menv)(hq:Heap)(B μ:Nat)(k:Nat)(s:St):Prop:=∃ (t:Tr Value) (h1:Heap) (MB:Nat->Prop) (ps:List (Value × List Int)) (op:List Br) (i:Nat),s=⟨⟨59,t⟩,[dfr B],h1⟩/\t.get 6=some (.pointer (some ⟨B,0,none⟩))/\t.get 9=some (.pointer (some ⟨μ,0,none⟩))/\t.get 25=some lv/\t.get 26=some (.int .i64 (os.length:Int))/\t.get 27=some (.int .i64 (i:Int))/\i<=os.length/\k=os.length-i /\
 Mach h1 MB μ e ps op/\Old hq h1/\(∀ c,MB c->hq.next<=c)/\Bd (ps.map (·.2))/\op.length<=i/\Xle a l st0 []=Xle a (l.drop i) (ps.map (·.2)) op
theorem Mv.oldq{MB MB':Nat->Prop}{hq h h':Heap}(a:Old hq h)(hm:∀ c,MB c->hq.next<=c)(m:Mv MB MB' h h'):Old hq h'/\∀ c,MB' c->hq.next<=c :=
 ⟨⟨Nat.le_trans a.1 m.next,fun c hc=>by rw[m.same c (Nat.lt_of_lt_of_le hc a.1) (fun q=>by have:=hm c q;omega),a.2 c hc]⟩,fun c hc=>by
  rcases m.sub c hc with q | q
  ·exact hm c q
  ·exact Nat.le_trans a.1 q⟩
attribute [local simp] Yy Z5 J4 Zv aop Qg nth Ab.g0 gv gs Qb Qa aev evs evO Qh Tr.get_put St.put Tm.put flat flatA Zu Qm Qp Qn Qo Qk Ql Qj Qw Qi Q5 Q6 Z1.putAll X7 Q9 Q3 Q0 Q8 Qc Qd Q1 Q2 Q7
section
attribute [local simp] Uo Wn Jj Jv Js Qv Qjt V8 Qhw Z7 Qnq Qhy Qi6 Qi2 Qt Zd Ub Qcc Qc6 J2 Qc3 Qgs Qh6 Qju Vf Xe Up Ua Vs Qln Z4 Yx Qy Xb Z3 Xx X9 Z2 Qz Yw Xy Xa Qr Xw Xc Qx Zs Jh Zr Za
set_option maxHeartbeats 1000000 in
theorem Ypn(b:Nat){h:Heap}{v sv:Value}{xs:List Int}{items:List (Value × List Int)}{e:Menv}{a:Asks}(s:SB h v xs)(hb:Bytes xs)(ss:Sl h 1 sv items.length (items.map (·.1)))(hn:items.length < 1000000)(its:ItsAt h items)(wo:Wo h e a)(K:KP)
  (hk:∀ h',Old h h'->K (.ret (.int .i64 (Xza a xs (items.map (·.2))))) h'):CallOK Tryz.prog (E b).G 31 [v,sv,.agg ⟨e.cells⟩] h K:=by
 refine Qm4 (E b) (Qa4 _ _) (We b) (V7 b) Uz (Wg b) (Jj b) Ygr Y44 Yse rfl ?_
 obtain⟨hA,eA⟩:∃ hA,hA=h.push (.cells true 1 e.cells):=⟨_,rfl⟩
 obtain⟨hB,eB⟩:∃ hB,hB=hA.push (.cells true 1 [.int .i64 0]):=⟨_,rfl⟩
 have aA:=Qkm eA
 have aB:=Qkm eB
 have aAB:=aA.trans aB
 have nA:=Q4v eA
 have gA:hA.get h.next=some (.cells true 1 e.cells):=by rw[eA,Heap.get_push,if_pos rfl]
 have gB:hB.get hA.next=some (.cells true 1 [.int .i64 0]):=by rw[eB,Heap.get_push,if_pos rfl]
 have bxA:=Qr2 eA
 have alB:Qba (E b).toEnv 42 hA=some (.pointer (some ⟨hA.next,0,none⟩),hB):=by rw[eB];exact Q9v b hA
 have die:∀ (t:Tr Value) (h1:Heap) (z:Int),t.get 6=some (.pointer (some ⟨hA.next,0,none⟩))->Old hB h1->Xza a xs (items.map (·.2))=z->Yas (E b) (DD b) Qjl K (.panic (pe z)) ⟨⟨59,t⟩,[dfr hA.next],h1⟩:=by
  intro t h1 z ht ho hz
  have g1:=ho.get gB
  refine Zhy b ht g1 ?_
  rw[<- hz]
  refine hk _ ((aAB.trans ho).set _ (by omega) (Heap.get_lt g1))
 simp[Q9v,Q4,Xg,bxA,-Q9v,alB,Yfh]
 refine(Zpg b (s.old aAB) hb _ (fun hno h3 a3 => ?_) (fun l g1 g2 g3 lv os h3 q3 os3 a3 => ?_)).ok
 ·simp[Q9v,Q4,Xg]
  refine(Q8d b h3 16 _ ?_).ok
  simp[Q9v,Q4,Xg]
  refine die _ h3 16 (by simp) a3 ?_
  rcases hno with q | q | ⟨l',q,q'⟩
  ·simp[Xza,q]
  ·unfold Xza
   split
   ·rfl
   ·rw[q]
  ·unfold Xza
   split
   ·rfl
   ·rw[q]
    simp only
    rw[if_pos q']
 ·have hF:Xza a xs (items.map (·.2))=Zpo a l (items.map (·.2)):=by
   unfold Xza
   rw[if_neg (by omega),g2]
   simp only
   rw[if_neg (by omega)]
  have ldA:Qb9 h3 h.next 0 34=some (.agg ⟨e.cells⟩):=agW ((aB.trans a3).get gA) (by rw[e.len];omega) (by rw[e.len];exact Nat.le_refl _)
  simp[Q9v,Q4,Xg]
  refine(Xl7 b h3 0 _ ?_).ok
  simp[Q9v,Q4,Xg,ldA]
  refine(Zor b (ss.old (aAB.trans a3)) hn (its.old (aAB.trans a3)) _ (fun h4 μ MB ps p1 M4 a4 hmb => ?_) (fun p1 h4 a4 => ?_)).ok
  ·have hF1:Xza a xs (items.map (·.2))=Zgf (Xle a l (ps.map (·.2)) []):=by
    rw[hF]
    unfold Zpo
    rw[p1]
   have e1:∀ h,Qn4 (E b).toEnv 102 lv h=some (.int .i64 (os.length:Int)):=fun h=>Qfg (Zgq b) os3.row.sl
   have hos:os.length<=64:=by rw[<- Yrk os,q3];exact g3
   simp[Q9v,Q4,Xg,e1]
   refine Qj1 (RLI a l (ps.map (·.2)) lv os e h3 hA.next μ) os.length ⟨_,h4,MB,ps,[],0,rfl,?_,?_,?_,?_,?_,by omega,rfl,M4,a4,hmb,Zd6 p1 Bd.nil,by simp,by simp⟩ ?_
   ·simp
   ·simp
   ·simp
   ·simp
   ·simp
   rintro k s' ⟨t,h5,MB5,ps5,op5,i,rfl,t6,t9,t25,t26,t27,hi,rfl,M5,a5,hm5,bd5,ol5,hS⟩ _
   have w5:Wd h5 MB5 e a:=(wo.old (aAB.trans a3)).mb a5 hm5
   by_cases hlt:i < os.length
   ·have hlt':(i:Int) < (os.length:Int):=by omega
    obtain⟨p,hpi⟩:∃ p,os[i]? = some p:=⟨_,List.getElem?_eq_getElem hlt⟩
    have hli:l[i]? = some (p.code,p.data):=by
     rw[<- q3,Xf1,List.getElem?_map,hpi]
     rfl
    have hld:l.drop i=(p.code,p.data)::l.drop (i+1):=by
     obtain⟨hl1,hl2⟩:=List.getElem?_eq_some_iff.1 hli
     rw[List.drop_eq_getElem_cons hl1,hl2]
    have hdl:p.data.length<=64:=Y7e g2 (p.code,p.data) (List.mem_of_getElem? hli)
    have od:=(os3.old a5).data p (List.mem_of_getElem? hpi)
    obtain⟨bk,off,x1,x2⟩:=Zuw (b:=b) (Zgq b) Qp9 (os3.old a5).row hpi
    have hw:=wS (i:=i) (by omega)
    obtain⟨h6,e6⟩:∃ h6,h6=(h5.push (.cells true 1 [.int .i64 0,.slice none 0 0])).set h5.next (some (.cells true 1 [.int .i64 p.code,p.val])):=⟨_,rfl⟩
    have g5:(h5.push (.cells true 1 [.int .i64 0,.slice none 0 0])).get h5.next=some (.cells true 1 [.int .i64 0,.slice none 0 0]):=by rw[Heap.get_push,if_pos rfl]
    have lt5:=Heap.get_lt g5
    have st5:Uj (h5.push (.cells true 1 [.int .i64 0,.slice none 0 0])) h5.next 0 [.int .i64 p.code,p.val]=some h6:=by
     rw[W5 g5 (by simp),e6]
     rfl
    have a56:Old h5 h6:=by rw[e6];exact(Old.push _ _).set _ (Nat.le_refl _) lt5
    have g6:h6.get h5.next=some (.cells true 1 [.int .i64 p.code,p.val]):=by rw[e6,Heap.get_set _ _ _ _ lt5,if_pos rfl]
    have ld6:Qb9 h6 h5.next 0 2=some (.agg ⟨[.int .i64 p.code,p.val]⟩):=by
     rw[Jx g6 (by simp)]
     rfl
    have dat:Bytes p.data:=Yxu hb g2 (p.code,p.data) (List.mem_of_getElem? hli)
    have id:Itm h6 MB5 p.val p.data:=⟨(od.sl.old a56),dat,fun c hc hm=>by
     have:=(os3.data p (List.mem_of_getElem? hpi)).out hc
     have:=hm5 c hm
     omega⟩
    have A6:At h6 MB5 μ e a ps5 op5 p.val p.data:=⟨M5.old a56,w5.old a56,id,by simpa using bd5.1,by omega,fun q hq=>bd5.2 q.2 (List.mem_map.2 ⟨q,hq,rfl⟩)⟩
    rw[hld]at hS
    simp[Q9v,Q4,Xg,t6,t9,t25,t26,t27,hlt',x1,x2,st5,ld6]
    refine Ztr b A6 _ (fun st' op' q h7 m => ?_) (fun z q h7 m => ?_)
    ·obtain⟨ps7,MB7,rfl,M7,m7⟩:=m
     obtain⟨a7,hm7⟩:=Mv.oldq (a5.trans a56) hm5 m7
     obtain⟨bd7,ol7⟩:=Zms q bd5 hdl
     simp[Q9v,Q4,Xg,t6,t9,t25,t26,t27,hw]
     refine⟨os.length-(i+1),by omega,_,h7,MB7,ps7,op',i+1,rfl,by simp[t6],by simp[t9],by simp[t25],by simp[t26],by simp,by omega,rfl,M7,a7,hm7,bd7,by omega,?_⟩
     rw[hS]
     simp only[Xle,q,Except.bind]
    ·obtain⟨MB7,m7⟩:=m
     obtain⟨a7,hm7⟩:=Mv.oldq (a5.trans a56) hm5 m7
     simp[Q9v,Q4,Xg,t6,t9,t25,t26,t27]
     refine die _ h7 z (by simp[t6]) (a3.trans a7) ?_
     rw[hF1,hS]
     simp only[Xle,q,Except.bind,Zgf]
   ·have hlt':¬ (i:Int) < (os.length:Int):=by omega
    have hie:i=l.length:=by
     have : l.length=os.length:=by rw[<- q3,Yrk]
     omega
    rw[hie,List.drop_length]at hS
    simp only[Xle]at hS
    have hF2:Xza a xs (items.map (·.2))=if op5.length=0/\ps5.length=1/\isT ((ps5.map (·.2)).getD 0 [])=true then 0 else 16:=by
     rw[hF1,hS]
     simp only[Zgf,List.length_map]
    have g5:=(a3.trans a5).get gB
    have lt5:=Heap.get_lt g5
    obtain⟨⟨sv5,ov5,z5,r⟩,its5,low5⟩:=M5
    have c35:=r.c35
    have c34:=r.c34
    have lo:∀ hx,Qn4 (E b).toEnv 131 ov5 hx=some (.int .i64 (op5.length:Int)):=fun hx=>Qfg (Zm6 b) r.op.sl
    have ls:∀ hx,Qn4 (E b).toEnv 71 sv5 hx=some (.int .i64 (ps5.length:Int)):=fun hx=>Qfg (T71 b) r.st.sl
    by_cases ho:op5.length=0
    ·rw[ho]at lo
     have lo':∀ hx,Qn4 (E b).toEnv 131 ov5 hx=some (.int .i64 0):=lo
     by_cases hp1:ps5.length=1
     ·rw[hp1]at ls
      have ls':∀ hx,Qn4 (E b).toEnv 71 sv5 hx=some (.int .i64 1):=ls
      obtain⟨⟨v1,x1⟩,rfl⟩:∃ q,ps5=[q]:=by
       match ps5,hp1 with
       | [q],_=>exact⟨q,rfl⟩
      obtain⟨bk,o,y1,y2,y3, -⟩:=Xqk (T71 b) Qom r.st.sl (k:=.i64) (i:=0) (by omega) (by simp)
      have y4:Jl h5 bk o=some v1:=by
       have:=y3 0 (by omega)
       simpa using this
      have i1:Itm h5 MB5 v1 x1:=its5 (v1,x1) (by simp)
      have lx:x1.length<=64:=bd5.2 x1 (by simp)
      simp only[List.map_cons,List.map_nil,List.getD_cons_zero,List.length_cons,List.length_nil,ho]at hF2
      simp[Q9v,Q4,Xg,t6,t9,t25,t26,t27,hlt',Qga,c35,c34,lo',ls',y2,y4]
      refine(Yc6 b i1.sb (by omega) _ fun h6 a6 => ?_).ok
      cases ht:isT x1 with
      | true =>
       have g6:=a6.get g5
       have lt6:=Heap.get_lt g6
       have st6:Uj h6 hA.next 0 [.int .i64 0]=some (h6.set hA.next (some (.cells true 1 [.int .i64 0]))):=Qhj g6 (by simp)
       simp[Q9v,Q4,Xg,-Q4,-Xg]
       refine(Xl7 b h6 16 _ ?_).ok
       simp[Q9v,Q4,Xg,-Q4,-Xg,t6,st6]
       refine Ztj b (B:=hA.next) (z:=0) (by simp[t6]) ?_ ?_
       ·exact(J5 (z:=1) (ow:=true) (c:=[.int .i64 0]) (by rw[Heap.get_set _ _ _ _ lt6,if_pos rfl])).trans rfl
       ·rw[ht]at hF2
        simp at hF2
        rw[<- hF2]
        exact hk _ (((aAB.trans a3).trans (a5.trans a6)).set _ (by omega) lt6)
      | false =>
       simp[Q9v,Q4,Xg]
       refine(Q8d b h6 16 _ ?_).ok
       simp[Q9v,Q4,Xg]
       refine die _ h6 16 (by simp[t6]) (a3.trans (a5.trans a6)) ?_
       rw[hF2,ht]
       simp
     ·have hp1':¬ (ps5.length:Int)=1:=by omega
      simp[Q9v,Q4,Xg,t6,t9,t25,t26,t27,hlt',Qga,c35,c34,lo',ls,hp1']
      refine(Q8d b h5 16 _ ?_).ok
      simp[Q9v,Q4,Xg]
      exact die _ h5 16 (by simp[t6]) (a3.trans a5) (by rw[hF2,if_neg (fun q=>hp1 q.2.1)])
    ·have ho':¬ (op5.length:Int)=0:=by omega
     simp[Q9v,Q4,Xg,t6,t9,t25,t26,t27,hlt',Qga,c35,c34,lo,ho,ho']
     refine(Q8d b h5 16 _ ?_).ok
     simp[Q9v,Q4,Xg]
     exact die _ h5 16 (by simp[t6]) (a3.trans a5) (by rw[hF2,if_neg (fun q=>ho q.1)])
  ·simp[Q9v,Q4,Xg]
   exact die _ h4 16 (by simp) (a3.trans a4) (by rw[hF];unfold Zpo;rw[p1])
end
theorem Yzv(k l:List Nat):(Bl.keyed k l).length=32:=by
 unfold Bl.keyed
 split <;> exact Qls _
theorem Xow(seed:List Nat):∀ n i,(Qmb seed n i).length=n*32
 | 0,_=>rfl
 | n+1,i=>by simp only[Qmb,List.length_append,Yzv,Xow seed n];omega
theorem Zwl(b:Nat)(x0 x1 x2 x3:Int)(h:Heap):V5 (E b).toEnv 30 4 [(0,.int .u8 x0),(1,.int .u8 x1),(2,.int .u8 x2),(3,.int .u8 x3)] h=some (.slice (some ⟨h.next,0,none⟩) 4 4,h.push (.cells true 1 [.int .u8 x0,.int .u8 x1,.int .u8 x2,.int .u8 x3])):=by kernel_rfl
theorem Zkt(b:Nat){h:Heap}{B o n c:Nat}{z:Nat}{l:List Value}(hg:h.get B=some (.cells true z l)):Xb1 (E b).toEnv 30 30 (.slice (some ⟨B,o,none⟩) n c) h=some (.slice (some ⟨B,o,none⟩) n c,h):=by
 have h1:R30.desc=.slice 5:=(T30 b).d
 have h3:R5.desc=.int .u8:=by kernel_rfl
 simp only[Xb1,Xmj,h1,Zc5,h3,hg,beq_self_eq_true]
theorem Qx5{h:Heap}(l:Ab.LaidIn h laidAll):Ab.LaidIn h Qix:=fun x hx=>l x (by
 simp only[Qix,laidAll,List.mem_cons,List.not_mem_nil,or_false]at hx ⊢
 rcases hx with rfl | rfl <;> simp)
theorem Zl6{h:Heap}(l:Ab.LaidIn h laidAll):3<=h.next:=by
 have h1:=Heap.get_lt (l (0,Qge) (by simp[laidAll]))
 have h2:=Heap.get_lt (l (2,Qp0) (by simp[laidAll]))
 have h3:=Heap.get_lt (l (1,Xe3) (by simp[laidAll]))
 simp only at h1 h2 h3
 omega
theorem Xzz(l:List Nat):Yv9 (Qlz l)=l:=by
 rw[Yv9,Qlz,List.map_map]
 exact(List.map_congr_left fun n _=>rfl).trans (List.map_id l)
theorem SB.push{h:Heap}{xs:List Int}(hl:xs.length < 1000000):SB (h.push (.cells true 1 (xs.map i8))) (.slice (some ⟨h.next,0,none⟩) xs.length xs.length) xs :=
 (Own.new (n0:=0) (Nat.zero_le _) (by rw[Heap.get_push,if_pos rfl]) (by simp) (by unfold Qhx;omega) (.inr rfl)).sl
theorem Zxj{h:Heap}{B:Nat}{ow:Bool}{z:Nat}{l:List Nat}(hg:h.get B=some (.cells ow z (l.map u8v)))(hl:l.length < 1000000):SB h (.slice (some ⟨B,0,none⟩) l.length l.length) (Qlz l):=by
 have e:(Qlz l).length=l.length:=by simp[Qlz]
 rw[SB,e,<- Yf4]
 exact .inr ⟨B,0,l.length,ow,z,[],[],rfl,by simpa using hg,rfl,by simp,Nat.le_refl _,by unfold Qhx;omega,fun q=>by unfold Qhx at q;omega⟩
theorem Zwb{b:Nat}{te ts:TypeId}{re rs:TyRec}(T:SlTy (E b).toEnv te ts re rs){h:Heap}{n0 z n:Nat}{v:Value}{xs:List Value}(hz:re.size=z)(o:Own h n0 z v n xs){k:IntKind}{i:Int}(h0:0<=i)(h1:i < n) :
  ∃ bk,U1 v=some bk/\Vg (E b).toEnv ts v (.int k i)=some (.pointer (some ⟨bk,i.toNat*z,none⟩))/\∀ j,i.toNat*z+j < xs.length->Jl h bk (i.toNat*z+j)=xs[i.toNat*z+j]? := by
 rcases o with⟨rfl,rfl,rfl⟩ | ⟨bk,c,z',rest,rfl,g1,g2,g3,g4,g5⟩
 ·omega
 ·refine⟨bk,rfl,?_,fun j hj => ?_⟩
  ·rw[Qoj T hz ⟨h0,h1⟩,Nat.zero_add]
  ·rw[J5 g2,List.getElem?_append_left hj]
theorem Zs6(b:Nat)(h:Heap):Zxr (E b).toEnv 30 (.slice none 0 0)=some (.int .i64 0):=by kernel_rfl
theorem Zsg(b:Nat)(h:Heap)(v1 v2:Value)(n1:Qgn v1=true)(c1:v1.cells = #[v1])(n2:Qgn v2=true)(c2:v2.cells = #[v2]):V5 (E b).toEnv 71 2 [(0,v1),(1,v2)] h=some (.slice (some ⟨h.next,0,none⟩) 2 2,h.push (.cells true 1 [v1,v2])):=by
 have hz:R30.zero.cells.toList=[.slice none 0 0]:=by kernel_rfl
 have e1:(Nat.ble (2*R30.size) 16777216 && Nat.ble 1 R30.size)=true:=by rw[Qom];rfl
 simp only[V5,Zhg,(T71 b).d,Xmj,e1,if_true,hz,Qom]
 simp[Xqw,n1,n2,c1,c2,Qdi,Qk8,over,Nat.ble]
theorem Yyl(b:Nat)(n:Nat)(hn:n < 1000000000)(h:Heap):Xxi (E b).toEnv 3 R5 (.int .i64 (n:Int)) h=some (n,List.replicate n (.int .u8 0)):=by
 have hi:R3.desc=.int .i64:=by kernel_rfl
 simp only[Xxi,Zxv,hi]
 rw[if_pos ⟨by omega,by omega,by rw[Qxt];omega,by rw[Qgp];omega⟩,Zbb]
 have : (Value.int .u8 0).cells.toList=[.int .u8 0]:=rfl
 rw[this,Xsc]
 simp
section
attribute [local simp] Qjv Qs3 Wq Qow Z7 Zq4 Va Zy Zq kON kOC kNN kNP kRR kRP kEN kER Q4 Xg kTN kTR kTX kTP kBN kBR kBX kBP kCS kCR kCE kAM
theorem Zp4(b:Nat){h:Heap}(n:Nat)(hn:n < 1000000000)(K:KP)(hk:∀ v h',OB h' h.next v []->Old h h'->K (.ret v) h'):FK b 104 [.slice none 0 0,.int .i64 (n:Int)] h K:=by
 refine FF b (Wq b) Q3m Xba Xae rfl ?_
 have c0:=Zs6 b h
 have l0:∀ hx,Qn4 (E b).toEnv 30 (.slice none 0 0) hx=some (.int .i64 0):=fun hx=>Qpb (b:=b) (xs:=[]) (h:=h) Sl.nil
 have h0:¬ (n:Int) < 0:=by omega
 have w0:IntKind.i64.wrap (n:Int)=(n:Int):=Qao (by omega) (by omega)
 by_cases hz:n=0
 ·subst hz
  have wz:IntKind.i64.wrap 0=0:=Qao (by omega) (by omega)
  simp[c0,l0,wz]
  exact hk _ h Own.nil (Old.refl _)
 ·have hp:0 < (n:Int):=by omega
  have hp':0 < n:=by omega
  have wz:IntKind.i64.wrap 0=0:=Qao (by omega) (by omega)
  obtain⟨v1,k1,o1, -⟩:=Zd8 (T30 b) (h:=h) (n0:=h.next) (v:=.slice none 0 0) (n:=0) (xs:=[]) (k:=.i64) (i:=0) Qgp (by omega) Own.nil (by omega) (by omega)
  obtain⟨v2,h2,k2,o2,b2⟩:=Q3d (T30 b) (tx:=3) (m:=n) Qgp (by omega) o1 (Nat.le_refl _) (Yyl b n hn h) (by simp) (by rw[Qxt];omega) (by omega)
  obtain⟨v3,k3,o3, -⟩:=Zd8 (T30 b) (k:=.i64) (i:=0) Qgp (by omega) o2 (by omega) (by omega)
  have a2:Old h h2:=b2.old (Old.refl _) o1
  simp[c0,l0,h0,wz,w0,hp,hp',k1,k2,k3]
  exact hk v3 h2 (by show Own h2 h.next 1 v3 0 [];simpa using o3) a2
end
def Ykr(l:List (Value × List Int)):List Int:=(l.map (·.2)).flatten
theorem Y3u{l:List (Value × List Int)}{i:Nat}{p:Value × List Int}(h:l[i]? = some p):Ykr (l.take (i+1))=Ykr (l.take i)++p.2:=by
 rw[List.take_succ,h]
 simp[Ykr]
theorem Zjz(l:List (Value × List Int))(i:Nat):(Ykr (l.take i)).length<=(Ykr l).length:=by
 have e:Ykr l=Ykr (l.take i)++Ykr (l.drop i):=by unfold Ykr;rw[<- List.flatten_append,<- List.map_append,List.take_append_drop]
 rw[e,List.length_append]
 omega
def CC1(sv:Value)(items:List (Value × List Int))(h:Heap)(k:Nat)(s:St):Prop:=∃ (t:Tr Value) (i:Nat),s=⟨⟨36,t⟩,[],h⟩/\t.get 0=some sv/\t.get 9=some sv/\t.get 10=some (.int .i64 (items.length:Int))/\t.get 3=some (.int .i64 ((Ykr (items.take i)).length:Int))/\t.get 11=some (.int .i64 (i:Int))/\i<=items.length/\k=items.length-i
def CC2(sv:Value)(items:List (Value × List Int))(h:Heap)(k:Nat)(s:St):Prop:=∃ (t:Tr Value) (h1:Heap) (o:Value) (i:Nat),s=⟨⟨36,t⟩,[],h1⟩/\t.get 25=some sv/\t.get 26=some (.int .i64 (items.length:Int))/\t.get 6=some o/\t.get 27=some (.int .i64 (i:Int))/\i<=items.length/\k=items.length-i/\OB h1 h.next o (Ykr (items.take i))/\Old h h1
section
attribute [local simp] W4 kON kOC kNN kNP kRR kRP kEN kER Q4 Xg kTN kTR kTX kTP kBN kBR kBX kBP kCS kCR kCE kAM
theorem Zig(b:Nat){h:Heap}{sv:Value}{items:List (Value × List Int)}(ss:Sl h 1 sv items.length (items.map (·.1)))(hn:items.length<=1000000)(its:∀ p ∈ items,SB h p.1 p.2)(hl:(Ykr items).length < 1000000000)(K:KP)
  (hk:∀ v h',OB h' h.next v (Ykr items)->Old h h'->K (.ret v) h'):FK b 94 [sv] h K:=by
 refine FF b (W4 b) Q02 Q6u Q6b rfl ?_
 have lenS:∀ hx,Qn4 (E b).toEnv 71 sv hx=some (.int .i64 (items.length:Int)):=fun hx=>Qfg (T71 b) ss
 simp[Qak,Qcb,Qh6,Z7,Qju,Vf,Va,Zd,Zq4,Wq,Qbe,lenS]
 refine Qj1 (CC1 sv items h) items.length ⟨_,0,rfl,by simp,by simp,by simp,by simp[Ykr],by simp,by omega,rfl⟩ ?_
 rintro k s' ⟨t,i,rfl,t0,t9,t10,t3,t11,hi,rfl⟩ _
 by_cases hlt:i < items.length
 ·have hlt':(i:Int) < (items.length:Int):=by omega
  obtain⟨⟨v,x⟩,hpi⟩:∃ p,items[i]? = some p:=⟨_,List.getElem?_eq_getElem hlt⟩
  obtain⟨bk,off,q1,q2,q3, -⟩:=Xqk (T71 b) Qom ss (k:=.i64) (i:=(i:Int)) (by omega) (by omega)
  have q4:Jl h bk off=some v:=by
   have:=q3 0 (by omega)
   simpa[hpi]using this
  have sx:=its (v,x) (List.mem_of_getElem? hpi)
  have len:=fun hx=>Qpb (b:=b) (h1:=hx) sx
  have hw:=wS (i:=i) (by omega)
  have e1:=Y3u hpi
  have e2:=Zjz items (i+1)
  rw[e1,List.length_append]at e2
  simp only at e2 sx len
  have w1:IntKind.i64.wrap (((Ykr (items.take i)).length:Int)+(x.length:Int))=((Ykr (items.take i)).length:Int)+(x.length:Int):=Qao (by omega) (by omega)
  have n1:¬ ((Ykr (items.take i)).length:Int)+(x.length:Int) < 0:=by omega
  simp[Qak,Qcb,Qh6,Z7,Qju,Vf,Va,Zd,Zq4,Wq,Qbe,t0,t9,t10,t3,t11,hlt',q2,q4,len,w1,n1,hw]
  refine⟨items.length-(i+1),by omega,_,i+1,rfl,by simp[t0],by simp[t9],by simp[t10],?_,by simp,by omega,rfl⟩
  rw[e1]
  simp
 ·have hlt':¬ (i:Int) < (items.length:Int):=by omega
  have : i=items.length:=by omega
  subst this
  rw[List.take_of_length_le (Nat.le_refl _)]at t3
  simp[Qak,Qcb,Qh6,Z7,Qju,Vf,Va,Zd,Zq4,Wq,Qbe,t0,t9,t10,t3,t11]
  refine Zp4 b _ hl _ fun v0 h0 o0 a0 => ?_
  simp[Qak,Qcb,Qh6,Z7,Qju,Vf,Va,Zd,Zq4,Wq,Qbe,t0,lenS]
  refine Qj1 (CC2 sv items h) items.length ⟨_,h0,v0,0,rfl,by simp,by simp,by simp,by simp,by omega,rfl,by simpa[Ykr]using o0,a0⟩ ?_
  rintro k s' ⟨t,h1,o,i,rfl,t25,t26,t6,t27,hi,rfl,ob,hold⟩ _
  by_cases hlt:i < items.length
  ·have hlt':(i:Int) < (items.length:Int):=by omega
   obtain⟨⟨v,x⟩,hpi⟩:∃ p,items[i]? = some p:=⟨_,List.getElem?_eq_getElem hlt⟩
   obtain⟨bk,off,q1,q2,q3, -⟩:=Xqk (T71 b) Qom (ss.old hold) (k:=.i64) (i:=(i:Int)) (by omega) (by omega)
   have q4:Jl h1 bk off=some v:=by
    have:=q3 0 (by omega)
    simpa[hpi]using this
   have sx:=its (v,x) (List.mem_of_getElem? hpi)
   have hw:=wS (i:=i) (by omega)
   have e1:=Y3u hpi
   have e2:=Zjz items (i+1)
   rw[e1,List.length_append]at e2
   simp only at e2 sx
   obtain⟨v',h',k1,k2,k3⟩:=Zd1 (b:=b) ob hold.1 (sx.old hold) (by omega)
   simp[Qak,Qcb,Qh6,Z7,Qju,Vf,Va,Zd,Zq4,Wq,Qbe,t25,t26,t6,t27,hlt',q2,q4,k1,hw]
   refine⟨items.length-(i+1),by omega,_,h',v',i+1,rfl,by simp[t25],by simp[t26],by simp,by simp,by omega,rfl,?_,k3.old hold ob⟩
   rw[e1]
   exact k2
  ·have hlt':¬ (i:Int) < (items.length:Int):=by omega
   have : i=items.length:=by omega
   subst this
   rw[List.take_of_length_le (Nat.le_refl _)]at ob
   simp[Qak,Qcb,Qh6,Z7,Qju,Vf,Va,Zd,Zq4,Wq,Qbe,t25,t26,t6,t27]
   exact hk o h1 ob hold
theorem Yef(b:Nat){h:Heap}{v1 v2:Value}{xs ys:List Int}(s1:SB h v1 xs)(s2:SB h v2 ys)(hl:xs.length+ys.length < 1000000000)(K:KP)(hk:∀ v h',OB h' h.next v (xs++ys)->Old h h'->K (.ret v) h') :
  FK b 69 [v1,v2] h K:=by
 refine FF b (Qci b) X93 Yqe Yj9 rfl ?_
 obtain⟨hA,eA⟩:∃ hA,hA=h.push (.cells true 1 [v1,v2]):=⟨_,rfl⟩
 have bl:V5 (E b).toEnv 71 2 [(0,v1),(1,v2)] h=some (.slice (some ⟨h.next,0,none⟩) 2 2,hA):=by
  obtain⟨n1,c1⟩:=Xsd s1.one
  obtain⟨n2,c2⟩:=Xsd s2.one
  rw[eA]
  exact Zsg b h v1 v2 n1 c1 n2 c2
 have aA:=Qkm eA
 have ss:Sl hA 1 (.slice (some ⟨h.next,0,none⟩) 2 2) 2 [v1,v2]:=(Own.new (n0:=0) (z:=1) (Nat.zero_le _) (by rw[eA,Heap.get_push,if_pos rfl]) rfl (by decide) (.inr rfl)).sl
 simp[Qzj,Xwe,Qci,Xlf,bl]
 refine Zig b (items:=[(v1,xs),(v2,ys)]) ss (by simp) (fun p hp => ?_) (by simpa[Ykr]using hl) _ fun v h' o a => ?_
 ·simp at hp
  rcases hp with rfl | rfl
  ·exact s1.old aA
  ·exact s2.old aA
 ·simp[Qzj,Xwe,Qci,Xlf]
  exact hk v h' (by
   have q:=o.low aA.1
   have e:Ykr [(v1,xs),(v2,ys)]=xs++ys:=by simp[Ykr]
   rwa [e]at q) (aA.trans a)
end
theorem gn1(b:Nat):(2 < (E b).G.n)=True:=eq_true (by show 2 < nv;decide)
section
attribute [local simp] Qhu Qna V9 Qlo Qlp Xo8 Q2e Ytf Xeu U6 U5 Qci X2r Q92 Xzm X0r Z7 Xw3 Xhc Zd Q2v Qxs Q1g Uk Qis Xkw Xj8 kON kOC kNN kNP kRR kRP kEN kER Q4 Xg kTN kTR kTX kTP kBN kBR kBX kBP kCS kCR kCE kAM
theorem Y03(b:Nat){h:Heap}(laid:Ab.LaidIn h laidAll){bv:Value}{xs:List Int}(s:SB h bv xs){n:Nat}(hn:n < 253)(hl:xs.length < 999999999)(K:KP)(hk:∀ v h',OB h' h.next v (xs ++ [(n:Int)])->Old h h'->K (.ret v) h') :
  FK b 42 [bv,.int .i64 (n:Int)] h K:=by
 refine FF b (V9 b) X2m Ypk Yc7 rfl ?_
 have g1:h.get 2=some (.cells false 0 Qp0):=laid (2,Qp0) (by simp[laidAll])
 have ld:Jl h 2 2=some (.int .u64 253):=by rw[J5 g1];rfl
 have hx:Vg (E b).toEnv 150 (.pointer (some ⟨2,0,none⟩)) (.int .i64 0)=some (.pointer (some ⟨2,0,none⟩)):=by simpa using Xo8 b (bk:=2) (o:=0) (k:=.i64) (i:=0) ⟨by omega,by omega⟩
 have w1:IntKind.u64.wrap (n:Int)=(n:Int):=Ytw (by omega) (by omega)
 have w2:IntKind.u8.wrap (n:Int)=(n:Int):=Zrw (by omega)
 have c1:(n:Int) < 253:=by omega
 have c2:n < 253:=hn
 simp[gn1,hx,ld,w1,w2,c1,c2,Q22]
 refine Yef b (v2:=.slice (some ⟨h.next,0,none⟩) 1 1) (ys:=[(n:Int)]) (s.old (Old.push _ _)) (SB.push (xs:=[(n:Int)]) (by simp)) (by simp;omega) _ fun v h' o a => ?_
 simp
 exact hk v h' (o.low (Nat.le_succ _)) ((Old.push _ _).trans a)
end
theorem X08(seed:List Nat):∀ n i,Qmb seed (n+1) i=Qmb seed n i++Bl.keyed seed [i+n]
 | 0,i=>by simp[Qmb]
 | n+1,i=>by
  rw[Qmb,X08 seed n (Nat.succ i)]
  conv=>rhs;rw[Qmb]
  rw[List.append_assoc]
  congr 3
  simp
  omega
def NWI(sv:Value)(seed:List Nat)(h:Heap)(ν:Nat)(k:Nat)(s:St):Prop:=∃ (t:Tr Value) (h1:Heap) (i:Nat),s=⟨⟨17,t⟩,[],h1⟩/\t.get 0=some sv/\t.get 3=some (.pointer (some ⟨ν,0,none⟩))/\t.get 5=some (.int .i64 (i:Int))/\i<=32/\k=32-i/\h1.get ν=some (.cells true 1 ((Qmb seed i 1).map u8v++List.replicate ((32-i)*32) (.int .u8 0)))/\Old h h1
section
attribute [local simp] Qqj Q3s Qp2 Z7 Zd V9 Ve Q8w Xwl Jn kON kOC kNN kNP kRR kRP kEN kER Q4 Xg kTN kTR kTX kTP kBN kBR kBX kBP kCS kCR kCE kAM
theorem Zww(b:Nat){h:Heap}(laid:Ab.LaidIn h laidAll){sv:Value}{seed:List Nat}(s:SN h sv seed)(hl:seed.length < 1000000000)(K:KP)(hk:∀ ν h',h'.get ν=some (.cells true 1 ((Qmb seed 32 1).map u8v))->h.next<=ν->Old h h'->K (.ret (.pointer (some ⟨ν,0,none⟩))) h') :
  FK b 21 [sv] h K:=by
 refine FF b (Qp2 b) Yxr Zgc Y9h rfl ?_
 obtain⟨hA,eA⟩:∃ hA,hA=h.push (.cells true 1 (List.replicate 1024 (.int .u8 0))):=⟨_,rfl⟩
 have alA:Qba (E b).toEnv 108 h=some (.pointer (some ⟨h.next,0,none⟩),hA):=by rw[eA];exact Ycw b h
 have aA:=Qkm eA
 have gA:hA.get h.next=some (.cells true 1 (List.replicate 1024 (.int .u8 0))):=by rw[eA,Heap.get_push,if_pos rfl]
 simp[Ycw,-Ycw,alA]
 refine Qj1 (NWI sv seed h h.next) 32 ⟨_,hA,0,rfl,by simp,by simp,by simp,by omega,rfl,by simpa[Qmb]using gA,aA⟩ ?_
 rintro k s' ⟨t,h1,i,rfl,t0,t3,t5,hi,rfl,g1,hold⟩ _
 by_cases hlt:i < 32
 ·have hlt':(i:Int) < 32:=by omega
  have hw:=wS (i:=i) (by omega)
  simp[Ycw,t0,t3,t5,hlt',hw]
  refine Y03 b (Laid.old laid hold) (bv:=.slice none 0 0) (xs:=[]) (n:=i+1) Sl.nil (by omega) (by simp) _ fun v h2 o2 a2 => ?_
  have s2:SN h2 v [i+1]:=o2.sl
  simp[Ycw,t0,t3,t5]
  refine Zkn b (Qx5 (Laid.old laid (hold.trans a2))) (s.old (hold.trans a2)) s2 hl (by simp) _ fun h3 a3 => ?_
  obtain⟨dg,hdg⟩:∃ d,d=Bl.keyed seed [i+1]:=⟨_,rfl⟩
  rw[<- hdg]
  have kl:dg.length=32:=by rw[hdg];exact Yzv _ _
  have g3:=(a2.trans a3).get g1
  have l3:=Heap.get_lt g3
  have kf:((Qmb seed i 1).map u8v).length=i*32:=by rw[List.length_map,Xow]
  have hx:Vg (E b).toEnv 106 (.pointer (some ⟨h.next,0,none⟩)) (.int .i64 (i:Int))=some (.pointer (some ⟨h.next,i*32,none⟩)):=by simpa using Xwl b (bk:=h.next) (o:=0) (k:=.i64) (i:=(i:Int)) ⟨by omega,by omega⟩
  obtain⟨h4,e4⟩:∃ h4,h4=h3.set h.next (some (.cells true 1 ((Qmb seed (i+1) 1).map u8v++List.replicate ((32-(i+1))*32) (.int .u8 0)))):=⟨_,rfl⟩
  have st:Uj h3 h.next (i*32) (dg.map u8v)=some h4:=by
   rw[W5 g3 (by rw[List.length_append,kf,List.length_map,kl,List.length_replicate];omega),e4]
   congr 4
   rw[<- kf,List.take_left,X08,List.map_append,show 1+i=i+1 by omega,<- hdg,<- List.drop_drop,List.drop_left,List.drop_replicate,List.length_map,kl,show(32-i)*32-32=(32-(i+1))*32 by omega]
  have g4:h4.get h.next=some (.cells true 1 ((Qmb seed (i+1) 1).map u8v++List.replicate ((32-(i+1))*32) (.int .u8 0))):=by rw[e4,Heap.get_set _ _ _ _ l3,if_pos rfl]
  have a4:Old h h4:=by rw[e4];exact(hold.trans (a2.trans a3)).set _ (Nat.le_refl _) l3
  simp[Ycw,t0,t3,t5,hx,kl,st,hw]
  exact⟨32-(i+1),by omega,_,h4,i+1,rfl,by simp[t0],by simp[t3],by simp,by omega,rfl,g4,a4⟩
 ·have hlt':¬ (i:Int) < 32:=by omega
  have : i=32:=by omega
  subst this
  simp[Ycw,t0,t3,t5]
  exact hk h.next h1 (by simpa using g1) (Nat.le_refl _) hold
end
end Go.Proofs.YtgjlmnnggnajmaaGreatDoor
end
