import Derived.Test.YtgmelhgoiepoaaaGreatDoorBlA
import Derived.Test.YtgmelhgoiepoaaaGreatDoorScA
import Derived.Test.YtgmelhgoiepoaaaGreatDoorFA
set_option linter.all false
noncomputable section
namespace Go.Proofs.YtgmelhgoiepoaaaGreatDoor
open Go Go.Ab
set_option maxRecDepth 100000
theorem Z8n(b:Nat){h:Heap}(hl:Ab.LaidIn h Qjp)(p8:Bl.P8){blk:Nat}{l:List Nat}(hg:h.get blk=some (.cells true 1 (l.map u8v)))(h64:l.length=64)(count:Nat)(last:Bool)(K:KP)(hk:K (.ret (p8v (Bl.take p8 l count last))) h) :
  FK b 50 [p8v p8,.pointer (some ⟨blk,0,none⟩),.int .u64 (.ofNat count),.bool last] h K:=by
 refine⟨_,_,?_,Nat.le_refl _,hk⟩
 refine X3e (k:=100) (m:=4) Vv Zjf Y32 (fun b=>Z5w b p8.h0 p8.h1 p8.h2 p8.h3 p8.h4 p8.h5 p8.h6 p8.h7 count l h64 last) rfl hl Zdz (bs:=[blk]) rfl (by simp) (fun k d r hd hr => ?_)
   (Qb5 (Qhh rfl) (Qb5 (Y6d _ _) (Qb5 (Qhh rfl) (Qb5 (Qhh rfl) Qvg))))
 cases k with
 | zero=>simp at hd hr;subst hd;subst hr;exact⟨hg,Ybh _⟩
 | succ k=>simp at hd
abbrev SN(h:Heap)(v:Value)(l:List Nat):Prop:=Sl h 1 v l.length (l.map u8v)
theorem SN.sb{h:Heap}{v:Value}{l:List Nat}(s:SN h v l):SB h v (l.map Int.ofNat):=by
 have e:(l.map Int.ofNat).map i8=l.map u8v:=by rw[List.map_map];rfl
 rw[SB,e,List.length_map];exact s
theorem SN.of{h:Heap}{v:Value}{xs:List Int}(s:SB h v xs)(hb:Bytes xs):SN h v (xs.map Int.toNat):=by
 have e:(xs.map Int.toNat).map u8v=xs.map i8:=by
  rw[List.map_map]
  refine List.map_congr_left fun z hz => ?_
  have:=hb z hz
  show Value.int .u8 (Int.ofNat z.toNat)=.int .u8 z
  rw[show Int.ofNat z.toNat=z from Int.toNat_of_nonneg this.1]
 rw[SN,e,List.length_map];exact s
theorem Z9i(b:Nat){h:Heap}{B:Nat}{ds:List Value}{v:Value}{l:List Nat}(hg:h.get B=some (.cells true 1 ds))(hd:ds.length=64)(s:SN h v l) :
  ∃ h',Xns (E b).toEnv 22 (.slice (some ⟨B,0,none⟩) 64 64) v h=some (.int .i64 ((min l.length 64:Nat):Int),h')/\h'.get B=some (.cells true 1 ((l.take 64).map u8v++ds.drop (min l.length 64)))/\h'.next=h.next/\∀ c,c≠B->h'.get c=h.get c:=by
 have hmin:Nat.min l.length 64=min l.length 64:=rfl
 have hlen:Xk4 v=some l.length:=by rcases s with⟨c,rfl,_,e,_⟩ | ⟨bk,o,c,ow,z',pre,post,rfl,_⟩ <;> simp_all [Xk4]
 have hsrc:Zo1 1 (Nat.min l.length 64) v h=some ((l.take 64).map u8v):=by
  rcases s with⟨c,rfl,_,e,e2⟩ | ⟨bk,o,c,ow,z',pre,post,rfl,h1,h2,h3, -⟩
  ·have : l=[]:=List.eq_nil_of_length_eq_zero e
   subst this
   simp[Zo1]
  ·have h4:Qyv (Nat.min l.length 64*1) ((pre++l.map u8v++post).drop o)=some ((l.take 64).map u8v):=by
    rw[hmin,<- h2,List.append_assoc,List.drop_left,Qss (by simp;omega),List.take_append_of_le_length (by simp;omega),<- List.map_take,Nat.mul_one]
    congr 2
    rcases Nat.le_total l.length 64 with q | q
    ·rw[Nat.min_eq_left q,List.take_of_length_le (Nat.le_refl _),List.take_of_length_le q]
    ·rw[Nat.min_eq_right q]
   simp only[Zo1,Ab.cellsAt,h1,h4]
 have hr:R22.desc=.slice 5:=(T22 b).d
 cases hc:(l.take 64).map u8v with
 | nil =>
  have : l=[]:=by
   cases l with
   | nil=>rfl
   | cons x l=>simp at hc
  subst this
  refine⟨h,?_,by simpa using hg,rfl,fun _ _=>rfl⟩
  rw[hc]at hsrc
  simp only[Xns,Ysm,hr,hlen,Zyb,Qcl,hsrc]
 | cons x xs =>
  have hle:(x::xs).length<=ds.length:=by rw[<- hc,hd];simp;omega
  have hst:storeAt h ⟨B,0,none⟩ (x::xs)=some (h.set B (some (.cells true 1 ((x::xs)++ds.drop (x::xs).length)))):=by
   simp only[storeAt,hg]
   rw[Qtg (by simpa using hle)]
   simp
  rw[hc]at hsrc
  refine⟨h.set B (some (.cells true 1 ((x::xs)++ds.drop (x::xs).length))),?_,?_,rfl,fun c hc=>by rw[Heap.get_set _ _ _ _ (Heap.get_lt hg),if_neg (Ne.symm hc)]⟩
  ·simp only[Xns,Ysm,hr,hlen,Zyb,Qcl,hsrc,hst]
   rfl
  ·rw[Heap.get_set _ _ _ _ (Heap.get_lt hg),if_pos rfl]
   congr 4
   rw[<- hc,List.length_map,List.length_take,Nat.min_comm]
theorem Yie:∀ (n m:Nat) (h:Bl.P8) (text:List Nat) (count:Nat),text.length < n->text.length < m->Bl.blocks n h text count=Bl.blocks m h text count
 | 0,_,_,_,_,h,_=>by omega
 | n+1,0,_,_,_,_,h=>by omega
 | n+1,m+1,h,text,count,h1,h2=>by
  simp only[Bl.blocks]
  cases hb:Nat.ble text.length 64 with
  | true=>rfl
  | false =>
   have : ¬ text.length<=64:=fun q=>by rw[<- Nat.ble_eq,hb]at q;cases q
   exact Yie n m _ _ _ (by rw[List.length_drop];omega) (by rw[List.length_drop];omega)
def Zt5(p8:Bl.P8)(text:List Nat)(count:Nat):Bl.P8:=Bl.blocks text.length.succ p8 text count
theorem Zmi{p8:Bl.P8}{text:List Nat}{count:Nat}(h:text.length<=64):Zt5 p8 text count=Bl.take p8 text (count+text.length) true:=by
 simp[Zt5,Bl.blocks,Q6q h]
theorem Zjh{p8:Bl.P8}{text:List Nat}{count:Nat}(h:64 < text.length):Zt5 p8 text count=Zt5 (Bl.take p8 (text.take 64) (count+64) false) (text.drop 64) (count+64):=by
 have e:Nat.ble text.length 64=false:=by rw[Bool.eq_false_iff];intro q;rw[Nat.ble_eq]at q;omega
 simp only[Zt5,Bl.blocks,e]
 exact Yie text.length (text.drop 64).length.succ _ _ _ (by rw[List.length_drop];omega) (Nat.lt_succ_self _)
def Pad(l l':List Nat):Prop:=∃ n,l'=l++List.replicate n 0
theorem Qic{l l':List Nat}(p:Pad l l'):∃ a r r',(∀ {A:Type} (K:Nat->List Nat->A),Bl.nx l K=K a r)/\(∀ {A:Type} (K:Nat->List Nat->A),Bl.nx l' K=K a r')/\Pad r r':=by
 obtain⟨n,rfl⟩:=p
 match l with
 | a::b::c::d::l=>exact⟨_,_,_,fun _=>rfl,fun _=>rfl,n,rfl⟩
 | [a,b,c] =>
  match n with
  | 0=>exact⟨_,_,_,fun _=>rfl,fun _=>rfl,0,rfl⟩
  | n+1=>exact⟨_,_,_,fun _=>rfl,fun _=>rfl,n,rfl⟩
 | [a,b] =>
  match n with
  | 0=>exact⟨_,_,_,fun _=>rfl,fun _=>rfl,0,rfl⟩
  | 1=>exact⟨_,_,_,fun _=>rfl,fun _=>rfl,0,rfl⟩
  | n+2=>exact⟨_,_,_,fun _=>rfl,fun _=>rfl,n,rfl⟩
 | [a] =>
  match n with
  | 0=>exact⟨_,_,_,fun _=>rfl,fun _=>rfl,0,rfl⟩
  | 1=>exact⟨_,_,_,fun _=>rfl,fun _=>rfl,0,rfl⟩
  | 2=>exact⟨_,_,_,fun _=>rfl,fun _=>rfl,0,rfl⟩
  | n+3=>exact⟨_,_,_,fun _=>rfl,fun _=>rfl,n,rfl⟩
 | [] =>
  match n with
  | 0=>exact⟨_,_,_,fun _=>rfl,fun _=>rfl,0,rfl⟩
  | 1=>exact⟨_,_,_,fun _=>rfl,fun _=>rfl,0,rfl⟩
  | 2=>exact⟨_,_,_,fun _=>rfl,fun _=>rfl,0,rfl⟩
  | 3=>exact⟨_,_,_,fun _=>rfl,fun _=>rfl,0,rfl⟩
  | n+4=>exact⟨_,_,_,fun _=>rfl,fun _=>rfl,n,rfl⟩
theorem Z0w{l l':List Nat}(p:Pad l l'){A:Type}(K:Nat->Nat->Nat->Nat->Nat->Nat->Nat->Nat->Nat->Nat->Nat->Nat->Nat->Nat->Nat->Nat->A):Bl.words l' K=Bl.words l K:=by
 unfold Bl.words
 obtain⟨_,_,_,a0,c0,p⟩:=Qic p
 obtain⟨_,_,_,a1,c1,p⟩:=Qic p
 obtain⟨_,_,_,a2,c2,p⟩:=Qic p
 obtain⟨_,_,_,a3,c3,p⟩:=Qic p
 obtain⟨_,_,_,a4,c4,p⟩:=Qic p
 obtain⟨_,_,_,a5,c5,p⟩:=Qic p
 obtain⟨_,_,_,a6,c6,p⟩:=Qic p
 obtain⟨_,_,_,a7,c7,p⟩:=Qic p
 obtain⟨_,_,_,a8,c8,p⟩:=Qic p
 obtain⟨_,_,_,a9,c9,p⟩:=Qic p
 obtain⟨_,_,_,a10,c10,p⟩:=Qic p
 obtain⟨_,_,_,a11,c11,p⟩:=Qic p
 obtain⟨_,_,_,a12,c12,p⟩:=Qic p
 obtain⟨_,_,_,a13,c13,p⟩:=Qic p
 obtain⟨_,_,_,a14,c14,p⟩:=Qic p
 obtain⟨_,_,_,a15,c15,p⟩:=Qic p
 rw[a0,c0,a1,c1,a2,c2,a3,c3,a4,c4,a5,c5,a6,c6,a7,c7,a8,c8,a9,c9,a10,c10,a11,c11,a12,c12,a13,c13,a14,c14,a15,c15]
theorem Zul(p8:Bl.P8){l l':List Nat}(p:Pad l l')(count:Nat)(last:Bool):Bl.take p8 l' count last=Bl.take p8 l count last:=by
 obtain⟨h0,h1,h2,h3,h4,h5,h6,h7⟩:=p8
 simp only[Bl.take,Z0w p]
def Q4q(p:Bl.P8):List Nat:=[p.h0,p.h1,p.h2,p.h3,p.h4,p.h5,p.h6,p.h7]
theorem Qkj(p:Bl.P8):(Bl.out p).length=32:=by obtain⟨_,_,_,_,_,_,_,_⟩:=p;rfl
theorem Jay(p:Bl.P8){q r w:Nat}(hq:q < 8)(hr:r < 4)(hw:(Q4q p)[q]? = some w):(Bl.out p)[4*q+r]? = some (w / 2 ^ (8*r) % 256):=by
 obtain⟨h0,h1,h2,h3,h4,h5,h6,h7⟩:=p
 have hq':q=0∨q=1∨q=2∨q=3∨q=4∨q=5∨q=6∨q=7:=by omega
 have hr':r=0∨r=1∨r=2∨r=3:=by omega
 rcases hq' with rfl | rfl | rfl | rfl | rfl | rfl | rfl | rfl <;> rcases hr' with rfl | rfl | rfl | rfl <;>
  (simp only[Q4q,List.getElem?_cons_succ,List.getElem?_cons_zero,Option.some.injEq]at hw;subst hw;first | rfl | (simp[Bl.out,Bl.by4];rfl) | simp[Bl.out,Bl.by4])
theorem Je2(x:Nat):Qbh (binOp .shr 92 (.int .u32 (.ofNat x)) (.int .i64 0))=some (.int .u32 (Int.fdiv (.ofNat x) (2 ^ 0))):=by kernel_rfl
theorem Jec(x:Nat):Qbh (binOp .shr 92 (.int .u32 (.ofNat x)) (.int .i64 8))=some (.int .u32 (Int.fdiv (.ofNat x) (2 ^ 8))):=by kernel_rfl
theorem Jbe(x:Nat):Qbh (binOp .shr 92 (.int .u32 (.ofNat x)) (.int .i64 16))=some (.int .u32 (Int.fdiv (.ofNat x) (2 ^ 16))):=by kernel_rfl
theorem Jc1(x:Nat):Qbh (binOp .shr 92 (.int .u32 (.ofNat x)) (.int .i64 24))=some (.int .u32 (Int.fdiv (.ofNat x) (2 ^ 24))):=by kernel_rfl
theorem Jdi(x:Nat){r:Nat}(hr:r < 4):Qbh (binOp .shr 92 (.int .u32 (.ofNat x)) (.int .i64 (8*(r:Int))))=some (.int .u32 (Int.fdiv (.ofNat x) (2 ^ (8*r)))):=by
 have hr':r=0∨r=1∨r=2∨r=3:=by omega
 rcases hr' with rfl | rfl | rfl | rfl
 ·exact Je2 x
 ·exact Jec x
 ·exact Jbe x
 ·exact Jc1 x
theorem Z3x(x r:Nat):IntKind.u8.wrap (Int.fdiv (.ofNat x) (2 ^ (8*r)))=.ofNat (x / 2 ^ (8*r) % 256):=by
 have e:Int.fdiv (.ofNat x) (2 ^ (8*r))=.ofNat (x / 2 ^ (8*r)):=by
  have : ((2:Int) ^ (8*r))=Int.ofNat (2 ^ (8*r)):=by simp
  rw[this]
  show Int.fdiv (x:Int) ((2 ^ (8*r):Nat):Int)=((x / 2 ^ (8*r):Nat):Int)
  rw[Int.fdiv_eq_ediv_of_nonneg _ (Int.natCast_nonneg _)]
  exact(Int.natCast_ediv _ _).symm
 rw[e]
 show((Int.ofNat (x / 2 ^ (8*r))) % (2 ^ 8:Int))=_
 exact(Int.natCast_emod _ _).symm
def z32:List Value:=List.replicate 32 (.int .u8 0)
def OI(R0 W:Nat)(p8:Bl.P8)(h:Heap)(k:Nat)(s:St):Prop:=∃ (t:Tr Value) (h1:Heap) (O i:Nat),s=⟨⟨81,t⟩,[],h1⟩/\t.get 4=some (.pointer (some ⟨R0,0,none⟩))/\t.get 6=some (.pointer (some ⟨W,0,none⟩))/\t.get 11=some (.pointer (some ⟨O,0,none⟩))/\t.get 65=some (.int .i64 (i:Int)) /\
 i<=32/\k=32-i/\h1.get O=some (.cells true 1 (((Bl.out p8).take i).map u8v++List.replicate (32-i) (.int .u8 0)))/\h1.get W=some (.cells true 1 ((Q4q p8).map Qa7))/\h1.get R0=some (.cells true 1 z32)/\Old h h1/\h.next<=O/\h.next<=R0/\O≠W/\O≠R0
attribute [local simp] Zi Qb7 Qr Qw Q4 Qq Xk X8 aop Qe nth Ab.g0 gv gs Qb Qa aev evs evO Qf Tr.get_put St.put Tm.put flat flatA X9 Qk Qn Ql Qm Qi Qj Qh Qo Qg Q5 Q6 Qv.putAll Qp Q9 Q3 Q1 Q8 Qc Qd Q0 Q2 Q7 Xh ldv Xe X7 Xw Nat.testBit loadAt Ab.runT Jh Z0 Qab Qdj Xo
section
attribute [local simp] Ux Qde V9 Qa5 Xi Qb6 X8m Xut Xt0 Xrm Qc9 Qcs Qbs Zu Qy Za Xvp Wt Wu Qxd Qal Uv Ws Qt Qah Qag U7 Qct Qcr Qfi Qdx W8 U0 Vz Qds Qbn V1 U5 Qdn Wz U2 Qdm V5 Qba Qa0 U4 J9 Wx U6 V0 Qlj Qv2 Qlg Qfx
theorem Z8u(b:Nat){h h0:Heap}{R0 W:Nat}{p8:Bl.P8}{t:Tr Value}(t4:t.get 4=some (.pointer (some ⟨R0,0,none⟩)))(t6:t.get 6=some (.pointer (some ⟨W,0,none⟩)))(hW:h0.get W=some (.cells true 1 ((Q4q p8).map Qa7)))(hR:h0.get R0=some (.cells true 1 z32))(ho:Old h h0)(hR0:h.next<=R0)
  (K:KP) (hk:∀ h',Old h h'->K (.ret (.agg ⟨(Bl.out p8).map u8v⟩)) h'):Wy (E b) (Qm5 Tryz.prog (E b).G) (D0 b) none Q1t ⟨⟨81,t⟩,[],h0⟩ (Y3k (E b) (DD b) Qk5 K):=by
 have lW:=Heap.get_lt hW
 have lR:=Heap.get_lt hR
 simp
 refine Qbo (OI R0 W p8 h) 32 ⟨_,_,h0.next,0,rfl,by simp[t4],by simp[t6],by simp,by simp,by omega,rfl,by rw[Heap.get_push,if_pos rfl];rfl,by rw[Heap.get_push,if_neg (by omega),hW],by rw[Heap.get_push,if_neg (by omega),hR],ho.push' _,ho.1,hR0,by omega,by omega⟩ ?_
 rintro k s' ⟨t,h1,O,i,rfl,t4,t6,t11,t65,hi,rfl,gO,gW,gR,hold,hO,_,n1,n2⟩ _
 by_cases hlt:i < 32
 ·have hlt':(i:Int) < 32:=by omega
  obtain⟨q,r,rfl,hq,hr⟩:∃ q r,i=4*q+r/\q < 8/\r < 4:=⟨i / 4,i % 4,by omega,by omega,by omega⟩
  obtain⟨w,hw⟩:∃ w,(Q4q p8)[q]? = some w:=⟨_,List.getElem?_eq_getElem (by simpa[Q4q]using hq)⟩
  have ho1:=Jay p8 hq hr hw
  have hlt2:4*(q:Int)+(r:Int) < 32:=by omega
  have e1:Int.tdiv ((4*q+r:Nat):Int) 4=(q:Int):=by rw[Int.tdiv_eq_ediv_of_nonneg (by omega)];omega
  have e2:Int.tmod ((4*q+r:Nat):Int) 4=(r:Int):=by rw[Int.tmod_eq_emod_of_nonneg (by omega)];omega
  have e1':Int.tdiv (4*(q:Int)+(r:Int)) 4=(q:Int):=by rw[Int.tdiv_eq_ediv_of_nonneg (by omega)];omega
  have e2':Int.tmod (4*(q:Int)+(r:Int)) 4=(r:Int):=by rw[Int.tmod_eq_emod_of_nonneg (by omega)];omega
  have w1:IntKind.i64.wrap (q:Int)=(q:Int):=Ju (by omega) (by omega)
  have w2:IntKind.i64.wrap (8*(r:Int))=8*(r:Int):=Ju (by omega) (by omega)
  have w3:IntKind.i64.wrap (4*(q:Int)+(r:Int)+1)=((4*q+r+1:Nat):Int):=by rw[Ju (by omega) (by omega)];omega
  have x1:Xq (E b).toEnv 94 (.pointer (some ⟨W,0,none⟩)) (.int .i64 (q:Int))=some (.pointer (some ⟨W,q,none⟩)):=by rw[Xrm b ⟨by omega,by omega⟩];simp
  have x2:Xq (E b).toEnv 25 (.pointer (some ⟨O,0,none⟩)) (.int .i64 (4*(q:Int)+(r:Int)))=some (.pointer (some ⟨O,4*q+r,none⟩)):=by rw[Qfi b ⟨by omega,by omega⟩];simp
  have g1:Yp h1 W q=some (.int .u32 (.ofNat w)):=by rw[Xm gW,List.getElem?_map,hw];rfl
  obtain⟨bv,hbv⟩:∃ bv:Nat,bv=w / 2 ^ (8*r) % 256:=⟨_,rfl⟩
  obtain⟨fv,hfv⟩:∃ fv:Int,fv=Int.fdiv (w:Int) (2 ^ (8*r)):=⟨_,rfl⟩
  have sh:Qbh (binOp .shr 92 (.int .u32 (w:Int)) (.int .i64 (8*(r:Int))))=some (.int .u32 fv):=by rw[hfv];exact Jdi w hr
  have ws:IntKind.u8.wrap fv=(bv:Int):=by rw[hfv,hbv];exact Z3x w r
  rw[<- hbv]at ho1
  obtain⟨h2,e⟩:∃ h2,h2=h1.set O (some (.cells true 1 ((((Bl.out p8).take (4*q+r)).map u8v++List.replicate (32-(4*q+r)) (Value.int .u8 0)).set (4*q+r) (Value.int .u8 (bv:Int))))):=⟨_,rfl⟩
  have st:Jl h1 O (4*q+r) [.int .u8 (bv:Int)]=some h2:=by rw[e];exact Qhe gO (by simp[Qkj];omega)
  simp[t4,t6,t11,t65,hlt2,e1',e2',w1,w2,w3,x1,x2,g1,sh,ws,st]
  have lO:=Heap.get_lt gO
  refine⟨32-(4*q+r+1),by omega,_,h2,O,4*q+r+1,rfl,by simp[t4],by simp[t6],by simp[t11],by simp,by omega,rfl,?_,?_,?_,?_,hO,hR0,n1,n2⟩
  ·rw[e,Heap.get_set _ _ _ _ lO,if_pos rfl]
   congr 2
   rw[List.set_append_right _ _ (by simp[Qkj];omega),List.take_succ,ho1]
   have : 32-(4*q+r)=(32-(4*q+r+1))+1:=by omega
   rw[this,List.replicate_succ]
   simp[Qkj]
   have e5:4*q+r-min (4*q+r) 32=0:=by omega
   rw[e5]
   rfl
  ·rw[e,Heap.get_set _ _ _ _ lO,if_neg (by omega),gW]
  ·rw[e,Heap.get_set _ _ _ _ lO,if_neg (by omega),gR]
  ·rw[e];exact hold.set _ hO lO
 ·have : i=32:=by omega
  subst this
  have ld:U8 h1 O 0 32=some (.agg ⟨(Bl.out p8).map u8v⟩):=by
   rw[Yq gO (by simp[Qkj])]
   congr 3
  have st:Jl h1 R0 0 ((Bl.out p8).map u8v)=some (h1.set R0 (some (.cells true 1 ((Bl.out p8).map u8v)))):=by
   rw[Zx gR (by simp[z32,Qkj])]
   congr 4
  have lR:=Heap.get_lt gR
  have l32:((Bl.out p8).map u8v).length=32:=by simp[Qkj]
  have g2:U8 (h1.set R0 (some (.cells true 1 ((Bl.out p8).map u8v)))) R0 0 32=some (.agg ⟨(Bl.out p8).map u8v⟩):=by
   rw[Yq (by rw[Heap.get_set _ _ _ _ lR,if_pos rfl]) (by simp[Qkj])]
   congr 3
  simp[t4,t6,t11,t65,ld,Qkj,st,g2]
  exact hk _ (hold.set _ (by omega) lR)
end
def KI(R0 W:Nat)(FIN:Bl.P8)(h:Heap)(k:Nat)(s:St):Prop:=∃ (t:Tr Value) (h1:Heap) (tv:Value) (l:List Nat) (count:Nat) (p8:Bl.P8),s=⟨⟨81,t⟩,[],h1⟩/\t.get 4=some (.pointer (some ⟨R0,0,none⟩))/\t.get 6=some (.pointer (some ⟨W,0,none⟩))/\t.get 7=some tv/\t.get 8=some (.int .u64 (count:Int)) /\
 SN h1 tv l/\h1.get W=some (.cells true 1 ((Q4q p8).map Qa7))/\h1.get R0=some (.cells true 1 z32)/\Old h h1/\h.next<=W/\h.next<=R0/\W≠R0/\Uw tv≠some W/\Zt5 p8 l count=FIN/\k=l.length/\count+l.length < 1000000000000/\Ab.LaidIn h1 Qjp
theorem SN.ofB{h:Heap}{v:Value}{l:List Nat}(s:SB h v (l.map Int.ofNat)):SN h v l:=by
 have e:(l.map Int.ofNat).map i8=l.map u8v:=by rw[List.map_map];rfl
 rw[SB,e,List.length_map]at s
 exact s
theorem LaidIn.old{h h':Heap}(l:Ab.LaidIn h Qjp)(a:Old h h'):Ab.LaidIn h' Qjp:=fun x hx=>a.get (l x hx)
theorem Y9f{z:Int}(h0:0<=z)(h1:z<=18446744073709551615):IntKind.u64.wrap z=z:=by
 have : IntKind.u64.wrap z=z % 18446744073709551616:=by simp[IntKind.wrap,IntKind.bits,IntKind.signed]
 rw[this]
 omega
theorem Z1e(b:Nat)(B:Nat)(h:Heap):Qdk (E b).toEnv 97 (.pointer (some ⟨B,0,none⟩)) none none none h=some (.slice (some ⟨B,0,none⟩) 64 64,h):=by kernel_rfl
theorem Z37{h:Heap}(l:Ab.LaidIn h Qjp):∀ x ∈ Qjp,x.1 < h.next:=fun x hx=>Heap.get_lt (l x hx)
section
attribute [local simp] Ux Qde V9 Qa5 Xi Qb6 X8m Xut Xt0 Xrm Qc9 Qcs Qbs Zu Qy Za Wt Wu Qxd Qal Uv Ws Qt Qah Qag U7 Qct Qcr Qfi Qdx W8 U0 Vz Qds Qbn V1 U5 Qdn Wz U2 Qdm V5 Qba Qa0 U4 J9 Wx U6 V0 Qlj Qv2 Qlg Qfx
theorem Z1d(b:Nat){h h0:Heap}{R0 W:Nat}{p8 FIN:Bl.P8}{t:Tr Value}{tv:Value}{l:List Nat}{count:Nat}(hl:Ab.LaidIn h Qjp)(t4:t.get 4=some (.pointer (some ⟨R0,0,none⟩)))(t6:t.get 6=some (.pointer (some ⟨W,0,none⟩)))(t7:t.get 7=some tv)(t8:t.get 8=some (.int .u64 (count:Int)))(sn:SN h0 tv l)
  (hW:h0.get W=some (.cells true 1 ((Q4q p8).map Qa7))) (hR:h0.get R0=some (.cells true 1 z32)) (ho:Old h h0) (hw0:h.next<=W) (hR0:h.next<=R0) (hne:W≠R0) (hv:Uw tv≠some W) (hf:Zt5 p8 l count=FIN) (hc:count+l.length < 1000000000000)
  (K:KP) (hk:∀ h',Old h h'->K (.ret (.agg ⟨(Bl.out FIN).map u8v⟩)) h'):Wy (E b) (Qm5 Tryz.prog (E b).G) (D0 b) none Qtc ⟨⟨81,t⟩,[],h0⟩ (Y3k (E b) (DD b) Qk5 K):=by
 rw[U0,Ws]
 refine Qbo (KI R0 W FIN h) l.length ⟨_,h0,tv,l,count,p8,rfl,t4,t6,t7,t8,sn,hW,hR,ho,hw0,hR0,hne,hv,hf,rfl,hc,LaidIn.old hl ho⟩ ?_
 rintro k s' ⟨t,h1,tv,l,count,p8,rfl,t4,t6,t7,t8,sn,gW,gR,hold,_,_,_,hv,hf,rfl,hc,hl1⟩ _
 obtain⟨h2,e2⟩:∃ h2,h2=h1.push (.cells true 1 (List.replicate 64 (.int .u8 0))):=⟨_,rfl⟩
 have a12:=Qk4 e2
 have n2:=Q2z e2
 have gB:h2.get h1.next=some (.cells true 1 (List.replicate 64 (.int .u8 0))):=by rw[e2,Heap.get_push,if_pos rfl]
 obtain⟨h3,c1,c2,c3,c4⟩:=Z9i b gB (by simp) (sn.old a12)
 have a13:Old h1 h3:=⟨by omega,fun c hc=>by rw[c4 c (by omega),a12.2 c hc]⟩
 have lenB:=Qtf (b:=b) (h1:=h3) sn.sb
 have sn3:SN h3 tv l:=sn.old a13
 obtain⟨tv',h4,f1,f2,f3,f4,f5⟩:=Z9n (b:=b) sn3.sb (k:=.i64) (i:=((min l.length 64:Nat):Int)) (by omega) (by simp;omega)
 have sn4:SN h4 tv' (l.drop 64):=by
  have e:(l.map Int.ofNat).drop (min l.length 64)=(l.drop 64).map Int.ofNat:=by
   rw[<- List.map_drop]
   congr 1
   rcases Nat.le_total l.length 64 with q | q
   ·rw[Nat.min_eq_left q,List.drop_eq_nil_of_le (Nat.le_refl _),List.drop_eq_nil_of_le q]
   ·rw[Nat.min_eq_right q]
  rw[Int.toNat_natCast,e]at f2
  exact SN.ofB f2
 have lenD:∀ hx,Qns (E b).toEnv 22 tv' hx=some (.int .i64 ((l.length-64:Nat):Int)):=fun hx=>by have:=Qtf (b:=b) (h1:=hx) sn4.sb;rw[List.length_map,List.length_drop]at this;exact this
 have a14:Old h1 h4:=a13.trans f3
 have gB4:h4.get h1.next=some (.cells true 1 ((l.take 64++List.replicate (64-l.length) 0).map u8v)):=by
  rw[f3.2 _ (by omega),c2]
  congr 2
  rw[List.map_append,List.map_replicate]
  congr 1
  rw[List.drop_replicate]
  congr 1
  omega
 have gW4:h4.get W=some (.cells true 1 ((Q4q p8).map Qa7)):=a14.get gW
 have gR4:h4.get R0=some (.cells true 1 z32):=a14.get gR
 have ldW:U8 h4 W 0 8=some (p8v p8):=by
  rw[Yq gW4 (by simp[Q4q])]
  rfl
 have lW:=Heap.get_lt gW4
 have lW1:=Heap.get_lt gW
 have hmin:((min l.length 64:Nat):Int)<=64:=by omega
 have wc:IntKind.u64.wrap ((min l.length 64:Nat):Int)=((min l.length 64:Nat):Int):=Y9f (by omega) (by omega)
 have wa:IntKind.u64.wrap ((count:Int)+((min l.length 64:Nat):Int))=((count+min l.length 64:Nat):Int):=by rw[Y9f (by omega) (by omega)];omega
 obtain⟨m,hm⟩:∃ m:Nat,m=min l.length 64:=⟨_,rfl⟩
 rw[<- hm]at c1 f1 wc wa
 have hmx:¬ ((m:Int) < 0):=by omega
 have pd:Pad (l.take 64) (l.take 64++List.replicate (64-l.length) 0):=⟨_,rfl⟩
 have l64:(l.take 64++List.replicate (64-l.length) 0).length=64:=by simp;omega
 have key:∀ (last:Bool) (p8':Bl.P8),p8'=Bl.take p8 (l.take 64) (count+m) last->∀ K',K' (.ret (p8v p8')) h4->FK b 50 [p8v p8,.pointer (some ⟨h1.next,0,none⟩),.int .u64 (((count+m:Nat):Int)),.bool last] h4 K':=by
  intro last p8' hp K' hk'
  refine Z8n b (LaidIn.old hl1 a14) p8 gB4 l64 (count+m) last K' ?_
  rw[Zul p8 pd,<- hp]
  exact hk'
 have stW:∀ p8':Bl.P8,Jl h4 W 0 ((Q4q p8').map Qa7)=some (h4.set W (some (.cells true 1 ((Q4q p8').map Qa7)))):=fun p8'=>by
  rw[Zx gW4 (by simp[Q4q])]
  rfl
 have alB:Vt (E b).toEnv 97 h1=some (.pointer (some ⟨h1.next,0,none⟩),h2):=by rw[e2];exact Xvp b h1
 simp[Xvp,-Xvp,alB,t4,t6,t7,t8,Z1e,c1,f1,wc,wa,ldW]
 have stA:∀ p8':Bl.P8,Qia (E b).toEnv 94 (.pointer (some ⟨W,0,none⟩)) (p8v p8') h4=some (h4.set W (some (.cells true 1 ((Q4q p8').map Qa7)))):=fun p8'=>(Xt0 b h4 W 0 _ (by simp)).trans (stW p8')
 have old5:∀ x,Old h (h4.set W x):=fun x=>(hold.trans a14).set _ (by assumption) lW
 have gW5:∀ x,(h4.set W x).get W=x:=fun x=>by rw[Heap.get_set _ _ _ _ lW,if_pos rfl]
 have gR5:∀ x,(h4.set W x).get R0=some (.cells true 1 z32):=fun x=>by rw[Heap.get_set _ _ _ _ lW,if_neg (by assumption),gR4]
 by_cases h64:l.length<=64
 ·have e0:((l.length-64:Nat):Int)=0:=by omega
  have em:m=l.length:=by omega
  have et:l.take 64=l:=List.take_of_length_le h64
  rw[e0]at lenD
  have hF:FIN=Bl.take p8 (l.take 64) (count+m) true:=by rw[<- hf,Zmi h64,em,et]
  simp[lenD]
  refine key true FIN hF _ ?_
  simp[Xvp,stA,t6,lenD]
  refine Z8u b (W:=W) (p8:=FIN) (h:=h) (R0:=R0) (by simp[t4]) (by simp[t6]) (gW5 _) (gR5 _) (old5 _) (by assumption) K hk
 ·have e0:¬ ((l.length-64:Nat):Int)=0:=by omega
  have em:m=64:=by omega
  subst em
  have e1:(decide (((l.length-64:Nat):Int)=0))=false:=by simpa using e0
  have hlt:64 < l.length:=by omega
  have e0n:¬ (l.length-64=0):=by omega
  simp only[lenD,Qal,e1]
  refine key false _ rfl _ ?_
  simp[Xvp,stA,t6,lenD,e0n]
  refine⟨l.length-64,by omega,_,_,tv',l.drop 64,count+64,Bl.take p8 (l.take 64) (count+64) false,rfl,by simp[t4],by simp[t6],by simp,by simp,?_,gW5 _,gR5 _,old5 _,by assumption,by assumption,by assumption,?_,by rw[<- hf];exact(Zjh hlt).symm,by simp,by simp;omega,?_⟩
  ·refine Sl.keep sn4 fun c hc hlt => ?_
   rw[Heap.get_set _ _ _ _ lW,if_neg]
   rintro rfl
   rcases f5 _ hc with q | q
   ·exact hv q
   ·omega
  ·intro q
   rcases f5 _ q with q | q
   ·exact hv q
   ·omega
  ·intro x hx
   have hlx:=hl1 x hx
   have hx2:x.1≠W:=by
    intro q
    have:=Z37 hl x hx
    omega
   rw[Heap.get_set _ _ _ _ lW,if_neg (Ne.symm hx2)]
   exact a14.get hlx
end
theorem gn0(b:Nat):(0 < (E b).G.n)=True:=eq_true (by show 0 < nv;decide)
theorem Jd9(x:Int):Qbh (binOp .shl 92 (.int .u32 x) (.int .u64 8))=some (.int .u32 (IntKind.u32.wrap (x*2 ^ 8))):=by kernel_rfl
theorem Z1m(x y:Int):Qbh (binOp .xor 92 (.int .u32 x) (.int .u32 y))=some (.int .u32 (Q6y x y)):=by kernel_rfl
def Zyv(k:Nat):Int:=Q6y 1779033703 (Q6y (Q6y 16842752 (IntKind.u32.wrap (IntKind.u32.wrap (k:Int)*2 ^ 8))) 32)
theorem Z33:∀ k,k < 33->Zyv k=Int.ofNat (Bl.start k).h0:=by decide
def K0(k:Nat):Bl.P8:=Bl.start k
theorem Yjs:∀ n,(Bl.zeros n).map u8v=List.replicate n (.int .u8 0)
 | 0=>rfl
 | n+1=>by
  have : (Bl.zeros (n+1)).map u8v=u8v 0::(Bl.zeros n).map u8v:=rfl
  rw[this,Yjs n,List.replicate_succ];rfl
theorem Xgo(v:Value):∀ n,Qch [v] n=List.replicate n v
 | 0=>rfl
 | n+1=>by simp[Qch,Xgo v n,List.replicate_succ]
section
attribute [local simp] Ux Qde Qa5 Xi Qb6 X8m Xt0 Xrm Qc9 Qcs Zu Qy Za Xvp Wt Wu Qxd Qal Uv Ws Qt Qah Qag U7 Qct Qcr Qfi Qdx W8 kON kOC kNN kNP kRR kRP kEN kER kTN kTR kTX kTP kBN kBR kBX kBP kCS kCR kCE kAM
theorem Y3h(b:Nat){h hA:Heap}(laid:Ab.LaidIn h Qjp){R:Nat}{kv tv:Value}{key l:List Nat}{tr:Tr Value}(aA:Old h hA)(hR:h.next<=R)(gA:hA.get R=some (.cells true 1 z32))(sk:SN hA kv key)(sl:SN hA tv l)(hkey:key.length<=32)(hl:l.length < 1000000000)
  (t0:tr.get 0=some kv) (t1:tr.get 1=some tv) (t4:tr.get 4=some (.pointer (some ⟨R,0,none⟩))) (K:KP) (hk:∀ h',Old h h'->K (.ret (.agg ⟨(Bl.keyed1 key l).map u8v⟩)) h') :
  Wy (E b) (Qm5 Tryz.prog (E b).G) (D0 b) none Q1h ⟨⟨81,tr⟩,[],hA⟩ (Y3k (E b) (DD b) Qk5 K):=by
 have lenk:∀ hx,Qns (E b).toEnv 22 kv hx=some (.int .i64 (key.length:Int)):=fun hx=>Qc7 (T22 b) sk
 have lent:∀ hx,Qns (E b).toEnv 22 tv hx=some (.int .i64 (l.length:Int)):=fun hx=>Qc7 (T22 b) sl
 have h32:¬ (32:Int) < (key.length:Int):=by omega
 have gbeg:h.get 0=some (.cells false 0 Qfv):=laid (0,Qfv) (by simp[Qjp])
 obtain⟨hB,eB⟩:∃ hB,hB=hA.push (.cells true 1 (List.replicate 8 (.int .u32 0))):=⟨_,rfl⟩
 have lA:=Heap.get_lt gA
 have aB:=Qk4 eB
 have nB:=Q2z eB
 have gB:hB.get hA.next=some (.cells true 1 (List.replicate 8 (.int .u32 0))):=by rw[eB,Heap.get_push,if_pos rfl]
 have alB:Vt (E b).toEnv 94 hA=some (.pointer (some ⟨hA.next,0,none⟩),hB):=by rw[eB];exact Xut b hA
 have ld0:U8 hA 0 0 8=some (.agg ⟨Qfv⟩):=by
  rw[Yq (aA.get gbeg) (by simp[Qfv])];rfl
 obtain⟨hC,eC⟩:∃ hC,hC=hB.set hA.next (some (.cells true 1 Qfv)):=⟨_,rfl⟩
 have lB:=Heap.get_lt gB
 have gC:hC.get hA.next=some (.cells true 1 Qfv):=by rw[eC,Heap.get_set _ _ _ _ lB,if_pos rfl]
 have stC:Qia (E b).toEnv 94 (.pointer (some ⟨hA.next,0,none⟩)) (.agg ⟨Qfv⟩) hB=some hC:=(Xt0 b hB hA.next 0 _ (by simp[Qfv])).trans (by rw[Zx gB (by simp[Qfv]),eC];rfl)
 have ldC:Yp hC hA.next 0=some (.int .u32 1779033703):=by rw[Xm gC];rfl
 obtain⟨hD,eD⟩:∃ hD,hD=hC.set hA.next (some (.cells true 1 (Qfv.set 0 (.int .u32 (Zyv key.length))))):=⟨_,rfl⟩
 have lC:=Heap.get_lt gC
 have stD:Jl hC hA.next 0 [.int .u32 (Zyv key.length)]=some hD:=by rw[eD];exact Qhe gC (by simp[Qfv])
 have gD:hD.get hA.next=some (.cells true 1 ((Q4q (Bl.start key.length)).map Qa7)):=by
  rw[eD,Heap.get_set _ _ _ _ lC,if_pos rfl,Z33 _ (by omega)];rfl
 have aC:Old h hC:=by rw[eC];exact(aA.trans aB).set _ (by omega) lB
 have aAD:Old hA hD:=by rw[eD,eC];exact(aB.set _ (Nat.le_refl _) lB).set _ (Nat.le_refl _) (by rw[<- eC];exact lC)
 have aD:Old h hD:=by rw[eD];exact aC.set _ (by omega) lC
 have gR:hD.get R=some (.cells true 1 z32):=by
  rw[eD,Heap.get_set _ _ _ _ lC,if_neg (by omega),eC,Heap.get_set _ _ _ _ lB,if_neg (by omega)]
  exact aB.get gA
 have hx0:Xq (E b).toEnv 94 (.pointer (some ⟨hA.next,0,none⟩)) (.int .i64 0)=some (.pointer (some ⟨hA.next,0,none⟩)):=Xrm b ⟨by omega,by omega⟩
 obtain⟨a0,ha0⟩:∃ a:Int,a=IntKind.u32.wrap (key.length:Int):=⟨_,rfl⟩
 obtain⟨a1,ha1⟩:∃ a:Int,a=IntKind.u32.wrap (a0*2 ^ 8):=⟨_,rfl⟩
 obtain⟨a2,ha2⟩:∃ a:Int,a=Q6y 16842752 a1:=⟨_,rfl⟩
 obtain⟨a3,ha3⟩:∃ a:Int,a=Q6y a2 32:=⟨_,rfl⟩
 obtain⟨a4,ha4⟩:∃ a:Int,a=Zyv key.length:=⟨_,rfl⟩
 have x0:Qm6 (E b).toEnv 3 92 (.int .i64 (key.length:Int))=some (.int .u32 a0):=by rw[ha0];exact Qbs b _ _
 have x1:Qbh (binOp .shl 92 (.int .u32 a0) (.int .u64 8))=some (.int .u32 a1):=by rw[ha1];exact Jd9 a0
 have x2:Qbh (binOp .xor 92 (.int .u32 16842752) (.int .u32 a1))=some (.int .u32 a2):=by rw[ha2];exact Z1m _ _
 have x3:Qbh (binOp .xor 92 (.int .u32 a2) (.int .u32 32))=some (.int .u32 a3):=by rw[ha3];exact Z1m _ _
 have x4:Qbh (binOp .xor 92 (.int .u32 1779033703) (.int .u32 a3))=some (.int .u32 a4):=by rw[ha4,Zyv,<- ha0,<- ha1,<- ha2,<- ha3];exact Z1m _ _
 rw[<- ha4]at stD
 simp[V9,Xut,Qbs,U0,Vz,-Xut,gn0,t0,t1,t4,alB,lenk,lent,h32,ld0,stC,hx0,ldC,stD,-Qbs,x0,x1,x2,x3,x4]
 have laidD:=LaidIn.old laid aD
 have fin:∀ (t:Tr Value) (h0:Heap) (v:Value) (text:List Nat),text=Bl.textOf key l->t.get 4=some (.pointer (some ⟨R,0,none⟩))->t.get 6=some (.pointer (some ⟨hA.next,0,none⟩))->t.get 7=some v->t.get 8=some (.int .u64 0)->SN h0 v text->Old hD h0->Uw v≠some hA.next ->
   Wy (E b) (Qm5 Tryz.prog (E b).G) (D0 b) none Qtc ⟨⟨81,t⟩,[],h0⟩ (Y3k (E b) (DD b) Qk5 K):=by
  intro t h0 v text e t4 t6 t7 t8 sn o0 hv
  refine Z1d b (count:=0) (FIN:=Zt5 (Bl.start key.length) text 0) laid t4 t6 t7 t8 sn (o0.get gD) (o0.get gR) (aD.trans o0) (by omega) hR (by omega) hv rfl ?_ K fun h' q => ?_
  ·subst e
   cases key with
   | nil=>simp[Bl.textOf];omega
   | cons k ks =>
    have z:∀ n,(Bl.zeros n).length=n:=fun n=>by induction n with
     | zero=>rfl
     | succ n ih=>simp[Bl.zeros,ih]
    simp[Bl.textOf,z]at hkey ⊢;omega
  ·rw[e]at *
   exact hk h' q
 cases hkc:key with
 | nil =>
  subst hkc
  simp[V9,Xut,Qbs,U0,Vz,-U0,t0,t1,t4]
  refine fin _ hD tv l rfl (by simp[t0,t1,t4]) (by simp[t0,t1,t4]) (by simp[t0,t1,t4]) (by simp[t0,t1,t4]) (sl.old aAD) (Old.refl _) fun q => ?_
  have:=sl.blk q
  omega
 | cons k ks =>
  have h0:0 < key.length:=by rw[hkc];simp
  rw[<- hkc]
  have w1:IntKind.i64.wrap (64+(l.length:Int))=((64+l.length:Nat):Int):=by rw[Ju (by omega) (by omega)];omega
  have w2:IntKind.i64.wrap (64-(key.length:Int))=((64-key.length:Nat):Int):=by rw[Ju (by omega) (by omega)];omega
  obtain⟨h1,e1⟩:∃ h1,h1=hD.push (.cells true 1 (List.replicate (64+l.length) (.int .u8 0))):=⟨_,rfl⟩
  have a1:=Qk4 e1
  have mk:Qpd (E b).toEnv 22 (.int .i64 0) (.int .i64 ((64+l.length:Nat):Int)) hD=some (.slice (some ⟨hD.next,0,none⟩) 0 (64+l.length),h1):=by
   simp only[Qpd,Ysm,(T22 b).d,Zyb]
   rw[if_pos ⟨by omega,by omega,by omega,by rw[Qnj];omega,by rw[Qcl];omega⟩,Zse,e1]
   have : (Value.int .u8 0).cells.toList=[.int .u8 0]:=rfl
   rw[this,Xgo]
   simp only[Int.toNat_natCast,Int.toNat_zero]
  have mk':Qpd (E b).toEnv 22 (.int .i64 0) (.int .i64 (64+(l.length:Int))) hD=some (.slice (some ⟨hD.next,0,none⟩) 0 (64+l.length),h1):=by
   have:=mk
   rw[show((64+l.length:Nat):Int)=64+(l.length:Int) by omega]at this
   exact this
  have o1:Own h1 hD.next 1 (.slice (some ⟨hD.next,0,none⟩) 0 (64+l.length)) 0 []:=.inr ⟨hD.next,64+l.length,1,_,rfl,Nat.le_refl _,by rw[e1,Heap.get_push,if_pos rfl,List.nil_append],rfl,by omega,by unfold Qfn;omega,.inr ⟨by unfold Qfn;omega,by simp⟩⟩
  obtain⟨v2,h2,c1,o2,b2⟩:=Qp5 (T22 b) (tx:=22) (m:=key.length) (ys:=key.map u8v) Qcl (by omega) o1 a1.1 (Q56 (T22 b) Qcl (sk.old (aAD.trans a1))) (by simp) (by rw[Qnj];omega) (by omega)
  have nz:Xnm (E b).toEnv 3 R5 (.int .i64 ((64-key.length:Nat):Int)) h2=some (64-key.length,List.replicate (64-key.length) (.int .u8 0)):=by
   have hi:R3.desc=.int .i64:=by kernel_rfl
   simp only[Xnm,Jcs,hi]
   rw[if_pos ⟨by omega,by omega,by rw[Qnj];omega,by rw[Qcl];omega⟩,Zse]
   have : (Value.int .u8 0).cells.toList=[.int .u8 0]:=rfl
   rw[this,Xgo]
   simp
  obtain⟨v3,h3,c2,o3,b3⟩:=Qp5 (T22 b) (tx:=3) Qcl (by omega) o2 (Nat.le_trans a1.1 b2.1) nz (by simp) (by rw[Qnj];omega) (by omega)
  have a2:Old hD h2:=b2.old a1 o1
  have a3:Old hD h3:=b3.old a2 o2
  obtain⟨v4,h4,c3,o4,b4⟩:=Qp5 (T22 b) (tx:=22) (m:=l.length) (ys:=l.map u8v) Qcl (by omega) o3 a3.1 (Q56 (T22 b) Qcl (sl.old (aAD.trans a3))) (by simp) (by rw[Qnj];omega) (by omega)
  have a4:Old hD h4:=b4.old a3 o3
  simp[V9,Xut,Qbs,U0,Vz,-U0,t0,t1,t4,h0,lenk,lent,w1,w2,mk',c1,c2,c3]
  have zl:(Bl.zeros (64-key.length)).length=64-key.length:=by have:=congrArg List.length (Yjs (64-key.length));simpa using this
  have tx:Bl.textOf key l=key++(Bl.zeros (64-key.length)++l):=by rw[hkc];rfl
  have sn:SN h4 v4 (key++(Bl.zeros (64-key.length)++l)):=by
   have:=o4.sl
   have e1 : []++key.map u8v++List.replicate (64-key.length) (Value.int .u8 0)++l.map u8v=(key++(Bl.zeros (64-key.length)++l)).map u8v:=by
    rw[List.map_append,List.map_append,Yjs]
    simp
   have e2:0+key.length+(64-key.length)+l.length=(key++(Bl.zeros (64-key.length)++l)).length:=by
    simp only[List.length_append,zl];omega
   rw[e1,e2]at this
   exact this
  refine fin _ h4 v4 _ tx.symm (by simp[t0,t1,t4]) (by simp[t0,t1,t4]) (by simp[t0,t1,t4]) (by simp[t0,t1,t4]) sn a4 fun q => ?_
  have:=(o4.from q).1
  have:=Heap.get_lt gD
  omega
theorem Y7u(b:Nat){h:Heap}(laid:Ab.LaidIn h Qjp){kv tv:Value}{key l:List Nat}(sk:SN h kv key)(sl:SN h tv l)(hkey:key.length<=32)(hl:l.length < 1000000000)(K:KP)(hk:∀ h',Old h h'->K (.ret (.agg ⟨(Bl.keyed1 key l).map u8v⟩)) h') :
  FK b 19 [kv,tv] h K:=by
 refine FF b (Zi b) Xaf Xri Xkz rfl ?_
 have lenk:∀ hx,Qns (E b).toEnv 22 kv hx=some (.int .i64 (key.length:Int)):=fun hx=>Qc7 (T22 b) sk
 have h32:¬ (32:Int) < (key.length:Int):=by omega
 obtain⟨hA,eA,aA,gA⟩:=Qdu h z32
 have alA:Vt (E b).toEnv 25 h=some (.pointer (some ⟨h.next,0,none⟩),hA):=by rw[eA];exact V9 b h
 simp[V9,Xut,Qbs,U0,Vz,-V9,-Vz,alA,lenk,h32]
 exact Y3h b laid aA (Nat.le_refl _) gA (sk.old aA) (sl.old aA) hkey hl (by simp) (by simp) (by simp) K hk
end
section
attribute [local simp] Q5n X4h Qb6 Qds Qbn V1 U5 Qdn Wz U2 Qdm V5 Qba Qa0 U4 J9 Wx U6 V0 Qlj Qv2 Qlg Qfx
theorem Zyd(b:Nat){h:Heap}(laid:Ab.LaidIn h Qjp){tv:Value}{l:List Nat}(sl:SN h tv l)(hl:l.length < 1000000000)(K:KP)(hk:∀ h',Old h h'->K (.ret (.agg ⟨(Bl.keyed1 [] l).map u8v⟩)) h') :
  FK b 49 [tv] h K:=by
 refine FF b (Qb6 b) Yr8 Zom Zl5 rfl ?_
 obtain⟨hA,eA,aA,gA⟩:=Qdu h z32
 have alA:Vt (E b).toEnv 25 h=some (.pointer (some ⟨h.next,0,none⟩),hA):=by rw[eA];exact V9 b h
 simp[V9,-V9,alA]
 refine Y7u b (LaidIn.old laid aA) (kv:=.slice none 0 0) (key:=[]) Sl.nil (sl.old aA) (by simp) hl _ fun h2 a2 => ?_
 have g2:h2.get h.next=some (.cells true 1 z32):=a2.get gA
 have kl:(Bl.keyed1 [] l).length=32:=Qkj _
 have l2:=Heap.get_lt g2
 have st:Jl h2 h.next 0 ((Bl.keyed1 [] l).map u8v)=some (h2.set h.next (some (.cells true 1 ((Bl.keyed1 [] l).map u8v)))):=by
  rw[Zx g2 (by simp[z32,kl])]
  congr 4
 have g3:U8 (h2.set h.next (some (.cells true 1 ((Bl.keyed1 [] l).map u8v)))) h.next 0 32=some (.agg ⟨(Bl.keyed1 [] l).map u8v⟩):=by
  rw[Yq (by rw[Heap.get_set _ _ _ _ l2,if_pos rfl]) (by simp[kl])]
  congr 3
 simp[V9,W8,st,kl,g3]
 exact hk _ ((aA.trans a2).set _ (Nat.le_refl _) l2)
end
theorem Xgg(b:Nat)(B o:Nat)(h:Heap):Qdk (E b).toEnv 25 (.pointer (some ⟨B,o,none⟩)) none none none h=some (.slice (some ⟨B,o,none⟩) 32 32,h):=by kernel_rfl
section
attribute [local simp] Ux Ux Qde Qa5 Xi Qb6 X8m Xut Xt0 Xrm Qc9 Qcs Qbs Zu Qy Za Xvp Wt Wu Qxd Qal Uv Ws Qt Qah Qag U7 Qct Qcr Qfi Qdx W8 U0 kON kOC kNN kNP kRR kRP kEN kER kTN kTR kTX kTP kBN kBR kBX kBP kCS kCR kCE kAM
theorem Z0x(b:Nat){h:Heap}(laid:Ab.LaidIn h Qjp){kv tv:Value}{key l:List Nat}(sk:SN h kv key)(sl:SN h tv l)(hkl:key.length < 1000000000)(hl:l.length < 1000000000)(K:KP)(hk:∀ h',Old h h'->K (.ret (.agg ⟨(Bl.keyed key l).map u8v⟩)) h') :
  FK b 19 [kv,tv] h K:=by
 by_cases h32:key.length<=32
 ·have e:Bl.keyed key l=Bl.keyed1 key l:=by unfold Bl.keyed;rw[Q6q h32]
  rw[e]at hk
  exact Y7u b laid sk sl h32 hl K hk
 ·have e:Bl.keyed key l=Bl.keyed1 (Bl.keyed1 [] key) l:=by
   unfold Bl.keyed
   have : Nat.ble key.length 32=false:=by
    cases hq:Nat.ble key.length 32 with
    | false=>rfl
    | true=>rw[Nat.ble_eq]at hq;omega
   rw[this]
  rw[e]at hk
  refine FF b (Zi b) Xaf Xri Xkz rfl ?_
  have lenk:∀ hx,Qns (E b).toEnv 22 kv hx=some (.int .i64 (key.length:Int)):=fun hx=>Qc7 (T22 b) sk
  have h32':(32:Int) < (key.length:Int):=by omega
  obtain⟨hA,eA,aA,gA⟩:=Qdu h z32
  have alA:Vt (E b).toEnv 25 h=some (.pointer (some ⟨h.next,0,none⟩),hA):=by rw[eA];exact V9 b h
  simp[V9,Vz,-V9,-Vz,alA,lenk,h32']
  refine Zyd b (LaidIn.old laid aA) (sk.old aA) hkl _ fun h2 a2 => ?_
  obtain⟨dg,hdg⟩:∃ d,d=Bl.keyed1 [] key:=⟨_,rfl⟩
  rw[<- hdg]at hk ⊢
  have kl:dg.length=32:=by rw[hdg];exact Qkj _
  obtain⟨hB,eB⟩:∃ hB,hB=h2.push (.cells true 1 z32):=⟨_,rfl⟩
  have alB:Vt (E b).toEnv 25 h2=some (.pointer (some ⟨h2.next,0,none⟩),hB):=by rw[eB];exact V9 b h2
  have gB:hB.get h2.next=some (.cells true 1 z32):=by rw[eB,Heap.get_push,if_pos rfl]
  have lB:=Heap.get_lt gB
  obtain⟨hC,eC⟩:∃ hC,hC=hB.set h2.next (some (.cells true 1 (dg.map u8v))):=⟨_,rfl⟩
  have stC:Jl hB h2.next 0 (dg.map u8v)=some hC:=by
   rw[Zx gB (by simp[z32,kl]),eC]
   congr 4
   simp[z32,kl]
  have gC:hC.get h2.next=some (.cells true 1 (dg.map u8v)):=by rw[eC,Heap.get_set _ _ _ _ lB,if_pos rfl]
  have aC:Old h2 hC:=by rw[eC,eB];exact(Old.push _ _).set _ (Nat.le_refl _) (by rw[<- eB];exact lB)
  simp[V9,Vz,-V9,-Vz,alB,kl,stC,Xgg]
  refine Y3h b laid (aA.trans (a2.trans aC)) (Nat.le_refl _) ((a2.trans aC).get gA) (kv:=.slice (some ⟨h2.next,0,none⟩) 32 32) (key:=dg) ?_ (sl.old (aA.trans (a2.trans aC))) (by omega) hl (by simp) (by simp) (by simp) K hk
  have:=(Own.new (n0:=0) (z:=1) (n:=32) (c:=32) (Nat.zero_le _) gC (by simp[kl]) (by decide) (.inr rfl)).sl
  rw[SN,kl]
  exact this
end
theorem Z5f(b:Nat)(h:Heap)(ν:Nat){o:Int}(h1:1<=o)(h2:o<=32)(K:KP)(hk:K (.ret (.pointer (some ⟨ν,(o-1).toNat*32,none⟩))) h):FK b 72 [.pointer (some ⟨ν,0,none⟩),.int .i64 o] h K:=by
 refine FF b (Qbr b) Xhi Xys Xwa rfl ?_
 have a1:¬ o < 1:=by omega
 have a2:¬ 32 < o:=by omega
 have w:IntKind.i64.wrap (o-1)=o-1:=Ju (by omega) (by omega)
 have a3:0<=o-1/\o-1 < ((32:Nat):Int):=⟨by omega,by omega⟩
 have hx:Xq (E b).toEnv 59 (.pointer (some ⟨ν,0,none⟩)) (.int .i64 (o-1))=some (.pointer (some ⟨ν,(o-1).toNat*32,none⟩)):=by rw[Zmo b a3];simp
 simp[Qya,Xww,Qbr,Qt,Xi,Xj9,Xdr,Xj8,Za,X1x,Zmo,Qds,Qbn,V1,U5,Qdn,Wz,U2,Qdm,V5,Qba,Qa0,U4,J9,Wx,U6,V0,Qlj,Qv2,Qlg,Qfx,Zuj,a1,a2,w,hx]
 rw[show o.toNat-1=(o-1).toNat by omega]
 exact hk
def z16:List Value:=List.replicate 16 (.int .u8 0)
theorem Z4f(b bk o:Nat):Z3v (E b).toEnv .neq 125 (.pointer (some ⟨bk,o,none⟩)) (.pointer none)=some (.bool true):=by kernel_rfl
theorem Z1n(b:Nat)(B o:Nat)(h:Heap):Qdk (E b).toEnv 25 (.pointer (some ⟨B,o,none⟩)) none none none h=some (.slice (some ⟨B,o,none⟩) 32 32,h):=by kernel_rfl
theorem Z83(b:Nat)(B o:Nat)(h:Heap):Qdk (E b).toEnv 79 (.pointer (some ⟨B,o,none⟩)) none none none h=some (.slice (some ⟨B,o,none⟩) 16 16,h):=by kernel_rfl
theorem Jc9(b:Nat){h:Heap}{B:Nat}{D:Nat}(hD:0 < D){ds:List Value}{v:Value}{l:List Nat}(hg:h.get B=some (.cells true 1 ds))(hd:ds.length=D)(s:SN h v l) :
  ∃ h',Xns (E b).toEnv 22 (.slice (some ⟨B,0,none⟩) D D) v h=some (.int .i64 ((min l.length D:Nat):Int),h')/\h'.get B=some (.cells true 1 ((l.take D).map u8v++ds.drop (min l.length D)))/\h'.next=h.next/\∀ c,c≠B->h'.get c=h.get c:=by
 have hmin:Nat.min l.length D=min l.length D:=rfl
 have hlen:Xk4 v=some l.length:=by rcases s with⟨c,rfl,_,e,_⟩ | ⟨bk,o,c,ow,z',pre,post,rfl,_⟩ <;> simp_all [Xk4]
 have hsrc:Zo1 1 (Nat.min l.length D) v h=some ((l.take D).map u8v):=by
  rcases s with⟨c,rfl,_,e,e2⟩ | ⟨bk,o,c,ow,z',pre,post,rfl,h1,h2,h3, -⟩
  ·have : l=[]:=List.eq_nil_of_length_eq_zero e
   subst this
   simp[Zo1]
  ·have h4:Qyv (Nat.min l.length D*1) ((pre++l.map u8v++post).drop o)=some ((l.take D).map u8v):=by
    rw[hmin,<- h2,List.append_assoc,List.drop_left,Qss (by simp;omega),List.take_append_of_le_length (by simp;omega),<- List.map_take,Nat.mul_one]
    congr 2
    rcases Nat.le_total l.length D with q | q
    ·rw[Nat.min_eq_left q,List.take_of_length_le (Nat.le_refl _),List.take_of_length_le q]
    ·rw[Nat.min_eq_right q]
   simp only[Zo1,Ab.cellsAt,h1,h4]
 have hr:R22.desc=.slice 5:=(T22 b).d
 cases hc:(l.take D).map u8v with
 | nil =>
  have : l=[]:=by
   cases l with
   | nil=>rfl
   | cons x l=>cases D with
    | zero=>omega
    | succ D=>simp at hc
  subst this
  refine⟨h,?_,by simpa using hg,rfl,fun _ _=>rfl⟩
  rw[hc]at hsrc
  simp only[Xns,Ysm,hr,hlen,Zyb,Qcl,hsrc]
 | cons x xs =>
  have hle:(x::xs).length<=ds.length:=by rw[<- hc,hd];simp;omega
  have hst:storeAt h ⟨B,0,none⟩ (x::xs)=some (h.set B (some (.cells true 1 ((x::xs)++ds.drop (x::xs).length)))):=by
   simp only[storeAt,hg]
   rw[Qtg (by simpa using hle)]
   simp
  rw[hc]at hsrc
  refine⟨h.set B (some (.cells true 1 ((x::xs)++ds.drop (x::xs).length))),?_,?_,rfl,fun c hc=>by rw[Heap.get_set _ _ _ _ (Heap.get_lt hg),if_neg (Ne.symm hc)]⟩
  ·simp only[Xns,Ysm,hr,hlen,Zyb,Qcl,hsrc,hst]
   rfl
  ·rw[Heap.get_set _ _ _ _ (Heap.get_lt hg),if_pos rfl]
   congr 4
   rw[<- hc,List.length_map,List.length_take,Nat.min_comm]
def Qt5(ks ds:List Nat):List Nat:=(Bl.keyed1 ks ds).take 16
section
attribute [local simp] Qau Qd3 Zo Qbr Qx4 V9 Qcv Qer Qds Qbn V1 U5 Qdn Wz U2 Qdm V5 Qba Qa0 U4 J9 Wx U6 V0 Qlj Qv2 Qlg Qfx
theorem Zzc(b:Nat){h:Heap}(laid:Ab.LaidIn h Qjp){ν z:Nat}{ow:Bool}{pre post:List Value}{ks ds:List Nat}{o:Int}(h1:1<=o)(h2:o<=32)(hg:h.get ν=some (.cells ow z (pre++ks.map u8v++post)))(hp:pre.length=(o-1).toNat*32)(hks:ks.length=32)(hds:ds.length=32)
  (K:KP) (hk:∀ h',Old h h'->K (.ret (.agg ⟨(Qt5 ks ds).map u8v⟩)) h'):FK b 57 [.pointer (some ⟨ν,0,none⟩),.int .i64 o,.agg ⟨ds.map u8v⟩] h K:=by
 refine FF b (Zo b) Xc9 Xr8 Xnd rfl ?_
 obtain⟨hA,eA⟩:∃ hA,hA=h.push (.cells true 1 (ds.map u8v)):=⟨_,rfl⟩
 obtain⟨hB,eB⟩:∃ hB,hB=hA.push (.cells true 1 z16):=⟨_,rfl⟩
 have aA:=Qk4 eA
 have aB:=Qk4 eB
 have nA:=Q2z eA
 have gA:hA.get h.next=some (.cells true 1 (ds.map u8v)):=by rw[eA,Heap.get_push,if_pos rfl]
 have gB:hB.get hA.next=some (.cells true 1 z16):=by rw[eB,Heap.get_push,if_pos rfl]
 have bx:=Qjl eA
 have alB:Vt (E b).toEnv 79 hA=some (.pointer (some ⟨hA.next,0,none⟩),hB):=by rw[eB];exact Qdj b hA
 have ld:(ds.map u8v).length=32:=by simpa using hds
 have sk:SN hB (.slice (some ⟨ν,(o-1).toNat*32,none⟩) 32 32) ks:=.inr ⟨ν,(o-1).toNat*32,32,ow,z,pre,post,by rw[hks],(aA.trans aB).get hg,hp,by simp,by omega,by unfold Qfn;omega,fun q=>by unfold Qfn at q;omega⟩
 have sd:SN hB (.slice (some ⟨h.next,0,none⟩) 32 32) ds:=.inr ⟨h.next,0,32,true,1,[],[],by rw[hds],by simpa using aB.get gA,rfl,by simp,by omega,by unfold Qfn;omega,fun q=>by unfold Qfn at q;omega⟩
 obtain⟨_,hC,c1,n1,rfl,aC⟩:=Y7u b (LaidIn.old laid (aA.trans aB)) sk sd (by omega) (by omega) (fun r h'=>r=.ret (.agg ⟨(Bl.keyed1 ks ds).map u8v⟩)/\Old hB h') (fun h' q=>⟨rfl,q⟩)
 simp[Qdj,hds,bx,-Qdj,alB]
 refine Z5f b hB ν h1 h2 _ ?_
 simp[Qdj,Z4f]
 have kl:(Bl.keyed1 ks ds).length=32:=Qkj _
 obtain⟨hZ,eZ⟩:∃ hZ,hZ=hC.push (.cells true 1 z32):=⟨_,rfl⟩
 have alZ:Vt (E b).toEnv 25 hC=some (.pointer (some ⟨hC.next,0,none⟩),hZ):=by rw[eZ];exact V9 b hC
 have gZ:hZ.get hC.next=some (.cells true 1 z32):=by rw[eZ,Heap.get_push,if_pos rfl]
 have aZ:=Qk4 eZ
 have lZ:=Heap.get_lt gZ
 obtain⟨hW,eW⟩:∃ hW,hW=hZ.set hC.next (some (.cells true 1 ((Bl.keyed1 ks ds).map u8v))):=⟨_,rfl⟩
 have stW:Jl hZ hC.next 0 ((Bl.keyed1 ks ds).map u8v)=some hW:=by
  rw[Zx gZ (by simp[z32,kl]),eW]
  congr 4
 have gW:hW.get hC.next=some (.cells true 1 ((Bl.keyed1 ks ds).map u8v)):=by rw[eW,Heap.get_set _ _ _ _ lZ,if_pos rfl]
 have aW:Old hC hW:=by rw[eW];exact aZ.set _ (Nat.le_refl _) lZ
 refine Qfq [⟨19,[.slice (some ⟨ν,(o-1).toNat*32,none⟩) 32 32,.slice (some ⟨h.next,0,none⟩) 32 32],hB,.agg ⟨(Bl.keyed1 ks ds).map u8v⟩,hC,true⟩] ?_ Q58 Q7g Q63 (by simp[Q95,Xb7,Zuj,Z1n,Qcb,-V9,alZ,kl,stW];exact⟨rfl,rfl⟩) ?_ ?_
 ·exact zk1 ⟨c1,n1,fun _ c hc=>aC.2 c hc⟩
 ·simp[Qd5]
 simp[Qdj]
 have gBW:hW.get hA.next=some (.cells true 1 z16):=aW.get (aC.get gB)
 have skW:SN hW (.slice (some ⟨hC.next,0,none⟩) 32 32) (Bl.keyed1 ks ds):=.inr ⟨hC.next,0,32,true,1,[],[],by rw[kl],by simpa using gW,rfl,by simp,by omega,by unfold Qfn;omega,fun q=>by unfold Qfn at q;omega⟩
 obtain⟨hX,cp,gX,nX,kX⟩:=Jc9 b (D:=16) (by omega) gBW (by simp[z16]) skW
 have gX':hX.get hA.next=some (.cells true 1 ((Qt5 ks ds).map u8v)):=by
  rw[gX]
  rw[kl]
  simp[z16,Qt5]
 have lt16:(Qt5 ks ds).length=16:=by simp[Qt5,kl]
 refine Qfq [] (by simp) Q62 Q7r Q52 (by simp[Q8v,Xb9,Zuj,Z1n,Z83,cp];exact⟨rfl,rfl⟩) ?_ ?_
 ·simp[Qd2]
 have lX:=Heap.get_lt gX'
 have tk:((Qt5 ks ds).map u8v).take 16=(Qt5 ks ds).map u8v:=List.take_of_length_le (by simp[lt16])
 have tk':((Qt5 ks ds).map u8v).drop 16=[]:=List.drop_of_length_le (by simp[lt16])
 have ldX:U8 hX hA.next 0 16=some (.agg ⟨(Qt5 ks ds).map u8v⟩):=by
  rw[Yq gX' (by simp[lt16])]
  simp[tk]
 have stX:Jl hX hA.next 0 ((Qt5 ks ds).map u8v)=some (hX.set hA.next (some (.cells true 1 ((Qt5 ks ds).map u8v)))):=by
  rw[Zx gX' (by simp[lt16])]
  simp[lt16,tk']
 have ldX2:U8 (hX.set hA.next (some (.cells true 1 ((Qt5 ks ds).map u8v)))) hA.next 0 16=some (.agg ⟨(Qt5 ks ds).map u8v⟩):=by
  rw[Yq (by rw[Heap.get_set _ _ _ _ lX,if_pos rfl]) (by simp[lt16])]
  simp[tk]
 simp[Qdj,ldX,stX,lt16,ldX2]
 have aX:Old h hX:=⟨by rw[nX];exact Nat.le_trans (aA.trans aB).1 (aC.trans aW).1,fun c hc=>by
  rw[kX c (by omega),(aC.trans aW).2 c (Nat.lt_of_lt_of_le hc (aA.trans aB).1),(aA.trans aB).2 c hc]⟩
 exact hk _ (aX.set _ (by omega) lX)
end
def Xaz(ks:List Nat)(o:Int):List Nat:=(ks.drop ((o-1).toNat*32)).take 32
theorem Z1h{ks:List Nat}(hks:ks.length=1024){o:Int}(h1:1<=o)(h2:o<=32):(Xaz ks o).length=32:=by
 simp[Xaz];omega
theorem Z1g{ks:List Nat}(o:Int):ks.map u8v=(ks.take ((o-1).toNat*32)).map u8v++(Xaz ks o).map u8v++((ks.drop ((o-1).toNat*32)).drop 32).map u8v:=by
 rw[<- List.map_append,<- List.map_append,Xaz,List.append_assoc,List.take_append_drop,List.take_append_drop]
theorem Z9p(b:Nat){h:Heap}(laid:Ab.LaidIn h Qjp){ν z:Nat}{ow:Bool}{ks ds:List Nat}{o:Int}(h1:1<=o)(h2:o<=32)(hg:h.get ν=some (.cells ow z (ks.map u8v)))(hks:ks.length=1024)(hds:ds.length=32)
  (K:KP) (hk:∀ h',Old h h'->K (.ret (.agg ⟨(Qt5 (Xaz ks o) ds).map u8v⟩)) h'):FK b 57 [.pointer (some ⟨ν,0,none⟩),.int .i64 o,.agg ⟨ds.map u8v⟩] h K :=
 Zzc b laid h1 h2 (by rw[hg,Z1g o]) (by simp;omega) (Z1h hks h1 h2) hds K hk
structure Asks where
 ks:List Nat
 dg:List Nat
 lk:Int
 hks:ks.length=1024
 hdg:dg.length=32
def Qjm(l:List Nat):List Int:=l.map Int.ofNat
def Z4o(l:List Int):List Nat:=l.map Int.toNat
def Jez(a:Asks)(o:Int)(t:List Int):Bool:=decide (1<=o/\o<=32) && decide (Qt5 (Xaz a.ks o) a.dg=Z4o t)
def Jeh(x:List Int):List Int:=Qjm (Bl.keyed1 [] (Z4o x))
def Zjw(x:List Int)(st:List (List Int)):Except Int (List (List Int)):=if st.length < 16 then .ok (x::st)else .error 16
def doF(a:Asks)(code:Int)(data:List Int)(st:List (List Int)):Except Int (List (List Int)) :=
 if code=129 then(match st with | x::r=>(Zjw x r).bind (Zjw x) | [] => .error 16)
 else if code=130 then(match st with | _::r => .ok r | [] => .error 16)
 else if code=131 then(match st with | x::r=>Zjw (Jeh x) r | [] => .error 16)
 else if code=132 then(match st with | x::y::r=>Zjw (Jeo (decide (x=y))) r | _ => .error 16)
 else if code=133 then(match st with | x::r=>if isT x then .ok r else .error 16 | [] => .error 16)
 else if code=134 then(match st with | x::y::r=>if x.length=1/\y.length=16 then Zjw (Jeo (Jez a (x.getD 0 0) y)) r else .error 16 | _ => .error 16)
 else if code=135 then(match st with | x::r=>if x.length=4 then(if Jbl x 4<=a.lk then .ok r else .error 18)else .error 16 | [] => .error 16)
 else if code=139 then(match st with | x::r=>(Zjw x r).bind (Zjw [(x.length:Int)]) | [] => .error 16)
 else Zjw data st
def X1i(a:Asks)(code:Int)(data:List Int)(st:List (List Int))(op:List Br):Except Int (List (List Int) × List Br) :=
 match brF code st op with
 | some none => .error 16
 | some (some p) => .ok p
 | none=>if Jck op then .ok (st,op)else(doF a code data st).map fun st'=>(st',op)
structure Wd (h:Heap) (MB:Nat->Prop) (e:Menv) (a:Asks):Prop where
 laid:Ab.LaidIn h Qjp
 low:∀ c,MB c->3<=c
 next:3<=h.next
 nota:∃ ν z ow,e.nk=.pointer (some ⟨ν,0,none⟩)/\h.get ν=some (.cells ow z (a.ks.map u8v))/\¬ MB ν
 dg:e.dig=a.dg.map u8v
 lk:e.lk=a.lk
theorem Z96{x:Nat × List Value}(hx:x ∈ Qjp):x.1 < 3:=by
 simp only[Qjp,List.mem_cons,List.not_mem_nil,or_false]at hx
 rcases hx with rfl | rfl
 ·exact of_decide_eq_true (by kernel_rfl)
 ·exact of_decide_eq_true (by kernel_rfl)
theorem Wd.mv{h h':Heap}{MB MB':Nat->Prop}{e:Menv}{a:Asks}(w:Wd h MB e a)(m:Mv MB MB' h h'):Wd h' MB' e a:=by
 obtain⟨laid,low,nx,⟨ν,z,ow,q1,q2,q3⟩,dg,lk⟩:=w
 refine⟨fun x hx => ?_,fun c hc => ?_,Nat.le_trans nx m.next,⟨ν,z,ow,q1,?_,fun hc => ?_⟩,dg,lk⟩
 ·have g:=laid x hx
  rw[m.same x.1 (Heap.get_lt g) (fun hb=>by have:=low _ hb;have:=Z96 hx;omega)]
  exact g
 ·rcases m.sub c hc with h | h
  ·exact low c h
  ·omega
 ·rw[m.same ν (Heap.get_lt q2) q3];exact q2
 ·rcases m.sub ν hc with h | h
  ·exact q3 h
  ·have:=Heap.get_lt q2;omega
theorem MOk.wd{h h':Heap}{MB:Nat->Prop}{μ:Nat}{e:Menv}{a:Asks}{st:List (List Int)}{op:List Br}(w:Wd h MB e a)(m:MOk MB h μ e st op h'):∃ ps MB',ps.map (·.2)=st/\Mach h' MB' μ e ps op/\Mv MB MB' h h'/\Wd h' MB' e a:=by
 obtain⟨ps,MB',q1,q2,q3⟩:=m
 exact⟨ps,MB',q1,q2,q3,w.mv q3⟩
theorem Jbb{y:List Int}(hy:Bytes y):y.map i8=(Z4o y).map u8v:=by
 rw[Z4o,List.map_map]
 apply List.map_congr_left
 intro z hz
 have:=hy z hz
 show Value.int .u8 z=.int .u8 ((z.toNat:Nat):Int)
 rw[Int.toNat_of_nonneg this.1]
theorem Wd.old{h h':Heap}{MB:Nat->Prop}{e:Menv}{a:Asks}(w:Wd h MB e a)(o:Old h h'):Wd h' MB e a:=w.mv (Mv.old o)
theorem Jac(h:Nat):∀ n ∈ Bl.by4 h,n < 256:=by
 intro n hn
 simp only[Bl.by4,List.mem_cons,List.not_mem_nil,or_false]at hn
 rcases hn with rfl | rfl | rfl | rfl <;> exact Nat.mod_lt _ (by decide)
theorem Zf4(p:Bl.P8):∀ n ∈ Bl.out p,n < 256:=by
 obtain⟨h0,h1,h2,h3,h4,h5,h6,h7⟩:=p
 intro n hn
 simp only[Bl.out,List.mem_append]at hn
 rcases hn with((((((hn | hn) | hn) | hn) | hn) | hn) | hn) | hn <;> exact Jac _ n hn
theorem X4a(l:List Nat):l.map u8v=(Qjm l).map i8:=by
 rw[Qjm,List.map_map]
 rfl
theorem Itm.at{h:Heap}{MB:Nat->Prop}{B z:Nat}{ow:Bool}{xs:List Int}(hg:h.get B=some (.cells ow z (xs.map i8)))(hb:Bytes xs)(hl:xs.length < 1000000)(hm:¬ MB B):Itm h MB (.slice (some ⟨B,0,none⟩) xs.length xs.length) xs :=
 ⟨.inr ⟨B,0,xs.length,ow,z,[],[],rfl,by simpa using hg,rfl,by simp,Nat.le_refl _,by unfold Qfn;omega,fun q=>by unfold Qfn at q;omega⟩,hb,fun c hc=>by cases hc;exact hm⟩
structure At (h:Heap) (MB:Nat->Prop) (μ:Nat) (e:Menv) (a:Asks) (ps:List (Value × List Int)) (op:List Br) (dv:Value) (data:List Int):Prop where
 m:Mach h MB μ e ps op
 w:Wd h MB e a
 i:Itm h MB dv data
 l1:ps.length<=16
 l2:op.length < 1000
 l3:∀ p ∈ ps,p.2.length<=64
section
variable(b:Nat){h:Heap}{MB:Nat->Prop}{μ:Nat}{e:Menv}{a:Asks}{ps:List (Value × List Int)}{op:List Br}{dv:Value}{data:List Int}(A:At h MB μ e a ps op dv data)
include A
variable(hoff:Jck op=false)
include hoff
end
section
variable(b:Nat){h:Heap}{MB:Nat->Prop}{μ:Nat}{e:Menv}{a:Asks}{ps:List (Value × List Int)}{op:List Br}{dv:Value}{data:List Int}(A:At h MB μ e a ps op dv data)(hoff:Jck op=false)
include A hoff
end
section
variable(b:Nat){h:Heap}{MB:Nat->Prop}{μ:Nat}{e:Menv}{a:Asks}{ps:List (Value × List Int)}{op:List Br}{dv:Value}{data:List Int}(A:At h MB μ e a ps op dv data)
include A
end
def ItsAt(h:Heap)(items:List (Value × List Int)):Prop:=∀ p ∈ items,SB h p.1 p.2/\Bytes p.2
theorem ItsAt.old{h h':Heap}{items:List (Value × List Int)}(i:ItsAt h items)(a:Old h h'):ItsAt h' items:=fun p hp=>⟨(i p hp).1.old a,(i p hp).2⟩
end Go.Proofs.YtgmelhgoiepoaaaGreatDoor
end
noncomputable section
namespace Go.Ab
section
variable{P:Program}{E:Env2 P}{C:CallF}{k:Nat}
end
end Go.Ab
namespace Go.Proofs.YtgmelhgoiepoaaaGreatDoor
open Go Go.Ab
set_option maxRecDepth 100000
end Go.Proofs.YtgmelhgoiepoaaaGreatDoor
end
noncomputable section
namespace Go.Proofs.YtgmelhgoiepoaaaGreatDoor
open Go Go.Ab
set_option maxRecDepth 100000
def Bd(st:List (List Int)):Prop:=st.length<=16/\∀ x ∈ st,x.length<=64
theorem Bd.nil:Bd []:=⟨by simp,by simp⟩
abbrev Wo(h:Heap)(e:Menv)(a:Asks):Prop:=Wd h (fun _=>False) e a
theorem Wo.old{h h':Heap}{e:Menv}{a:Asks}(w:Wo h e a)(o:Old h h'):Wo h' e a:=w.mv (Mv.old o)
theorem Wo.mb{h h':Heap}{MB:Nat->Prop}{e:Menv}{a:Asks}(w:Wo h e a)(o:Old h h')(hm:∀ c,MB c->h.next<=c):Wd h' MB e a :=
 w.mv ⟨o.1,fun c hc _=>o.2 c hc,fun c hc => .inr (hm c hc)⟩
theorem Qwi(k l:List Nat):(Bl.keyed k l).length=32:=by
 unfold Bl.keyed
 split <;> exact Qkj _
theorem Xc0(seed:List Nat):∀ n i,(Qa8 seed n i).length=n*32
 | 0,_=>rfl
 | n+1,i=>by simp only[Qa8,List.length_append,Qwi,Xc0 seed n];omega
theorem Xgh{h:Heap}(l:Ab.LaidIn h laidAll):Ab.LaidIn h Qjp:=fun x hx=>l x (by
 simp only[Qjp,laidAll,List.mem_cons,List.not_mem_nil,or_false]at hx ⊢
 rcases hx with rfl | rfl <;> simp)
theorem SB.push{h:Heap}{xs:List Int}(hl:xs.length < 1000000):SB (h.push (.cells true 1 (xs.map i8))) (.slice (some ⟨h.next,0,none⟩) xs.length xs.length) xs :=
 (Own.new (n0:=0) (Nat.zero_le _) (by rw[Heap.get_push,if_pos rfl]) (by simp) (by unfold Qfn;omega) (.inr rfl)).sl
theorem Jbo(b:Nat)(x0 x1 x2:Int)(h:Heap):Xc (E b).toEnv 22 3 [(0,.int .u8 x0),(1,.int .u8 x1),(2,.int .u8 x2)] h=some (.slice (some ⟨h.next,0,none⟩) 3 3,h.push (.cells true 1 [.int .u8 x0,.int .u8 x1,.int .u8 x2])):=by kernel_rfl
theorem Z1z{h:Heap}{B:Nat}{ow:Bool}{z:Nat}{l:List Nat}(hg:h.get B=some (.cells ow z (l.map u8v)))(hl:l.length < 1000000):SB h (.slice (some ⟨B,0,none⟩) l.length l.length) (Qjm l):=by
 have e:(Qjm l).length=l.length:=by simp[Qjm]
 rw[SB,e,<- X4a]
 exact .inr ⟨B,0,l.length,ow,z,[],[],rfl,by simpa using hg,rfl,by simp,Nat.le_refl _,by unfold Qfn;omega,fun q=>by unfold Qfn at q;omega⟩
theorem Z63{b:Nat}{te ts:TypeId}{re rs:TyRec}(T:SlTy (E b).toEnv te ts re rs){h:Heap}{n0 z n:Nat}{v:Value}{xs:List Value}(hz:re.size=z)(o:Own h n0 z v n xs){k:IntKind}{i:Int}(h0:0<=i)(h1:i < n) :
  ∃ bk,Uw v=some bk/\Xq (E b).toEnv ts v (.int k i)=some (.pointer (some ⟨bk,i.toNat*z,none⟩))/\∀ j,i.toNat*z+j < xs.length->Yp h bk (i.toNat*z+j)=xs[i.toNat*z+j]? := by
 rcases o with⟨rfl,rfl,rfl⟩ | ⟨bk,c,z',rest,rfl,g1,g2,g3,g4,g5⟩
 ·omega
 ·refine⟨bk,rfl,?_,fun j hj => ?_⟩
  ·rw[Qi5 T hz ⟨h0,h1⟩,Nat.zero_add]
  ·rw[Xm g2,List.getElem?_append_left hj]
theorem Z7t(b:Nat)(h:Heap):Jco (E b).toEnv 22 (.slice none 0 0)=some (.int .i64 0):=by kernel_rfl
theorem Z81(b:Nat)(h:Heap)(v1 v2:Value)(n1:Qkh v1=true)(c1:v1.cells = #[v1])(n2:Qkh v2=true)(c2:v2.cells = #[v2]):Xc (E b).toEnv 72 2 [(0,v1),(1,v2)] h=some (.slice (some ⟨h.next,0,none⟩) 2 2,h.push (.cells true 1 [v1,v2])):=by
 have hz:R22.zero.cells.toList=[.slice none 0 0]:=by kernel_rfl
 have e1:(Nat.ble (2*R22.size) 16777216 && Nat.ble 1 R22.size)=true:=by rw[Qzg];rfl
 simp only[Xc,Z1p,(T72 b).d,Ysm,e1,if_true,hz,Qzg]
 simp[X1r,n1,n2,c1,c2,Qch,Qlv,over,Nat.ble]
theorem Zes(b:Nat)(n:Nat)(hn:n < 1000000000)(h:Heap):Xnm (E b).toEnv 3 R5 (.int .i64 (n:Int)) h=some (n,List.replicate n (.int .u8 0)):=by
 have hi:R3.desc=.int .i64:=by kernel_rfl
 simp only[Xnm,Jcs,hi]
 rw[if_pos ⟨by omega,by omega,by rw[Qnj];omega,by rw[Qcl];omega⟩,Zse]
 have : (Value.int .u8 0).cells.toList=[.int .u8 0]:=rfl
 rw[this,Xgo]
 simp
attribute [local simp] Qr kON kOC Qw kNN kNP kRR kRP kEN kER Q4 Qq Xk X8 aop Qe nth Ab.g0 gv gs Qb Qa aev evs evO Qf Tr.get_put St.put Tm.put flat flatA X9 Qk Qn Ql Qm Qi Qj Qh Qo Qg Q5 Q6 kTN kTR kTX kTP kBN kBR kBX kBP kCS kCR kCE kAM Qv.putAll Qp Q9 Q3 Q1 Q8 Qc Qd Q0 Q2 Q7
section
attribute [local simp] Qiq Qqc U9 Qnx Qt Z6a Qa5 Za Xi
theorem Z58(b:Nat){h:Heap}(n:Nat)(hn:n < 1000000000)(K:KP)(hk:∀ v h',OB h' h.next v []->Old h h'->K (.ret v) h'):FK b 94 [.slice none 0 0,.int .i64 (n:Int)] h K:=by
 refine FF b (U9 b) Q0u Q6f Q5x rfl ?_
 have c0:=Z7t b h
 have l0:∀ hx,Qns (E b).toEnv 22 (.slice none 0 0) hx=some (.int .i64 0):=fun hx=>Qtf (b:=b) (xs:=[]) (h:=h) Sl.nil
 have h0:¬ (n:Int) < 0:=by omega
 have w0:IntKind.i64.wrap (n:Int)=(n:Int):=Ju (by omega) (by omega)
 by_cases hz:n=0
 ·subst hz
  have wz:IntKind.i64.wrap 0=0:=Ju (by omega) (by omega)
  simp[c0,l0,wz]
  exact hk _ h Own.nil (Old.refl _)
 ·have hp:0 < (n:Int):=by omega
  have hp':0 < n:=by omega
  have wz:IntKind.i64.wrap 0=0:=Ju (by omega) (by omega)
  obtain⟨v1,k1,o1, -⟩:=Z62 (T22 b) (h:=h) (n0:=h.next) (v:=.slice none 0 0) (n:=0) (xs:=[]) (k:=.i64) (i:=0) Qcl (by omega) Own.nil (by omega) (by omega)
  obtain⟨v2,h2,k2,o2,b2⟩:=Qp5 (T22 b) (tx:=3) (m:=n) Qcl (by omega) o1 (Nat.le_refl _) (Zes b n hn h) (by simp) (by rw[Qnj];omega) (by omega)
  obtain⟨v3,k3,o3, -⟩:=Z62 (T22 b) (k:=.i64) (i:=0) Qcl (by omega) o2 (by omega) (by omega)
  have a2:Old h h2:=b2.old (Old.refl _) o1
  simp[c0,l0,h0,wz,w0,hp,hp',k1,k2,k3]
  exact hk v3 h2 (by show Own h2 h.next 1 v3 0 [];simpa using o3) a2
end
def Yvt(l:List (Value × List Int)):List Int:=(l.map (·.2)).flatten
theorem Zkb{l:List (Value × List Int)}{i:Nat}{p:Value × List Int}(h:l[i]? = some p):Yvt (l.take (i+1))=Yvt (l.take i)++p.2:=by
 rw[List.take_succ,h]
 simp[Yvt]
theorem Z0a(l:List (Value × List Int))(i:Nat):(Yvt (l.take i)).length<=(Yvt l).length:=by
 have e:Yvt l=Yvt (l.take i)++Yvt (l.drop i):=by unfold Yvt;rw[<- List.flatten_append,<- List.map_append,List.take_append_drop]
 rw[e,List.length_append]
 omega
def CC1(sv:Value)(items:List (Value × List Int))(h:Heap)(k:Nat)(s:St):Prop:=∃ (t:Tr Value) (i:Nat),s=⟨⟨36,t⟩,[],h⟩/\t.get 0=some sv/\t.get 9=some sv/\t.get 10=some (.int .i64 (items.length:Int))/\t.get 3=some (.int .i64 ((Yvt (items.take i)).length:Int))/\t.get 11=some (.int .i64 (i:Int))/\i<=items.length/\k=items.length-i
def CC2(sv:Value)(items:List (Value × List Int))(h:Heap)(k:Nat)(s:St):Prop:=∃ (t:Tr Value) (h1:Heap) (o:Value) (i:Nat),s=⟨⟨36,t⟩,[],h1⟩/\t.get 25=some sv/\t.get 26=some (.int .i64 (items.length:Int))/\t.get 6=some o/\t.get 27=some (.int .i64 (i:Int))/\i<=items.length/\k=items.length-i/\OB h1 h.next o (Yvt (items.take i))/\Old h h1
section
attribute [local simp] Vl
theorem Zyw(b:Nat){h:Heap}{sv:Value}{items:List (Value × List Int)}(ss:Sl h 1 sv items.length (items.map (·.1)))(hn:items.length<=1000000)(its:∀ p ∈ items,SB h p.1 p.2)(hl:(Yvt items).length < 1000000000)(K:KP)
  (hk:∀ v h',OB h' h.next v (Yvt items)->Old h h'->K (.ret v) h'):FK b 70 [sv] h K:=by
 refine FF b (Vl b) Qxz Q2s Q2m rfl ?_
 have lenS:∀ hx,Qns (E b).toEnv 72 sv hx=some (.int .i64 (items.length:Int)):=fun hx=>Qc7 (T72 b) ss
 simp[Uz,Qbi,Qqy,Qt,Qsy,Qai,Qa5,Qy,Z6a,U9,Qad,lenS]
 refine Qbo (CC1 sv items h) items.length ⟨_,0,rfl,by simp,by simp,by simp,by simp[Yvt],by simp,by omega,rfl⟩ ?_
 rintro k s' ⟨t,i,rfl,t0,t9,t10,t3,t11,hi,rfl⟩ _
 by_cases hlt:i < items.length
 ·have hlt':(i:Int) < (items.length:Int):=by omega
  obtain⟨⟨v,x⟩,hpi⟩:∃ p,items[i]? = some p:=⟨_,List.getElem?_eq_getElem hlt⟩
  obtain⟨bk,off,q1,q2,q3, -⟩:=Xih (T72 b) Qzg ss (k:=.i64) (i:=(i:Int)) (by omega) (by omega)
  have q4:Yp h bk off=some v:=by
   have:=q3 0 (by omega)
   simpa[hpi]using this
  have sx:=its (v,x) (List.mem_of_getElem? hpi)
  have len:=fun hx=>Qtf (b:=b) (h1:=hx) sx
  have hw:=wS (i:=i) (by omega)
  have e1:=Zkb hpi
  have e2:=Z0a items (i+1)
  rw[e1,List.length_append]at e2
  simp only at e2 sx len
  have w1:IntKind.i64.wrap (((Yvt (items.take i)).length:Int)+(x.length:Int))=((Yvt (items.take i)).length:Int)+(x.length:Int):=Ju (by omega) (by omega)
  have n1:¬ ((Yvt (items.take i)).length:Int)+(x.length:Int) < 0:=by omega
  simp[Uz,Qbi,Qqy,Qt,Qsy,Qai,Qa5,Qy,Z6a,U9,Qad,t0,t9,t10,t3,t11,hlt',q2,q4,len,w1,n1,hw]
  refine⟨items.length-(i+1),by omega,_,i+1,rfl,by simp[t0],by simp[t9],by simp[t10],?_,by simp,by omega,rfl⟩
  rw[e1]
  simp
 ·have hlt':¬ (i:Int) < (items.length:Int):=by omega
  have : i=items.length:=by omega
  subst this
  rw[List.take_of_length_le (Nat.le_refl _)]at t3
  simp[Uz,Qbi,Qqy,Qt,Qsy,Qai,Qa5,Qy,Z6a,U9,Qad,t0,t9,t10,t3,t11]
  refine Z58 b _ hl _ fun v0 h0 o0 a0 => ?_
  simp[Uz,Qbi,Qqy,Qt,Qsy,Qai,Qa5,Qy,Z6a,U9,Qad,t0,lenS]
  refine Qbo (CC2 sv items h) items.length ⟨_,h0,v0,0,rfl,by simp,by simp,by simp,by simp,by omega,rfl,by simpa[Yvt]using o0,a0⟩ ?_
  rintro k s' ⟨t,h1,o,i,rfl,t25,t26,t6,t27,hi,rfl,ob,hold⟩ _
  by_cases hlt:i < items.length
  ·have hlt':(i:Int) < (items.length:Int):=by omega
   obtain⟨⟨v,x⟩,hpi⟩:∃ p,items[i]? = some p:=⟨_,List.getElem?_eq_getElem hlt⟩
   obtain⟨bk,off,q1,q2,q3, -⟩:=Xih (T72 b) Qzg (ss.old hold) (k:=.i64) (i:=(i:Int)) (by omega) (by omega)
   have q4:Yp h1 bk off=some v:=by
    have:=q3 0 (by omega)
    simpa[hpi]using this
   have sx:=its (v,x) (List.mem_of_getElem? hpi)
   have hw:=wS (i:=i) (by omega)
   have e1:=Zkb hpi
   have e2:=Z0a items (i+1)
   rw[e1,List.length_append]at e2
   simp only at e2 sx
   obtain⟨v',h',k1,k2,k3⟩:=Xkr (b:=b) ob hold.1 (sx.old hold) (by omega)
   simp[Uz,Qbi,Qqy,Qt,Qsy,Qai,Qa5,Qy,Z6a,U9,Qad,t25,t26,t6,t27,hlt',q2,q4,k1,hw]
   refine⟨items.length-(i+1),by omega,_,h',v',i+1,rfl,by simp[t25],by simp[t26],by simp,by simp,by omega,rfl,?_,k3.old hold ob⟩
   rw[e1]
   exact k2
  ·have hlt':¬ (i:Int) < (items.length:Int):=by omega
   have : i=items.length:=by omega
   subst this
   rw[List.take_of_length_le (Nat.le_refl _)]at ob
   simp[Uz,Qbi,Qqy,Qt,Qsy,Qai,Qa5,Qy,Z6a,U9,Qad,t25,t26,t6,t27]
   exact hk o h1 ob hold
theorem Yiv(b:Nat){h:Heap}{v1 v2:Value}{xs ys:List Int}(s1:SB h v1 xs)(s2:SB h v2 ys)(hl:xs.length+ys.length < 1000000000)(K:KP)(hk:∀ v h',OB h' h.next v (xs++ys)->Old h h'->K (.ret v) h') :
  FK b 51 [v1,v2] h K:=by
 refine FF b (Qbq b) X8v Y4p Ysp rfl ?_
 obtain⟨hA,eA⟩:∃ hA,hA=h.push (.cells true 1 [v1,v2]):=⟨_,rfl⟩
 have bl:Xc (E b).toEnv 72 2 [(0,v1),(1,v2)] h=some (.slice (some ⟨h.next,0,none⟩) 2 2,hA):=by
  obtain⟨n1,c1⟩:=Xgp s1.one
  obtain⟨n2,c2⟩:=Xgp s2.one
  rw[eA]
  exact Z81 b h v1 v2 n1 c1 n2 c2
 have aA:=Qk4 eA
 have ss:Sl hA 1 (.slice (some ⟨h.next,0,none⟩) 2 2) 2 [v1,v2]:=(Own.new (n0:=0) (z:=1) (Nat.zero_le _) (by rw[eA,Heap.get_push,if_pos rfl]) rfl (by decide) (.inr rfl)).sl
 simp[Qxi,Xll,Qbq,Xah,bl]
 refine Zyw b (items:=[(v1,xs),(v2,ys)]) ss (by simp) (fun p hp => ?_) (by simpa[Yvt]using hl) _ fun v h' o a => ?_
 ·simp at hp
  rcases hp with rfl | rfl
  ·exact s1.old aA
  ·exact s2.old aA
 ·simp[Qxi,Xll,Qbq,Xah]
  exact hk v h' (by
   have q:=o.low aA.1
   have e:Yvt [(v1,xs),(v2,ys)]=xs++ys:=by simp[Yvt]
   rwa [e]at q) (aA.trans a)
end
theorem gn1(b:Nat):(1 < (E b).G.n)=True:=eq_true (by show 1 < nv;decide)
section
attribute [local simp] Qgt Qlx Zg Wt Wu Xcv Qze Y8l Q88 Qif Qi9 Qbq Xrg Q3b Xu1 Xvv Qt Xly Q8y Qy Qzi Qp2 Qz5 Vx U7 Qy6 Qy1
theorem Zg9(b:Nat){h:Heap}(laid:Ab.LaidIn h laidAll){bv:Value}{xs:List Int}(s:SB h bv xs){n:Nat}(hn:n < 253)(hl:xs.length < 999999999)(K:KP)(hk:∀ v h',OB h' h.next v (xs ++ [(n:Int)])->Old h h'->K (.ret v) h') :
  FK b 20 [bv,.int .i64 (n:Int)] h K:=by
 refine FF b (Zg b) Xwx Y3w Ye5 rfl ?_
 have g1:h.get 1=some (.cells false 0 Qt6):=laid (1,Qt6) (by simp[laidAll])
 have ld:Yp h 1 2=some (.int .u64 253):=by rw[Xm g1];rfl
 have hx:Xq (E b).toEnv 102 (.pointer (some ⟨1,0,none⟩)) (.int .i64 0)=some (.pointer (some ⟨1,0,none⟩)):=by simpa using Xcv b (bk:=1) (o:=0) (k:=.i64) (i:=0) ⟨by omega,by omega⟩
 have w1:IntKind.u64.wrap (n:Int)=(n:Int):=Y9f (by omega) (by omega)
 have w2:IntKind.u8.wrap (n:Int)=(n:Int):=Z7n (by omega)
 have c1:(n:Int) < 253:=by omega
 have c2:n < 253:=hn
 simp[gn1,hx,ld,w1,w2,c1,c2,Qjk]
 refine Yiv b (v2:=.slice (some ⟨h.next,0,none⟩) 1 1) (ys:=[(n:Int)]) (s.old (Old.push _ _)) (SB.push (xs:=[(n:Int)]) (by simp)) (by simp;omega) _ fun v h' o a => ?_
 simp
 exact hk v h' (o.low (Nat.le_succ _)) ((Old.push _ _).trans a)
end
theorem Xrv(seed:List Nat):∀ n i,Qa8 seed (n+1) i=Qa8 seed n i++Bl.keyed seed [i+n]
 | 0,i=>by simp[Qa8]
 | n+1,i=>by
  rw[Qa8,Xrv seed n (Nat.succ i)]
  conv=>rhs;rw[Qa8]
  rw[List.append_assoc]
  congr 3
  simp
  omega
theorem Zs8(k l:List Nat):∀ x ∈ Bl.keyed k l,x < 256:=by
 unfold Bl.keyed
 split <;> exact Zf4 _
def NWI(sv:Value)(seed:List Nat)(h:Heap)(ν:Nat)(k:Nat)(s:St):Prop:=∃ (t:Tr Value) (h1:Heap) (i:Nat),s=⟨⟨17,t⟩,[],h1⟩/\t.get 0=some sv/\t.get 3=some (.pointer (some ⟨ν,0,none⟩))/\t.get 5=some (.int .i64 (i:Int))/\i<=32/\k=32-i/\h1.get ν=some (.cells true 1 ((Qa8 seed i 1).map u8v++List.replicate ((32-i)*32) (.int .u8 0)))/\Old h h1
section
attribute [local simp] Qp6 Q10 U1 Qt Qy Zg Zi X1x Zmo Qb7
theorem Jc0(b:Nat){h:Heap}(laid:Ab.LaidIn h laidAll){sv:Value}{seed:List Nat}(s:SN h sv seed)(hl:seed.length < 1000000000)(K:KP)(hk:∀ ν h',h'.get ν=some (.cells true 1 ((Qa8 seed 32 1).map u8v))->h.next<=ν->Old h h'->K (.ret (.pointer (some ⟨ν,0,none⟩))) h') :
  FK b 5 [sv] h K:=by
 refine FF b (U1 b) Zdr Zwz Zqb rfl ?_
 obtain⟨hA,eA⟩:∃ hA,hA=h.push (.cells true 1 (List.replicate 1024 (.int .u8 0))):=⟨_,rfl⟩
 have alA:Vt (E b).toEnv 61 h=some (.pointer (some ⟨h.next,0,none⟩),hA):=by rw[eA];exact Zsc b h
 have aA:=Qk4 eA
 have gA:hA.get h.next=some (.cells true 1 (List.replicate 1024 (.int .u8 0))):=by rw[eA,Heap.get_push,if_pos rfl]
 simp[Zsc,-Zsc,alA]
 refine Qbo (NWI sv seed h h.next) 32 ⟨_,hA,0,rfl,by simp,by simp,by simp,by omega,rfl,by simpa[Qa8]using gA,aA⟩ ?_
 rintro k s' ⟨t,h1,i,rfl,t0,t3,t5,hi,rfl,g1,hold⟩ _
 by_cases hlt:i < 32
 ·have hlt':(i:Int) < 32:=by omega
  have hw:=wS (i:=i) (by omega)
  simp[Zsc,t0,t3,t5,hlt',hw]
  refine Zg9 b (Laid.old laid hold) (bv:=.slice none 0 0) (xs:=[]) (n:=i+1) Sl.nil (by omega) (by simp) _ fun v h2 o2 a2 => ?_
  have s2:SN h2 v [i+1]:=o2.sl
  simp[Zsc,t0,t3,t5]
  refine Z0x b (Xgh (Laid.old laid (hold.trans a2))) (s.old (hold.trans a2)) s2 hl (by simp) _ fun h3 a3 => ?_
  obtain⟨dg,hdg⟩:∃ d,d=Bl.keyed seed [i+1]:=⟨_,rfl⟩
  rw[<- hdg]
  have kl:dg.length=32:=by rw[hdg];exact Qwi _ _
  have g3:=(a2.trans a3).get g1
  have l3:=Heap.get_lt g3
  have kf:((Qa8 seed i 1).map u8v).length=i*32:=by rw[List.length_map,Xc0]
  have hx:Xq (E b).toEnv 59 (.pointer (some ⟨h.next,0,none⟩)) (.int .i64 (i:Int))=some (.pointer (some ⟨h.next,i*32,none⟩)):=by simpa using Zmo b (bk:=h.next) (o:=0) (k:=.i64) (i:=(i:Int)) ⟨by omega,by omega⟩
  obtain⟨h4,e4⟩:∃ h4,h4=h3.set h.next (some (.cells true 1 ((Qa8 seed (i+1) 1).map u8v++List.replicate ((32-(i+1))*32) (.int .u8 0)))):=⟨_,rfl⟩
  have st:Jl h3 h.next (i*32) (dg.map u8v)=some h4:=by
   rw[Zx g3 (by rw[List.length_append,kf,List.length_map,kl,List.length_replicate];omega),e4]
   congr 4
   rw[<- kf,List.take_left,Xrv,List.map_append,show 1+i=i+1 by omega,<- hdg,<- List.drop_drop,List.drop_left,List.drop_replicate,List.length_map,kl,show(32-i)*32-32=(32-(i+1))*32 by omega]
  have g4:h4.get h.next=some (.cells true 1 ((Qa8 seed (i+1) 1).map u8v++List.replicate ((32-(i+1))*32) (.int .u8 0))):=by rw[e4,Heap.get_set _ _ _ _ l3,if_pos rfl]
  have a4:Old h h4:=by rw[e4];exact(hold.trans (a2.trans a3)).set _ (Nat.le_refl _) l3
  simp[Zsc,t0,t3,t5,hx,kl,st,hw]
  exact⟨32-(i+1),by omega,_,h4,i+1,rfl,by simp[t0],by simp[t3],by simp,by omega,rfl,g4,a4⟩
 ·have hlt':¬ (i:Int) < 32:=by omega
  have : i=32:=by omega
  subst this
  simp[Zsc,t0,t3,t5]
  exact hk h.next h1 (by simpa using g1) (Nat.le_refl _) hold
end
end Go.Proofs.YtgmelhgoiepoaaaGreatDoor
end
