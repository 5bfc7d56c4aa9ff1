import Derived.Test.YtapodfgjkmddlaaGreatDoorBlA
import Derived.Test.YtapodfgjkmddlaaGreatDoorScA
import Derived.Test.YtapodfgjkmddlaaGreatDoorFA
set_option linter.all false
noncomputable section
namespace Go.Proofs.YtapodfgjkmddlaaGreatDoor
open Go Go.Ab
set_option maxRecDepth 100000
def Jna(b:Nat){h:Heap}(hl:Ab.LaidIn h Qme)(p8:Bl.P8){blk:Nat}{l:List Nat}(hg:h.get blk=some (.cells true 1 (l.map u8v)))(h64:l.length=64)(count:Nat)(last:Bool)(K:KP)(hk:K (.ret (p8v (Bl.take p8 l count last))) h) :
  FK b 102 [p8v p8,pO blk 0,.int .u64 (.ofNat count),.bool last] h K:=by
 refine⟨_,_,?_,ab _,hk⟩;refine Yqo (k:=100) (m:=4) mixed Zvk Zgs (fun b=>Jk6 b p8.h0 p8.h1 p8.h2 p8.h3 p8.h4 p8.h5 p8.h6 p8.h7 count l h64 last) rfl hl Zqc (bs:=[blk]) rfl (by simp) (fun k d r hd hr => ?_)
   (Qcr (Qm4 rfl) (Qcr (Zjt _ _) (Qcr (Qm4 rfl) (Qcr (Qm4 rfl) Q6d))))
 cases k with
 | zero=>simp at hd hr;subst hd;subst hr;exact⟨hg,Yxt _⟩
 | succ k=>simp at hd
abbrev SN(h:Heap)(v:Value)(l:List Nat):Prop:=Sl h 1 v l.length (l.map u8v)
def SN.sb{h:Heap}{v:Value}{l:List Nat}(s:SN h v l):SB h v (l.map Int.ofNat):=by
 have e:(l.map Int.ofNat).map i8=l.map u8v:=by rw[bL];rfl
 rw[SB,e,aL];exact s
def SN.of{h:Heap}{v:Value}{xs:List Int}(s:SB h v xs)(hb:Bytes xs):SN h v (xs.map Int.toNat):=by
 have e:(xs.map Int.toNat).map u8v=xs.map i8:=by
  rw[bL];refine bA fun z hz => ?_;have:=hb z hz;show Value.int .u8 (Int.ofNat z.toNat)=.int .u8 z;rw[show Int.ofNat z.toNat=z from d6 this.1]
 rw[SN,e,aL];exact s
def Joe(b:Nat){h:Heap}{B:Nat}{ds:List Value}{v:Value}{l:List Nat}(hg:h.get B=some (.cells true 1 ds))(hd:ds.length=64)(s:SN h v l) :
  ∃ h',Ybj (E b).toEnv 45 (.slice (some ⟨B,0,none⟩) 64 64) v h=some (.int .i64 ((min l.length 64:Nat):Int),h')/\h'.get B=some (.cells true 1 ((l.take 64).map u8v++ds.drop (min l.length 64)))/\h'.next=h.next/\∀ c,c≠B->h'.get c=h.get c:=by
 have hmin:Nat.min l.length 64=min l.length 64:=rfl;have hlen:X7n v=some l.length:=by rcases s with⟨c,rfl,_,e,_⟩ | ⟨bk,o,c,ow,z',pre,post,rfl,_⟩ <;> simp_all [X7n]
 have hsrc:Zzn 1 (Nat.min l.length 64) v h=some ((l.take 64).map u8v):=by
  rcases s with⟨c,rfl,_,e,e2⟩ | ⟨bk,o,c,ow,z',pre,post,rfl,h1,h2,h3, -⟩
  ·have : l=[]:=aY e;subst this;simp[Zzn]
  ·have h4:Q72 (Nat.min l.length 64*1) ((pre++l.map u8v++post).drop o)=some ((l.take 64).map u8v):=by
    rw[hmin,<- h2,aM,bZ,Q2o (by simp;omega),aF (by simp;omega),<- ee,dx];congr 2;rcases eg l.length 64 with q | q
    ·rw[dT q,aj (ab _),aj q]
    ·rw[dM q]
   simp only[Zzn,Ab.cellsAt,h1,h4]
 have hr:R45.desc=.slice 5:=(T45 b).d;cases hc:(l.take 64).map u8v with
 | nil =>
  have : l=[]:=by
   cases l with
   | nil=>rfl
   | cons x l=>simp at hc
  subst this;refine⟨h,?_,by simpa using hg,rfl,fun _ _=>rfl⟩;rw[hc]at hsrc;simp only[Ybj,Xp4,hr,hlen,Z58,Qjp,hsrc]
 | cons x xs =>
  have hle:(x::xs).length<=ds.length:=by rw[<- hc,hd];simp;omega
  have hst:storeAt h ⟨B,0,none⟩ (x::xs)=some (h.set B (some (.cells true 1 ((x::xs)++ds.drop (x::xs).length)))):=by
   simp only[storeAt,hg];rw[Qq8 (by simpa using hle)];simp
  rw[hc]at hsrc;refine⟨h.set B (some (.cells true 1 ((x::xs)++ds.drop (x::xs).length))),?_,?_,rfl,fun c hc=>by rw[gY (Heap.get_lt hg),if_neg (Ne.symm hc)]⟩
  ·simp only[Ybj,Xp4,hr,hlen,Z58,Qjp,hsrc,hst];rfl
  ·rw[gY (Heap.get_lt hg),if_pos rfl];congr 4;rw[<- hc,aL,br,Nat.min_comm]
def Y27:∀ (n m:Nat) (h:Bl.P8) (text:List Nat) (count:Nat),text.length < n->text.length < m->Bl.blocks n h text count=Bl.blocks m h text count
 | 0,_,_,_,_,h,_=>by omega
 | n+1,0,_,_,_,_,h=>by omega
 | n+1,m+1,h,text,count,h1,h2=>by
  simp only[Bl.blocks];cases hb:Nat.ble text.length 64 with
  | true=>rfl
  | false =>
   have : ¬ text.length<=64:=fun q=>by rw[<- bU,hb]at q;cases q
   exact Y27 n m _ _ _ (by rw[bm];omega) (by rw[bm];omega)
def Jk1(p8:Bl.P8)(text:List Nat)(count:Nat):Bl.P8:=Bl.blocks text.length.succ p8 text count
def Jfn{p8:Bl.P8}{text:List Nat}{count:Nat}(h:text.length<=64):Jk1 p8 text count=Bl.take p8 text (count+text.length) true:=by
 simp[Jk1,Bl.blocks,Xhw h]
def Jdk{p8:Bl.P8}{text:List Nat}{count:Nat}(h:64 < text.length):Jk1 p8 text count=Jk1 (Bl.take p8 (text.take 64) (count+64) false) (text.drop 64) (count+64):=by
 have e:Nat.ble text.length 64=false:=by rw[bJ];intro q;rw[bU]at q;omega
 simp only[Jk1,Bl.blocks,e];exact Y27 text.length (text.drop 64).length.succ _ _ _ (by rw[bm];omega) (bD _)
def Pad(l l':List Nat):Prop:=∃ n,l'=l++List.replicate n 0
def Q9g{l l':List Nat}(p:Pad l l'):∃ a r r',(∀ {A:Type} (K:Nat->List Nat->A),Bl.nx l K=K a r)/\(∀ {A:Type} (K:Nat->List Nat->A),Bl.nx l' K=K a r')/\Pad r r':=by
 obtain⟨n,rfl⟩:=p
 match l with
 | a::b::c::d::l=>exact⟨_,_,_,fun _=>rfl,fun _=>rfl,n,rfl⟩
 | [a,b,c] =>
  match n with
  | 0=>exact⟨_,_,_,fun _=>rfl,fun _=>rfl,0,rfl⟩
  | n+1=>exact⟨_,_,_,fun _=>rfl,fun _=>rfl,n,rfl⟩
 | [a,b] =>
  match n with
  | 0=>exact⟨_,_,_,fun _=>rfl,fun _=>rfl,0,rfl⟩
  | 1=>exact⟨_,_,_,fun _=>rfl,fun _=>rfl,0,rfl⟩
  | n+2=>exact⟨_,_,_,fun _=>rfl,fun _=>rfl,n,rfl⟩
 | [a] =>
  match n with
  | 0=>exact⟨_,_,_,fun _=>rfl,fun _=>rfl,0,rfl⟩
  | 1=>exact⟨_,_,_,fun _=>rfl,fun _=>rfl,0,rfl⟩
  | 2=>exact⟨_,_,_,fun _=>rfl,fun _=>rfl,0,rfl⟩
  | n+3=>exact⟨_,_,_,fun _=>rfl,fun _=>rfl,n,rfl⟩
 | [] =>
  match n with
  | 0=>exact⟨_,_,_,fun _=>rfl,fun _=>rfl,0,rfl⟩
  | 1=>exact⟨_,_,_,fun _=>rfl,fun _=>rfl,0,rfl⟩
  | 2=>exact⟨_,_,_,fun _=>rfl,fun _=>rfl,0,rfl⟩
  | 3=>exact⟨_,_,_,fun _=>rfl,fun _=>rfl,0,rfl⟩
  | n+4=>exact⟨_,_,_,fun _=>rfl,fun _=>rfl,n,rfl⟩
def Jek{l l':List Nat}(p:Pad l l'){A:Type}(K:Nat->Nat->Nat->Nat->Nat->Nat->Nat->Nat->Nat->Nat->Nat->Nat->Nat->Nat->Nat->Nat->A):Bl.words l' K=Bl.words l K:=by
 unfold Bl.words;obtain⟨_,_,_,a0,c0,p⟩:=Q9g p;obtain⟨_,_,_,a1,c1,p⟩:=Q9g p;obtain⟨_,_,_,a2,c2,p⟩:=Q9g p;obtain⟨_,_,_,a3,c3,p⟩:=Q9g p;obtain⟨_,_,_,a4,c4,p⟩:=Q9g p;obtain⟨_,_,_,a5,c5,p⟩:=Q9g p;obtain⟨_,_,_,a6,c6,p⟩:=Q9g p;obtain⟨_,_,_,a7,c7,p⟩:=Q9g p;obtain⟨_,_,_,a8,c8,p⟩:=Q9g p;obtain⟨_,_,_,a9,c9,p⟩:=Q9g p;obtain⟨_,_,_,a10,c10,p⟩:=Q9g p;obtain⟨_,_,_,a11,c11,p⟩:=Q9g p;obtain⟨_,_,_,a12,c12,p⟩:=Q9g p;obtain⟨_,_,_,a13,c13,p⟩:=Q9g p;obtain⟨_,_,_,a14,c14,p⟩:=Q9g p;obtain⟨_,_,_,a15,c15,p⟩:=Q9g p;rw[a0,c0,a1,c1,a2,c2,a3,c3,a4,c4,a5,c5,a6,c6,a7,c7,a8,c8,a9,c9,a10,c10,a11,c11,a12,c12,a13,c13,a14,c14,a15,c15]
def Jjc(p8:Bl.P8){l l':List Nat}(p:Pad l l')(count:Nat)(last:Bool):Bl.take p8 l' count last=Bl.take p8 l count last:=by
 obtain⟨h0,h1,h2,h3,h4,h5,h6,h7⟩:=p8;simp only[Bl.take,Jek p]
def Z03(p:Bl.P8):List Nat:=[p.h0,p.h1,p.h2,p.h3,p.h4,p.h5,p.h6,p.h7]
def Qu2(p:Bl.P8):(Bl.out p).length=32:=by obtain⟨_,_,_,_,_,_,_,_⟩:=p;rfl
def Jq4(p:Bl.P8){q r w:Nat}(hq:q < 8)(hr:r < 4)(hw:(Z03 p)[q]? = some w):(Bl.out p)[4*q+r]? = some (w / 2 ^ (8*r) % 256):=by
 obtain⟨h0,h1,h2,h3,h4,h5,h6,h7⟩:=p;have hq':q=0∨q=1∨q=2∨q=3∨q=4∨q=5∨q=6∨q=7:=by omega
 have hr':r=0∨r=1∨r=2∨r=3:=by omega
 rcases hq' with rfl | rfl | rfl | rfl | rfl | rfl | rfl | rfl <;> rcases hr' with rfl | rfl | rfl | rfl <;>
  (simp only[Z03,List.getElem?_cons_succ,List.getElem?_cons_zero,ar]at hw;subst hw;first | rfl | (simp[Bl.out,Bl.by4];rfl) | simp[Bl.out,Bl.by4])
def Ju3(x:Nat):Qfz (binOp .shr 166 (.int .u32 (.ofNat x)) (.int .i64 0))=some (.int .u32 (Int.fdiv (.ofNat x) (2 ^ 0))):=kR
def Juf(x:Nat):Qfz (binOp .shr 166 (.int .u32 (.ofNat x)) (.int .i64 8))=some (.int .u32 (Int.fdiv (.ofNat x) (2 ^ 8))):=kR
def Jql(x:Nat):Qfz (binOp .shr 166 (.int .u32 (.ofNat x)) (.int .i64 16))=some (.int .u32 (Int.fdiv (.ofNat x) (2 ^ 16))):=kR
def Jre(x:Nat):Qfz (binOp .shr 166 (.int .u32 (.ofNat x)) (.int .i64 24))=some (.int .u32 (Int.fdiv (.ofNat x) (2 ^ 24))):=kR
def Jt7(x:Nat){r:Nat}(hr:r < 4):Qfz (binOp .shr 166 (.int .u32 (.ofNat x)) (.int .i64 (8*(r:Int))))=some (.int .u32 (Int.fdiv (.ofNat x) (2 ^ (8*r)))):=by
 have hr':r=0∨r=1∨r=2∨r=3:=by omega
 rcases hr' with rfl | rfl | rfl | rfl
 ·exact Ju3 x
 ·exact Juf x
 ·exact Jql x
 ·exact Jre x
def Ji2(x r:Nat):IntKind.u8.wrap (Int.fdiv (.ofNat x) (2 ^ (8*r)))=.ofNat (x / 2 ^ (8*r) % 256):=by
 have e:Int.fdiv (.ofNat x) (2 ^ (8*r))=.ofNat (x / 2 ^ (8*r)):=by
  have : ((2:Int) ^ (8*r))=Int.ofNat (2 ^ (8*r)):=by simp
  rw[this];show Int.fdiv (x:Int) ((2 ^ (8*r):Nat):Int)=((x / 2 ^ (8*r):Nat):Int);rw[cx _ (Int.natCast_nonneg _)];exact(Int.natCast_ediv _ _).symm
 rw[e];show((Int.ofNat (x / 2 ^ (8*r))) % (2 ^ 8:Int))=_;exact(Int.natCast_emod _ _).symm
def z32:List Value:=List.replicate 32 zU
def OI(R0 W:Nat)(p8:Bl.P8)(h:Heap)(k:Nat)(s:St):Prop:=∃ (t:Tr Value) (h1:Heap) (O i:Nat),s=⟨⟨81,t⟩,[],h1⟩/\t.get 4=some (pO R0 0)/\t.get 6=some (pO W 0)/\t.get 11=some (pO O 0)/\t.get 65=some (.int .i64 (i:Int)) /\
 i<=32/\k=32-i/\h1.get O=some (.cells true 1 (((Bl.out p8).take i).map u8v++List.replicate (32-i) zU))/\h1.get W=some (.cells true 1 ((Z03 p8).map Qg0))/\h1.get R0=some (.cells true 1 z32)/\Old h h1/\h.next<=O/\h.next<=R0/\O≠W/\O≠R0
attribute [local simp] Xj Xt Xl Xn Qz X7 Xs Xg X5 Xr Q6 X2 Yn Ya aop Qg nth Ab.g0 gv gs Qd Qc aev evs evO Qh Tr.get_put St.put Tm.put flat flatA Y9 Qm Qp Qn Qo Qk Ql Qj Qt Qi Q7 Q8 X0 Xk Xh X6 Qu Xf X8 Qy Yh Zx Yg Xw Xm.putAll Qv Q0 Q9 Wj Yq Y1 ldv Yk Vi Nat.testBit loadAt Ab.runT Zc Yl Ys
section
attribute [local simp] Qax Qff Vq Us Xx Wi Xv1 Xiz Xhq Xj5 Xvi Q15 Qvw Q11 Xii Qkx Ql4 Q1a Ye Qaw Qbk Q17 Q0r Q0w Q0t Ypv Xvh Qg3 Ww Wv
def Jnk(b:Nat){h h0:Heap}{R0 W:Nat}{p8:Bl.P8}{t:Tr Value}(t4:t.get 4=some (pO R0 0))(t6:t.get 6=some (pO W 0))(hW:h0.get W=some (.cells true 1 ((Z03 p8).map Qg0)))(hR:h0.get R0=some (.cells true 1 z32))(ho:Old h h0)(hR0:h.next<=R0)
  (K:KP) (hk:∀ h',Old h h'->K (.ret (.agg ⟨(Bl.out p8).map u8v⟩)) h'):Qac (E b) (Q5r Tryz.prog (E b).G) (D0 b) none Xek ⟨⟨81,t⟩,[],h0⟩ (Zh4 (E b) (DD b) Qps K):=by
 have lW:=Heap.get_lt hW;have lR:=Heap.get_lt hR;simp;refine Qdf (OI R0 W p8 h) 32 ⟨_,_,h0.next,0,rfl,by simp[t4],by simp[t6],by simp,by simp,by omega,rfl,by rw[Heap.get_push,if_pos rfl];rfl,by rw[Heap.get_push,if_neg (by omega),hW],by rw[Heap.get_push,if_neg (by omega),hR],ho.push' _,ho.1,hR0,by omega,by omega⟩ ?_;rintro k s' ⟨t,h1,O,i,rfl,t4,t6,t11,t65,hi,rfl,gO,gW,gR,hold,hO,_,n1,n2⟩ _;by_cases hlt:i < 32
 ·have hlt':(i:Int) < 32:=by omega
  obtain⟨q,r,rfl,hq,hr⟩:∃ q r,i=4*q+r/\q < 8/\r < 4:=⟨i / 4,i % 4,by omega,by omega,by omega⟩;obtain⟨w,hw⟩:∃ w,(Z03 p8)[q]? = some w:=⟨_,List.getElem?_eq_getElem (by simpa[Z03]using hq)⟩;have ho1:=Jq4 p8 hq hr hw;have hlt2:4*(q:Int)+(r:Int) < 32:=by omega
  have e1:Int.tdiv ((4*q+r:Nat):Int) 4=(q:Int):=by rw[Int.tdiv_eq_ediv_of_nonneg (by omega)];omega
  have e2:Int.tmod ((4*q+r:Nat):Int) 4=(r:Int):=by rw[Int.tmod_eq_emod_of_nonneg (by omega)];omega
  have e1':Int.tdiv (4*(q:Int)+(r:Int)) 4=(q:Int):=by rw[Int.tdiv_eq_ediv_of_nonneg (by omega)];omega
  have e2':Int.tmod (4*(q:Int)+(r:Int)) 4=(r:Int):=by rw[Int.tmod_eq_emod_of_nonneg (by omega)];omega
  have w1:IntKind.i64.wrap (q:Int)=(q:Int):=Uq (by omega) (by omega);have w2:IntKind.i64.wrap (8*(r:Int))=8*(r:Int):=Uq (by omega) (by omega);have w3:IntKind.i64.wrap (4*(q:Int)+(r:Int)+1)=((4*q+r+1:Nat):Int):=by rw[Uq (by omega) (by omega)];omega
  have x1:V5 (E b).toEnv 168 (pO W 0) (.int .i64 (q:Int))=some (pO W q):=by rw[Xj5 b ⟨by omega,by omega⟩];simp
  have x2:V5 (E b).toEnv 59 (pO O 0) (.int .i64 (4*(q:Int)+(r:Int)))=some (pO O (4*q+r)):=by rw[Ypv b ⟨by omega,by omega⟩];simp
  have g1:Yw h1 W q=some (.int .u32 (.ofNat w)):=by rw[Yi gW,List.getElem?_map,hw];rfl
  obtain⟨bv,hbv⟩:∃ bv:Nat,bv=w / 2 ^ (8*r) % 256:=⟨_,rfl⟩;obtain⟨fv,hfv⟩:∃ fv:Int,fv=Int.fdiv (w:Int) (2 ^ (8*r)):=⟨_,rfl⟩;have sh:Qfz (binOp .shr 166 (.int .u32 (w:Int)) (.int .i64 (8*(r:Int))))=some (.int .u32 fv):=by rw[hfv];exact Jt7 w hr
  have ws:IntKind.u8.wrap fv=(bv:Int):=by rw[hfv,hbv];exact Ji2 w r
  rw[<- hbv]at ho1;obtain⟨h2,e⟩:∃ h2,h2=h1.set O (some (.cells true 1 ((((Bl.out p8).take (4*q+r)).map u8v++List.replicate (32-(4*q+r)) (Value.int .u8 0)).set (4*q+r) (Value.int .u8 (bv:Int))))):=⟨_,rfl⟩;have st:Ur h1 O (4*q+r) [.int .u8 (bv:Int)]=some h2:=by rw[e];exact Qeu gO (by simp[Qu2];omega)
  simp[t4,t6,t11,t65,hlt2,e1',e2',w1,w2,w3,x1,x2,g1,sh,ws,st];have lO:=Heap.get_lt gO;refine⟨32-(4*q+r+1),by omega,_,h2,O,4*q+r+1,rfl,by simp[t4],by simp[t6],by simp[t11],by simp,by omega,rfl,?_,?_,?_,?_,hO,hR0,n1,n2⟩
  ·rw[e,gY lO,if_pos rfl];congr 2;rw[bN _ _ (by simp[Qu2];omega),aQ,ho1];have : 32-(4*q+r)=(32-(4*q+r+1))+1:=by omega
   rw[this,ck];simp[Qu2];have e5:4*q+r-min (4*q+r) 32=0:=by omega
   rw[e5];rfl
  ·rw[e,gY lO,if_neg (by omega),gW]
  ·rw[e,gY lO,if_neg (by omega),gR]
  ·rw[e];exact hold.set _ hO lO
 ·have : i=32:=by omega
  subst this;have ld:Wy h1 O 0 32=some (.agg ⟨(Bl.out p8).map u8v⟩):=by
   rw[V2 gO (by simp[Qu2])];congr 3
  have st:Ur h1 R0 0 ((Bl.out p8).map u8v)=some (h1.set R0 (some (.cells true 1 ((Bl.out p8).map u8v)))):=by
   rw[Wh gR (by simp[z32,Qu2])];congr 4
  have lR:=Heap.get_lt gR;have l32:((Bl.out p8).map u8v).length=32:=by simp[Qu2]
  have g2:Wy (h1.set R0 (some (.cells true 1 ((Bl.out p8).map u8v)))) R0 0 32=some (.agg ⟨(Bl.out p8).map u8v⟩):=by
   rw[V2 (by rw[gY lR,if_pos rfl]) (by simp[Qu2])];congr 3
  simp[t4,t6,t11,t65,ld,Qu2,st,g2];exact hk _ (hold.set _ (by omega) lR)
end
def KI(R0 W:Nat)(FIN:Bl.P8)(h:Heap)(k:Nat)(s:St):Prop:=∃ (t:Tr Value) (h1:Heap) (tv:Value) (l:List Nat) (count:Nat) (p8:Bl.P8),s=⟨⟨81,t⟩,[],h1⟩/\t.get 4=some (pO R0 0)/\t.get 6=some (pO W 0)/\t.get 7=some tv/\t.get 8=some (.int .u64 (count:Int)) /\
 SN h1 tv l/\h1.get W=some (.cells true 1 ((Z03 p8).map Qg0))/\h1.get R0=some (.cells true 1 z32)/\Old h h1/\h.next<=W/\h.next<=R0/\W≠R0/\J4 tv≠some W/\Jk1 p8 l count=FIN/\k=l.length/\count+l.length < 1000000000000/\Ab.LaidIn h1 Qme
def SN.ofB{h:Heap}{v:Value}{l:List Nat}(s:SB h v (l.map Int.ofNat)):SN h v l:=by
 have e:(l.map Int.ofNat).map i8=l.map u8v:=by rw[bL];rfl
 rw[SB,e,aL]at s;exact s
def LaidIn.old{h h':Heap}(l:Ab.LaidIn h Qme)(a:Old h h'):Ab.LaidIn h' Qme:=fun x hx=>a.get (l x hx)
def Zmk{z:Int}(h0:0<=z)(h1:z<=18446744073709551615):IntKind.u64.wrap z=z:=by
 have : IntKind.u64.wrap z=z % 18446744073709551616:=by simp[IntKind.wrap,IntKind.bits,IntKind.signed]
 rw[this];omega
def Jfd(b:Nat)(B:Nat)(h:Heap):Qes (E b).toEnv 171 (pO B 0) none none none h=some (.slice (some ⟨B,0,none⟩) 64 64,h):=kR
def Jh7{h:Heap}(l:Ab.LaidIn h Qme):∀ x ∈ Qme,x.1 < h.next:=fun x hx=>Heap.get_lt (l x hx)
section
attribute [local simp] Qax Qff Vq Us Xx Wi Xv1 Xiz Xhq Xj5 Xvi Q15 Qvw Q11 Qkx Ql4 Q1a Ye Qaw Qbk Q17 Q0r Q0w Q0t Ypv Xvh Qg3 Ww Wv
def Jfc(b:Nat){h h0:Heap}{R0 W:Nat}{p8 FIN:Bl.P8}{t:Tr Value}{tv:Value}{l:List Nat}{count:Nat}(hl:Ab.LaidIn h Qme)(t4:t.get 4=some (pO R0 0))(t6:t.get 6=some (pO W 0))(t7:t.get 7=some tv)(t8:t.get 8=some (.int .u64 (count:Int)))(sn:SN h0 tv l)
  (hW:h0.get W=some (.cells true 1 ((Z03 p8).map Qg0))) (hR:h0.get R0=some (.cells true 1 z32)) (ho:Old h h0) (hw0:h.next<=W) (hR0:h.next<=R0) (hne:W≠R0) (hv:J4 tv≠some W) (hf:Jk1 p8 l count=FIN) (hc:count+l.length < 1000000000000)
  (K:KP) (hk:∀ h',Old h h'->K (.ret (.agg ⟨(Bl.out FIN).map u8v⟩)) h'):Qac (E b) (Q5r Tryz.prog (E b).G) (D0 b) none Q3a ⟨⟨81,t⟩,[],h0⟩ (Zh4 (E b) (DD b) Qps K):=by
 rw[Ww,Qbk];refine Qdf (KI R0 W FIN h) l.length ⟨_,h0,tv,l,count,p8,rfl,t4,t6,t7,t8,sn,hW,hR,ho,hw0,hR0,hne,hv,hf,rfl,hc,LaidIn.old hl ho⟩ ?_;rintro k s' ⟨t,h1,tv,l,count,p8,rfl,t4,t6,t7,t8,sn,gW,gR,hold,_,_,_,hv,hf,rfl,hc,hl1⟩ _;obtain⟨h2,e2⟩:∃ h2,h2=h1.push (.cells true 1 (List.replicate 64 zU)):=⟨_,rfl⟩;have a12:=Qon e2;have n2:=Q8i e2;have gB:h2.get h1.next=some (.cells true 1 (List.replicate 64 zU)):=by rw[e2,Heap.get_push,if_pos rfl]
 obtain⟨h3,c1,c2,c3,c4⟩:=Joe b gB (by simp) (sn.old a12);have a13:Old h1 h3:=⟨by omega,fun c hc=>by rw[c4 c (by omega),a12.2 c hc]⟩;have lenB:=Qmi (b:=b) (h1:=h3) sn.sb;have sn3:SN h3 tv l:=sn.old a13;obtain⟨tv',h4,f1,f2,f3,f4,f5⟩:=Zpw (b:=b) sn3.sb (k:=.i64) (i:=((min l.length 64:Nat):Int)) (by omega) (by simp;omega);have sn4:SN h4 tv' (l.drop 64):=by
  have e:(l.map Int.ofNat).drop (min l.length 64)=(l.drop 64).map Int.ofNat:=by
   rw[<- List.map_drop];congr 1;rcases eg l.length 64 with q | q
   ·rw[dT q,bI (ab _),bI q]
   ·rw[dM q]
  rw[aT,e]at f2;exact SN.ofB f2
 have lenD:∀ hx,Qkc (E b).toEnv 45 tv' hx=some (.int .i64 ((l.length-64:Nat):Int)):=fun hx=>by have:=Qmi (b:=b) (h1:=hx) sn4.sb;rw[aL,bm]at this;exact this
 have a14:Old h1 h4:=a13.trans f3;have gB4:h4.get h1.next=some (.cells true 1 ((l.take 64++List.replicate (64-l.length) 0).map u8v)):=by
  rw[f3.2 _ (by omega),c2];congr 2;rw[aR,List.map_replicate];congr 1;rw[List.drop_replicate];congr 1;omega
 have gW4:h4.get W=some (.cells true 1 ((Z03 p8).map Qg0)):=a14.get gW;have gR4:h4.get R0=some (.cells true 1 z32):=a14.get gR;have ldW:Wy h4 W 0 8=some (p8v p8):=by
  rw[V2 gW4 (by simp[Z03])];rfl
 have lW:=Heap.get_lt gW4;have lW1:=Heap.get_lt gW;have hmin:((min l.length 64:Nat):Int)<=64:=by omega
 have wc:IntKind.u64.wrap ((min l.length 64:Nat):Int)=((min l.length 64:Nat):Int):=Zmk (by omega) (by omega);have wa:IntKind.u64.wrap ((count:Int)+((min l.length 64:Nat):Int))=((count+min l.length 64:Nat):Int):=by rw[Zmk (by omega) (by omega)];omega
 obtain⟨m,hm⟩:∃ m:Nat,m=min l.length 64:=⟨_,rfl⟩;rw[<- hm]at c1 f1 wc wa;have hmx:¬ ((m:Int) < 0):=by omega
 have pd:Pad (l.take 64) (l.take 64++List.replicate (64-l.length) 0):=⟨_,rfl⟩;have l64:(l.take 64++List.replicate (64-l.length) 0).length=64:=by simp;omega
 have key:∀ (last:Bool) (p8':Bl.P8),p8'=Bl.take p8 (l.take 64) (count+m) last->∀ K',K' (.ret (p8v p8')) h4->FK b 102 [p8v p8,pO h1.next 0,.int .u64 (((count+m:Nat):Int)),.bool last] h4 K':=by
  intro last p8' hp K' hk';refine Jna b (LaidIn.old hl1 a14) p8 gB4 l64 (count+m) last K' ?_;rw[Jjc p8 pd,<- hp];exact hk'
 have stW:∀ p8':Bl.P8,Ur h4 W 0 ((Z03 p8').map Qg0)=some (h4.set W (some (.cells true 1 ((Z03 p8').map Qg0)))):=fun p8'=>by
  rw[Wh gW4 (by simp[Z03])];rfl
 have alB:Qbx (E b).toEnv 171 h1=some (pO h1.next 0,h2):=by rw[e2];exact Xii b h1
 simp[Xii,-Xii,alB,t4,t6,t7,t8,Jfd,c1,f1,wc,wa,ldW];have stA:∀ p8':Bl.P8,Qbw (E b).toEnv 168 (pO W 0) (p8v p8') h4=some (h4.set W (some (.cells true 1 ((Z03 p8').map Qg0)))):=fun p8'=>(Xhq b h4 W 0 _ (by simp)).trans (stW p8');have old5:∀ x,Old h (h4.set W x):=fun x=>(hold.trans a14).set _ (by assumption) lW;have gW5:∀ x,(h4.set W x).get W=x:=fun x=>by rw[gY lW,if_pos rfl]
 have gR5:∀ x,(h4.set W x).get R0=some (.cells true 1 z32):=fun x=>by rw[gY lW,if_neg (by assumption),gR4]
 by_cases h64:l.length<=64
 ·have e0:((l.length-64:Nat):Int)=0:=by omega
  have em:m=l.length:=by omega
  have et:l.take 64=l:=aj h64;rw[e0]at lenD;have hF:FIN=Bl.take p8 (l.take 64) (count+m) true:=by rw[<- hf,Jfn h64,em,et]
  simp[lenD];refine key true FIN hF _ ?_;simp[Xii,stA,t6,lenD];refine Jnk b (W:=W) (p8:=FIN) (h:=h) (R0:=R0) (by simp[t4]) (by simp[t6]) (gW5 _) (gR5 _) (old5 _) (by assumption) K hk
 ·have e0:¬ ((l.length-64:Nat):Int)=0:=by omega
  have em:m=64:=by omega
  subst em;have e1:(decide (((l.length-64:Nat):Int)=0))=false:=by simpa using e0
  have hlt:64 < l.length:=by omega
  have e0n:¬ (l.length-64=0):=by omega
  simp only[lenD,Ye,e1];refine key false _ rfl _ ?_;simp[Xii,stA,t6,lenD,e0n];refine⟨l.length-64,by omega,_,_,tv',l.drop 64,count+64,Bl.take p8 (l.take 64) (count+64) false,rfl,by simp[t4],by simp[t6],by simp,by simp,?_,gW5 _,gR5 _,old5 _,by assumption,by assumption,by assumption,?_,by rw[<- hf];exact(Jdk hlt).symm,by simp,by simp;omega,?_⟩
  ·refine Sl.keep sn4 fun c hc hlt => ?_;rw[gY lW,if_neg];rintro rfl;rcases f5 _ hc with q | q
   ·exact hv q
   ·omega
  ·intro q;rcases f5 _ q with q | q
   ·exact hv q
   ·omega
  ·intro x hx;have hlx:=hl1 x hx;have hx2:x.1≠W:=by
    intro q;have:=Jh7 hl x hx;omega
   rw[gY lW,if_neg (Ne.symm hx2)];exact a14.get hlx
end
def gn0(b:Nat):(0 < (E b).G.n)=True:=eq_true (by show 0 < nv;decide)
def Jsz(x:Int):Qfz (binOp .shl 166 (.int .u32 x) (.int .u64 8))=some (.int .u32 (IntKind.u32.wrap (x*2 ^ 8))):=kR
def Jfp(x y:Int):Qfz (binOp .xor 166 (.int .u32 x) (.int .u32 y))=some (.int .u32 (Xzi x y)):=kR
def Jby(k:Nat):Int:=Xzi 1779033703 (Xzi (Xzi 16842752 (IntKind.u32.wrap (IntKind.u32.wrap (k:Int)*2 ^ 8))) 32)
def Jh3:∀ k,k < 33->Jby k=Int.ofNat (Bl.start k).h0:=by decide
def K0(k:Nat):Bl.P8:=Bl.start k
def Y36:∀ n,(Bl.zeros n).map u8v=List.replicate n zU
 | 0=>rfl
 | n+1=>by
  have : (Bl.zeros (n+1)).map u8v=u8v 0::(Bl.zeros n).map u8v:=rfl;rw[this,Y36 n,ck];rfl
def Xod(v:Value):∀ n,Qc2 [v] n=List.replicate n v
 | 0=>rfl
 | n+1=>by simp[Qc2,Xod v n,ck]
section
attribute [local simp] Qax Qff Vq Xx Wi Xv1 Xhq Xj5 Xvi Q15 Q11 Xii Qkx Ql4 Q1a Ye Qaw Qbk Q17 Q0r Q0w Q0t Ypv Xvh Qg3 kON kOC kNN kNP kRR kEN kER kTN kTR kTX kTP kBN kBR kBX kBP kCS kCR kCE kAM
def Zh3(b:Nat){h hA:Heap}(laid:Ab.LaidIn h Qme){R:Nat}{kv tv:Value}{key l:List Nat}{tr:Tr Value}(aA:Old h hA)(hR:h.next<=R)(gA:hA.get R=some (.cells true 1 z32))(sk:SN hA kv key)(sl:SN hA tv l)(hkey:key.length<=32)(hl:l.length < 1000000000)
  (t0:tr.get 0=some kv) (t1:tr.get 1=some tv) (t4:tr.get 4=some (pO R 0)) (K:KP) (hk:∀ h',Old h h'->K (.ret (.agg ⟨(Bl.keyed1 key l).map u8v⟩)) h') :
  Qac (E b) (Q5r Tryz.prog (E b).G) (D0 b) none Xe8 ⟨⟨81,tr⟩,[],hA⟩ (Zh4 (E b) (DD b) Qps K):=by
 have lenk:∀ hx,Qkc (E b).toEnv 45 kv hx=some (.int .i64 (key.length:Int)):=fun hx=>Qa0 (T45 b) sk;have lent:∀ hx,Qkc (E b).toEnv 45 tv hx=some (.int .i64 (l.length:Int)):=fun hx=>Qa0 (T45 b) sl;have h32:¬ (32:Int) < (key.length:Int):=by omega
 have gbeg:h.get 0=some (.cells false 0 Qiu):=laid (0,Qiu) (by simp[Qme]);obtain⟨hB,eB⟩:∃ hB,hB=hA.push (.cells true 1 (List.replicate 8 (.int .u32 0))):=⟨_,rfl⟩;have lA:=Heap.get_lt gA;have aB:=Qon eB;have nB:=Q8i eB;have gB:hB.get hA.next=some (.cells true 1 (List.replicate 8 (.int .u32 0))):=by rw[eB,Heap.get_push,if_pos rfl]
 have alB:Qbx (E b).toEnv 168 hA=some (pO hA.next 0,hB):=by rw[eB];exact Xiz b hA
 have ld0:Wy hA 0 0 8=some (.agg ⟨Qiu⟩):=by
  rw[V2 (aA.get gbeg) (by simp[Qiu])];rfl
 obtain⟨hC,eC⟩:∃ hC,hC=hB.set hA.next (some (.cells true 1 Qiu)):=⟨_,rfl⟩;have lB:=Heap.get_lt gB;have gC:hC.get hA.next=some (.cells true 1 Qiu):=by rw[eC,gY lB,if_pos rfl]
 have stC:Qbw (E b).toEnv 168 (pO hA.next 0) (.agg ⟨Qiu⟩) hB=some hC:=(Xhq b hB hA.next 0 _ (by simp[Qiu])).trans (by rw[Wh gB (by simp[Qiu]),eC];rfl);have ldC:Yw hC hA.next 0=some (.int .u32 1779033703):=by rw[Yi gC];rfl
 obtain⟨hD,eD⟩:∃ hD,hD=hC.set hA.next (some (.cells true 1 (Qiu.set 0 (.int .u32 (Jby key.length))))):=⟨_,rfl⟩;have lC:=Heap.get_lt gC;have stD:Ur hC hA.next 0 [.int .u32 (Jby key.length)]=some hD:=by rw[eD];exact Qeu gC (by simp[Qiu])
 have gD:hD.get hA.next=some (.cells true 1 ((Z03 (Bl.start key.length)).map Qg0)):=by
  rw[eD,gY lC,if_pos rfl,Jh3 _ (by omega)];rfl
 have aC:Old h hC:=by rw[eC];exact(aA.trans aB).set _ (by omega) lB
 have aAD:Old hA hD:=by rw[eD,eC];exact(aB.set _ (ab _) lB).set _ (ab _) (by rw[<- eC];exact lC)
 have aD:Old h hD:=by rw[eD];exact aC.set _ (by omega) lC
 have gR:hD.get R=some (.cells true 1 z32):=by
  rw[eD,gY lC,if_neg (by omega),eC,gY lB,if_neg (by omega)];exact aB.get gA
 have hx0:V5 (E b).toEnv 168 (pO hA.next 0) (.int .i64 0)=some (pO hA.next 0):=Xj5 b ⟨by omega,by omega⟩;obtain⟨a0,ha0⟩:∃ a:Int,a=IntKind.u32.wrap (key.length:Int):=⟨_,rfl⟩;obtain⟨a1,ha1⟩:∃ a:Int,a=IntKind.u32.wrap (a0*2 ^ 8):=⟨_,rfl⟩;obtain⟨a2,ha2⟩:∃ a:Int,a=Xzi 16842752 a1:=⟨_,rfl⟩;obtain⟨a3,ha3⟩:∃ a:Int,a=Xzi a2 32:=⟨_,rfl⟩;obtain⟨a4,ha4⟩:∃ a:Int,a=Jby key.length:=⟨_,rfl⟩;have x0:Q3n (E b).toEnv 3 166 (.int .i64 (key.length:Int))=some (.int .u32 a0):=by rw[ha0];exact Qvw b _ _
 have x1:Qfz (binOp .shl 166 (.int .u32 a0) (.int .u64 8))=some (.int .u32 a1):=by rw[ha1];exact Jsz a0
 have x2:Qfz (binOp .xor 166 (.int .u32 16842752) (.int .u32 a1))=some (.int .u32 a2):=by rw[ha2];exact Jfp _ _
 have x3:Qfz (binOp .xor 166 (.int .u32 a2) (.int .u32 32))=some (.int .u32 a3):=by rw[ha3];exact Jfp _ _
 have x4:Qfz (binOp .xor 166 (.int .u32 1779033703) (.int .u32 a3))=some (.int .u32 a4):=by rw[ha4,Jby,<- ha0,<- ha1,<- ha2,<- ha3];exact Jfp _ _
 rw[<- ha4]at stD;simp[Us,Xiz,Qvw,Ww,Wv,-Xiz,gn0,t0,t1,t4,alB,lenk,lent,h32,ld0,stC,hx0,ldC,stD,-Qvw,x0,x1,x2,x3,x4];have laidD:=LaidIn.old laid aD;have fin:∀ (t:Tr Value) (h0:Heap) (v:Value) (text:List Nat),text=Bl.textOf key l->t.get 4=some (pO R 0)->t.get 6=some (pO hA.next 0)->t.get 7=some v->t.get 8=some (.int .u64 0)->SN h0 v text->Old hD h0->J4 v≠some hA.next ->
   Qac (E b) (Q5r Tryz.prog (E b).G) (D0 b) none Q3a ⟨⟨81,t⟩,[],h0⟩ (Zh4 (E b) (DD b) Qps K):=by
  intro t h0 v text e t4 t6 t7 t8 sn o0 hv;refine Jfc b (count:=0) (FIN:=Jk1 (Bl.start key.length) text 0) laid t4 t6 t7 t8 sn (o0.get gD) (o0.get gR) (aD.trans o0) (by omega) hR (by omega) hv rfl ?_ K fun h' q => ?_
  ·subst e;cases key with
   | nil=>simp[Bl.textOf];omega
   | cons k ks =>
    have z:∀ n,(Bl.zeros n).length=n:=fun n=>by induction n with
     | zero=>rfl
     | succ n ih=>simp[Bl.zeros,ih]
    simp[Bl.textOf,z]at hkey ⊢;omega
  ·rw[e]at *;exact hk h' q
 cases hkc:key with
 | nil =>
  subst hkc;simp[Us,Xiz,Qvw,Ww,Wv,-Ww,t0,t1,t4];refine fin _ hD tv l rfl (by simp[t0,t1,t4]) (by simp[t0,t1,t4]) (by simp[t0,t1,t4]) (by simp[t0,t1,t4]) (sl.old aAD) (Old.refl _) fun q => ?_;have:=sl.blk q;omega
 | cons k ks =>
  have h0:0 < key.length:=by rw[hkc];simp
  rw[<- hkc];have w1:IntKind.i64.wrap (64+(l.length:Int))=((64+l.length:Nat):Int):=by rw[Uq (by omega) (by omega)];omega
  have w2:IntKind.i64.wrap (64-(key.length:Int))=((64-key.length:Nat):Int):=by rw[Uq (by omega) (by omega)];omega
  obtain⟨h1,e1⟩:∃ h1,h1=hD.push (.cells true 1 (List.replicate (64+l.length) zU)):=⟨_,rfl⟩;have a1:=Qon e1;have mk:Qpf (E b).toEnv 45 (.int .i64 0) (.int .i64 ((64+l.length:Nat):Int)) hD=some (.slice (some ⟨hD.next,0,none⟩) 0 (64+l.length),h1):=by
   simp only[Qpf,Xp4,(T45 b).d,Z58];rw[if_pos ⟨by omega,by omega,by omega,by rw[Q6l];omega,by rw[Qjp];omega⟩,Z41,e1];have : (Value.int .u8 0).cells.toList=[.int .u8 0]:=rfl;rw[this,Xod];simp only[aT,Int.toNat_zero]
  have mk':Qpf (E b).toEnv 45 (.int .i64 0) (.int .i64 (64+(l.length:Int))) hD=some (.slice (some ⟨hD.next,0,none⟩) 0 (64+l.length),h1):=by
   have:=mk;rw[show((64+l.length:Nat):Int)=64+(l.length:Int) by omega]at this;exact this
  have o1:Own h1 hD.next 1 (.slice (some ⟨hD.next,0,none⟩) 0 (64+l.length)) 0 []:=.inr ⟨hD.next,64+l.length,1,_,rfl,ab _,by rw[e1,Heap.get_push,if_pos rfl,dU],rfl,by omega,by unfold Ql9;omega,.inr ⟨by unfold Ql9;omega,by simp⟩⟩;obtain⟨v2,h2,c1,o2,b2⟩:=Xcu (T45 b) (tx:=45) (m:=key.length) (ys:=key.map u8v) Qjp (by omega) o1 a1.1 (Ymy (T45 b) Qjp (sk.old (aAD.trans a1))) (by simp) (by rw[Q6l];omega) (by omega);have nz:Ybb (E b).toEnv 3 R5 (.int .i64 ((64-key.length:Nat):Int)) h2=some (64-key.length,List.replicate (64-key.length) zU):=by
   have hi:R3.desc=.int .i64:=kR
   simp only[Ybb,Jcf,hi];rw[if_pos ⟨by omega,by omega,by rw[Q6l];omega,by rw[Qjp];omega⟩,Z41];have : (Value.int .u8 0).cells.toList=[.int .u8 0]:=rfl;rw[this,Xod];simp
  obtain⟨v3,h3,c2,o3,b3⟩:=Xcu (T45 b) (tx:=3) Qjp (by omega) o2 (ai a1.1 b2.1) nz (by simp) (by rw[Q6l];omega) (by omega);have a2:Old hD h2:=b2.old a1 o1;have a3:Old hD h3:=b3.old a2 o2;obtain⟨v4,h4,c3,o4,b4⟩:=Xcu (T45 b) (tx:=45) (m:=l.length) (ys:=l.map u8v) Qjp (by omega) o3 a3.1 (Ymy (T45 b) Qjp (sl.old (aAD.trans a3))) (by simp) (by rw[Q6l];omega) (by omega);have a4:Old hD h4:=b4.old a3 o3;simp[Us,Xiz,Qvw,Ww,Wv,-Ww,t0,t1,t4,h0,lenk,lent,w1,w2,mk',c1,c2,c3];have zl:(Bl.zeros (64-key.length)).length=64-key.length:=by have:=congrArg List.length (Y36 (64-key.length));simpa using this
  have tx:Bl.textOf key l=key++(Bl.zeros (64-key.length)++l):=by rw[hkc];rfl
  have sn:SN h4 v4 (key++(Bl.zeros (64-key.length)++l)):=by
   have:=o4.sl;have e1 : []++key.map u8v++List.replicate (64-key.length) (Value.int .u8 0)++l.map u8v=(key++(Bl.zeros (64-key.length)++l)).map u8v:=by
    rw[aR,aR,Y36];simp
   have e2:0+key.length+(64-key.length)+l.length=(key++(Bl.zeros (64-key.length)++l)).length:=by
    simp only[ae,zl];omega
   rw[e1,e2]at this;exact this
  refine fin _ h4 v4 _ tx.symm (by simp[t0,t1,t4]) (by simp[t0,t1,t4]) (by simp[t0,t1,t4]) (by simp[t0,t1,t4]) sn a4 fun q => ?_;have:=(o4.from q).1;have:=Heap.get_lt gD;omega
def Zl9(b:Nat){h:Heap}(laid:Ab.LaidIn h Qme){kv tv:Value}{key l:List Nat}(sk:SN h kv key)(sl:SN h tv l)(hkey:key.length<=32)(hl:l.length < 1000000000)(K:KP)(hk:∀ h',Old h h'->K (.ret (.agg ⟨(Bl.keyed1 key l).map u8v⟩)) h') :
  FK b 65 [kv,tv] h K:=by
 refine F3 b (Vq b) Xv3 rfl ?_;have lenk:∀ hx,Qkc (E b).toEnv 45 kv hx=some (.int .i64 (key.length:Int)):=fun hx=>Qa0 (T45 b) sk;have h32:¬ (32:Int) < (key.length:Int):=by omega
 obtain⟨hA,eA,aA,gA⟩:=Q2n h z32;have alA:Qbx (E b).toEnv 59 h=some (pO h.next 0,hA):=by rw[eA];exact Us b h
 simp[Us,Xiz,Qvw,Ww,Wv,-Us,-Wv,alA,lenk,h32];exact Zh3 b laid aA (ab _) gA (sk.old aA) (sl.old aA) hkey hl (by simp) (by simp) (by simp) K hk
end
section
attribute [local simp] Xk6 Yrg Xx Vq Wi
def Z5a(b:Nat){h:Heap}(laid:Ab.LaidIn h Qme){tv:Value}{l:List Nat}(sl:SN h tv l)(hl:l.length < 1000000000)(K:KP)(hk:∀ h',Old h h'->K (.ret (.agg ⟨(Bl.keyed1 [] l).map u8v⟩)) h') :
  FK b 101 [tv] h K:=by
 refine F3 b (Xx b) Y7y rfl ?_;obtain⟨hA,eA,aA,gA⟩:=Q2n h z32;have alA:Qbx (E b).toEnv 59 h=some (pO h.next 0,hA):=by rw[eA];exact Us b h
 simp[Us,-Us,alA];refine Zl9 b (LaidIn.old laid aA) (kv:=.slice none 0 0) (key:=[]) Sl.nil (sl.old aA) (by simp) hl _ fun h2 a2 => ?_;have g2:h2.get h.next=some (.cells true 1 z32):=a2.get gA;have kl:(Bl.keyed1 [] l).length=32:=Qu2 _;have l2:=Heap.get_lt g2;have st:Ur h2 h.next 0 ((Bl.keyed1 [] l).map u8v)=some (h2.set h.next (some (.cells true 1 ((Bl.keyed1 [] l).map u8v)))):=by
  rw[Wh g2 (by simp[z32,kl])];congr 4
 have g3:Wy (h2.set h.next (some (.cells true 1 ((Bl.keyed1 [] l).map u8v)))) h.next 0 32=some (.agg ⟨(Bl.keyed1 [] l).map u8v⟩):=by
  rw[V2 (by rw[gY l2,if_pos rfl]) (by simp[kl])];congr 3
 simp[Us,Qg3,st,kl,g3];exact hk _ ((aA.trans a2).set _ (ab _) l2)
end
def Yxp(b:Nat)(B o:Nat)(h:Heap):Qes (E b).toEnv 59 (pO B o) none none none h=some (.slice (some ⟨B,o,none⟩) 32 32,h):=kR
section
attribute [local simp] Qax Qax Qff Vq Xx Wi Xv1 Xiz Xhq Xj5 Xvi Q15 Qvw Q11 Xii Qkx Ql4 Q1a Ye Qaw Qbk Q17 Q0r Q0w Q0t Ypv Xvh Qg3 Ww kON kOC kNN kNP kRR kEN kER kTN kTR kTX kTP kBN kBR kBX kBP kCS kCR kCE kAM
def Jel(b:Nat){h:Heap}(laid:Ab.LaidIn h Qme){kv tv:Value}{key l:List Nat}(sk:SN h kv key)(sl:SN h tv l)(hkl:key.length < 1000000000)(hl:l.length < 1000000000)(K:KP)(hk:∀ h',Old h h'->K (.ret (.agg ⟨(Bl.keyed key l).map u8v⟩)) h') :
  FK b 65 [kv,tv] h K:=by
 by_cases h32:key.length<=32
 ·have e:Bl.keyed key l=Bl.keyed1 key l:=by unfold Bl.keyed;rw[Xhw h32]
  rw[e]at hk;exact Zl9 b laid sk sl h32 hl K hk
 ·have e:Bl.keyed key l=Bl.keyed1 (Bl.keyed1 [] key) l:=by
   unfold Bl.keyed;have : Nat.ble key.length 32=false:=by
    cases hq:Nat.ble key.length 32 with
    | false=>rfl
    | true=>rw[bU]at hq;omega
   rw[this]
  rw[e]at hk;refine F3 b (Vq b) Xv3 rfl ?_;have lenk:∀ hx,Qkc (E b).toEnv 45 kv hx=some (.int .i64 (key.length:Int)):=fun hx=>Qa0 (T45 b) sk;have h32':(32:Int) < (key.length:Int):=by omega
  obtain⟨hA,eA,aA,gA⟩:=Q2n h z32;have alA:Qbx (E b).toEnv 59 h=some (pO h.next 0,hA):=by rw[eA];exact Us b h
  simp[Us,Wv,-Us,-Wv,alA,lenk,h32'];refine Z5a b (LaidIn.old laid aA) (sk.old aA) hkl _ fun h2 a2 => ?_;obtain⟨dg,hdg⟩:∃ d,d=Bl.keyed1 [] key:=⟨_,rfl⟩;rw[<- hdg]at hk ⊢;have kl:dg.length=32:=by rw[hdg];exact Qu2 _
  obtain⟨hB,eB⟩:∃ hB,hB=h2.push (.cells true 1 z32):=⟨_,rfl⟩;have alB:Qbx (E b).toEnv 59 h2=some (pO h2.next 0,hB):=by rw[eB];exact Us b h2
  have gB:hB.get h2.next=some (.cells true 1 z32):=by rw[eB,Heap.get_push,if_pos rfl]
  have lB:=Heap.get_lt gB;obtain⟨hC,eC⟩:∃ hC,hC=hB.set h2.next (some (.cells true 1 (dg.map u8v))):=⟨_,rfl⟩;have stC:Ur hB h2.next 0 (dg.map u8v)=some hC:=by
   rw[Wh gB (by simp[z32,kl]),eC];congr 4;simp[z32,kl]
  have gC:hC.get h2.next=some (.cells true 1 (dg.map u8v)):=by rw[eC,gY lB,if_pos rfl]
  have aC:Old h2 hC:=by rw[eC,eB];exact(Old.push _ _).set _ (ab _) (by rw[<- eB];exact lB)
  simp[Us,Wv,-Us,-Wv,alB,kl,stC,Yxp];refine Zh3 b laid (aA.trans (a2.trans aC)) (ab _) ((a2.trans aC).get gA) (kv:=.slice (some ⟨h2.next,0,none⟩) 32 32) (key:=dg) ?_ (sl.old (aA.trans (a2.trans aC))) (by omega) hl (by simp) (by simp) (by simp) K hk;have:=(Own.new (n0:=0) (z:=1) (n:=32) (c:=32) (bn _) gC (by simp[kl]) (by decide) (.inr rfl)).sl;rw[SN,kl];exact this
end
section
attribute [local simp] Qse Q44 Vo Qzo Qx9 Qzm Xhs X8j
def Jio(b:Nat)(h:Heap)(ν:Nat){o:Int}(ho:o < 1∨32 < o)(K:KP)(hk:K (.ret (.pointer none)) h):FK b 72 [pO ν 0,.int .i64 o] h K:=by
 refine F3 b (Vo b) Q9d rfl ?_;by_cases h1:o < 1
 ·simp[h1];exact hk
 ·have h2:32 < o:=by omega
  simp[h1,h2];exact hk
def Z71(b:Nat)(h:Heap)(ν:Nat){o:Int}(h1:1<=o)(h2:o<=32)(K:KP)(hk:K (.ret (.pointer (some ⟨ν,(o-1).toNat*32,none⟩))) h):FK b 72 [pO ν 0,.int .i64 o] h K:=by
 refine F3 b (Vo b) Q9d rfl ?_;have a1:¬ o < 1:=by omega
 have a2:¬ 32 < o:=by omega
 have w:IntKind.i64.wrap (o-1)=o-1:=Uq (by omega) (by omega);have a3:0<=o-1/\o-1 < ((32:Nat):Int):=⟨by omega,by omega⟩;have hx:V5 (E b).toEnv 127 (pO ν 0) (.int .i64 (o-1))=some (.pointer (some ⟨ν,(o-1).toNat*32,none⟩)):=by rw[X8j b a3];simp
 simp[Qec,a1,a2,w,hx];rw[show o.toNat-1=(o-1).toNat by omega];exact hk
end
def z16:List Value:=List.replicate 16 zU
def Jjl(b:Nat):Zhe (E b).toEnv .neq 135 (.pointer none) (.pointer none)=some (.bool false):=kR
def Z68(b bk o:Nat):Zhe (E b).toEnv .neq 135 (pO bk o) (.pointer none)=some (.bool true):=kR
def Z3w(b:Nat)(B o:Nat)(h:Heap):Qes (E b).toEnv 59 (pO B o) none none none h=some (.slice (some ⟨B,o,none⟩) 32 32,h):=kR
def Jmm(b:Nat)(B o:Nat)(h:Heap):Qes (E b).toEnv 104 (pO B o) none none none h=some (.slice (some ⟨B,o,none⟩) 16 16,h):=kR
def Jrn(b:Nat){h:Heap}{B:Nat}{D:Nat}(hD:0 < D){ds:List Value}{v:Value}{l:List Nat}(hg:h.get B=some (.cells true 1 ds))(hd:ds.length=D)(s:SN h v l) :
  ∃ h',Ybj (E b).toEnv 45 (.slice (some ⟨B,0,none⟩) D D) v h=some (.int .i64 ((min l.length D:Nat):Int),h')/\h'.get B=some (.cells true 1 ((l.take D).map u8v++ds.drop (min l.length D)))/\h'.next=h.next/\∀ c,c≠B->h'.get c=h.get c:=by
 have hmin:Nat.min l.length D=min l.length D:=rfl;have hlen:X7n v=some l.length:=by rcases s with⟨c,rfl,_,e,_⟩ | ⟨bk,o,c,ow,z',pre,post,rfl,_⟩ <;> simp_all [X7n]
 have hsrc:Zzn 1 (Nat.min l.length D) v h=some ((l.take D).map u8v):=by
  rcases s with⟨c,rfl,_,e,e2⟩ | ⟨bk,o,c,ow,z',pre,post,rfl,h1,h2,h3, -⟩
  ·have : l=[]:=aY e;subst this;simp[Zzn]
  ·have h4:Q72 (Nat.min l.length D*1) ((pre++l.map u8v++post).drop o)=some ((l.take D).map u8v):=by
    rw[hmin,<- h2,aM,bZ,Q2o (by simp;omega),aF (by simp;omega),<- ee,dx];congr 2;rcases eg l.length D with q | q
    ·rw[dT q,aj (ab _),aj q]
    ·rw[dM q]
   simp only[Zzn,Ab.cellsAt,h1,h4]
 have hr:R45.desc=.slice 5:=(T45 b).d;cases hc:(l.take D).map u8v with
 | nil =>
  have : l=[]:=by
   cases l with
   | nil=>rfl
   | cons x l=>cases D with
    | zero=>omega
    | succ D=>simp at hc
  subst this;refine⟨h,?_,by simpa using hg,rfl,fun _ _=>rfl⟩;rw[hc]at hsrc;simp only[Ybj,Xp4,hr,hlen,Z58,Qjp,hsrc]
 | cons x xs =>
  have hle:(x::xs).length<=ds.length:=by rw[<- hc,hd];simp;omega
  have hst:storeAt h ⟨B,0,none⟩ (x::xs)=some (h.set B (some (.cells true 1 ((x::xs)++ds.drop (x::xs).length)))):=by
   simp only[storeAt,hg];rw[Qq8 (by simpa using hle)];simp
  rw[hc]at hsrc;refine⟨h.set B (some (.cells true 1 ((x::xs)++ds.drop (x::xs).length))),?_,?_,rfl,fun c hc=>by rw[gY (Heap.get_lt hg),if_neg (Ne.symm hc)]⟩
  ·simp only[Ybj,Xp4,hr,hlen,Z58,Qjp,hsrc,hst];rfl
  ·rw[gY (Heap.get_lt hg),if_pos rfl];congr 4;rw[<- hc,aL,br,Nat.min_comm]
def Q1e(ks ds:List Nat):List Nat:=(Bl.keyed1 ks ds).take 16
section
attribute [local simp] Qc8 Qf2 J9 Vo Vq Us Wi Qhk Q4w
def Jcm(b:Nat){h:Heap}(laid:Ab.LaidIn h Qme){ν z:Nat}{ow:Bool}{pre post:List Value}{ks ds:List Nat}{o:Int}(h1:1<=o)(h2:o<=32)(hg:h.get ν=some (.cells ow z (pre++ks.map u8v++post)))(hp:pre.length=(o-1).toNat*32)(hks:ks.length=32)(hds:ds.length=32)
  (K:KP) (hk:∀ h',Old h h'->K (.ret (.agg ⟨(Q1e ks ds).map u8v⟩)) h'):FK b 43 [pO ν 0,.int .i64 o,.agg ⟨ds.map u8v⟩] h K:=by
 refine F3 b (J9 b) Xyf rfl ?_;obtain⟨hA,eA⟩:∃ hA,hA=h.push (.cells true 1 (ds.map u8v)):=⟨_,rfl⟩;obtain⟨hB,eB⟩:∃ hB,hB=hA.push (.cells true 1 z16):=⟨_,rfl⟩;have aA:=Qon eA;have aB:=Qon eB;have nA:=Q8i eA;have gA:hA.get h.next=some (.cells true 1 (ds.map u8v)):=by rw[eA,Heap.get_push,if_pos rfl]
 have gB:hB.get hA.next=some (.cells true 1 z16):=by rw[eB,Heap.get_push,if_pos rfl]
 have bx:=Qw8 eA;have alB:Qbx (E b).toEnv 104 hA=some (pO hA.next 0,hB):=by rw[eB];exact Qyw b hA
 have ld:(ds.map u8v).length=32:=by simpa using hds
 have sk:SN hB (.slice (some ⟨ν,(o-1).toNat*32,none⟩) 32 32) ks:=.inr ⟨ν,(o-1).toNat*32,32,ow,z,pre,post,by rw[hks],(aA.trans aB).get hg,hp,by simp,by omega,by unfold Ql9;omega,fun q=>by unfold Ql9 at q;omega⟩;have sd:SN hB (.slice (some ⟨h.next,0,none⟩) 32 32) ds:=.inr ⟨h.next,0,32,true,1,[],[],by rw[hds],by simpa using aB.get gA,rfl,by simp,by omega,by unfold Ql9;omega,fun q=>by unfold Ql9 at q;omega⟩;obtain⟨_,hC,c1,n1,rfl,aC⟩:=Zl9 b (LaidIn.old laid (aA.trans aB)) sk sd (by omega) (by omega) (fun r h'=>r=.ret (.agg ⟨(Bl.keyed1 ks ds).map u8v⟩)/\Old hB h') (fun h' q=>⟨rfl,q⟩);simp[Qyw,hds,bx,-Qyw,alB];refine Z71 b hB ν h1 h2 _ ?_;simp[Qyw,Z68];have kl:(Bl.keyed1 ks ds).length=32:=Qu2 _;obtain⟨hZ,eZ⟩:∃ hZ,hZ=hC.push (.cells true 1 z32):=⟨_,rfl⟩;have alZ:Qbx (E b).toEnv 59 hC=some (pO hC.next 0,hZ):=by rw[eZ];exact Us b hC
 have gZ:hZ.get hC.next=some (.cells true 1 z32):=by rw[eZ,Heap.get_push,if_pos rfl]
 have aZ:=Qon eZ;have lZ:=Heap.get_lt gZ;obtain⟨hW,eW⟩:∃ hW,hW=hZ.set hC.next (some (.cells true 1 ((Bl.keyed1 ks ds).map u8v))):=⟨_,rfl⟩;have stW:Ur hZ hC.next 0 ((Bl.keyed1 ks ds).map u8v)=some hW:=by
  rw[Wh gZ (by simp[z32,kl]),eW];congr 4
 have gW:hW.get hC.next=some (.cells true 1 ((Bl.keyed1 ks ds).map u8v)):=by rw[eW,gY lZ,if_pos rfl]
 have aW:Old hC hW:=by rw[eW];exact aZ.set _ (ab _) lZ
 refine Qem [⟨65,[.slice (some ⟨ν,(o-1).toNat*32,none⟩) 32 32,.slice (some ⟨h.next,0,none⟩) 32 32],hB,.agg ⟨(Bl.keyed1 ks ds).map u8v⟩,hC,true⟩] ?_ Xjp Xnc Xks (by simp[Xs4,Xwx,Qyw,Qec,Z3w,-Us,alZ,kl,stW];exact⟨rfl,rfl⟩) ?_ ?_
 ·exact zk1 ⟨c1,n1,fun _ c hc=>aC.2 c hc⟩
 ·simp[Qf5,Qyw]
 simp[Qyw];have gBW:hW.get hA.next=some (.cells true 1 z16):=aW.get (aC.get gB);have skW:SN hW (.slice (some ⟨hC.next,0,none⟩) 32 32) (Bl.keyed1 ks ds):=.inr ⟨hC.next,0,32,true,1,[],[],by rw[kl],by simpa using gW,rfl,by simp,by omega,by unfold Ql9;omega,fun q=>by unfold Ql9 at q;omega⟩;obtain⟨hX,cp,gX,nX,kX⟩:=Jrn b (D:=16) (by omega) gBW (by simp[z16]) skW;have gX':hX.get hA.next=some (.cells true 1 ((Q1e ks ds).map u8v)):=by
  rw[gX];rw[kl];simp[z16,Q1e]
 have lt16:(Q1e ks ds).length=16:=by simp[Q1e,kl]
 refine Qem [] (by simp) Xkr Xo1 Xjg (by simp[Xqp,Xwz,Qyw,Qec,Z3w,Jmm,cp];exact⟨rfl,rfl⟩) ?_ ?_
 ·simp[Qf1,Qyw]
 have lX:=Heap.get_lt gX';have tk:((Q1e ks ds).map u8v).take 16=(Q1e ks ds).map u8v:=aj (by simp[lt16]);have tk':((Q1e ks ds).map u8v).drop 16=[]:=bQ (by simp[lt16]);have ldX:Wy hX hA.next 0 16=some (.agg ⟨(Q1e ks ds).map u8v⟩):=by
  rw[V2 gX' (by simp[lt16])];simp[tk]
 have stX:Ur hX hA.next 0 ((Q1e ks ds).map u8v)=some (hX.set hA.next (some (.cells true 1 ((Q1e ks ds).map u8v)))):=by
  rw[Wh gX' (by simp[lt16])];simp[lt16,tk']
 have ldX2:Wy (hX.set hA.next (some (.cells true 1 ((Q1e ks ds).map u8v)))) hA.next 0 16=some (.agg ⟨(Q1e ks ds).map u8v⟩):=by
  rw[V2 (by rw[gY lX,if_pos rfl]) (by simp[lt16])];simp[tk]
 simp[Qyw,ldX,stX,lt16,ldX2];have aX:Old h hX:=⟨by rw[nX];exact ai (aA.trans aB).1 (aC.trans aW).1,fun c hc=>by
  rw[kX c (by omega),(aC.trans aW).2 c (au hc (aA.trans aB).1),(aA.trans aB).2 c hc]⟩
 exact hk _ (aX.set _ (by omega) lX)
end
def Xyq(ks:List Nat)(o:Int):List Nat:=(ks.drop ((o-1).toNat*32)).take 32
def Zgu:∀ (xs ys:List Nat),xs.length=ys.length->Wr (List.replicate xs.length 1) (xs.map u8v) (ys.map u8v)=some (decide (xs=ys))
 | [],[],_=>rfl
 | x::xs,y::ys,h=>by
  have ih:=Zgu xs ys (by simpa using h);simp only[aS,ck,aE,Wr,ih];have : Yrl 1 (u8v x) (u8v y)=some (decide (x=y)):=by
   show(if IntKind.u8=IntKind.u8 then some ((x:Int) == (y:Int))else none)=_;simp only[if_true];congr 1;by_cases e:x=y
   ·subst e;simp
   ·simp[e];omega
  rw[this];simp only[bO,Bool.decide_and]
def Jvf{x y:List Nat}(hx:x.length=16)(hy:y.length=16):Wr Ju2 (x.map u8v) (y.map u8v)=some (decide (x=y)):=by
 have:=Zgu x y (by omega);rw[hx]at this;rw[<- this];congr 1
def teq(b:Nat){x y:List Nat}(hx:x.length=16)(hy:y.length=16):Zhe (E b).toEnv .eql 104 (.agg ⟨x.map u8v⟩) (.agg ⟨y.map u8v⟩)=some (.bool (decide (x=y))):=by
 have e:Zhe (E b).toEnv .eql 104 (.agg ⟨x.map u8v⟩) (.agg ⟨y.map u8v⟩)=(Wr Ju2 (x.map u8v) (y.map u8v)).map .bool:=kR
 rw[e,Jvf hx hy];rfl
def Jfg{ks:List Nat}(hks:ks.length=1024){o:Int}(h1:1<=o)(h2:o<=32):(Xyq ks o).length=32:=by
 simp[Xyq];omega
def Jff{ks:List Nat}(o:Int):ks.map u8v=(ks.take ((o-1).toNat*32)).map u8v++(Xyq ks o).map u8v++((ks.drop ((o-1).toNat*32)).drop 32).map u8v:=by
 rw[<- aR,<- aR,Xyq,aM,bf,bf]
def Jok{k d:List Nat}:(Q1e k d).length=16:=by
 have kl:(Bl.keyed1 k d).length=32:=Qu2 _;simp[Q1e,kl]
def Jfz(b:Nat){h:Heap}(laid:Ab.LaidIn h Qme){ν z:Nat}{ow:Bool}{ks ds:List Nat}{o:Int}(h1:1<=o)(h2:o<=32)(hg:h.get ν=some (.cells ow z (ks.map u8v)))(hks:ks.length=1024)(hds:ds.length=32)
  (K:KP) (hk:∀ h',Old h h'->K (.ret (.agg ⟨(Q1e (Xyq ks o) ds).map u8v⟩)) h'):FK b 43 [pO ν 0,.int .i64 o,.agg ⟨ds.map u8v⟩] h K :=
 Jcm b laid h1 h2 (by rw[hg,Jff o]) (by simp;omega) (Jfg hks h1 h2) hds K hk
section
attribute [local simp] Qb8 Qdo Zv Vo Qg3 J9 Qhk 
set_option maxHeartbeats 2000000 in
def Z24(b:Nat){h:Heap}(laid:Ab.LaidIn h Qme){ν z:Nat}{ow:Bool}{ks ds tg:List Nat}{o:Int}(hg:h.get ν=some (.cells ow z (ks.map u8v)))(hks:ks.length=1024)(hds:ds.length=32)(htg:tg.length=16)
  (h1:1<=o) (h2:o<=32) (K:KP) (hk:∀ h',Old h h'->K (.ret (.bool (decide (Q1e (Xyq ks o) ds=tg)))) h'):FK b 131 [pO ν 0,.int .i64 o,.agg ⟨ds.map u8v⟩,.agg ⟨tg.map u8v⟩] h K:=by
 refine F3 b (Zv b) Q39 rfl ?_;obtain⟨hA,eA⟩:∃ hA,hA=h.push (.cells true 1 (ds.map u8v)):=⟨_,rfl⟩;obtain⟨hB,eB⟩:∃ hB,hB=hA.push (.cells true 1 (tg.map u8v)):=⟨_,rfl⟩;have aA:=Qon eA;have aB:=Qon eB;have gA:hA.get h.next=some (.cells true 1 (ds.map u8v)):=by rw[eA,Heap.get_push,if_pos rfl]
 have gB:hB.get hA.next=some (.cells true 1 (tg.map u8v)):=by rw[eB,Heap.get_push,if_pos rfl]
 have bxA:=Qw8 eA;have bxB:=Qw8 eB;simp[bxA,bxB]
 skip
 obtain⟨_,_,c1,n1,rfl,rfl⟩:=Z71 b hB ν h1 h2 (fun r h'=>r=.ret (.pointer (some ⟨ν,(o-1).toNat*32,none⟩))/\hB=h') ⟨rfl,rfl⟩;obtain⟨_,hC,c2,n2,rfl,aC⟩:=Jfz b (LaidIn.old laid (aA.trans aB)) h1 h2 ((aA.trans aB).get hg) hks hds (fun r h'=>r=.ret (.agg ⟨(Q1e (Xyq ks o) ds).map u8v⟩)/\Old hB h') (fun h' q=>⟨rfl,q⟩);have ldA:Wy hB h.next 0 32=some (.agg ⟨ds.map u8v⟩):=by
  rw[V2 (aB.get gA) (by simp[hds]),bB,aj (by simp[hds])]
 have ldB:Wy hC hA.next 0 16=some (.agg ⟨tg.map u8v⟩):=by
  rw[V2 (aC.get gB) (by simp[htg]),bB,aj (by simp[htg])]
 refine Qem [⟨72,[pO ν 0,.int .i64 o],hB,.pointer (some ⟨ν,(o-1).toNat*32,none⟩),hB,true⟩,⟨43,[pO ν 0,.int .i64 o,.agg ⟨ds.map u8v⟩],hB,.agg ⟨(Q1e (Xyq ks o) ds).map u8v⟩,hC,true⟩] ?_ Qwk Qyv Qww (by simp[Q03,Q06,Q1x,Q26,ldA,ldB,teq b Jok htg,Qud,Z68];exact⟨rfl,rfl⟩) ?_ ?_
 ·exact zk2 ⟨c1,n1,fun _ _ _=>rfl⟩ ⟨c2,n2,fun _ c hc=>aC.2 c hc⟩
 ·simp[Qa5,ldA,ldB]
 simp;exact hk hC ((aA.trans aB).trans aC)
def Z3s(b:Nat){h:Heap}(laid:Ab.LaidIn h Qme){ν z:Nat}{ow:Bool}{ks ds tg:List Nat}{o:Int}(hg:h.get ν=some (.cells ow z (ks.map u8v)))(hks:ks.length=1024)(hds:ds.length=32)(htg:tg.length=16)
  (ho:¬ (1<=o/\o<=32)) (K:KP) (hk:∀ h',Old h h'->K (.ret (.bool (false))) h'):FK b 131 [pO ν 0,.int .i64 o,.agg ⟨ds.map u8v⟩,.agg ⟨tg.map u8v⟩] h K:=by
 refine F3 b (Zv b) Q39 rfl ?_;obtain⟨hA,eA⟩:∃ hA,hA=h.push (.cells true 1 (ds.map u8v)):=⟨_,rfl⟩;obtain⟨hB,eB⟩:∃ hB,hB=hA.push (.cells true 1 (tg.map u8v)):=⟨_,rfl⟩;have aA:=Qon eA;have aB:=Qon eB;have gA:hA.get h.next=some (.cells true 1 (ds.map u8v)):=by rw[eA,Heap.get_push,if_pos rfl]
 have gB:hB.get hA.next=some (.cells true 1 (tg.map u8v)):=by rw[eB,Heap.get_push,if_pos rfl]
 have bxA:=Qw8 eA;have bxB:=Qw8 eB;simp[bxA,bxB];obtain⟨_,_,c1,n1,rfl,rfl⟩:=Jio b hB ν (o:=o) (by omega) (fun r h'=>r=.ret (.pointer none)/\hB=h') ⟨rfl,rfl⟩;refine Qem [⟨72,[pO ν 0,.int .i64 o],hB,.pointer none,hB,true⟩] ?_ Qwk Qyv Qww (by simp[Q03,Q06,Q1x,Q26,Jjl];exact⟨rfl,rfl⟩) ?_ ?_
 ·exact zk1 ⟨c1,n1,fun _ _ _=>rfl⟩
 ·simp[Qa5]
 simp;exact hk hB (aA.trans aB)
end
def Jc7(b:Nat){h:Heap}(laid:Ab.LaidIn h Qme){ν z:Nat}{ow:Bool}{ks ds tg:List Nat}{o:Int}(hg:h.get ν=some (.cells ow z (ks.map u8v)))(hks:ks.length=1024)(hds:ds.length=32)(htg:tg.length=16)
  (K:KP) (hk:∀ h',Old h h'->K (.ret (.bool (decide (1<=o/\o<=32) && decide (Q1e (Xyq ks o) ds=tg)))) h'):FK b 131 [pO ν 0,.int .i64 o,.agg ⟨ds.map u8v⟩,.agg ⟨tg.map u8v⟩] h K:=by
 by_cases ho:1<=o/\o<=32
 ·exact Z24 b laid hg hks hds htg ho.1 ho.2 K fun h' a=>by
   have:=hk h' a;rwa [decide_eq_true ho,cT]at this
 ·exact Z3s b laid hg hks hds htg ho K fun h' a=>by
   have:=hk h' a;rwa [decide_eq_false ho,Bool.false_and]at this
structure Asks where
 ks:List Nat
 dg:List Nat
 lk:Int
 hks:ks.length=1024
 hdg:dg.length=32
def X5r(l:List Nat):List Int:=l.map Int.ofNat
def Zqa(l:List Int):List Nat:=l.map Int.toNat
def Jg8(a:Asks)(o:Int)(t:List Int):Bool:=decide (1<=o/\o<=32) && decide (Q1e (Xyq a.ks o) a.dg=Zqa t)
def Z49(x:List Int):List Int:=X5r (Bl.keyed1 [] (Zqa x))
def Xew(x:List Int)(st:List (List Int)):Except Int (List (List Int)):=if st.length < 16 then .ok (x::st)else .error 16
def doF(a:Asks)(code:Int)(data:List Int)(st:List (List Int)):Except Int (List (List Int)) :=
 if code=129 then(match st with | x::r=>(Xew x r).bind (Xew x) | [] => .error 16)
 else if code=130 then(match st with | _::r => .ok r | [] => .error 16)
 else if code=131 then(match st with | x::r=>Xew (Z49 x) r | [] => .error 16)
 else if code=132 then(match st with | x::y::r=>Xew (Jik (decide (x=y))) r | _ => .error 16)
 else if code=133 then(match st with | x::r=>if isT x then .ok r else .error 16 | [] => .error 16)
 else if code=134 then(match st with | x::y::r=>if x.length=1/\y.length=16 then Xew (Jik (Jg8 a (x.getD 0 0) y)) r else .error 16 | _ => .error 16)
 else if code=135 then(match st with | x::r=>if x.length=4 then(if Zdf x 4<=a.lk then .ok r else .error 18)else .error 16 | [] => .error 16)
 else if code=139 then(match st with | x::r=>(Xew x r).bind (Xew [(x.length:Int)]) | [] => .error 16)
 else Xew data st
def Q7r(a:Asks)(code:Int)(data:List Int)(st:List (List Int))(op:List Br):Except Int (List (List Int) × List Br) :=
 match brF code st op with
 | some none => .error 16
 | some (some p) => .ok p
 | none=>if Jgw op then .ok (st,op)else(doF a code data st).map fun st'=>(st',op)
def X0u(a:Asks):List (Int × List Int)->List (List Int)->List Br->Except Int (List (List Int) × List Br)
 | [],st,op => .ok (st,op)
 | (c,d)::l,st,op=>(Q7r a c d st op).bind fun p=>X0u a l p.1 p.2
def Yap:List (List Int)->List (List Int)->Except Int (List (List Int))
 | [],st => .ok st
 | x::l,st=>if x.length<=64 then(Xew x st).bind (Yap l)else .error 16
def Z9q:Except Int (List (List Int) × List Br)->Int
 | .error z=>z
 | .ok (st,op)=>if op.length=0/\st.length=1/\isT (st.getD 0 [])=true then 0 else 16
def Jlq(a:Asks)(l:List (Int × List Int))(stk:List (List Int)):Int:=match Yap stk []with
 | .error z=>z
 | .ok st=>Z9q (X0u a l st [])
def Zhu(a:Asks)(xs:List Int)(stk:List (List Int)):Int :=
 if xs.length > 256 then 16 else match pz xs.length xs with
 | none=>16
 | some l=>if l.length > 64 then 16 else Jlq a l stk
structure Wd (h:Heap) (MB:Nat->Prop) (e:Menv) (a:Asks):Prop where
 laid:Ab.LaidIn h Qme
 low:∀ c,MB c->4<=c
 next:4<=h.next
 nota:∃ ν z ow,e.nk=pO ν 0/\h.get ν=some (.cells ow z (a.ks.map u8v))/\¬ MB ν
 dg:e.dig=a.dg.map u8v
 lk:e.lk=a.lk
def Jnw{x:Nat × List Value}(hx:x ∈ Qme):x.1 < 4:=by
 simp only[Qme,ap,cm,or_false]at hx;rcases hx with rfl | rfl
 ·exact of_decide_eq_true (by kernel_rfl)
 ·exact of_decide_eq_true (by kernel_rfl)
def Wd.mv{h h':Heap}{MB MB':Nat->Prop}{e:Menv}{a:Asks}(w:Wd h MB e a)(m:Mv MB MB' h h'):Wd h' MB' e a:=by
 obtain⟨laid,low,nx,⟨ν,z,ow,q1,q2,q3⟩,dg,lk⟩:=w;refine⟨fun x hx => ?_,fun c hc => ?_,ai nx m.next,⟨ν,z,ow,q1,?_,fun hc => ?_⟩,dg,lk⟩
 ·have g:=laid x hx;rw[m.same x.1 (Heap.get_lt g) (fun hb=>by have:=low _ hb;have:=Jnw hx;omega)];exact g
 ·rcases m.sub c hc with h | h
  ·exact low c h
  ·omega
 ·rw[m.same ν (Heap.get_lt q2) q3];exact q2
 ·rcases m.sub ν hc with h | h
  ·exact q3 h
  ·have:=Heap.get_lt q2;omega
def Jk9{y:List Int}(hy:Bytes y):y.map i8=(Zqa y).map u8v:=by
 rw[Zqa,bL];apply bA;intro z hz;have:=hy z hz;show Value.int .u8 z=.int .u8 ((z.toNat:Nat):Int);rw[d6 this.1]
def Jqu(b:Nat){h:Heap}{v:Value}{y:List Int}(s:SB h v y)(hy:y.length=16):∃ bk o,Yni (E b).toEnv 104 v=some (pO bk o)/\Wy h bk o 16=some (.agg ⟨y.map i8⟩):=by
 rcases s with⟨c,_,_,e,_⟩ | ⟨bk,o,c,ow,z',pre,post,rfl,g1,g2,g3,g4,_⟩
 ·omega
 ·refine⟨bk,o,?_,?_⟩
  ·have hd:Jrp.desc=.array 16 5:=kR
   simp only[Yni,Z4q,hd,hy];rfl
  ·rw[V2 g1 (by simp;omega),aM,<- g2,bZ,aF (by simp;omega),aj (by simp;omega)]
def Wd.old{h h':Heap}{MB:Nat->Prop}{e:Menv}{a:Asks}(w:Wd h MB e a)(o:Old h h'):Wd h' MB e a:=w.mv (Mv.old o)
def Mach.env{h:Heap}{MB:Nat->Prop}{μ:Nat}{e:Menv}{ps:List (Value × List Int)}{op:List Br}(M:Mach h MB μ e ps op):Yw h μ 0=some e.nk/\Wy h μ 1 32=some (.agg ⟨e.dig⟩):=by
 obtain⟨⟨sv,ov,z,r⟩,_,_⟩:=M;refine⟨?_,?_⟩
 ·rw[Yi r.at'];rfl
 ·rw[V2 r.at' (by simp[e.len])];congr 3;show((e.dig ++ [Value.int .i64 e.lk]) ++ [sv,ov]).take 32=_;rw[aM,aF (by rw[e.hd];exact ab _),aj (by rw[e.hd];exact ab _)]
section
attribute [local simp] V9 U0 X9 Vl Qq Ye X1 Vj Vc Qfk Quk Qwc Qwi Qhs Qhr Qtx Qg3 Qhk Zv
set_option maxHeartbeats 1000000 in
def Jgr(b:Nat){h:Heap}{MB:Nat->Prop}{μ:Nat}{e:Menv}{a:Asks}{v w:Value}{x y:List Int}{ps:List (Value × List Int)}{op:List Br}(M:Mach h MB μ e ((v,x)::(w,y)::ps) op)(wd:Wd h MB e a)(hl:ps.length < 900)(K:KP)
  (hk:x.length=1->y.length=16->∀ h',Mach h' MB μ e ps op->Mv MB MB h h'->K (.ret (.bool (Jg8 a (x.getD 0 0) y))) h') (hp:¬ (x.length=1/\y.length=16)->∀ h',Mv MB MB h h'->K (.panic (pe 16)) h'):FK b 116 [pO μ 0] h K:=by
 refine F3 b (X9 b) Q2a rfl ?_;simp;refine Qyd b M (by simp;omega) _ fun h1 M1 m1 _ i1 _ => ?_;simp;refine Qyd b M1 (by omega) _ fun h2 M2 m2 _ i2 _ => ?_;have len1:=fun hx=>Qmi (b:=b) (h1:=hx) i1.sb;have len2:=fun hx=>Qmi (b:=b) (h1:=hx) i2.sb;have m12:=m1.trans m2;by_cases hx:x.length=1
 ·rw[hx]at len1;have len1':∀ hx,Qkc (E b).toEnv 45 v hx=some (.int .i64 1):=len1;by_cases hy:y.length=16
  ·rw[hy]at len2;have len2':∀ hx,Qkc (E b).toEnv 45 w hx=some (.int .i64 16):=len2;simp[len1',len2'];refine Xut b h2 16 _ ?_;have wd2:=wd.mv m12;obtain⟨ν,z,ow,q1,q2,q3⟩:=wd2.nota;obtain⟨z1,rfl⟩:∃ z1,x=[z1]:=by
    match x,hx with
    | [z1],_=>exact⟨z1,rfl⟩
   have i1':=i1.mv m2;obtain⟨bk,o,x1,x2,x3⟩:=Zg3 (b:=b) i1'.sb (k:=.i64) (i:=0) (z:=z1) rfl;obtain⟨bt,ot,y1,y2⟩:=Jqu b i2.sb hy;obtain⟨e1,e2⟩:=M2.env;rw[q1]at e1;rw[wd2.dg]at e2;rw[Jk9 i2.by8]at y2;have hz:=i1.by8 z1 (by simp);have w1:IntKind.i64.wrap z1=z1:=Uq (by omega) (by omega);have htg:(Zqa y).length=16:=by simp[Zqa,hy]
   obtain⟨_,h3,c1,n1,rfl,a3⟩:=Jc7 b wd2.laid (o:=z1) q2 a.hks a.hdg htg (fun r h'=>r=.ret (.bool (Jg8 a z1 y))/\Old h2 h') (fun h' q=>⟨rfl,q⟩);simp only[i8]at x3;simp at x2;simp;refine Qem [⟨131,[pO ν 0,.int .i64 z1,.agg ⟨a.dg.map u8v⟩,.agg ⟨(Zqa y).map u8v⟩],h2,.bool (Jg8 a z1 y),h3,true⟩] ?_ Xce Xf4 Xbz (by simp[Xh2,Xgh,Qec,e1,e2,x2,x3,y1,y2,w1];exact⟨rfl,rfl⟩) ?_ ?_
   ·exact zk1 ⟨c1,n1,fun _ c hc=>a3.2 c hc⟩
   ·simp[Qd4]
   simp;exact hk rfl hy h3 (M2.old a3) (m12.trans (Mv.old a3))
  ·have hy':¬ (y.length:Int)=16:=by omega
   simp[len1',len2,hy'];refine Xi8 b h2 16 _ ?_;simp;exact hp (fun q=>hy q.2) h2 m12
 ·have hx':¬ (x.length:Int)=1:=by omega
  simp[len1,hx'];refine Xi8 b h2 16 _ ?_;simp;exact hp (fun q=>hx q.1) h2 m12
def Zi4(b:Nat){h:Heap}{MB:Nat->Prop}{μ:Nat}{e:Menv}{ps:List (Value × List Int)}{op:List Br}(M:Mach h MB μ e ps op)(hl:ps.length < 2)(K:KP)
  (hp:∀ h',Mv MB MB h h'->K (.panic (pe 16)) h'):FK b 116 [pO μ 0] h K:=by
 refine F3 b (X9 b) Q2a rfl ?_;simp
 match ps,hl with
 | [],_ =>
  refine Xee b M _ ?_;simp;exact hp h (Mv.refl _ _)
 | [p],_ =>
  obtain⟨v,x⟩:=p;refine Qyd b M (by simp) _ fun h1 M1 m1 _ i1 _ => ?_;simp;refine Xee b M1 _ ?_;simp;exact hp h1 m1
end
def Jp0(h:Nat):∀ n ∈ Bl.by4 h,n < 256:=by
 intro n hn;simp only[Bl.by4,ap,cm,or_false]at hn;rcases hn with rfl | rfl | rfl | rfl <;> exact dm _ (by decide)
def Jjy(p:Bl.P8):∀ n ∈ Bl.out p,n < 256:=by
 obtain⟨h0,h1,h2,h3,h4,h5,h6,h7⟩:=p;intro n hn;simp only[Bl.out,al]at hn;rcases hn with((((((hn | hn) | hn) | hn) | hn) | hn) | hn) | hn <;> exact Jp0 _ n hn
def Z8i{l:List Nat}(h:∀ n ∈ l,n < 256):Bytes (X5r l):=by
 intro z hz;obtain⟨n,hn,rfl⟩:=am.1 hz;have:=h n hn;show(0:Int)<=(n:Int)/\(n:Int) < 256;omega
def Jdu(l:List Nat):l.map u8v=(X5r l).map i8:=by
 rw[X5r,bL];rfl
def Ziq(x:List Int):(Z49 x).length=32:=by
 have : (Bl.keyed1 [] (Zqa x)).length=32:=Qu2 _;simp[Z49,X5r,this]
def Ja1(x:List Int):Bytes (Z49 x):=Z8i (Jjy _)
def Itm.at{h:Heap}{MB:Nat->Prop}{B z:Nat}{ow:Bool}{xs:List Int}(hg:h.get B=some (.cells ow z (xs.map i8)))(hb:Bytes xs)(hl:xs.length < 1000000)(hm:¬ MB B):Itm h MB (.slice (some ⟨B,0,none⟩) xs.length xs.length) xs :=
 ⟨.inr ⟨B,0,xs.length,ow,z,[],[],rfl,by simpa using hg,rfl,by simp,ab _,by unfold Ql9;omega,fun q=>by unfold Ql9 at q;omega⟩,hb,fun c hc=>by cases hc;exact hm⟩
def Q5y(b:Nat)(h:Heap)(code:Int)(dv:Value):Zzo (.agg ⟨[.int .i64 code,dv]⟩) h=some (pO h.next 0,h.push (.cells true 1 [.int .i64 code,dv])):=rfl
def Xhf(h:Heap)(code:Int)(dv:Value):Yw (h.push (.cells true 1 [.int .i64 code,dv])) h.next 0=some (.int .i64 code):=(Yi (z:=1) (ow:=true) (c:=[.int .i64 code,dv]) ((Heap.get_push _ _ _).trans (if_pos rfl))).trans rfl
def Jtl(h:Heap)(code:Int)(dv:Value):Yw (h.push (.cells true 1 [.int .i64 code,dv])) h.next 1=some dv:=(Yi (z:=1) (ow:=true) (c:=[.int .i64 code,dv]) ((Heap.get_push _ _ _).trans (if_pos rfl))).trans rfl
structure At (h:Heap) (MB:Nat->Prop) (μ:Nat) (e:Menv) (a:Asks) (ps:List (Value × List Int)) (op:List Br) (dv:Value) (data:List Int):Prop where
 m:Mach h MB μ e ps op
 w:Wd h MB e a
 i:Itm h MB dv data
 l1:ps.length<=16
 l2:op.length < 1000
 l3:∀ p ∈ ps,p.2.length<=64
section
variable(b:Nat){h:Heap}{MB:Nat->Prop}{μ:Nat}{e:Menv}{a:Asks}{ps:List (Value × List Int)}{op:List Br}{dv:Value}{data:List Int}(A:At h MB μ e a ps op dv data)
include A
section
attribute [local simp] Xb Xi Qw Jb Vz Qr Qx Xd Xa Ye Qq X3 Xx Us Wi Xv Xe Xc X1 X9 X4 Ub Ua Zj Z8
theorem Ji9(hoff:Jgw op=true){code:Int}(hc:brF code [] []=none)(K:KP)(hk:∀ h',MOk MB h μ e (ps.map (·.2)) op h'->K (.ret (.tuple #[])) h'):CallOK Tryz.prog (E b).G 96 [pO μ 0,.agg ⟨[.int .i64 code,dv]⟩] h K:=by
 refine Qh3 (E b) (Vy _ _) (Uf b) (Jd b) mixed (Ui b) (Qw b) U9.1 U9.2.1 U9.2.2 rfl ?_;simp[Q5y b,Xhf];refine Xjs b hc _ ?_;simp;refine(Xy6 b (A.m.old (Old.push _ _)) A.l2 _ ?_).ok;simp[hoff];exact hk _ ⟨ps,MB,rfl,A.m.old (Old.push _ _),Mv.old (Old.push _ _)⟩
end
variable(hoff:Jgw op=false)
include hoff
section
attribute [local simp] Xb Xi Qw Jb Vz Qr Qx Xd Xa Ye Qq X3 Xx Us Wi Xv Xe Xc X1 X9 X4 Ub Ua Zj Z8
theorem Jct(K:KP)(hk:∀ st',doF a 130 data (ps.map (·.2))=.ok st'->∀ h',MOk MB h μ e st' op h'->K (.ret (.tuple #[])) h')(hp:∀ z,doF a 130 data (ps.map (·.2))=.error z->∀ h',Z2o MB h h'->K (.panic (pe z)) h') :
  CallOK Tryz.prog (E b).G 96 [pO μ 0,.agg ⟨[.int .i64 130,dv]⟩] h K:=by
 have M0:=A.m.old (Old.push h (.cells true 1 [.int .i64 130,dv]));have m0:Mv MB MB h (h.push (.cells true 1 [.int .i64 130,dv])):=Mv.old (Old.push _ _);refine Qh3 (E b) (Vy _ _) (Uf b) (Jd b) mixed (Ui b) (Qw b) U9.1 U9.2.1 U9.2.2 rfl ?_;simp[Q5y b,Xhf];refine Xjs b (by simp[brF]) _ ?_;simp;refine(Xy6 b M0 A.l2 _ ?_).ok;simp[hoff,Xhf]
 match ps,A with
 | [],A =>
  refine(Xee b M0 _ ?_).ok;simp;exact hp 16 (by simp[doF]) _ ⟨MB,m0⟩
 | (v,x)::ps,A =>
  refine(Qyd b M0 (by have:=A.l1;simp at this;omega) _ fun h1 M1 m1 _ i1 _ => ?_).ok;simp;exact hk _ (by simp[doF]) _ ⟨ps,MB,rfl,M1,m0.trans m1⟩
end
end
section
attribute [local simp] Vx W4 X4 Qq Ye X1 Qwi Qhs Qhr Qfk Q0x Vz 
def Jdz(b:Nat){h:Heap}{MB:Nat->Prop}{μ:Nat}{e:Menv}{op:List Br}(M:Mach h MB μ e [] op)(K:KP)(hp:K (.panic (pe 16)) h):FK b 117 [pO μ 0] h K:=by
 refine F3 b (X4 b) Qzy rfl ?_;simp;refine Xee b M _ ?_;simp;exact hp
end
section
variable(b:Nat){h:Heap}{MB:Nat->Prop}{μ:Nat}{e:Menv}{a:Asks}{ps:List (Value × List Int)}{op:List Br}{dv:Value}{data:List Int}(A:At h MB μ e a ps op dv data)(hoff:Jgw op=false)
include A hoff
section
attribute [local simp] Xb Xi Qw Jb Vz Qr Qx Xd Xa Ye Qq X3 Xx Wi Xv Xe Xc X1 X9 X4 Ub Ua Zj Z8
theorem Jit(K:KP)(hk:∀ st',doF a 129 data (ps.map (·.2))=.ok st'->∀ h',MOk MB h μ e st' op h'->K (.ret (.tuple #[])) h')(hp:∀ z,doF a 129 data (ps.map (·.2))=.error z->∀ h',Z2o MB h h'->K (.panic (pe z)) h') :
  CallOK Tryz.prog (E b).G 96 [pO μ 0,.agg ⟨[.int .i64 129,dv]⟩] h K:=by
 have M0:=A.m.old (Old.push h (.cells true 1 [.int .i64 129,dv]));have m0:Mv MB MB h (h.push (.cells true 1 [.int .i64 129,dv])):=Mv.old (Old.push _ _);refine Qh3 (E b) (Vy _ _) (Uf b) (Jd b) mixed (Ui b) (Qw b) U9.1 U9.2.1 U9.2.2 rfl ?_;simp[Us,Q5y b,Xhf];refine Xjs b (by simp[brF]) _ ?_;simp[Us];refine(Xy6 b M0 A.l2 _ ?_).ok;simp[Us,hoff,Xhf]
 match ps,A with
 | [],A =>
  refine(Xee b M0 _ ?_).ok;simp[Us];exact hp 16 (by simp[doF]) _ ⟨MB,m0⟩
 | (v,x)::ps,A =>
  have l1:ps.length < 16:=by have:=A.l1;simp at this;omega
  have lx:x.length<=64:=A.l3 (v,x) (by simp);refine(Qyd b M0 (by omega) _ fun h1 M1 m1 _ i1 _ => ?_).ok;simp[Us];refine(Xsg b M1 i1 l1 _ fun h2 MB2 M2 m2 => ?_).ok;simp[Us];by_cases l2:ps.length+1 < 16
  ·refine(Xsg b M2 (i1.mv m2) (by simpa using l2) _ fun h3 MB3 M3 m3 => ?_).ok;simp[Us];exact hk (x::x::ps.map (·.2)) (by simp[doF,Xew,l1,l2,Except.bind]) _ ⟨_,MB3,by simp,M3,m0.trans (m1.trans (m2.trans m3))⟩
  ·refine(Xnu b M2 (by simp;omega) _ ?_).ok;simp[Us];exact hp 16 (by simp[doF,Xew,l1,l2,Except.bind]) _ ⟨MB2,m0.trans (m1.trans m2)⟩
theorem Jah(K:KP)(hk:∀ st',doF a 131 data (ps.map (·.2))=.ok st'->∀ h',MOk MB h μ e st' op h'->K (.ret (.tuple #[])) h')(hp:∀ z,doF a 131 data (ps.map (·.2))=.error z->∀ h',Z2o MB h h'->K (.panic (pe z)) h') :
  CallOK Tryz.prog (E b).G 96 [pO μ 0,.agg ⟨[.int .i64 131,dv]⟩] h K:=by
 have M0:=A.m.old (Old.push h (.cells true 1 [.int .i64 131,dv]));have m0:Mv MB MB h (h.push (.cells true 1 [.int .i64 131,dv])):=Mv.old (Old.push _ _);refine Qh3 (E b) (Vy _ _) (Uf b) (Jd b) mixed (Ui b) (Qw b) U9.1 U9.2.1 U9.2.2 rfl ?_;simp[Us,Q5y b,Xhf];refine Xjs b (by simp[brF]) _ ?_;simp[Us];refine(Xy6 b M0 A.l2 _ ?_).ok;simp[Us,hoff,Xhf]
 match ps,A with
 | [],A =>
  refine(Xee b M0 _ ?_).ok;simp[Us];exact hp 16 (by simp[doF]) _ ⟨MB,m0⟩
 | (v,x)::ps,A =>
  have l1:ps.length < 16:=by have:=A.l1;simp at this;omega
  have lx:x.length<=64:=A.l3 (v,x) (by simp);refine(Qyd b M0 (by omega) _ fun h1 M1 m1 _ i1 _ => ?_).ok;simp[Us];have sn:SN h1 v (Zqa x):=by
   have:=i1.sb;rw[SB,Jk9 i1.by8]at this;rwa [show x.length=(Zqa x).length by simp[Zqa]]at this
  refine(Z5a b ((A.w.mv (m0.trans m1)).laid) sn (by simp[Zqa];omega) _ fun h2 a2 => ?_).ok;have kl:(Bl.keyed1 [] (Zqa x)).length=32:=Qu2 _;obtain⟨hZ,eZ⟩:∃ hZ,hZ=h2.push (.cells true 1 z32):=⟨_,rfl⟩;have alZ:Qbx (E b).toEnv 59 h2=some (pO h2.next 0,hZ):=by rw[eZ];exact Us b h2
  have gZ:hZ.get h2.next=some (.cells true 1 z32):=by rw[eZ,Heap.get_push,if_pos rfl]
  have aZ:=Qon eZ;have lZ:=Heap.get_lt gZ;obtain⟨hW,eW⟩:∃ hW,hW=hZ.set h2.next (some (.cells true 1 ((Bl.keyed1 [] (Zqa x)).map u8v))):=⟨_,rfl⟩;have stW:Ur hZ h2.next 0 ((Bl.keyed1 [] (Zqa x)).map u8v)=some hW:=by
   rw[Wh gZ (by simp[z32,kl]),eW];congr 4
  have gW:hW.get h2.next=some (.cells true 1 ((Z49 x).map i8)):=by rw[eW,gY lZ,if_pos rfl,Jdu];rfl
  have aW:Old h2 hW:=by rw[eW];exact aZ.set _ (ab _) lZ
  simp[Us,-Us,alZ,kl,stW,Z3w];have M2:=(M1.old a2).old aW;have iw:Itm hW MB (.slice (some ⟨h2.next,0,none⟩) 32 32) (Z49 x):=by
   have:=Itm.at (MB:=MB) gW (Ja1 x) (by rw[Ziq];omega) (fun q=>by have:=(M1.old a2).low _ q;omega);rwa [Ziq]at this
  refine(Xsg b M2 iw l1 _ fun h3 MB3 M3 m3 => ?_).ok;simp[Us];exact hk (Z49 x::ps.map (·.2)) (by simp[doF,Xew,l1]) _ ⟨_,MB3,by simp,M3,m0.trans (m1.trans ((Mv.old (a2.trans aW)).trans m3))⟩
theorem Ja3(K:KP)(hk:∀ st',doF a 132 data (ps.map (·.2))=.ok st'->∀ h',MOk MB h μ e st' op h'->K (.ret (.tuple #[])) h')(hp:∀ z,doF a 132 data (ps.map (·.2))=.error z->∀ h',Z2o MB h h'->K (.panic (pe z)) h') :
  CallOK Tryz.prog (E b).G 96 [pO μ 0,.agg ⟨[.int .i64 132,dv]⟩] h K:=by
 have M0:=A.m.old (Old.push h (.cells true 1 [.int .i64 132,dv]));have m0:Mv MB MB h (h.push (.cells true 1 [.int .i64 132,dv])):=Mv.old (Old.push _ _);refine Qh3 (E b) (Vy _ _) (Uf b) (Jd b) mixed (Ui b) (Qw b) U9.1 U9.2.1 U9.2.2 rfl ?_;simp[Us,Q5y b,Xhf];refine Xjs b (by simp[brF]) _ ?_;simp[Us];refine(Xy6 b M0 A.l2 _ ?_).ok;simp[Us,hoff,Xhf]
 match ps,A with
 | [],A =>
  refine(Xee b M0 _ ?_).ok;simp[Us];exact hp 16 (by simp[doF]) _ ⟨MB,m0⟩
 | [(v,x)],A =>
  refine(Qyd b M0 (by simp) _ fun h1 M1 m1 _ i1 _ => ?_).ok;simp[Us];refine(Xee b M1 _ ?_).ok;simp[Us];exact hp 16 (by simp[doF]) _ ⟨MB,m0.trans m1⟩
 | (v,x)::(w,y)::ps,A =>
  have l1:ps.length < 15:=by have:=A.l1;simp at this;omega
  refine(Qyd b M0 (by simp;omega) _ fun h1 M1 m1 _ i1 _ => ?_).ok;simp[Us];refine(Qyd b M1 (by omega) _ fun h2 M2 m2 _ i2 _ => ?_).ok;have i1':=i1.mv m2;simp[Us];refine(Z53 b i1'.sb i2.sb i1.by8 i2.by8 _ ?_).ok;simp[Us];refine(Jd6 b (decide (x=y)) M2 _ (fun _ v3 h3 MB3 M3 m3 => ?_) (fun q=>by omega)).ok;simp[Us];exact hk (Jik (decide (x=y))::ps.map (·.2)) (by simp[doF,Xew];omega) _ ⟨_,MB3,by simp,M3,m0.trans (m1.trans (m2.trans m3))⟩
theorem Z2u(K:KP)(hk:∀ st',doF a 133 data (ps.map (·.2))=.ok st'->∀ h',MOk MB h μ e st' op h'->K (.ret (.tuple #[])) h')(hp:∀ z,doF a 133 data (ps.map (·.2))=.error z->∀ h',Z2o MB h h'->K (.panic (pe z)) h') :
  CallOK Tryz.prog (E b).G 96 [pO μ 0,.agg ⟨[.int .i64 133,dv]⟩] h K:=by
 have M0:=A.m.old (Old.push h (.cells true 1 [.int .i64 133,dv]));have m0:Mv MB MB h (h.push (.cells true 1 [.int .i64 133,dv])):=Mv.old (Old.push _ _);refine Qh3 (E b) (Vy _ _) (Uf b) (Jd b) mixed (Ui b) (Qw b) U9.1 U9.2.1 U9.2.2 rfl ?_;simp[Us,Q5y b,Xhf];refine Xjs b (by simp[brF]) _ ?_;simp[Us];refine(Xy6 b M0 A.l2 _ ?_).ok;simp[Us,hoff,Xhf]
 match ps,A with
 | [],A =>
  refine(Xee b M0 _ ?_).ok;simp[Us];exact hp 16 (by simp[doF]) _ ⟨MB,m0⟩
 | (v,x)::ps,A =>
  have l1:ps.length < 16:=by have:=A.l1;simp at this;omega
  have lx:x.length<=64:=A.l3 (v,x) (by simp);refine(Qyd b M0 (by omega) _ fun h1 M1 m1 _ i1 _ => ?_).ok;simp[Us];refine(Yzj b i1.sb (by omega) _ fun h2 a2 => ?_).ok;cases ht:isT x with
  | true =>
   simp[Us];refine(Xut b h2 16 _ ?_).ok;simp[Us];exact hk (ps.map (·.2)) (by simp[doF,ht]) _ ⟨ps,MB,rfl,M1.old a2,m0.trans (m1.trans (Mv.old a2))⟩
  | false =>
   simp[Us];refine(Xi8 b h2 16 _ ?_).ok;simp[Us];exact hp 16 (by simp[doF,ht]) _ ⟨MB,m0.trans (m1.trans (Mv.old a2))⟩
theorem Jf7(K:KP)(hk:∀ st',doF a 134 data (ps.map (·.2))=.ok st'->∀ h',MOk MB h μ e st' op h'->K (.ret (.tuple #[])) h')(hp:∀ z,doF a 134 data (ps.map (·.2))=.error z->∀ h',Z2o MB h h'->K (.panic (pe z)) h') :
  CallOK Tryz.prog (E b).G 96 [pO μ 0,.agg ⟨[.int .i64 134,dv]⟩] h K:=by
 have M0:=A.m.old (Old.push h (.cells true 1 [.int .i64 134,dv]));have m0:Mv MB MB h (h.push (.cells true 1 [.int .i64 134,dv])):=Mv.old (Old.push _ _);refine Qh3 (E b) (Vy _ _) (Uf b) (Jd b) mixed (Ui b) (Qw b) U9.1 U9.2.1 U9.2.2 rfl ?_;simp[Us,Q5y b,Xhf];refine Xjs b (by simp[brF]) _ ?_;simp[Us];refine(Xy6 b M0 A.l2 _ ?_).ok;simp[Us,hoff,Xhf]
 match ps,A with
 | [],A =>
  refine(Zi4 b M0 (by simp) _ fun h1 m1 => ?_).ok;simp[Us];exact hp 16 (by simp[doF]) _ ⟨MB,m0.trans m1⟩
 | [(v,x)],A =>
  refine(Zi4 b M0 (by simp) _ fun h1 m1 => ?_).ok;simp[Us];exact hp 16 (by simp[doF]) _ ⟨MB,m0.trans m1⟩
 | (v,x)::(w,y)::ps,A =>
  have l1:ps.length < 15:=by have:=A.l1;simp at this;omega
  refine(Jgr b M0 (A.w.mv m0) (by omega) _ (fun q1 q2 h1 M1 m1 => ?_) (fun q h1 m1 => ?_)).ok
  ·simp[Us];refine(Jd6 b (Jg8 a (x.getD 0 0) y) M1 _ (fun _ v3 h3 MB3 M3 m3 => ?_) (fun q=>by omega)).ok;simp[Us];exact hk (Jik (Jg8 a (x.getD 0 0) y)::ps.map (·.2)) (by simp[doF,Xew,q1,q2];omega) _ ⟨_,MB3,by simp,M3,m0.trans (m1.trans m3)⟩
  ·simp[Us];exact hp 16 (by simp only[doF,aE];simp[q]) _ ⟨MB,m0.trans m1⟩
theorem Z9l(K:KP)(hk:∀ st',doF a 135 data (ps.map (·.2))=.ok st'->∀ h',MOk MB h μ e st' op h'->K (.ret (.tuple #[])) h')(hp:∀ z,doF a 135 data (ps.map (·.2))=.error z->∀ h',Z2o MB h h'->K (.panic (pe z)) h') :
  CallOK Tryz.prog (E b).G 96 [pO μ 0,.agg ⟨[.int .i64 135,dv]⟩] h K:=by
 have M0:=A.m.old (Old.push h (.cells true 1 [.int .i64 135,dv]));have m0:Mv MB MB h (h.push (.cells true 1 [.int .i64 135,dv])):=Mv.old (Old.push _ _);refine Qh3 (E b) (Vy _ _) (Uf b) (Jd b) mixed (Ui b) (Qw b) U9.1 U9.2.1 U9.2.2 rfl ?_;simp[Us,Q5y b,Xhf];refine Xjs b (by simp[brF]) _ ?_;simp[Us];refine(Xy6 b M0 A.l2 _ ?_).ok;simp[Us,hoff,Xhf]
 match ps,A with
 | [],A =>
  refine(Jdz b M0 _ ?_).ok;simp[Us];exact hp 16 (by simp[doF]) _ ⟨MB,m0⟩
 | (v,x)::ps,A =>
  have l1:ps.length < 16:=by have:=A.l1;simp at this;omega
  refine(Jgz b M0 (by omega) _ (fun q1 q2 h1 M1 m1 => ?_) (fun q1 h1 m1 => ?_) (fun q1 q2 h1 m1 => ?_)).ok
  ·simp[Us];rw[A.w.lk]at q2;exact hk (ps.map (·.2)) (by simp[doF,q1,q2]) _ ⟨ps,MB,rfl,M1,m0.trans m1⟩
  ·simp[Us];exact hp 16 (by simp[doF,q1]) _ ⟨MB,m0.trans m1⟩
  ·simp[Us];rw[A.w.lk]at q2;exact hp 18 (by simp[doF,q1,q2]) _ ⟨MB,m0.trans m1⟩
theorem Jac(K:KP)(hk:∀ st',doF a 139 data (ps.map (·.2))=.ok st'->∀ h',MOk MB h μ e st' op h'->K (.ret (.tuple #[])) h')(hp:∀ z,doF a 139 data (ps.map (·.2))=.error z->∀ h',Z2o MB h h'->K (.panic (pe z)) h') :
  CallOK Tryz.prog (E b).G 96 [pO μ 0,.agg ⟨[.int .i64 139,dv]⟩] h K:=by
 have M0:=A.m.old (Old.push h (.cells true 1 [.int .i64 139,dv]));have m0:Mv MB MB h (h.push (.cells true 1 [.int .i64 139,dv])):=Mv.old (Old.push _ _);refine Qh3 (E b) (Vy _ _) (Uf b) (Jd b) mixed (Ui b) (Qw b) U9.1 U9.2.1 U9.2.2 rfl ?_;simp[Us,Q5y b,Xhf];refine Xjs b (by simp[brF]) _ ?_;simp[Us];refine(Xy6 b M0 A.l2 _ ?_).ok;simp[Us,hoff,Xhf]
 match ps,A with
 | [],A =>
  refine(Xee b M0 _ ?_).ok;simp[Us];exact hp 16 (by simp[doF]) _ ⟨MB,m0⟩
 | (v,x)::ps,A =>
  have l1:ps.length < 16:=by have:=A.l1;simp at this;omega
  have lx:x.length<=64:=A.l3 (v,x) (by simp);refine(Qyd b M0 (by omega) _ fun h1 M1 m1 _ i1 _ => ?_).ok;simp[Us];refine(Xsg b M1 i1 l1 _ fun h2 MB2 M2 m2 => ?_).ok;have i2:=i1.mv m2;have len:=fun hx=>Qmi (b:=b) (h1:=hx) i2.sb;have w8:IntKind.u8.wrap (x.length:Int)=(x.length:Int):=Jhz (by omega);simp[Us,len,w8,Xie];have m3:Mv MB2 MB2 h2 (h2.push (.cells true 1 [i8 (x.length:Int)])):=Mv.old (Old.push _ _);have i3:=Itm.new (h:=h2) (MB:=MB2) M2.low (xs:=[(x.length:Int)]) (by intro z hz;simp at hz;omega) (by simp);by_cases l2:ps.length+1 < 16
  ·refine(Xsg b (M2.old (Old.push _ _)) i3 (by simpa using l2) _ fun h4 MB4 M4 m4 => ?_).ok;simp[Us];exact hk ([(x.length:Int)]::x::ps.map (·.2)) (by simp[doF,Xew,l1,l2,Except.bind]) _ ⟨_,MB4,by simp,M4,m0.trans (m1.trans (m2.trans (m3.trans m4)))⟩
  ·refine(Xnu b (M2.old (Old.push _ _)) (by simp;omega) _ ?_).ok;simp[Us];exact hp 16 (by simp[doF,Xew,l1,l2,Except.bind]) _ ⟨MB2,m0.trans (m1.trans (m2.trans m3))⟩
theorem Jb9{code:Int}(e1:¬ code=129)(e2:¬ code=130)(e3:¬ code=131)(e4:¬ code=132)(e5:¬ code=133)(e6:¬ code=134)(e7:¬ code=135)(c8:¬ code=136)(c9:¬ code=137)(c10:¬ code=138)(e11:¬ code=139)(K:KP)(hk:∀ st',doF a code data (ps.map (·.2))=.ok st'->∀ h',MOk MB h μ e st' op h'->K (.ret (.tuple #[])) h')(hp:∀ z,doF a code data (ps.map (·.2))=.error z->∀ h',Z2o MB h h'->K (.panic (pe z)) h') :
  CallOK Tryz.prog (E b).G 96 [pO μ 0,.agg ⟨[.int .i64 code,dv]⟩] h K:=by
 have M0:=A.m.old (Old.push h (.cells true 1 [.int .i64 code,dv]));have m0:Mv MB MB h (h.push (.cells true 1 [.int .i64 code,dv])):=Mv.old (Old.push _ _);refine Qh3 (E b) (Vy _ _) (Uf b) (Jd b) mixed (Ui b) (Qw b) U9.1 U9.2.1 U9.2.2 rfl ?_;simp[Us,Q5y b,Xhf];refine Xjs b (by simp[brF,c8,c9,c10]) _ ?_;simp[Us];refine(Xy6 b M0 A.l2 _ ?_).ok;simp[Us,hoff,Xhf,Jtl,e1,e2,e3,e4,e5,e6,e7,e11];by_cases l1:ps.length < 16
 ·refine(Xsg b M0 (A.i.mv m0) l1 _ fun h2 MB2 M2 m2 => ?_).ok;simp[Us];exact hk (data::ps.map (·.2)) (by simp[doF,Xew,l1,e1,e2,e3,e4,e5,e6,e7,e11]) _ ⟨_,MB2,by simp,M2,m0.trans m2⟩
 ·refine(Xnu b M0 (by omega) _ ?_).ok;simp[Us];exact hp 16 (by simp[doF,Xew,l1,e1,e2,e3,e4,e5,e6,e7,e11]) _ ⟨MB,m0⟩
end
end
section
variable(b:Nat){h:Heap}{MB:Nat->Prop}{μ:Nat}{e:Menv}{a:Asks}{ps:List (Value × List Int)}{op:List Br}{dv:Value}{data:List Int}(A:At h MB μ e a ps op dv data)
include A
section
attribute [local simp] Xb Xi Qw Jb Vz Qr Qx Xd Xa Ye Qq X3 Xx Us Wi Xv Xe Xc X1 X9 X4 Ub Ua Zj Z8
theorem Jl8(K:KP)(hk:∀ st' op',brF 136 (ps.map (·.2)) op=some (some (st',op'))->∀ h',MOk MB h μ e st' op' h'->K (.ret (.tuple #[])) h')(hp:brF 136 (ps.map (·.2)) op=some none->∀ h',Z2o MB h h'->K (.panic (pe 16)) h') :
  CallOK Tryz.prog (E b).G 96 [pO μ 0,.agg ⟨[.int .i64 136,dv]⟩] h K:=by
 have M0:=A.m.old (Old.push h (.cells true 1 [.int .i64 136,dv]));have m0:Mv MB MB h (h.push (.cells true 1 [.int .i64 136,dv])):=Mv.old (Old.push _ _);refine Qh3 (E b) (Vy _ _) (Uf b) (Jd b) mixed (Ui b) (Qw b) U9.1 U9.2.1 U9.2.2 rfl ?_;simp[Q5y b,Xhf];refine Jtk b M0 (by have:=A.l1;omega) A.l2 (fun p hp=>by have:=A.l3 p hp;omega) _ (fun st' op' q h' m => ?_) (fun q h' m => ?_)
 ·obtain⟨ps',MB',q1,q2,q3⟩:=m;simp;exact hk st' op' q h' ⟨ps',MB',q1,q2,m0.trans q3⟩
 ·obtain⟨MB',q1⟩:=m;simp;exact hp q h' ⟨MB',m0.trans q1⟩
theorem Jat(K:KP)(hk:∀ st' op',brF 137 (ps.map (·.2)) op=some (some (st',op'))->∀ h',MOk MB h μ e st' op' h'->K (.ret (.tuple #[])) h')(hp:brF 137 (ps.map (·.2)) op=some none->∀ h',Z2o MB h h'->K (.panic (pe 16)) h') :
  CallOK Tryz.prog (E b).G 96 [pO μ 0,.agg ⟨[.int .i64 137,dv]⟩] h K:=by
 have M0:=A.m.old (Old.push h (.cells true 1 [.int .i64 137,dv]));have m0:Mv MB MB h (h.push (.cells true 1 [.int .i64 137,dv])):=Mv.old (Old.push _ _);refine Qh3 (E b) (Vy _ _) (Uf b) (Jd b) mixed (Ui b) (Qw b) U9.1 U9.2.1 U9.2.2 rfl ?_;simp[Q5y b,Xhf]
 match op,A with
 | [],A =>
  refine Jfi b M0 (.inl rfl) _ ?_;simp;exact hp (by simp[brF]) _ ⟨MB,m0⟩
 | x::l,A =>
  refine Jnz b M0 (by have:=A.l2;simp at this;omega) _ (fun ht h1 M1 m1 => ?_) (fun ht => ?_)
  ·simp;exact hk _ _ (by simp[brF,ht]) _ ⟨ps,MB,rfl,M1,m0.trans m1⟩
  ·simp;exact hp (by simp[brF,ht]) _ ⟨MB,m0⟩
theorem Jjq(K:KP)(hk:∀ st' op',brF 138 (ps.map (·.2)) op=some (some (st',op'))->∀ h',MOk MB h μ e st' op' h'->K (.ret (.tuple #[])) h')(hp:brF 138 (ps.map (·.2)) op=some none->∀ h',Z2o MB h h'->K (.panic (pe 16)) h') :
  CallOK Tryz.prog (E b).G 96 [pO μ 0,.agg ⟨[.int .i64 138,dv]⟩] h K:=by
 have M0:=A.m.old (Old.push h (.cells true 1 [.int .i64 138,dv]));have m0:Mv MB MB h (h.push (.cells true 1 [.int .i64 138,dv])):=Mv.old (Old.push _ _);refine Qh3 (E b) (Vy _ _) (Uf b) (Jd b) mixed (Ui b) (Qw b) U9.1 U9.2.1 U9.2.2 rfl ?_;simp[Q5y b,Xhf]
 match op,A with
 | [],A =>
  refine Jfi b M0 (.inr rfl) _ ?_;simp;exact hp (by simp[brF]) _ ⟨MB,m0⟩
 | x::l,A =>
  refine Jpk b M0 (by have:=A.l2;simp at this;omega) _ (fun h1 M1 m1 => ?_);simp;exact hk _ _ (by simp[brF]) _ ⟨ps,MB,rfl,M1,m0.trans m1⟩
end
def Jo2{code:Int}(K:KP)(hk:∀ st' op',Q7r a code data (ps.map (·.2)) op=.ok (st',op')->∀ h',MOk MB h μ e st' op' h'->K (.ret (.tuple #[])) h')(hp:∀ z,Q7r a code data (ps.map (·.2)) op=.error z->∀ h',Z2o MB h h'->K (.panic (pe z)) h') :
  CallOK Tryz.prog (E b).G 96 [pO μ 0,.agg ⟨[.int .i64 code,dv]⟩] h K:=by
 by_cases c8:code=136
 ·subst c8;exact Jl8 b A K (fun st' op' q=>hk st' op' (by simp only[Q7r,q])) (fun q=>hp 16 (by simp only[Q7r,q]))
 by_cases c9:code=137
 ·subst c9;exact Jat b A K (fun st' op' q=>hk st' op' (by simp only[Q7r,q])) (fun q=>hp 16 (by simp only[Q7r,q]))
 by_cases c10:code=138
 ·subst c10;exact Jjq b A K (fun st' op' q=>hk st' op' (by simp only[Q7r,q])) (fun q=>hp 16 (by simp only[Q7r,q]))
 have hbr:∀ st op,brF code st op=none:=fun st op=>by simp[brF,c8,c9,c10]
 cases hoff:Jgw op with
 | true=>exact Ji9 b A hoff (hbr _ _) K (fun h' m=>hk _ _ (by simp[Q7r,hbr,hoff]) h' m)
 | false =>
  have e1:∀ st',doF a code data (ps.map (·.2))=.ok st'->Q7r a code data (ps.map (·.2)) op=.ok (st',op):=fun st' q=>by simp[Q7r,hbr,hoff,q,Except.map]
  have e2:∀ z,doF a code data (ps.map (·.2))=.error z->Q7r a code data (ps.map (·.2)) op=.error z:=fun z q=>by simp[Q7r,hbr,hoff,q,Except.map]
  have k1:∀ st',doF a code data (ps.map (·.2))=.ok st'->∀ h',MOk MB h μ e st' op h'->K (.ret (.tuple #[])) h':=fun st' q h' m=>hk _ _ (e1 st' q) h' m;have k2:∀ z,doF a code data (ps.map (·.2))=.error z->∀ h',Z2o MB h h'->K (.panic (pe z)) h':=fun z q h' m=>hp _ (e2 z q) h' m;clear hk hp e1 e2;by_cases c1:code=129
  ·subst c1;exact Jit b A hoff K k1 k2
  by_cases c2:code=130
  ·subst c2;exact Jct b A hoff K k1 k2
  by_cases c3:code=131
  ·subst c3;exact Jah b A hoff K k1 k2
  by_cases c4:code=132
  ·subst c4;exact Ja3 b A hoff K k1 k2
  by_cases c5:code=133
  ·subst c5;exact Z2u b A hoff K k1 k2
  by_cases c6:code=134
  ·subst c6;exact Jf7 b A hoff K k1 k2
  by_cases c7:code=135
  ·subst c7;exact Z9l b A hoff K k1 k2
  by_cases c11:code=139
  ·subst c11;exact Jac b A hoff K k1 k2
  exact Jb9 b A hoff c1 c2 c3 c4 c5 c6 c7 c8 c9 c10 c11 K k1 k2
end
def Jm0(b:Nat){l:List Value}(hl:l.length=34):Qn1 (E b).toEnv 162 [(0,.agg ⟨l⟩)]=some (.agg ⟨l ++ [.slice none 0 0,.slice none 0 0]⟩):=by
 have e:Qn1 (E b).toEnv 162 [(0,.agg ⟨l⟩)]=(Xsb (nth [(0,34),(34,1),(35,1)]) ((.pointer none::List.replicate 32 zU) ++ [.int .i64 0,.slice none 0 0,.slice none 0 0]) [(0,.agg ⟨l⟩)]).map fun c => .agg c.toArray:=kR
 rw[e];have hc:(Value.agg ⟨l⟩).cells.toList=l:=rfl;have hs:(Value.agg ⟨l⟩).cells.size=34:=hl;have hz:((.pointer none::List.replicate 32 zU) ++ [.int .i64 0,.slice none 0 0,.slice none 0 0]:List Value).length=36:=by simp
 have hp:Qlj ((.pointer none::List.replicate 32 zU) ++ [.int .i64 0,.slice none 0 0,.slice none 0 0]:List Value) 0 l=some (l ++ [.slice none 0 0,.slice none 0 0]):=by
  rw[Qq8 (by rw[hz,hl];omega),hl];rfl
 have hb:(Qid (.agg ⟨l⟩) && (Value.agg ⟨l⟩).cells.size == 34 && Nat.ble (0+34) ((.pointer none::List.replicate 32 zU) ++ [.int .i64 0,.slice none 0 0,.slice none 0 0]:List Value).length)=true:=by
  rw[hs,hz];rfl
 simp only[Xsb,nth,hb,if_true,hc,hp];rfl
def ItsAt(h:Heap)(items:List (Value × List Int)):Prop:=∀ p ∈ items,SB h p.1 p.2/\Bytes p.2
def ItsAt.old{h h':Heap}{items:List (Value × List Int)}(i:ItsAt h items)(a:Old h h'):ItsAt h' items:=fun p hp=>⟨(i p hp).1.old a,(i p hp).2⟩
def BGI(sv:Value)(items:List (Value × List Int))(e:Menv)(h:Heap)(μ:Nat)(k:Nat)(s:St):Prop:=∃ (t:Tr Value) (h1:Heap) (MB:Nat->Prop) (ps:List (Value × List Int)) (i:Nat),s=⟨⟨26,t⟩,[],h1⟩/\t.get 5=some (pO μ 0)/\t.get 11=some sv/\t.get 12=some (.int .i64 (items.length:Int))/\t.get 13=some (.int .i64 (i:Int))/\i<=items.length/\k=items.length-i/\Mach h1 MB μ e ps []/\Old h h1/\(∀ c,MB c->h.next<=c) /\
 Yap (items.map (·.2)) []=Yap ((items.drop i).map (·.2)) (ps.map (·.2))
section
attribute [local simp] Qfx Qlq Vh Qet Z8 X1 X3 
def Jj0(b:Nat){h:Heap}{sv:Value}{items:List (Value × List Int)}{e:Menv}(ss:Sl h 1 sv items.length (items.map (·.1)))(hn:items.length < 1000000)(its:ItsAt h items)(K:KP)
  (hk:∀ h' μ MB ps,Yap (items.map (·.2)) []=.ok (ps.map (·.2))->Mach h' MB μ e ps []->Old h h'->(∀ c,MB c->h.next<=c)->K (.ret (pO μ 0)) h')
  (hp:Yap (items.map (·.2)) []=.error 16->∀ h',Old h h'->K (.panic (pe 16)) h'):FK b 95 [sv,.agg ⟨e.cells⟩] h K:=by
 refine F3 b (Vh b) Ypg rfl ?_;obtain⟨hA,eA⟩:∃ hA,hA=h.push (.cells true 1 e.cells):=⟨_,rfl⟩;have bxA:=Qw8 eA;have gA:hA.get h.next=some (.cells true 1 e.cells):=by rw[eA,Heap.get_push,if_pos rfl]
 have aA:=Qon eA;have nA:=Q8i eA;have ldA:Wy hA h.next 0 34=some (.agg ⟨e.cells⟩):=agW gA (by rw[e.len];omega) (by rw[e.len];exact ab _);have bxB:Zzo (.agg ⟨e.cells ++ [.slice none 0 0,.slice none 0 0]⟩) hA=some (pO hA.next 0,hA.push (.cells true 1 (e.cells ++ [.slice none 0 0,.slice none 0 0]))):=rfl;obtain⟨hB,eB⟩:∃ hB,hB=hA.push (.cells true 1 (e.cells ++ [.slice none 0 0,.slice none 0 0])):=⟨_,rfl⟩;rw[<- eB]at bxB;have gB:hB.get hA.next=some (.cells true 1 (e.cells ++ [.slice none 0 0,.slice none 0 0])):=by rw[eB,Heap.get_push,if_pos rfl]
 have aB:=Qon eB;have lenS:∀ hx,Qkc (E b).toEnv 66 sv hx=some (.int .i64 (items.length:Int)):=fun hx=>Qa0 (T66 b) ss;simp[bxA,ldA,Jm0 b e.len,bxB,lenS];have lB:=Heap.get_lt gB;have M0:Mach hB (fun c=>c=hA.next) hA.next e [] []:=by
  refine⟨⟨.slice none 0 0,.slice none 0 0,1,gB,rfl,?_,?_,fun c hc=>by simp[J4]at hc,fun c hc=>by simp[J4]at hc⟩,by simp,fun c hc=>by rw[hc];exact lB⟩
  ·exact Own.nil
  ·exact Own.nil
 refine Qdf (BGI sv items e h hA.next) items.length ⟨_,hB,fun c=>c=hA.next,[],0,rfl,by simp,by simp,by simp,by simp,by omega,rfl,M0,aA.trans aB,fun c hc=>by omega,by simp⟩ ?_;rintro k s' ⟨t,h1,MB,ps,i,rfl,t5,t11,t12,t13,hi,rfl,M,hold,hmb,hF⟩ _;by_cases hlt:i < items.length
 ·have hlt':(i:Int) < (items.length:Int):=by omega
  obtain⟨p,hpi⟩:∃ p,items[i]? = some p:=⟨_,List.getElem?_eq_getElem hlt⟩;obtain⟨v,x⟩:=p;have hd:items.drop i=(v,x)::items.drop (i+1):=by
   rw[bb hlt];rw[List.getElem?_eq_getElem hlt]at hpi;rw[bz hpi]
  obtain⟨bk,off,q1,q2,q3, -⟩:=Q7o (T66 b) Qic (ss.old hold) (k:=.i64) (i:=(i:Int)) (by omega) (by omega);have q4:Yw h1 bk off=some v:=by
   have:=q3 0 (by omega);simpa[hpi]using this
  obtain⟨sx,bx⟩:=its (v,x) (List.mem_of_getElem? hpi);have iv:Itm h1 MB v x:=⟨sx.old hold,bx,fun c hc hm=>by have:=sx.blk hc;have:=hmb c hm;omega⟩;have len:=fun hx=>Qmi (b:=b) (h1:=hx) iv.sb;have hw:=wS (i:=i) (by omega);rw[hd]at hF;by_cases hx:x.length<=64
  ·have hx':(x.length:Int)<=64:=by omega
   simp[t5,t11,t12,t13,hlt',q2,q4,len,hx'];refine Xut b h1 16 _ ?_;simp[t5,t11,t12,t13];by_cases hl:ps.length < 16
   ·refine Xsg b M iv hl _ fun h2 MB2 M2 m2 => ?_;simp[t5,t11,t12,t13,hw];refine⟨items.length-(i+1),by omega,_,h2,MB2,(v,x)::ps,i+1,rfl,by simp[t5],by simp[t11],by simp[t12],by simp,by omega,rfl,M2,⟨ai hold.1 m2.next,fun c hc => ?_⟩,fun c hc => ?_,?_⟩
    ·rw[m2.same c (au hc hold.1) (fun q=>by have:=hmb c q;omega),hold.2 c hc]
    ·rcases m2.sub c hc with q | q
     ·exact hmb c q
     ·exact ai hold.1 q
    ·rw[hF];simp[Yap,hx,Xew,hl,Except.bind]
   ·refine Xnu b M (by omega) _ ?_;simp[t5,t11,t12,t13];exact hp (by rw[hF];simp[Yap,hx,Xew,hl,Except.bind]) h1 hold
  ·have hx':¬ (x.length:Int)<=64:=by omega
   simp[t5,t11,t12,t13,hlt',q2,q4,len,hx'];refine Xi8 b h1 16 _ ?_;simp[t5,t11,t12,t13];exact hp (by rw[hF];simp[Yap,hx]) h1 hold
 ·have hlt':¬ (i:Int) < (items.length:Int):=by omega
  simp[t5,t11,t12,t13,hlt'];have : i=items.length:=by omega
  subst this;exact hk h1 hA.next MB ps (by rw[hF];simp[Yap]) M hold hmb
end
end Go.Proofs.YtapodfgjkmddlaaGreatDoor
end
noncomputable section
namespace Go.Ab
section
variable{P:Program}{E:Env2 P}{C:CallF}{k:Nat}
def Y19:∀ l:List Oper,Y5z (l.map bare)=Y5z l
 | []=>rfl
 | o::r=>by
  simp only[aE,Y5z,Y19 r];rfl
def Zzb(ops:List Oper):∀ (l:List Oper) (u:FrameMode) (s:St),Zzm E (ops.map bare) (l.map bare) u s=Zzm E ops l u s
 | [],u,s=>rfl
 | o::r,u,s=>by
  have ih:=Zzb ops r;have e1:(bare o).dst=o.dst:=rfl;have e2:Zxn (bare o)=Zxn o:=rfl;have e3:Ys (bare o)=Ys o:=rfl;have e4:∀ t h,aop E t h (bare o)=aop E t h o:=fun _ _=>rfl;simp only[aE,Zzm,Xrq,e1,e2,e3,e4,ih]
def Xmh:∀ (c:Code) (u:FrameMode) (s:St),Q4j E C k (U1 c) u s=Q4j E C k c u s
 | .seq x y,u,s=>by
  simp only[U1,Q4j,Xmh x];split
  ·exact Xmh y _ _
  ·rfl
 | .cond c x y,u,s=>by
  simp only[U1,Q4j];split
  ·exact Xmh x u s
  ·exact Xmh y u s
  ·rfl
 | .block id c,u,s=>by simp only[Q4j,Q0b (.block id c)];simp only[U1,Q4j];rw[<- Q0b (.block id c)];rfl
 | .loop c,u,s=>by
  have:=Q0b (E:=E) (C:=C) (rd:=none) (k:=k) (.loop c) s;simp only[U1]at this;simp only[U1,Q4j,this]
 | .region id ops false,u,s=>by
  have h1:=Q0b (E:=E) (C:=C) (rd:=none) (k:=k) (.region id ops false) s;simp only[U1]at h1;have h2:=Y19 ops.toList;have h3:=Zzb (E:=E) ops.toList ops.toList u s;simp only[U1,Q4j,h1,h2,h3]
 | .region id ops true,u,s=>rfl
 | .skip,u,s=>rfl
 | .label _,u,s=>rfl
 | .ret,u,s=>rfl
 | .exit _,u,s=>rfl
 | .rangeFunc ..,u,s=>rfl
 | .scope ..,u,s=>rfl
 | .goto ..,u,s=>rfl
 | .refuse ..,u,s=>rfl
def Z5s{f n:Nat}{args:List Value}{u u':FrameMode}{h h':Heap}{fn:Func}{c cb:Code}{e:Exit}{t:Tm}{v:Value}(hfn:E.fn.get f=some fn)(hb:fn.body=some c)(hn:fn.ntmps=n)(hc:U1 c=cb)(hle:Nat.ble args.length n=true)
  (hx:Q4j E C k cb u ⟨⟨n,Xm.putAll 0 args .leaf⟩,[],h⟩=some (e,u',⟨t,[],h'⟩)) (he:e=.normal∨e=.ret) (hr:Yn E fn t h'=some v):Xue E C k f args u h=some (.ret v,u',h'):=by
 subst hn hc;rw[Xmh]at hx;unfold Xue;simp only[hfn,hb,hle,Xm,hx];rcases he with rfl | rfl <;> simp only[hr]
end
end Go.Ab
namespace Go.Proofs.YtapodfgjkmddlaaGreatDoor
open Go Go.Ab
set_option maxRecDepth 100000
def peR(z:Int):List PanicEntry:=[{v:=.iface 39 (.int .i64 z),recovered:=true}]
def Joi(b:Nat)(q:Bool)(t:TypeId)(v:Value):Y9 (E b).toEnv .neq 20 q (.iface t v) .nilIface=some (.bool true):=kR
def Jn1(b:Nat):Y9 (E b).toEnv .neq 20 true .nilIface .nilIface=some (.bool false):=kR
def Jja(b:Nat)(z:Int):Xzy (E b).toEnv (.iface 39 (.int .i64 z)) 39 false=some (.int .i64 z):=kR
section
attribute [local simp] Q63 Xfw Xg3 Xfx Xd0 Xdp Xfn Xg6 Xgd Xed Q4j Y5z Zxn Zzm Ja7 Ys pe Xm.putAll Q4d X0n Yxv Yjr aop Qg nth Ab.g0 gv gs Qd Qc Xj aev evs evO Qh Tr.get_put St.put Tm.put flat flatA Qm Qp Qn Qo Qk Ql Qj Qt Ya Qi Q7 Q8 Qv Q0 Q9
def Jhb(b:Nat){h:Heap}{B:Nat}{y:Value}(z:Int)(hg:h.get B=some (.cells true 1 [y])):DD b 92 [pO B 0] (.panicking (pe z)) h=some (.ret (.tuple #[]),.panicking (peR z),h.set B (some (.cells true 1 [.int .i64 z]))):=by
 have e1:(E b).fn.get 92=some Qn5:=Q45 b;have st:Ur h B 0 [.int .i64 z]=some (h.set B (some (.cells true 1 [.int .i64 z]))):=Qeu hg (by simp);refine Z5s (e:=.normal) e1 Xmz.1 Xmz.2.1 Xmz.2.2 rfl (by simp[Y9,-Y9,Joi,Jja,Qrj,st];first | exact rfl | exact⟨rfl,rfl⟩) (.inl rfl) ?_;simp[Yn,Xya]
def Jrs(b:Nat){h:Heap}{B:Nat}{y:Value}:DD b 92 [pO B 0] .returning h=some (.ret (.tuple #[]),.returning,h):=by
 have e1:(E b).fn.get 92=some Qn5:=Q45 b;refine Z5s (e:=.normal) e1 Xmz.1 Xmz.2.1 Xmz.2.2 rfl (by simp[Y9,-Y9,Jn1];first | exact rfl | exact⟨rfl,rfl⟩) (.inl rfl) ?_;simp[Yn,Xya]
end
end Go.Proofs.YtapodfgjkmddlaaGreatDoor
end
noncomputable section
namespace Go.Proofs.YtapodfgjkmddlaaGreatDoor
open Go Go.Ab
set_option maxRecDepth 100000
def Bd(st:List (List Int)):Prop:=st.length<=16/\∀ x ∈ st,x.length<=64
def Xbf{x:List Int}{st st':List (List Int)}(h:Xew x st=.ok st')(hb:Bd st)(hx:x.length<=64):Bd st':=by
 unfold Xew at h;split at h
 ·rename_i hl;cases h;refine⟨by simp;omega,fun y hy => ?_⟩;rcases ap.1 hy with rfl | hy
  ·exact hx
  ·exact hb.2 y hy
 ·cases h
def X12{x:List Int}{st:List (List Int)}(hb:Bd (x::st)):Bd st/\x.length<=64:=by
 obtain⟨h1,h2⟩:=hb;simp at h1;exact⟨⟨by omega,fun y hy=>h2 y (by simp[hy])⟩,h2 x (by simp)⟩
def Z0y{A B:Type}{x:Except Int A}{f:A->Except Int B}{y:B}(h:x.bind f=.ok y):∃ z,x=.ok z/\f z=.ok y:=by
 cases x with
 | error e=>cases h
 | ok z=>exact⟨z,rfl,h⟩
def Jdn(x:Bool):(Jik x).length<=64:=by cases x <;> simp[Jik]
def Jpq{a:Asks}{code:Int}{data:List Int}{st st':List (List Int)}(h:doF a code data st=.ok st')(hb:Bd st)(hd:data.length<=64):Bd st':=by
 unfold doF at h;split at h
 ·split at h
  ·obtain⟨p1,p2⟩:=X12 hb;obtain⟨z,z1,z2⟩:=Z0y h;exact Xbf z2 (Xbf z1 p1 p2) p2
  ·cases h
 split at h
 ·split at h
  ·cases h;exact(X12 hb).1
  ·cases h
 split at h
 ·split at h
  ·exact Xbf h (X12 hb).1 (by rw[Ziq];omega)
  ·cases h
 split at h
 ·split at h
  ·exact Xbf h (X12 (X12 hb).1).1 (Jdn _)
  ·cases h
 split at h
 ·split at h
  ·split at h
   ·cases h;exact(X12 hb).1
   ·cases h
  ·cases h
 split at h
 ·split at h
  ·split at h
   ·exact Xbf h (X12 (X12 hb).1).1 (Jdn _)
   ·cases h
  ·cases h
 split at h
 ·split at h
  ·split at h
   ·split at h
    ·cases h;exact(X12 hb).1
    ·cases h
   ·cases h
  ·cases h
 split at h
 ·split at h
  ·obtain⟨p1,p2⟩:=X12 hb;obtain⟨z,z1,z2⟩:=Z0y h;exact Xbf z2 (Xbf z1 p1 p2) (by simp)
  ·cases h
 exact Xbf h hb hd
def Jos{code:Int}{st st':List (List Int)}{op op':List Br}(h:brF code st op=some (some (st',op')))(hb:Bd st):Bd st'/\op'.length<=op.length+1:=by
 unfold brF at h;split at h
 ·split at h
  ·cases h;exact⟨hb,by simp⟩
  ·split at h
   ·cases h
   ·cases h;exact⟨(X12 hb).1,by simp⟩
 ·split at h
  ·split at h
   ·cases h
   ·split at h
    ·cases h;exact⟨hb,by simp;omega⟩
    ·split at h
     ·cases h
     ·cases h;exact⟨hb,by simp⟩
  ·cases h
def Jgx{a:Asks}{code:Int}{data:List Int}{st st':List (List Int)}{op op':List Br}(h:Q7r a code data st op=.ok (st',op'))(hb:Bd st)(hd:data.length<=64):Bd st'/\op'.length<=op.length+1:=by
 unfold Q7r at h;split at h
 ·cases h
 ·rename_i p hp;cases h;exact Jos hp hb
 ·split at h
  ·cases h;exact⟨hb,by omega⟩
  ·cases hq:doF a code data st with
   | error e=>rw[hq]at h;cases h
   | ok st1 =>
    rw[hq]at h;cases h;exact⟨Jpq hq hb hd,by omega⟩
def Z65:∀ {l st st':List (List Int)},Yap l st=.ok st'->Bd st->Bd st'
 | [],st,st',h,hb=>by cases h;exact hb
 | x::l,st,st',h,hb=>by
  unfold Yap at h;split at h
  ·rename_i hx;obtain⟨z,z1,z2⟩:=Z0y h;exact Z65 z2 (Xbf z1 hb hx)
  ·cases h
def Bd.nil:Bd []:=⟨by simp,by simp⟩
def Zq7:∀ {f:Nat} {xs:List Int} {l:List (Int × List Int)},Bytes xs->pz f xs=some l->∀ p ∈ l,Bytes p.2
 | f,[],l,_,h=>by cases f <;> (simp[pz]at h;subst h;simp)
 | 0,_::_,l,_,h=>by simp[pz]at h
 | f+1,c::r,l,hb,h=>by
  have hr:Bytes r:=fun z hz=>hb z (by simp[hz]);simp only[pz]at h;split at h
  ·rw[ak]at h;obtain⟨l',h1,rfl⟩:=h;intro p hp;rcases ap.1 hp with rfl | hp
   ·exact fun z hz=>hr z (ce hz)
   ·exact Zq7 (fun z hz=>hr z (dy hz)) h1 p hp
  ·split at h
   ·cases h
   ·rw[ak]at h;obtain⟨l',h1,rfl⟩:=h;intro p hp;rcases ap.1 hp with rfl | hp
    ·intro z hz;simp at hz
    ·exact Zq7 hr h1 p hp
def dfr(B:Nat):Deferred:={target:=.fn (.func 92) #[pO B 0],args:=#[]}
def Juo(b:Nat)(h:Heap)(bk o:Nat):Qjm (E b).toEnv 39 (pO bk o) h=Yw h bk o:=Qz0 (Joz b) Jns
def Jbf(b:Nat){t:Tr Value}{h:Heap}{B:Nat}{y:Value}{z:Int}{K:AEnd->Heap->Prop}(ht:t.get 6=some (pO B 0))(hg:h.get B=some (.cells true 1 [y]))(hk:K (.ret (.int .i64 z)) (h.set B (some (.cells true 1 [.int .i64 z])))) :
  Zh4 (E b) (DD b) Qn0 K (.panic (pe z)) ⟨⟨59,t⟩,[dfr B],h⟩:=by
 have e1:(E b).fn.get 92=some Qn5:=Q45 b;have e2:=Jhb b z hg;have e3:settle (.panicking (peR z))=.returning:=kR
 have lt:=Heap.get_lt hg;have e4:Yw (h.set B (some (.cells true 1 [.int .i64 z]))) B 0=some (.int .i64 z):=(Yi (z:=1) (ow:=true) (c:=[.int .i64 z]) (by rw[gY lt,if_pos rfl])).trans rfl;show Xep (E b) (DD b) Qn0 K (.panicking (pe z)) ⟨⟨59,t⟩,[dfr B],h⟩;rw[Q6];have e5:X2 (E b) (DD b) Qn0 ⟨59,t⟩ [dfr B] (.panicking (pe z)) h=some (.ret (.int .i64 z),h.set B (some (.cells true 1 [.int .i64 z]))):=by
  simp only[X2,dfr,e1];simp[e2,e3,X2,Yn,Ya,Qa3,ht,Juo,e4]
 rw[e5];exact hk
def Jnu(b:Nat){t:Tr Value}{h:Heap}{B:Nat}{z:Int}{K:AEnd->Heap->Prop}(ht:t.get 6=some (pO B 0))(hg:Yw h B 0=some (.int .i64 z))(hk:K (.ret (.int .i64 z)) h) :
  Xep (E b) (DD b) Qn0 K .returning ⟨⟨59,t⟩,[dfr B],h⟩:=by
 have e1:(E b).fn.get 92=some Qn5:=Q45 b;have e2:=Jrs b (h:=h) (B:=B) (y:=.bool true);have e3:settle .returning=.returning:=kR
 rw[Q6];have e5:X2 (E b) (DD b) Qn0 ⟨59,t⟩ [dfr B] .returning h=some (.ret (.int .i64 z),h):=by
  simp only[X2,dfr,e1];simp[e2,e3,X2,Yn,Ya,Qa3,ht,Juo,hg]
 rw[e5];exact hk
abbrev Wo(h:Heap)(e:Menv)(a:Asks):Prop:=Wd h (fun _=>False) e a
def Wo.old{h h':Heap}{e:Menv}{a:Asks}(w:Wo h e a)(o:Old h h'):Wo h' e a:=w.mv (Mv.old o)
def Wo.mb{h h':Heap}{MB:Nat->Prop}{e:Menv}{a:Asks}(w:Wo h e a)(o:Old h h')(hm:∀ c,MB c->h.next<=c):Wd h' MB e a :=
 w.mv ⟨o.1,fun c hc _=>o.2 c hc,fun c hc => .inr (hm c hc)⟩
def Jp9{h:Heap}{n0:Nat}{lv:Value}{os:List OpV}{te ts:TypeId}{re rs:TyRec}{b:Nat}(T:SlTy (E b).toEnv te ts re rs)(hz:re.size=2)(o:Own h n0 2 lv os.length (Qt0 os)){i:Nat}{p:OpV}(hp:os[i]? = some p) :
  ∃ bk off,V5 (E b).toEnv ts lv (.int .i64 (i:Int))=some (pO bk off)/\Wy h bk off 2=some (.agg ⟨[.int .i64 p.code,p.val]⟩):=by
 obtain⟨bk,off,h1,h2,h3,h4⟩:=Jpb (b:=b) T hz o hp;refine⟨bk,off,h2,?_⟩;unfold Yw at h3 h4;unfold Wy;cases hg:h.get bk with
 | none=>rw[hg]at h3;cases h3
 | some x =>
  cases x with
  | cells ow z c =>
   rw[hg]at h3 h4;simp only at h3 h4;have : Q72 2 (c.drop off)=some [.int .i64 p.code,p.val]:=by
    have l1:off < c.length:=(List.getElem?_eq_some_iff.1 h3).1;have l2:off+1 < c.length:=(List.getElem?_eq_some_iff.1 h4).1;rw[bb l1,bb l2];rw[List.getElem?_eq_getElem l1]at h3;rw[List.getElem?_eq_getElem l2]at h4;rw[bz h3,bz h4];simp[Q72]
   simp only[this];rfl
  | _=>rw[hg]at h3;cases h3
def RLI(a:Asks)(l:List (Int × List Int))(st0:List (List Int))(lv:Value)(os:List OpV)(e:Menv)(hq:Heap)(B μ:Nat)(k:Nat)(s:St):Prop:=∃ (t:Tr Value) (h1:Heap) (MB:Nat->Prop) (ps:List (Value × List Int)) (op:List Br) (i:Nat),s=⟨⟨59,t⟩,[dfr B],h1⟩/\t.get 6=some (pO B 0)/\t.get 9=some (pO μ 0)/\t.get 25=some lv/\t.get 26=some (.int .i64 (os.length:Int))/\t.get 27=some (.int .i64 (i:Int))/\i<=os.length/\k=os.length-i /\
 Mach h1 MB μ e ps op/\Old hq h1/\(∀ c,MB c->hq.next<=c)/\Bd (ps.map (·.2))/\op.length<=i/\X0u a l st0 []=X0u a (l.drop i) (ps.map (·.2)) op
def eR{MB MB':Nat->Prop}{hq h h':Heap}(a:Old hq h)(hm:∀ c,MB c->hq.next<=c)(m:Mv MB MB' h h'):Old hq h'/\∀ c,MB' c->hq.next<=c :=
 ⟨⟨ai a.1 m.next,fun c hc=>by rw[m.same c (au hc a.1) (fun q=>by have:=hm c q;omega),a.2 c hc]⟩,fun c hc=>by
  rcases m.sub c hc with q | q
  ·exact hm c q
  ·exact ai a.1 q⟩
attribute [local simp] Xj Xn Yn Ya aop Qg nth Ab.g0 gv gs Qd Qc aev evs evO Qh Tr.get_put St.put Tm.put flat flatA Y9 Qm Qp Qn Qo Qk Ql Qj Qt Qi Q7 Q8 Xm.putAll Qv Q0 Q9
section
attribute [local simp] W0 Qa3 Jh V3 Qbo X1 Qet Vh Qlp Qlo Qlf Qw Uk Qdc Ye Qcu Qbm Z8 Xc W1 Uj U4 Qrj Xt Xl Qz X7 Xs Xg X5 Xr X0 Xk Xh X6 Qu Xf X8 Qy Yh Zx Yg Xw
set_option maxHeartbeats 1000000 in
def Zhq(b:Nat){h:Heap}{v sv:Value}{xs:List Int}{items:List (Value × List Int)}{e:Menv}{a:Asks}(s:SB h v xs)(hb:Bytes xs)(ss:Sl h 1 sv items.length (items.map (·.1)))(hn:items.length < 1000000)(its:ItsAt h items)(wo:Wo h e a)(K:KP)
  (hk:∀ h',Old h h'->K (.ret (.int .i64 (Zhu a xs (items.map (·.2))))) h'):CallOK Tryz.prog (E b).G 55 [v,sv,.agg ⟨e.cells⟩] h K:=by
 refine Qh3 (E b) (Vy _ _) (Uf b) (Jd b) mixed (Ui b) (Jh b) Y5p.1 Y5p.2.1 Y5p.2.2 rfl ?_;obtain⟨hA,eA⟩:∃ hA,hA=h.push (.cells true 1 e.cells):=⟨_,rfl⟩;obtain⟨hB,eB⟩:∃ hB,hB=hA.push (.cells true 1 [.int .i64 0]):=⟨_,rfl⟩;have aA:=Qon eA;have aB:=Qon eB;have aAB:=aA.trans aB;have nA:=Q8i eA;have gA:hA.get h.next=some (.cells true 1 e.cells):=by rw[eA,Heap.get_push,if_pos rfl]
 have gB:hB.get hA.next=some (.cells true 1 [.int .i64 0]):=by rw[eB,Heap.get_push,if_pos rfl]
 have bxA:=Qw8 eA;have alB:Qbx (E b).toEnv 39 hA=some (pO hA.next 0,hB):=by rw[eB];exact Xku b hA
 have die:∀ (t:Tr Value) (h1:Heap) (z:Int),t.get 6=some (pO hA.next 0)->Old hB h1->Zhu a xs (items.map (·.2))=z->Zh4 (E b) (DD b) Qn0 K (.panic (pe z)) ⟨⟨59,t⟩,[dfr hA.next],h1⟩:=by
  intro t h1 z ht ho hz;have g1:=ho.get gB;refine Jbf b ht g1 ?_;rw[<- hz];refine hk _ ((aAB.trans ho).set _ (by omega) (Heap.get_lt g1))
 simp[Xku,Q6,X2,bxA,-Xku,alB,Y3z];refine(Jjw b (s.old aAB) hb _ (fun hno h3 a3 => ?_) (fun l g1 g2 g3 lv os h3 q3 os3 a3 => ?_)).ok
 ·simp[Xku,Q6,X2];refine(Xi8 b h3 16 _ ?_).ok;simp[Xku,Q6,X2];refine die _ h3 16 (by simp) a3 ?_;rcases hno with q | q | ⟨l',q,q'⟩
  ·simp[Zhu,q]
  ·unfold Zhu;split
   ·rfl
   ·rw[q]
  ·unfold Zhu;split
   ·rfl
   ·rw[q];simp only;rw[if_pos q']
 ·have hF:Zhu a xs (items.map (·.2))=Jlq a l (items.map (·.2)):=by
   unfold Zhu;rw[if_neg (by omega),g2];simp only;rw[if_neg (by omega)]
  have ldA:Wy h3 h.next 0 34=some (.agg ⟨e.cells⟩):=agW ((aB.trans a3).get gA) (by rw[e.len];omega) (by rw[e.len];exact ab _);simp[Xku,Q6,X2];refine(Xut b h3 0 _ ?_).ok;simp[Xku,Q6,X2,ldA];refine(Jj0 b (ss.old (aAB.trans a3)) hn (its.old (aAB.trans a3)) _ (fun h4 μ MB ps p1 M4 a4 hmb => ?_) (fun p1 h4 a4 => ?_)).ok
  ·have hF1:Zhu a xs (items.map (·.2))=Z9q (X0u a l (ps.map (·.2)) []):=by
    rw[hF];unfold Jlq;rw[p1]
   have e1:∀ h,Qkc (E b).toEnv 123 lv h=some (.int .i64 (os.length:Int)):=fun h=>Qa0 (Ja5 b) os3.row.sl;have hos:os.length<=64:=by rw[<- Zjq os,q3];exact g3
   simp[Xku,Q6,X2,e1];refine Qdf (RLI a l (ps.map (·.2)) lv os e h3 hA.next μ) os.length ⟨_,h4,MB,ps,[],0,rfl,?_,?_,?_,?_,?_,by omega,rfl,M4,a4,hmb,Z65 p1 Bd.nil,by simp,by simp⟩ ?_
   ·simp
   ·simp
   ·simp
   ·simp
   ·simp
   rintro k s' ⟨t,h5,MB5,ps5,op5,i,rfl,t6,t9,t25,t26,t27,hi,rfl,M5,a5,hm5,bd5,ol5,hS⟩ _;have w5:Wd h5 MB5 e a:=(wo.old (aAB.trans a3)).mb a5 hm5;by_cases hlt:i < os.length
   ·have hlt':(i:Int) < (os.length:Int):=by omega
    obtain⟨p,hpi⟩:∃ p,os[i]? = some p:=⟨_,List.getElem?_eq_getElem hlt⟩;have hli:l[i]? = some (p.code,p.data):=by
     rw[<- q3,Xpa,List.getElem?_map,hpi];rfl
    have hld:l.drop i=(p.code,p.data)::l.drop (i+1):=by
     obtain⟨hl1,hl2⟩:=List.getElem?_eq_some_iff.1 hli;rw[bb hl1,hl2]
    have hdl:p.data.length<=64:=Zzy g2 (p.code,p.data) (List.mem_of_getElem? hli);have od:=(os3.old a5).data p (List.mem_of_getElem? hpi);obtain⟨bk,off,x1,x2⟩:=Jp9 (b:=b) (Ja5 b) Qwu (os3.old a5).row hpi;have hw:=wS (i:=i) (by omega);obtain⟨h6,e6⟩:∃ h6,h6=(h5.push (.cells true 1 [.int .i64 0,.slice none 0 0])).set h5.next (some (.cells true 1 [.int .i64 p.code,p.val])):=⟨_,rfl⟩;have g5:(h5.push (.cells true 1 [.int .i64 0,.slice none 0 0])).get h5.next=some (.cells true 1 [.int .i64 0,.slice none 0 0]):=by rw[Heap.get_push,if_pos rfl]
    have lt5:=Heap.get_lt g5;have st5:Ur (h5.push (.cells true 1 [.int .i64 0,.slice none 0 0])) h5.next 0 [.int .i64 p.code,p.val]=some h6:=by
     rw[Wh g5 (by simp),e6];rfl
    have a56:Old h5 h6:=(by rw[e6];exact(Old.push _ _).set _ (ab _) lt5);have g6:h6.get h5.next=some (.cells true 1 [.int .i64 p.code,p.val]):=by rw[e6,gY lt5,if_pos rfl]
    have ld6:Wy h6 h5.next 0 2=some (.agg ⟨[.int .i64 p.code,p.val]⟩):=by
     rw[V2 g6 (by simp)];rfl
    have dat:Bytes p.data:=Zq7 hb g2 (p.code,p.data) (List.mem_of_getElem? hli);have id:Itm h6 MB5 p.val p.data:=⟨(od.sl.old a56),dat,fun c hc hm=>by
     have:=(os3.data p (List.mem_of_getElem? hpi)).out hc;have:=hm5 c hm;omega⟩
    have A6:At h6 MB5 μ e a ps5 op5 p.val p.data:=⟨M5.old a56,w5.old a56,id,by simpa using bd5.1,by omega,fun q hq=>bd5.2 q.2 (am.2 ⟨q,hq,rfl⟩)⟩;rw[hld]at hS;simp[Xku,Q6,X2,t6,t9,t25,t26,t27,hlt',x1,x2,st5,ld6];refine Jo2 b A6 _ (fun st' op' q h7 m => ?_) (fun z q h7 m => ?_)
    ·obtain⟨ps7,MB7,rfl,M7,m7⟩:=m;obtain⟨a7,hm7⟩:=eR (a5.trans a56) hm5 m7;obtain⟨bd7,ol7⟩:=Jgx q bd5 hdl;simp[Xku,Q6,X2,t6,t9,t25,t26,t27,hw];refine⟨os.length-(i+1),by omega,_,h7,MB7,ps7,op',i+1,rfl,by simp[t6],by simp[t9],by simp[t25],by simp[t26],by simp,by omega,rfl,M7,a7,hm7,bd7,by omega,?_⟩;rw[hS];simp only[X0u,q,Except.bind]
    ·obtain⟨MB7,m7⟩:=m;obtain⟨a7,hm7⟩:=eR (a5.trans a56) hm5 m7;simp[Xku,Q6,X2,t6,t9,t25,t26,t27];refine die _ h7 z (by simp[t6]) (a3.trans a7) ?_;rw[hF1,hS];simp only[X0u,q,Except.bind,Z9q]
   ·have hlt':¬ (i:Int) < (os.length:Int):=by omega
    have hie:i=l.length:=by
     have : l.length=os.length:=(by rw[<- q3,Zjq]);omega
    rw[hie,cQ]at hS;simp only[X0u]at hS;have hF2:Zhu a xs (items.map (·.2))=if op5.length=0/\ps5.length=1/\isT ((ps5.map (·.2)).getD 0 [])=true then 0 else 16:=by
     rw[hF1,hS];simp only[Z9q,aL]
    have g5:=(a3.trans a5).get gB;have lt5:=Heap.get_lt g5;obtain⟨⟨sv5,ov5,z5,r⟩,its5,low5⟩:=M5;have c35:=r.c35;have c34:=r.c34;have lo:∀ hx,Qkc (E b).toEnv 160 ov5 hx=some (.int .i64 (op5.length:Int)):=fun hx=>Qa0 (Jgb b) r.op.sl;have ls:∀ hx,Qkc (E b).toEnv 66 sv5 hx=some (.int .i64 (ps5.length:Int)):=fun hx=>Qa0 (T66 b) r.st.sl;by_cases ho:op5.length=0
    ·rw[ho]at lo;have lo':∀ hx,Qkc (E b).toEnv 160 ov5 hx=some (.int .i64 0):=lo;by_cases hp1:ps5.length=1
     ·rw[hp1]at ls;have ls':∀ hx,Qkc (E b).toEnv 66 sv5 hx=some (.int .i64 1):=ls;obtain⟨⟨v1,x1⟩,rfl⟩:∃ q,ps5=[q]:=by
       match ps5,hp1 with
       | [q],_=>exact⟨q,rfl⟩
      obtain⟨bk,o,y1,y2,y3, -⟩:=Q7o (T66 b) Qic r.st.sl (k:=.i64) (i:=0) (by omega) (by simp);have y4:Yw h5 bk o=some v1:=by
       have:=y3 0 (by omega);simpa using this
      have i1:Itm h5 MB5 v1 x1:=its5 (v1,x1) (by simp);have lx:x1.length<=64:=bd5.2 x1 (by simp);simp only[aE,cH,List.getD_cons_zero,aS,cd,ho]at hF2;simp[Xku,Q6,X2,t6,t9,t25,t26,t27,hlt',Qec,c35,c34,lo',ls',y2,y4];refine(Yzj b i1.sb (by omega) _ fun h6 a6 => ?_).ok;cases ht:isT x1 with
      | true =>
       have g6:=a6.get g5;have lt6:=Heap.get_lt g6;have st6:Ur h6 hA.next 0 [.int .i64 0]=some (h6.set hA.next (some (.cells true 1 [.int .i64 0]))):=Qeu g6 (by simp);simp[Xku,Q6,X2,-Q6,-X2];refine(Xut b h6 16 _ ?_).ok;simp[Xku,Q6,X2,-Q6,-X2,t6,st6];refine Jnu b (B:=hA.next) (z:=0) (by simp[t6]) ?_ ?_
       ·exact(Yi (z:=1) (ow:=true) (c:=[.int .i64 0]) (by rw[gY lt6,if_pos rfl])).trans rfl
       ·rw[ht]at hF2;simp at hF2;rw[<- hF2];exact hk _ (((aAB.trans a3).trans (a5.trans a6)).set _ (by omega) lt6)
      | false =>
       simp[Xku,Q6,X2];refine(Xi8 b h6 16 _ ?_).ok;simp[Xku,Q6,X2];refine die _ h6 16 (by simp[t6]) (a3.trans (a5.trans a6)) ?_;rw[hF2,ht];simp
     ·have hp1':¬ (ps5.length:Int)=1:=by omega
      simp[Xku,Q6,X2,t6,t9,t25,t26,t27,hlt',Qec,c35,c34,lo',ls,hp1'];refine(Xi8 b h5 16 _ ?_).ok;simp[Xku,Q6,X2];exact die _ h5 16 (by simp[t6]) (a3.trans a5) (by rw[hF2,if_neg (fun q=>hp1 q.2.1)])
    ·have ho':¬ (op5.length:Int)=0:=by omega
     simp[Xku,Q6,X2,t6,t9,t25,t26,t27,hlt',Qec,c35,c34,lo,ho,ho'];refine(Xi8 b h5 16 _ ?_).ok;simp[Xku,Q6,X2];exact die _ h5 16 (by simp[t6]) (a3.trans a5) (by rw[hF2,if_neg (fun q=>ho q.1)])
  ·simp[Xku,Q6,X2];exact die _ h4 16 (by simp) (a3.trans a4) (by rw[hF];unfold Jlq;rw[p1])
end
def Zsd(k l:List Nat):(Bl.keyed k l).length=32:=by
 unfold Bl.keyed;split <;> exact Qu2 _
def Xy7(seed:List Nat):∀ n i,(Qsd seed n i).length=n*32
 | 0,_=>rfl
 | n+1,i=>by simp only[Qsd,ae,Zsd,Xy7 seed n];omega
def Jqz(b:Nat)(x0 x1 x2 x3:Int)(h:Heap):W7 (E b).toEnv 45 4 [(0,.int .u8 x0),(1,.int .u8 x1),(2,.int .u8 x2),(3,.int .u8 x3)] h=some (.slice (some ⟨h.next,0,none⟩) 4 4,h.push (.cells true 1 [.int .u8 x0,.int .u8 x1,.int .u8 x2,.int .u8 x3])):=kR
def Jes(b:Nat){h:Heap}{B o n c:Nat}{z:Nat}{l:List Value}(hg:h.get B=some (.cells true z l)):Xla (E b).toEnv 45 45 (.slice (some ⟨B,o,none⟩) n c) h=some (.slice (some ⟨B,o,none⟩) n c,h):=by
 have h1:R45.desc=.slice 5:=(T45 b).d;have h3:R5.desc=.int .u8:=kR
 simp only[Xla,Xp4,h1,Z58,h3,hg,beq_self_eq_true]
def Xn6{h:Heap}(l:Ab.LaidIn h laidAll):Ab.LaidIn h Qme:=fun x hx=>l x (by
 simp only[Qme,laidAll,ap,cm,or_false]at hx ⊢;rcases hx with rfl | rfl <;> simp)
def Jfb{h:Heap}(l:Ab.LaidIn h laidAll):4<=h.next:=by
 have h1:=Heap.get_lt (l (0,Qiu) (by simp[laidAll]));have h2:=Heap.get_lt (l (1,Qzw) (by simp[laidAll]));have h3:=Heap.get_lt (l (3,Q69) (by simp[laidAll]));simp only at h1 h2 h3;omega
def Jb1(l:List Nat):Zqa (X5r l)=l:=by
 rw[Zqa,X5r,bL];exact(bA fun n _=>rfl).trans (dQ l)
def SB.push{h:Heap}{xs:List Int}(hl:xs.length < 1000000):SB (h.push (.cells true 1 (xs.map i8))) (.slice (some ⟨h.next,0,none⟩) xs.length xs.length) xs :=
 (Own.new (n0:=0) (bn _) (by rw[Heap.get_push,if_pos rfl]) (by simp) (by unfold Ql9;omega) (.inr rfl)).sl
def Z6y(b:Nat)(h:Heap)(v:Value)(hv:Xxl v=true):W7 (E b).toEnv 66 1 [(0,v)] h=some (.slice (some ⟨h.next,0,none⟩) 1 1,h.push (.cells true 1 [v]))/\Sl (h.push (.cells true 1 [v])) 1 (.slice (some ⟨h.next,0,none⟩) 1 1) 1 [v]:=by
 obtain⟨hnt,hcl⟩:=Q29 hv;refine⟨Xlx (T66 b) (z:=1) Qic (by omega) (by omega) hnt (ys:=[v]) (by rw[hcl]) rfl,?_⟩;exact(Own.new (n0:=0) (z:=1) (bn _) (by rw[Heap.get_push,if_pos rfl]) rfl (by decide) (.inr rfl)).sl
def Js1{h:Heap}{B:Nat}{ow:Bool}{z:Nat}{l:List Nat}(hg:h.get B=some (.cells ow z (l.map u8v)))(hl:l.length < 1000000):SB h (.slice (some ⟨B,0,none⟩) l.length l.length) (X5r l):=by
 have e:(X5r l).length=l.length:=by simp[X5r]
 rw[SB,e,<- Jdu];exact .inr ⟨B,0,l.length,ow,z,[],[],rfl,by simpa using hg,rfl,by simp,ab _,by unfold Ql9;omega,fun q=>by unfold Ql9 at q;omega⟩
def CNI(sv:Value)(items:List (Value × List Int))(h:Heap)(k:Nat)(s:St):Prop:=∃ (t:Tr Value) (h1:Heap) (o:Value) (i:Nat) (out:List (Value × List Int)),s=⟨⟨20,t⟩,[],h1⟩/\t.get 0=some sv/\t.get 3=some o/\t.get 4=some (.int .i64 (i:Int))/\i<=items.length/\k=items.length-i/\Own h1 h.next 1 o i (out.map (·.1))/\out.map (·.2)=(items.take i).map (·.2)/\(∀ p ∈ out,OB h1 h.next p.1 p.2/\Bytes p.2/\(∀ c,J4 p.1=some c->J4 o≠some c))/\Old h h1
section
attribute [local simp] Qnm Qy2 Qd5 Qu8 Z8 Qav Xt Xl Qz X7 Xs Xg X5 Xr Q6 X2 X0 Xk Xh X6 Qu Xf X8 Qy Yh Zx Yg Xw
def Z95(b:Nat){h:Heap}{sv:Value}{items:List (Value × List Int)}(ss:Sl h 1 sv items.length (items.map (·.1)))(hn:items.length<=1000000)(its:ItsAt h items)(hl:∀ p ∈ items,p.2.length < 1000000000)(K:KP)
  (hk:∀ o out h',Own h' h.next 1 o items.length (out.map (·.1))->out.map (·.2)=items.map (·.2)->ItsAt h' out->(∀ p ∈ out,∀ c,J4 p.1=some c->h.next<=c/\J4 o≠some c)->Old h h'->K (.ret o) h'):FK b 107 [sv] h K:=by
 refine F3 b (Qd5 b) Ybe rfl ?_;have lenS:∀ hx,Qkc (E b).toEnv 66 sv hx=some (.int .i64 (items.length:Int)):=fun hx=>Qa0 (T66 b) ss;simp;refine Qdf (CNI sv items h) items.length ⟨_,h,.slice none 0 0,0,[],rfl,by simp,by simp,by simp,by omega,rfl,Own.nil,by simp,by simp,Old.refl _⟩ ?_;rintro k s' ⟨t,h1,o,i,out,rfl,t0,t3,t4,hi,rfl,ho,hout,hits,hold⟩ _;have s1:=ss.old hold;by_cases hlt:i < items.length
 ·have hlt':(i:Int) < (items.length:Int):=by omega
  obtain⟨⟨v,x⟩,hpi⟩:∃ p,items[i]? = some p:=⟨_,List.getElem?_eq_getElem hlt⟩;obtain⟨bk,off,q1,q2,q3, -⟩:=Q7o (T66 b) Qic s1 (k:=.i64) (i:=(i:Int)) (by omega) (by omega);have q4:Yw h1 bk off=some v:=by
   have:=q3 0 (by omega);simpa[hpi]using this
  obtain⟨sx,bx⟩:=its (v,x) (List.mem_of_getElem? hpi);have lx:=hl (v,x) (List.mem_of_getElem? hpi);have hw:=wS (i:=i) (by omega);simp[t0,t3,t4,lenS,hlt',q2,q4];refine Zt6 b (sx.old hold) lx _ fun v2 h2 o2 a2 => ?_;obtain⟨o',h3,k1,k2,k3,k4⟩:=Qtj (T66 b) Qic (by omega) (ho.keep fun c _ hc=>a2.2 c hc) (ai hold.1 a2.1) (ys:=[v2]) rfl (by rw[Yk0];omega) (by omega);obtain⟨bl, -⟩:=Z6y b h2 v2 o2.one;have nb:∀ c,J4 v2=some c->J4 o≠some c:=fun c hc e=>by have:=(o2.from hc).1;have:=ho.out e;omega
  have far:∀ c,J4 v2=some c->c < h2.next:=fun c hc=>o2.out hc;simp[t0,t3,t4,bl,k1,hw];refine⟨items.length-(i+1),by omega,_,h3,o',i+1,out ++ [(v2,x)],rfl,by simp[t0],by simp,by simp,by omega,rfl,by simpa using k2,?_,fun p hp => ?_,k3.old (hold.trans a2) (ho.keep fun c _ hc=>a2.2 c hc)⟩
  ·rw[aQ,hpi];simp[hout]
  ·rcases al.1 hp with hp | hp
   ·obtain⟨g1,g2,g3⟩:=hits p hp;refine⟨(g1.keep fun c _ hc=>a2.2 c hc).keep fun c hc hlt3=>k3.2 c hlt3 (g3 c hc),g2,fun c hc e => ?_⟩;rcases k4 c e with q | q
    ·exact g3 c hc q
    ·have:=g1.out hc;have:=a2.1;omega
   ·rw[aw.1 hp];refine⟨(o2.low hold.1).keep fun c hc hlt3=>k3.2 c hlt3 (nb c hc),bx,fun c hc e => ?_⟩;rcases k4 c e with q | q
    ·exact nb c hc q
    ·have:=far c hc;omega
 ·have hlt':¬ (i:Int) < (items.length:Int):=by omega
  have : i=items.length:=by omega
  subst this;simp[t0,t3,t4,lenS];rw[aj (ab _)]at hout;exact hk o out h1 ho hout (fun p hp=>⟨(hits p hp).1.sl,(hits p hp).2.1⟩) (fun p hp c hc=>⟨((hits p hp).1.from hc).1,(hits p hp).2.2 c hc⟩) hold
end
def Jqp{b:Nat}{te ts:TypeId}{re rs:TyRec}(T:SlTy (E b).toEnv te ts re rs){h:Heap}{n0 z n:Nat}{v:Value}{xs:List Value}(hz:re.size=z)(o:Own h n0 z v n xs){k:IntKind}{i:Int}(h0:0<=i)(h1:i < n) :
  ∃ bk,J4 v=some bk/\V5 (E b).toEnv ts v (.int k i)=some (pO bk (i.toNat*z))/\∀ j,i.toNat*z+j < xs.length->Yw h bk (i.toNat*z+j)=xs[i.toNat*z+j]? := by
 rcases o with⟨rfl,rfl,rfl⟩ | ⟨bk,c,z',rest,rfl,g1,g2,g3,g4,g5⟩
 ·omega
 ·refine⟨bk,rfl,?_,fun j hj => ?_⟩
  ·rw[Qsf T hz ⟨h0,h1⟩,ba]
  ·rw[Yi g2,List.getElem?_append_left hj]
def Jm9(b:Nat)(h:Heap):Jsc (E b).toEnv 45 (.slice none 0 0)=some (.int .i64 0):=kR
def Jmk(b:Nat)(h:Heap)(v1 v2:Value)(n1:Qid v1=true)(c1:v1.cells = #[v1])(n2:Qid v2=true)(c2:v2.cells = #[v2]):W7 (E b).toEnv 66 2 [(0,v1),(1,v2)] h=some (.slice (some ⟨h.next,0,none⟩) 2 2,h.push (.cells true 1 [v1,v2])):=by
 have hz:R45.zero.cells.toList=[.slice none 0 0]:=kR
 have e1:(Nat.ble (2*R45.size) 16777216 && Nat.ble 1 R45.size)=true:=by rw[Qic];rfl
 simp only[W7,Z9b,(T66 b).d,Xp4,e1,if_true,hz,Qic];simp[Xsb,n1,n2,c1,c2,Qc2,Qlj,over,Nat.ble]
def Zr7(b:Nat)(n:Nat)(hn:n < 1000000000)(h:Heap):Ybb (E b).toEnv 3 R5 (.int .i64 (n:Int)) h=some (n,List.replicate n zU):=by
 have hi:R3.desc=.int .i64:=kR
 simp only[Ybb,Jcf,hi];rw[if_pos ⟨by omega,by omega,by rw[Q6l];omega,by rw[Qjp];omega⟩,Z41];have : (Value.int .u8 0).cells.toList=[.int .u8 0]:=rfl;rw[this,Xod];simp
section
attribute [local simp] Qni Q01 Qa6 Qwo kON kOC kNN kNP kRR kEN kER Q6 X2 kTN kTR kTX kTP kBN kBR kBX kBP kCS kCR kCE kAM
def Jji(b:Nat){h:Heap}(n:Nat)(hn:n < 1000000000)(K:KP)(hk:∀ v h',OB h' h.next v []->Old h h'->K (.ret v) h'):FK b 141 [.slice none 0 0,.int .i64 (n:Int)] h K:=by
 refine F3 b (Qa6 b) Xd6 rfl ?_;have c0:=Jm9 b h;have l0:∀ hx,Qkc (E b).toEnv 45 (.slice none 0 0) hx=some (.int .i64 0):=fun hx=>Qmi (b:=b) (xs:=[]) (h:=h) Sl.nil;have h0:¬ (n:Int) < 0:=by omega
 have w0:IntKind.i64.wrap (n:Int)=(n:Int):=Uq (by omega) (by omega);by_cases hz:n=0
 ·subst hz;have wz:IntKind.i64.wrap 0=0:=Uq (by omega) (by omega);simp[c0,l0,wz];exact hk _ h Own.nil (Old.refl _)
 ·have hp:0 < (n:Int):=by omega
  have hp':0 < n:=by omega
  have wz:IntKind.i64.wrap 0=0:=Uq (by omega) (by omega);obtain⟨v1,k1,o1, -⟩:=Zvv (T45 b) (h:=h) (n0:=h.next) (v:=.slice none 0 0) (n:=0) (xs:=[]) (k:=.i64) (i:=0) Qjp (by omega) Own.nil (by omega) (by omega);obtain⟨v2,h2,k2,o2,b2⟩:=Xcu (T45 b) (tx:=3) (m:=n) Qjp (by omega) o1 (ab _) (Zr7 b n hn h) (by simp) (by rw[Q6l];omega) (by omega);obtain⟨v3,k3,o3, -⟩:=Zvv (T45 b) (k:=.i64) (i:=0) Qjp (by omega) o2 (by omega) (by omega);have a2:Old h h2:=b2.old (Old.refl _) o1;simp[c0,l0,h0,wz,w0,hp,hp',k1,k2,k3];exact hk v3 h2 (by show Own h2 h.next 1 v3 0 [];simpa using o3) a2
end
def Zbb(l:List (Value × List Int)):List Int:=(l.map (·.2)).flatten
def Zwe{l:List (Value × List Int)}{i:Nat}{p:Value × List Int}(h:l[i]? = some p):Zbb (l.take (i+1))=Zbb (l.take i)++p.2:=by
 rw[aQ,h];simp[Zbb]
def Jdw(l:List (Value × List Int))(i:Nat):(Zbb (l.take i)).length<=(Zbb l).length:=by
 have e:Zbb l=Zbb (l.take i)++Zbb (l.drop i):=by unfold Zbb;rw[<- List.flatten_append,<- aR,bf]
 rw[e,ae];omega
def CC1(sv:Value)(items:List (Value × List Int))(h:Heap)(k:Nat)(s:St):Prop:=∃ (t:Tr Value) (i:Nat),s=⟨⟨36,t⟩,[],h⟩/\t.get 0=some sv/\t.get 9=some sv/\t.get 10=some (.int .i64 (items.length:Int))/\t.get 3=some (.int .i64 ((Zbb (items.take i)).length:Int))/\t.get 11=some (.int .i64 (i:Int))/\i<=items.length/\k=items.length-i
def CC2(sv:Value)(items:List (Value × List Int))(h:Heap)(k:Nat)(s:St):Prop:=∃ (t:Tr Value) (h1:Heap) (o:Value) (i:Nat),s=⟨⟨36,t⟩,[],h1⟩/\t.get 25=some sv/\t.get 26=some (.int .i64 (items.length:Int))/\t.get 6=some o/\t.get 27=some (.int .i64 (i:Int))/\i<=items.length/\k=items.length-i/\OB h1 h.next o (Zbb (items.take i))/\Old h h1
section
attribute [local simp] Wg kON kOC kNN kNP kRR kEN kER Q6 X2 kTN kTR kTX kTP kBN kBR kBX kBP kCS kCR kCE kAM
def Jbz(b:Nat){h:Heap}{sv:Value}{items:List (Value × List Int)}(ss:Sl h 1 sv items.length (items.map (·.1)))(hn:items.length<=1000000)(its:∀ p ∈ items,SB h p.1 p.2)(hl:(Zbb items).length < 1000000000)(K:KP)
  (hk:∀ v h',OB h' h.next v (Zbb items)->Old h h'->K (.ret v) h'):FK b 120 [sv] h K:=by
 refine F3 b (Wg b) Q8y rfl ?_;have lenS:∀ hx,Qkc (E b).toEnv 66 sv hx=some (.int .i64 (items.length:Int)):=fun hx=>Qa0 (T66 b) ss;simp[Qb0,Qd6,Z8,Qa6,Qbr,lenS];refine Qdf (CC1 sv items h) items.length ⟨_,0,rfl,by simp,by simp,by simp,by simp[Zbb],by simp,by omega,rfl⟩ ?_;rintro k s' ⟨t,i,rfl,t0,t9,t10,t3,t11,hi,rfl⟩ _;by_cases hlt:i < items.length
 ·have hlt':(i:Int) < (items.length:Int):=by omega
  obtain⟨⟨v,x⟩,hpi⟩:∃ p,items[i]? = some p:=⟨_,List.getElem?_eq_getElem hlt⟩;obtain⟨bk,off,q1,q2,q3, -⟩:=Q7o (T66 b) Qic ss (k:=.i64) (i:=(i:Int)) (by omega) (by omega);have q4:Yw h bk off=some v:=by
   have:=q3 0 (by omega);simpa[hpi]using this
  have sx:=its (v,x) (List.mem_of_getElem? hpi);have len:=fun hx=>Qmi (b:=b) (h1:=hx) sx;have hw:=wS (i:=i) (by omega);have e1:=Zwe hpi;have e2:=Jdw items (i+1);rw[e1,ae]at e2;simp only at e2 sx len;have w1:IntKind.i64.wrap (((Zbb (items.take i)).length:Int)+(x.length:Int))=((Zbb (items.take i)).length:Int)+(x.length:Int):=Uq (by omega) (by omega);have n1:¬ ((Zbb (items.take i)).length:Int)+(x.length:Int) < 0:=by omega
  simp[Qb0,Qd6,Z8,Qa6,Qbr,t0,t9,t10,t3,t11,hlt',q2,q4,len,w1,n1,hw];refine⟨items.length-(i+1),by omega,_,i+1,rfl,by simp[t0],by simp[t9],by simp[t10],?_,by simp,by omega,rfl⟩;rw[e1];simp
 ·have hlt':¬ (i:Int) < (items.length:Int):=by omega
  have : i=items.length:=by omega
  subst this;rw[aj (ab _)]at t3;simp[Qb0,Qd6,Z8,Qa6,Qbr,t0,t9,t10,t3,t11];refine Jji b _ hl _ fun v0 h0 o0 a0 => ?_;simp[Qb0,Qd6,Z8,Qa6,Qbr,t0,lenS];refine Qdf (CC2 sv items h) items.length ⟨_,h0,v0,0,rfl,by simp,by simp,by simp,by simp,by omega,rfl,by simpa[Zbb]using o0,a0⟩ ?_;rintro k s' ⟨t,h1,o,i,rfl,t25,t26,t6,t27,hi,rfl,ob,hold⟩ _;by_cases hlt:i < items.length
  ·have hlt':(i:Int) < (items.length:Int):=by omega
   obtain⟨⟨v,x⟩,hpi⟩:∃ p,items[i]? = some p:=⟨_,List.getElem?_eq_getElem hlt⟩;obtain⟨bk,off,q1,q2,q3, -⟩:=Q7o (T66 b) Qic (ss.old hold) (k:=.i64) (i:=(i:Int)) (by omega) (by omega);have q4:Yw h1 bk off=some v:=by
    have:=q3 0 (by omega);simpa[hpi]using this
   have sx:=its (v,x) (List.mem_of_getElem? hpi);have hw:=wS (i:=i) (by omega);have e1:=Zwe hpi;have e2:=Jdw items (i+1);rw[e1,ae]at e2;simp only at e2 sx;obtain⟨v',h',k1,k2,k3⟩:=Z61 (b:=b) ob hold.1 (sx.old hold) (by omega);simp[Qb0,Qd6,Z8,Qa6,Qbr,t25,t26,t6,t27,hlt',q2,q4,k1,hw];refine⟨items.length-(i+1),by omega,_,h',v',i+1,rfl,by simp[t25],by simp[t26],by simp,by simp,by omega,rfl,?_,k3.old hold ob⟩;rw[e1];exact k2
  ·have hlt':¬ (i:Int) < (items.length:Int):=by omega
   have : i=items.length:=by omega
   subst this;rw[aj (ab _)]at ob;simp[Qb0,Qd6,Z8,Qa6,Qbr,t25,t26,t6,t27];exact hk o h1 ob hold
def Y2f(b:Nat){h:Heap}{v1 v2:Value}{xs ys:List Int}(s1:SB h v1 xs)(s2:SB h v2 ys)(hl:xs.length+ys.length < 1000000000)(K:KP)(hk:∀ v h',OB h' h.next v (xs++ys)->Old h h'->K (.ret v) h') :
  FK b 103 [v1,v2] h K:=by
 refine F3 b (Qdj b) Yve rfl ?_;obtain⟨hA,eA⟩:∃ hA,hA=h.push (.cells true 1 [v1,v2]):=⟨_,rfl⟩;have bl:W7 (E b).toEnv 66 2 [(0,v1),(1,v2)] h=some (.slice (some ⟨h.next,0,none⟩) 2 2,hA):=by
  obtain⟨n1,c1⟩:=Q29 s1.one;obtain⟨n2,c2⟩:=Q29 s2.one;rw[eA];exact Jmk b h v1 v2 n1 c1 n2 c2
 have aA:=Qon eA;have ss:Sl hA 1 (.slice (some ⟨h.next,0,none⟩) 2 2) 2 [v1,v2]:=(Own.new (n0:=0) (z:=1) (bn _) (by rw[eA,Heap.get_push,if_pos rfl]) rfl (by decide) (.inr rfl)).sl;simp[Q8h,X8p,Qdj,Xv8,bl];refine Jbz b (items:=[(v1,xs),(v2,ys)]) ss (by simp) (fun p hp => ?_) (by simpa[Zbb]using hl) _ fun v h' o a => ?_
 ·simp at hp;rcases hp with rfl | rfl
  ·exact s1.old aA
  ·exact s2.old aA
 ·simp[Q8h,X8p,Qdj,Xv8];exact hk v h' (by
   have q:=o.low aA.1;have e:Zbb [(v1,xs),(v2,ys)]=xs++ys:=by simp[Zbb]
   rwa [e]at q) (aA.trans a)
end
def gn1(b:Nat):(1 < (E b).G.n)=True:=eq_true (by show 1 < nv;decide)
section
attribute [local simp] Ql5 Qtw Jy Qkx Ql4 Xz6 Xax Yiv Xb9 Ub Ua Qdj Ygy Xi1 Yf2 Yhp X8c Xcn Xan Qwi Xba Vz Xc5 Xaq kON kOC kNN kNP kRR kEN kER Q6 X2 kTN kTR kTX kTP kBN kBR kBX kBP kCS kCR kCE kAM
def Zsn(b:Nat){h:Heap}(laid:Ab.LaidIn h laidAll){bv:Value}{xs:List Int}(s:SB h bv xs){n:Nat}(hn:n < 253)(hl:xs.length < 999999999)(K:KP)(hk:∀ v h',OB h' h.next v (xs ++ [(n:Int)])->Old h h'->K (.ret v) h') :
  FK b 66 [bv,.int .i64 (n:Int)] h K:=by
 refine F3 b (Jy b) Yl0 rfl ?_;have g1:h.get 1=some (.cells false 0 Qzw):=laid (1,Qzw) (by simp[laidAll]);have ld:Yw h 1 2=some (.int .u64 253):=by rw[Yi g1];rfl
 have hx:V5 (E b).toEnv 176 (pO 1 0) (.int .i64 0)=some (pO 1 0):=by simpa using Xz6 b (bk:=1) (o:=0) (k:=.i64) (i:=0) ⟨by omega,by omega⟩
 have w1:IntKind.u64.wrap (n:Int)=(n:Int):=Zmk (by omega) (by omega);have w2:IntKind.u8.wrap (n:Int)=(n:Int):=Jhz (by omega);have c1:(n:Int) < 253:=by omega
 have c2:n < 253:=hn;simp[gn1,hx,ld,w1,w2,c1,c2,Xie];refine Y2f b (v2:=.slice (some ⟨h.next,0,none⟩) 1 1) (ys:=[(n:Int)]) (s.old (Old.push _ _)) (SB.push (xs:=[(n:Int)]) (by simp)) (by simp;omega) _ fun v h' o a => ?_;simp;exact hk v h' (o.low (bH _)) ((Old.push _ _).trans a)
end
def Ygg(seed:List Nat):∀ n i,Qsd seed (n+1) i=Qsd seed n i++Bl.keyed seed [i+n]
 | 0,i=>by simp[Qsd]
 | n+1,i=>by
  rw[Qsd,Ygg seed n (Nat.succ i)]
  conv=>rhs;rw[Qsd]
  rw[aM];congr 3;simp;omega
def NWI(sv:Value)(seed:List Nat)(h:Heap)(ν:Nat)(k:Nat)(s:St):Prop:=∃ (t:Tr Value) (h1:Heap) (i:Nat),s=⟨⟨17,t⟩,[],h1⟩/\t.get 0=some sv/\t.get 3=some (pO ν 0)/\t.get 5=some (.int .i64 (i:Int))/\i<=32/\k=32-i/\h1.get ν=some (.cells true 1 ((Qsd seed i 1).map u8v++List.replicate ((32-i)*32) zU))/\Old h h1
section
attribute [local simp] Qyj Xdc Qwv Jy Vq Xhs X8j Wi kON kOC kNN kNP kRR kEN kER Q6 X2 kTN kTR kTX kTP kBN kBR kBX kBP kCS kCR kCE kAM
def Jrd(b:Nat){h:Heap}(laid:Ab.LaidIn h laidAll){sv:Value}{seed:List Nat}(s:SN h sv seed)(hl:seed.length < 1000000000)(K:KP)(hk:∀ ν h',h'.get ν=some (.cells true 1 ((Qsd seed 32 1).map u8v))->h.next<=ν->Old h h'->K (.ret (pO ν 0)) h') :
  FK b 34 [sv] h K:=by
 refine F3 b (Qwv b) Zq4 rfl ?_;obtain⟨hA,eA⟩:∃ hA,hA=h.push (.cells true 1 (List.replicate 1024 zU)):=⟨_,rfl⟩;have alA:Qbx (E b).toEnv 129 h=some (pO h.next 0,hA):=by rw[eA];exact Y3r b h
 have aA:=Qon eA;have gA:hA.get h.next=some (.cells true 1 (List.replicate 1024 zU)):=by rw[eA,Heap.get_push,if_pos rfl]
 simp[Y3r,-Y3r,alA];refine Qdf (NWI sv seed h h.next) 32 ⟨_,hA,0,rfl,by simp,by simp,by simp,by omega,rfl,by simpa[Qsd]using gA,aA⟩ ?_;rintro k s' ⟨t,h1,i,rfl,t0,t3,t5,hi,rfl,g1,hold⟩ _;by_cases hlt:i < 32
 ·have hlt':(i:Int) < 32:=by omega
  have hw:=wS (i:=i) (by omega);simp[Y3r,t0,t3,t5,hlt',hw];refine Zsn b (Laid.old laid hold) (bv:=.slice none 0 0) (xs:=[]) (n:=i+1) Sl.nil (by omega) (by simp) _ fun v h2 o2 a2 => ?_;have s2:SN h2 v [i+1]:=o2.sl;simp[Y3r,t0,t3,t5];refine Jel b (Xn6 (Laid.old laid (hold.trans a2))) (s.old (hold.trans a2)) s2 hl (by simp) _ fun h3 a3 => ?_;obtain⟨dg,hdg⟩:∃ d,d=Bl.keyed seed [i+1]:=⟨_,rfl⟩;rw[<- hdg];have kl:dg.length=32:=by rw[hdg];exact Zsd _ _
  have g3:=(a2.trans a3).get g1;have l3:=Heap.get_lt g3;have kf:((Qsd seed i 1).map u8v).length=i*32:=by rw[aL,Xy7]
  have hx:V5 (E b).toEnv 127 (pO h.next 0) (.int .i64 (i:Int))=some (pO h.next (i*32)):=by simpa using X8j b (bk:=h.next) (o:=0) (k:=.i64) (i:=(i:Int)) ⟨by omega,by omega⟩
  obtain⟨h4,e4⟩:∃ h4,h4=h3.set h.next (some (.cells true 1 ((Qsd seed (i+1) 1).map u8v++List.replicate ((32-(i+1))*32) zU))):=⟨_,rfl⟩;have st:Ur h3 h.next (i*32) (dg.map u8v)=some h4:=by
   rw[Wh g3 (by rw[ae,kf,aL,kl,List.length_replicate];omega),e4];congr 4;rw[<- kf,dX,Ygg,aR,show 1+i=i+1 by omega,<- hdg,<- bR,bZ,List.drop_replicate,aL,kl,show(32-i)*32-32=(32-(i+1))*32 by omega]
  have g4:h4.get h.next=some (.cells true 1 ((Qsd seed (i+1) 1).map u8v++List.replicate ((32-(i+1))*32) zU)):=by rw[e4,gY l3,if_pos rfl]
  have a4:Old h h4:=by rw[e4];exact(hold.trans (a2.trans a3)).set _ (ab _) l3
  simp[Y3r,t0,t3,t5,hx,kl,st,hw];exact⟨32-(i+1),by omega,_,h4,i+1,rfl,by simp[t0],by simp[t3],by simp,by omega,rfl,g4,a4⟩
 ·have hlt':¬ (i:Int) < 32:=by omega
  have : i=32:=by omega
  subst this;simp[Y3r,t0,t3,t5];exact hk h.next h1 (by simpa using g1) (ab _) hold
end
end Go.Proofs.YtapodfgjkmddlaaGreatDoor
end
