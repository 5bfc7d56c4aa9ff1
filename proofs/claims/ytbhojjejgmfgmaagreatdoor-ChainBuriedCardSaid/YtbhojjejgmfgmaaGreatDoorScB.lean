import Derived.Test.YtbhojjejgmfgmaaGreatDoorBlA
import Derived.Test.YtbhojjejgmfgmaaGreatDoorScA
import Derived.Test.YtbhojjejgmfgmaaGreatDoorFA
set_option linter.all false
set_option maxHeartbeats 2000000
open List renaming length→L
open Option renaming some→U,none→O
open Bool renaming true→Y,false→J
open Go renaming Value→V
open Go.Value renaming int→I,slice→M
open Go.IntKind renaming i64→X
open Go.Ab.Blk renaming cells→S
noncomputable section
namespace Go.Proofs.YtbhojjejgmfgmaaGreatDoor
open Go Go.Ab
set_option maxRecDepth 100000
def Vda(b:Nat){h:N}(hl:Ab.LaidIn h mQ)(p8:Bl.P8){blk:Nat}{l:List Nat}(hg:h.A blk=U (S Y 1 (l.map ax)))(T:L l=64)(count:Nat)(last:Bool)(K:KP)(hk:K (.ret (uL (Bl.take p8 l count last))) h) :
  FK b 51 [uL p8,pO blk 0,I .u64 (.ofNat count),.bool last] h K:=by
 refine⟨_,_,?_,ac _,hk⟩;refine Jz4 (k:=100) (m:=4) ie J2h Jwo (fun b=>Vgp b p8.h0 p8.h1 p8.h2 p8.h3 p8.h4 p8.h5 p8.h6 p8.h7 count l T last) rfl hl Jzd (bs:=[blk]) rfl kA (fun k d r hd hr => ?_)
   (vg (An rfl) (vg (Jua _ _) (vg (An rfl) (vg (An rfl) Rb))))
 cases k with
 | zero=>simp at hd hr;subst hd;subst hr;exact⟨hg,J8f _⟩
 | succ k=>simp at hd
abbrev SN(h:N)(v:V)(l:List Nat):Prop:=Sl h 1 v (L l) (l.map ax)
def SN.sb{h:N}{v:V}{l:List Nat}(s:SN h v l):SB h v (l.map Int.ofNat):=by
 have e:(l.map Int.ofNat).map i8=l.map ax:=by rw[cE];rfl
 rw[SB,e,aM];exact s
def SN.of{h:N}{v:V}{xs:List Int}(s:SB h v xs)(T:Bytes xs):SN h v (xs.map Int.toNat):=by
 have e:(xs.map Int.toNat).map ax=xs.map i8:=by
  rw[cE];refine bV fun z hz => ?_;have:=T z hz;show I .u8 (Int.ofNat z.toNat)=I .u8 z;rw[show Int.ofNat z.toNat=z from dw this.1]
 rw[SN,e,aM];exact s
def Vee(b:Nat){h:N}{B:Nat}{ds:List V}{v:V}{l:List Nat}(hg:h.A B=U (S Y 1 ds))(hd:L ds=64)(s:SN h v l) :
  ∃ h',tj (E b).toiS 28 (M (U ⟨B,0,O⟩) 64 64) v h=U (I X ((min (L l) 64:Nat):Int),h')/\h'.A B=U (S Y 1 ((l.take 64).map ax++ds.drop (min (L l) 64)))/\h'.Q=h.Q/\∀ c,c≠B->h'.A c=h.A c:=by
 have hk:Nat.min (L l) 64=min (L l) 64:=rfl;have hx:yj v=U (L l):=by rcases s with⟨c,rfl,_,e,_⟩ | ⟨bk,o,c,ow,z',pre,post,rfl,_⟩ <;> simp_all [yj]
 have T:ta 1 (Nat.min (L l) 64) v h=U ((l.take 64).map ax):=by
  rcases s with⟨c,rfl,_,e,e2⟩ | ⟨bk,o,c,ow,z',pre,post,rfl,h1,h2,h3, -⟩
  ·have : l=[]:=bI e;subst this;simp[ta]
  ·have h4:nF (Nat.min (L l) 64*1) ((pre++l.map ax++post).drop o)=U ((l.take 64).map ax):=by
    rw[hk,<- h2,aQ,cd,uD (by simp;omega),aP (by simp;omega),<- dX,de];congr 2;rcases fR (L l) 64 with q | q
    ·rw[eQ q,ai (ac _),ai q]
    ·rw[fj q]
   simp only[ta,Ab.cellsAt,h1,h4]
 have hr:vc.desc=.slice 5:=(ma b).d;cases hc:(l.take 64).map ax with
 | nil =>
  have : l=[]:=by
   cases l with
   | nil=>rfl
   | cons x l=>simp at hc
  subst this;refine⟨h,?_,by simpa using hg,rfl,fun _ _=>rfl⟩;rw[hc]at T;simp only[tj,qC,hr,hx,uI,nf,T]
 | cons x xs =>
  have hb:L (x::xs)<=L ds:=by rw[<- hc,hd];simp;omega
  have hp:storeAt h ⟨B,0,O⟩ (x::xs)=U (h.set B (U (S Y 1 ((x::xs)++ds.drop (L (x::xs)))))):=by
   simp only[storeAt,hg];rw[vd (by simpa using hb)];simp
  rw[hc]at T;refine⟨h.set B (U (S Y 1 ((x::xs)++ds.drop (L (x::xs))))),?_,?_,rfl,fun c hc=>by rw[gY (N.D hg),if_neg (Ne.symm hc)]⟩
  ·simp only[tj,qC,hr,hx,uI,nf,T,hp];rfl
  ·rw[gY (N.D hg),if_pos rfl];congr 4;rw[<- hc,aM,bh,Nat.min_comm]
def Zqj:∀ (n m:Nat) (h:Bl.P8) (text:List Nat) (count:Nat),L text < n->L text < m->Bl.blocks n h text count=Bl.blocks m h text count
 | 0,_,_,_,_,h,_=>by omega
 | n+1,0,_,_,_,_,h=>by omega
 | n+1,m+1,h,text,count,h1,h2=>by
  simp only[Bl.blocks];cases T:Nat.ble (L text) 64 with
  | true=>rfl
  | false =>
   have : ¬ L text<=64:=fun q=>by rw[<- cY,T]at q;cases q
   exact Zqj n m _ _ _ (by rw[ba];omega) (by rw[ba];omega)
def BA(p8:Bl.P8)(text:List Nat)(count:Nat):Bl.P8:=Bl.blocks (L text).succ p8 text count
def J4v{p8:Bl.P8}{text:List Nat}{count:Nat}(h:L text<=64):BA p8 text count=Bl.take p8 text (count+L text) Y:=by
 simp[BA,Bl.blocks,rY h]
def J2j{p8:Bl.P8}{text:List Nat}{count:Nat}(h:64 < L text):BA p8 text count=BA (Bl.take p8 (text.take 64) (count+64) J) (text.drop 64) (count+64):=by
 have e:Nat.ble (L text) 64=J:=by rw[cm];intro q;rw[cY]at q;omega
 simp only[BA,Bl.blocks,e];exact Zqj (L text) (L (text.drop 64)).succ _ _ _ (by rw[ba];omega) (bX _)
def Ko(l l':List Nat):Prop:=∃ n,l'=l++List.replicate n 0
def sQ{l l':List Nat}(p:Ko l l'):∃ a r T,(∀ {A:Type} (K:Nat->List Nat->A),Bl.nx l K=K a r)/\(∀ {A:Type} (K:Nat->List Nat->A),Bl.nx l' K=K a T)/\Ko r T:=by
 obtain⟨n,rfl⟩:=p
 match l with
 | a::b::c::d::l=>exact⟨_,_,_,fun _=>rfl,fun _=>rfl,n,rfl⟩
 | [a,b,c] =>
  match n with
  | 0=>exact⟨_,_,_,fun _=>rfl,fun _=>rfl,0,rfl⟩
  | n+1=>exact⟨_,_,_,fun _=>rfl,fun _=>rfl,n,rfl⟩
 | [a,b] =>
  match n with
  | 0=>exact⟨_,_,_,fun _=>rfl,fun _=>rfl,0,rfl⟩
  | 1=>exact⟨_,_,_,fun _=>rfl,fun _=>rfl,0,rfl⟩
  | n+2=>exact⟨_,_,_,fun _=>rfl,fun _=>rfl,n,rfl⟩
 | [a] =>
  match n with
  | 0=>exact⟨_,_,_,fun _=>rfl,fun _=>rfl,0,rfl⟩
  | 1=>exact⟨_,_,_,fun _=>rfl,fun _=>rfl,0,rfl⟩
  | 2=>exact⟨_,_,_,fun _=>rfl,fun _=>rfl,0,rfl⟩
  | n+3=>exact⟨_,_,_,fun _=>rfl,fun _=>rfl,n,rfl⟩
 | [] =>
  match n with
  | 0=>exact⟨_,_,_,fun _=>rfl,fun _=>rfl,0,rfl⟩
  | 1=>exact⟨_,_,_,fun _=>rfl,fun _=>rfl,0,rfl⟩
  | 2=>exact⟨_,_,_,fun _=>rfl,fun _=>rfl,0,rfl⟩
  | 3=>exact⟨_,_,_,fun _=>rfl,fun _=>rfl,0,rfl⟩
  | n+4=>exact⟨_,_,_,fun _=>rfl,fun _=>rfl,n,rfl⟩
def J3n{l l':List Nat}(p:Ko l l'){A:Type}(K:Nat->Nat->Nat->Nat->Nat->Nat->Nat->Nat->Nat->Nat->Nat->Nat->Nat->Nat->Nat->Nat->A):Bl.words l' K=Bl.words l K:=by
 unfold Bl.words;obtain⟨_,_,_,a0,c0,p⟩:=sQ p;obtain⟨_,_,_,a1,c1,p⟩:=sQ p;obtain⟨_,_,_,a2,c2,p⟩:=sQ p;obtain⟨_,_,_,a3,c3,p⟩:=sQ p;obtain⟨_,_,_,a4,c4,p⟩:=sQ p;obtain⟨_,_,_,a5,c5,p⟩:=sQ p;obtain⟨_,_,_,a6,c6,p⟩:=sQ p;obtain⟨_,_,_,a7,c7,p⟩:=sQ p;obtain⟨_,_,_,a8,c8,p⟩:=sQ p;obtain⟨_,_,_,a9,c9,p⟩:=sQ p;obtain⟨_,_,_,T,hb,p⟩:=sQ p;obtain⟨_,_,_,hx,h3,p⟩:=sQ p;obtain⟨_,_,_,hc,hp,p⟩:=sQ p;obtain⟨_,_,_,h2,hA,p⟩:=sQ p;obtain⟨_,_,_,hk,Z',p⟩:=sQ p;obtain⟨_,_,_,hr,ls,p⟩:=sQ p;rw[a0,c0,a1,c1,a2,c2,a3,c3,a4,c4,a5,c5,a6,c6,a7,c7,a8,c8,a9,c9,T,hb,hx,h3,hc,hp,h2,hA,hk,Z',hr,ls]
def J8y(p8:Bl.P8){l l':List Nat}(p:Ko l l')(count:Nat)(last:Bool):Bl.take p8 l' count last=Bl.take p8 l count last:=by
 obtain⟨h0,h1,T,h3,h4,h5,h6,h7⟩:=p8;simp only[Bl.take,J3n p]
def tO(p:Bl.P8):List Nat:=[p.h0,p.h1,p.h2,p.h3,p.h4,p.h5,p.h6,p.h7]
def rL(p:Bl.P8):L (Bl.out p)=32:=by obtain⟨_,_,_,_,_,_,_,_⟩:=p;rfl
def Vge(p:Bl.P8){q r w:Nat}(hq:q < 8)(hr:r < 4)(hw:(tO p)[q]? = U w):(Bl.out p)[4*q+r]? = U (w / 2 ^ (8*r) % 256):=by
 obtain⟨h0,h1,h2,h3,h4,h5,h6,h7⟩:=p;have T:q=0∨q=1∨q=2∨q=3∨q=4∨q=5∨q=6∨q=7:=jA
 have hx:r=0∨r=1∨r=2∨r=3:=jA
 rcases T with rfl | rfl | rfl | rfl | rfl | rfl | rfl | rfl <;> rcases hx with rfl | rfl | rfl | rfl <;>
  (simp only[tO,List.getElem?_cons_succ,List.getElem?_cons_zero,av]at hw;subst hw;first | rfl | (simp[Bl.out,Bl.by4];rfl) | simp[Bl.out,Bl.by4])
def Vkf(x:Nat):jD (binOp .shr 106 (I .u32 (.ofNat x)) (I X 0))=U (I .u32 (Int.fdiv (.ofNat x) (2 ^ 0))):=kR
def Vkr(x:Nat):jD (binOp .shr 106 (I .u32 (.ofNat x)) (I X 8))=U (I .u32 (Int.fdiv (.ofNat x) (2 ^ 8))):=kR
def Vgw(x:Nat):jD (binOp .shr 106 (I .u32 (.ofNat x)) (I X 16))=U (I .u32 (Int.fdiv (.ofNat x) (2 ^ 16))):=kR
def Vhh(x:Nat):jD (binOp .shr 106 (I .u32 (.ofNat x)) (I X 24))=U (I .u32 (Int.fdiv (.ofNat x) (2 ^ 24))):=kR
def Vjf(x:Nat){r:Nat}(hr:r < 4):jD (binOp .shr 106 (I .u32 (.ofNat x)) (I X (8*(r:Int))))=U (I .u32 (Int.fdiv (.ofNat x) (2 ^ (8*r)))):=by
 have T:r=0∨r=1∨r=2∨r=3:=jA
 rcases T with rfl | rfl | rfl | rfl
 ·exact Vkf x
 ·exact Vkr x
 ·exact Vgw x
 ·exact Vhh x
def J7b(x r:Nat):IntKind.u8.wrap (Int.fdiv (.ofNat x) (2 ^ (8*r)))=.ofNat (x / 2 ^ (8*r) % 256):=by
 have e:Int.fdiv (.ofNat x) (2 ^ (8*r))=.ofNat (x / 2 ^ (8*r)):=by
  have : ((2:Int) ^ (8*r))=Int.ofNat (2 ^ (8*r)):=kA
  rw[this];show Int.fdiv (x:Int) ((2 ^ (8*r):Nat):Int)=((x / 2 ^ (8*r):Nat):Int);rw[dq _ (Int.natCast_nonneg _)];exact(Int.natCast_ediv _ _).symm
 rw[e];show((Int.ofNat (x / 2 ^ (8*r))) % (2 ^ 8:Int))=_;exact(Int.natCast_emod _ _).symm
def js:List V:=List.replicate 32 zU
def OI(R0 W:Nat)(p8:Bl.P8)(h:N)(k:Nat)(s:St):Prop:=∃ (t:Tr V) (h1:N) (T i:Nat),s=⟨⟨81,t⟩,[],h1⟩/\t.A 4=U (pO R0 0)/\t.A 6=U (pO W 0)/\t.A 11=U (pO T 0)/\t.A 65=U (I X (i:Int)) /\
 i<=32/\k=32-i/\h1.A T=U (S Y 1 (((Bl.out p8).take i).map ax++List.replicate (32-i) zU))/\h1.A W=U (S Y 1 ((tO p8).map ir))/\h1.A R0=U (S Y 1 js)/\a_ h h1/\h.Q<=T/\h.Q<=R0/\T≠W/\T≠R0
attribute [local simp] Xd Y5 Y0 Xu X6 Xi Y4 Xw Xg Y3 Q6 Qv Zk Z6 iN Qg gS Ab.g0 gv gs Q7 Qd g_ kH kU Qh Tr.H St.put Tm.put flat i5 Xa Yx Qm Qp Qn Qo Qk Ql Qj Qq Qi Q9 Q8 X7 Xz Xx Xh Qw Xv Xj Qz Ja U0 J9 Zd Xs.putAll Qr Q0 Qb Qa Zj Zo kT mX U9 J0 J4 Nat.testBit loadAt Ab.runT Je Ym uM
section
attribute [local simp] Gt NJ Wr Vj Zf Vy LH zn Eh Eg LI Mu Aj MA AW Fs Fu Mz Z9 NO JK Mw MC My Mx Hm LG Ua yJ xq
def Vdi(b:Nat){h h0:N}{R0 W:Nat}{p8:Bl.P8}{t:Tr V}(t4:t.A 4=U (pO R0 0))(t6:t.A 6=U (pO W 0))(hW:h0.A W=U (S Y 1 ((tO p8).map ir)))(hR:h0.A R0=U (S Y 1 js))(ho:a_ h h0)(hb:h.Q<=R0)
  (K:KP) (hk:∀ h',a_ h h'->K (.ret (.agg ⟨(Bl.out p8).map ax⟩)) h'):iH (E b) (s7 Tryz.prog (E b).G) (D0 b) O RM ⟨⟨81,t⟩,[],h0⟩ (uH (E b) (DD b) (FU 27) K):=by
 have lW:=N.D hW;have lR:=N.D hR;simp;refine jE (OI R0 W p8 h) 32 ⟨_,_,h0.Q,0,rfl,by simp[t4],by simp[t6],kA,kA,jA,rfl,by rw[N.F,if_pos rfl];rfl,by rw[N.F,if_neg jA,hW],by rw[N.F,if_neg jA,hR],ho.push' _,ho.1,hb,jA,jA⟩ ?_;rintro k s' ⟨t,h1,O_,i,rfl,t4,t6,hc,t65,hi,rfl,gO,gW,gR,T,hO,_,n1,n2⟩ _;by_cases hg:i < 32
 ·have hy:(i:Int) < 32:=jA
  obtain⟨q,r,rfl,hq,hr⟩:∃ q r,i=4*q+r/\q < 8/\r < 4:=⟨i / 4,i % 4,jA,jA,jA⟩;obtain⟨w,hw⟩:∃ w,(tO p8)[q]? = U w:=⟨_,List.getElem?_eq_getElem (by simpa[tO]using hq)⟩;have hA:=Vge p8 hq hr hw;have hx:4*(q:Int)+(r:Int) < 32:=jA
  have e1:Int.tdiv ((4*q+r:Nat):Int) 4=(q:Int):=by rw[fI jA];omega
  have e2:Int.tmod ((4*q+r:Nat):Int) 4=(r:Int):=by rw[fH jA];omega
  have Z':Int.tdiv (4*(q:Int)+(r:Int)) 4=(q:Int):=by rw[fI jA];omega
  have ls:Int.tmod (4*(q:Int)+(r:Int)) 4=(r:Int):=by rw[fH jA];omega
  have w1:IntKind.i64.wrap (q:Int)=(q:Int):=jW jA jA;have w2:IntKind.i64.wrap (8*(r:Int))=8*(r:Int):=jW jA jA;have w3:IntKind.i64.wrap (4*(q:Int)+(r:Int)+1)=((4*q+r+1:Nat):Int):=by rw[jW jA jA];omega
  have x1:Ug (E b).toiS 108 (pO W 0) (I X (q:Int))=U (pO W q):=by rw[Eg b ⟨jA,jA⟩];simp
  have x2:Ug (E b).toiS 39 (pO O_ 0) (I X (4*(q:Int)+(r:Int)))=U (pO O_ (4*q+r)):=by rw[Hm b ⟨jA,jA⟩];simp
  have g1:Jr h1 W q=U (I .u32 (.ofNat w)):=by rw[Zy gW,List.getElem?_map,hw];rfl
  obtain⟨bv,h3⟩:∃ bv:Nat,bv=w / 2 ^ (8*r) % 256:=⟨_,rfl⟩;obtain⟨fv,hp⟩:∃ fv:Int,fv=Int.fdiv (w:Int) (2 ^ (8*r)):=⟨_,rfl⟩;have sh:jD (binOp .shr 106 (I .u32 (w:Int)) (I X (8*(r:Int))))=U (I .u32 fv):=by rw[hp];exact Vjf w hr
  have ws:IntKind.u8.wrap fv=(bv:Int):=by rw[hp,h3];exact J7b w r
  rw[<- h3]at hA;obtain⟨h2,e⟩:∃ h2,h2=h1.set O_ (U (S Y 1 ((((Bl.out p8).take (4*q+r)).map ax++List.replicate (32-(4*q+r)) (I .u8 0)).set (4*q+r) (I .u8 (bv:Int))))):=⟨_,rfl⟩;have st:Wp h1 O_ (4*q+r) [I .u8 (bv:Int)]=U h2:=by rw[e];exact oF gO (by simp[rL];omega)
  simp[t4,t6,hc,t65,hx,Z',ls,w1,w2,w3,x1,x2,g1,sh,ws,st];have lO:=N.D gO;refine⟨32-(4*q+r+1),jA,_,h2,O_,4*q+r+1,rfl,by simp[t4],by simp[t6],by simp[hc],kA,jA,rfl,?_,?_,?_,?_,hO,hb,n1,n2⟩
  ·rw[e,gY lO,if_pos rfl];congr 2;rw[cf _ _ (by simp[rL];omega),bH,hA];have : 32-(4*q+r)=(32-(4*q+r+1))+1:=jA
   rw[this,cZ];simp[rL];have e5:4*q+r-min (4*q+r) 32=0:=jA
   rw[e5];rfl
  ·rw[e,gY lO,if_neg jA,gW]
  ·rw[e,gY lO,if_neg jA,gR]
  ·rw[e];exact T.set _ hO lO
 ·have : i=32:=jA
  subst this;have ld:iz h1 O_ 0 32=U (.agg ⟨(Bl.out p8).map ax⟩):=by
   rw[Uh gO (by simp[rL])];congr 3
  have st:Wp h1 R0 0 ((Bl.out p8).map ax)=U (h1.set R0 (U (S Y 1 ((Bl.out p8).map ax)))):=by
   rw[kI gR (by simp[js,rL])];congr 4
  have lR:=N.D gR;have s1:L ((Bl.out p8).map ax)=32:=by simp[rL]
  have g2:iz (h1.set R0 (U (S Y 1 ((Bl.out p8).map ax)))) R0 0 32=U (.agg ⟨(Bl.out p8).map ax⟩):=by
   rw[Uh (by rw[gY lR,if_pos rfl]) (by simp[rL])];congr 3
  simp[t4,t6,hc,t65,ld,rL,st,g2];exact hk _ (T.set _ jA lR)
end
def KI(R0 W:Nat)(FIN:Bl.P8)(h:N)(k:Nat)(s:St):Prop:=∃ (t:Tr V) (h1:N) (tv:V) (l:List Nat) (count:Nat) (T:Bl.P8),s=⟨⟨81,t⟩,[],h1⟩/\t.A 4=U (pO R0 0)/\t.A 6=U (pO W 0)/\t.A 7=U tv/\t.A 8=U (I .u64 (count:Int)) /\
 SN h1 tv l/\h1.A W=U (S Y 1 ((tO T).map ir))/\h1.A R0=U (S Y 1 js)/\a_ h h1/\h.Q<=W/\h.Q<=R0/\W≠R0/\Vn tv≠U W/\BA T l count=FIN/\k=L l/\count+L l < 1000000000000/\Ab.LaidIn h1 mQ
def gL{h:N}{v:V}{l:List Nat}(s:SB h v (l.map Int.ofNat)):SN h v l:=by
 have e:(l.map Int.ofNat).map i8=l.map ax:=by rw[cE];rfl
 rw[SB,e,aM]at s;exact s
def LaidIn.R{h h':N}(l:Ab.LaidIn h mQ)(a:a_ h h'):Ab.LaidIn h' mQ:=fun x T=>a.A (l x T)
def Oz{z:Int}(h0:0<=z)(h1:z<=18446744073709551615):IntKind.u64.wrap z=z:=by
 have : IntKind.u64.wrap z=z % 18446744073709551616:=by simp[IntKind.wrap,IntKind.bits,IntKind.signed]
 rw[this];omega
def J4h(b:Nat)(B:Nat)(h:N):ka (E b).toiS 111 (pO B 0) O O O h=U (M (U ⟨B,0,O⟩) 64 64,h):=kR
def J6g{h:N}(l:Ab.LaidIn h mQ):∀ x ∈ mQ,x.1 < h.Q:=fun x T=>N.D (l x T)
section
attribute [local simp] Gt NJ Wr Vj Zf Vy LH zn Eh Eg LI Mu Aj MA Fs Fu Mz Z9 NO JK Mw MC My Mx Hm LG Ua yJ xq
def J4g(b:Nat){h h0:N}{R0 W:Nat}{p8 FIN:Bl.P8}{t:Tr V}{tv:V}{l:List Nat}{count:Nat}(hl:Ab.LaidIn h mQ)(t4:t.A 4=U (pO R0 0))(t6:t.A 6=U (pO W 0))(t7:t.A 7=U tv)(t8:t.A 8=U (I .u64 (count:Int)))(sn:SN h0 tv l)
  (hW:h0.A W=U (S Y 1 ((tO p8).map ir))) (hR:h0.A R0=U (S Y 1 js)) (ho:a_ h h0) (m0:h.Q<=W) (g1:h.Q<=R0) (v':W≠R0) (hv:Vn tv≠U W) (hf:BA p8 l count=FIN) (hc:count+L l < 1000000000000)
  (K:KP) (hk:∀ h',a_ h h'->K (.ret (.agg ⟨(Bl.out FIN).map ax⟩)) h'):iH (E b) (s7 Tryz.prog (E b).G) (D0 b) O Ms ⟨⟨81,t⟩,[],h0⟩ (uH (E b) (DD b) (FU 27) K):=by
 rw[yJ,JK];refine jE (KI R0 W FIN h) (L l) ⟨_,h0,tv,l,count,p8,rfl,t4,t6,t7,t8,sn,hW,hR,ho,m0,g1,v',hv,hf,rfl,hc,LaidIn.R hl ho⟩ ?_;rintro k s' ⟨t,h1,tv,l,count,p8,rfl,t4,t6,t7,t8,sn,gW,gR,ls,_,_,_,hv,hf,rfl,hc,es⟩ _;obtain⟨h2,e2⟩:∃ h2,h2=h1.push (S Y 1 (List.replicate 64 zU)):=⟨_,rfl⟩;have hq:=jt e2;have n2:=nQ e2;have gB:h2.A h1.Q=U (S Y 1 (List.replicate 64 zU)):=by rw[e2,N.F,if_pos rfl]
 obtain⟨h3,c1,c2,c3,c4⟩:=Vee b gB kA (sn.R hq);have hg:a_ h1 h3:=⟨jA,fun c hc=>by rw[c4 c jA,hq.2 c hc]⟩;have hw:=m_ (b:=b) (h1:=h3) sn.sb;have ud:SN h3 tv l:=sn.R hg;obtain⟨hy,h4,f1,f2,f3,f4,f5⟩:=Ot (b:=b) ud.sb (k:=.i64) (i:=((min (L l) 64:Nat):Int)) jA (by simp;omega);have q1:SN h4 hy (l.drop 64):=by
  have e:(l.map Int.ofNat).drop (min (L l) 64)=(l.drop 64).map Int.ofNat:=by
   rw[<- List.map_drop];congr 1;rcases fR (L l) 64 with q | q
   ·rw[eQ q,bW (ac _),bW q]
   ·rw[fj q]
  rw[bb,e]at f2;exact gL f2
 have hr:∀ hx,iP (E b).toiS 28 hy hx=U (I X ((L l-64:Nat):Int)):=fun hx=>by have:=m_ (b:=b) (h1:=hx) q1.sb;rw[aM,ba]at this;exact this
 have hb:a_ h1 h4:=hg.trans f3;have re:h4.A h1.Q=U (S Y 1 ((l.take 64++List.replicate (64-L l) 0).map ax)):=by
  rw[f3.2 _ jA,c2];congr 2;rw[bg,List.map_replicate];congr 1;rw[gj];congr 1;omega
 have Z':h4.A W=U (S Y 1 ((tO p8).map ir)):=hb.A gW;have a1:h4.A R0=U (S Y 1 js):=hb.A gR;have q3:iz h4 W 0 8=U (uL p8):=by
  rw[Uh Z' (by simp[tO])];rfl
 have lW:=N.D Z';have p2:=N.D gW;have hu:((min (L l) 64:Nat):Int)<=64:=jA
 have wc:IntKind.u64.wrap ((min (L l) 64:Nat):Int)=((min (L l) 64:Nat):Int):=Oz jA jA;have wa:IntKind.u64.wrap ((count:Int)+((min (L l) 64:Nat):Int))=((count+min (L l) 64:Nat):Int):=by rw[Oz jA jA];omega
 obtain⟨m,hm⟩:∃ m:Nat,m=min (L l) 64:=⟨_,rfl⟩;rw[<- hm]at c1 f1 wc wa;have ht:¬ ((m:Int) < 0):=jA
 have pd:Ko (l.take 64) (l.take 64++List.replicate (64-L l) 0):=⟨_,rfl⟩;have p1:L (l.take 64++List.replicate (64-L l) 0)=64:=by simp;omega
 have key:∀ (last:Bool) (T:Bl.P8),T=Bl.take p8 (l.take 64) (count+m) last->∀ K',K' (.ret (uL T)) h4->FK b 51 [uL p8,pO h1.Q 0,I .u64 (((count+m:Nat):Int)),.bool last] h4 K':=by
  intro last T hp K' g2;refine Vda b (LaidIn.R es hb) p8 re p1 (count+m) last K' ?_;rw[J8y p8 pd,<- hp];exact g2
 have hj:∀ T:Bl.P8,Wp h4 W 0 ((tO T).map ir)=U (h4.set W (U (S Y 1 ((tO T).map ir)))):=fun T=>by
  rw[kI Z' (by simp[tO])];rfl
 have he:jh (E b).toiS 111 h1=U (pO h1.Q 0,h2):=by rw[e2];exact AW b h1
 simp[AW,-AW,he,t4,t6,t7,t8,J4h,c1,f1,wc,wa,q3];have hz:∀ T:Bl.P8,j0 (E b).toiS 108 (pO W 0) (uL T) h4=U (h4.set W (U (S Y 1 ((tO T).map ir)))):=fun T=>(Eh b h4 W 0 _ kA).trans (hj T);have hA:∀ x,a_ h (h4.set W x):=fun x=>(ls.trans hb).set _ (by assumption) lW;have hn:∀ x,(h4.set W x).A W=x:=fun x=>by rw[gY lW,if_pos rfl]
 have s1:∀ x,(h4.set W x).A R0=U (S Y 1 js):=fun x=>by rw[gY lW,if_neg (by assumption),a1]
 by_cases hB:L l<=64
 ·have e0:((L l-64:Nat):Int)=0:=jA
  have em:m=L l:=jA
  have et:l.take 64=l:=ai hB;rw[e0]at hr;have hF:FIN=Bl.take p8 (l.take 64) (count+m) Y:=by rw[<- hf,J4v hB,em,et]
  simp[hr];refine key Y FIN hF _ ?_;simp[AW,hz,t6,hr];refine Vdi b (W:=W) (p8:=FIN) (h:=h) (R0:=R0) (by simp[t4]) (by simp[t6]) (hn _) (s1 _) (hA _) (by assumption) K hk
 ·have e0:¬ ((L l-64:Nat):Int)=0:=jA
  have em:m=64:=jA
  subst em;have e1:(decide (((L l-64:Nat):Int)=0))=J:=by simpa using e0
  have q2:64 < L l:=jA
  have hC:¬ (L l-64=0):=jA
  simp only[hr,Z9,e1];refine key J _ rfl _ ?_;simp[AW,hz,t6,hr,hC];refine⟨L l-64,jA,_,_,hy,l.drop 64,count+64,Bl.take p8 (l.take 64) (count+64) J,rfl,by simp[t4],by simp[t6],kA,kA,?_,hn _,s1 _,hA _,by assumption,by assumption,by assumption,?_,by rw[<- hf];exact(J2j q2).symm,kA,by simp;omega,?_⟩
  ·refine Sl.keep q1 fun c hc q2 => ?_;rw[gY lW,if_neg];rintro rfl;rcases f5 _ hc with q | q
   ·exact hv q
   ·omega
  ·intro q;rcases f5 _ q with q | q
   ·exact hv q
   ·omega
  ·intro x hx;have a2:=es x hx;have lb:x.1≠W:=by
    intro q;have:=J6g hl x hx;omega
   rw[gY lW,if_neg (Ne.symm lb)];exact hb.A a2
end
def gn0(b:Nat):(0 < (E b).G.n)=True:=eq_true (by show 0 < nv;decide)
def Vj4(x:Int):jD (binOp .shl 106 (I .u32 x) (I .u64 8))=U (I .u32 (IntKind.u32.wrap (x*2 ^ 8))):=kR
def J4y(x y:Int):jD (binOp .xor 106 (I .u32 x) (I .u32 y))=U (I .u32 (lY x y)):=kR
def KR(k:Nat):Int:=lY 1779033703 (lY (lY 16842752 (IntKind.u32.wrap (IntKind.u32.wrap (k:Int)*2 ^ 8))) 32)
def J6b:∀ k,k < 33->KR k=Int.ofNat (Bl.start k).h0:=qA
def K0(k:Nat):Bl.P8:=Bl.start k
def Ph:∀ n,(Bl.zeros n).map ax=List.replicate n zU
 | 0=>rfl
 | n+1=>by
  have : (Bl.zeros (n+1)).map ax=ax 0::(Bl.zeros n).map ax:=rfl;rw[this,Ph n,cZ];rfl
def Lx(v:V):∀ n,kx [v] n=List.replicate n v
 | 0=>rfl
 | n+1=>by simp[kx,Lx v n,cZ]
section
attribute [local simp] Gt NJ Wr Zf Vy LH Eh Eg LI Mu MA AW Fs Fu Mz Z9 NO JK Mw MC My Mx Hm LG Ua qS qT qV qU qR qX qW qQ qO qN qP ri rh rc qY qZ q_ rj
def Z4g(b:Nat){h T:N}(laid:Ab.LaidIn h mQ){R:Nat}{kv tv:V}{key l:List Nat}{tr:Tr V}(aA:a_ h T)(hR:h.Q<=R)(gA:T.A R=U (S Y 1 js))(sk:SN T kv key)(sl:SN T tv l)(ls:L key<=32)(hl:L l < 1000000000)
  (t0:tr.A 0=U kv) (t1:tr.A 1=U tv) (t4:tr.A 4=U (pO R 0)) (K:KP) (hk:∀ h',a_ h h'->K (.ret (.agg ⟨(Bl.keyed1 key l).map ax⟩)) h') :
  iH (E b) (s7 Tryz.prog (E b).G) (D0 b) O RU ⟨⟨81,tr⟩,[],T⟩ (uH (E b) (DD b) (FU 27) K):=by
 have hc:∀ hx,iP (E b).toiS 28 kv hx=U (I X (L key:Int)):=fun hx=>ja (ma b) sk;have hr:∀ hx,iP (E b).toiS 28 tv hx=U (I X (L l:Int)):=fun hx=>ja (ma b) sl;have hz:¬ (32:Int) < (L key:Int):=jA
 have Z':h.A 0=U (S J 0 tE):=laid (0,tE) (by simp[mQ]);obtain⟨hB,eB⟩:∃ hB,hB=T.push (S Y 1 (List.replicate 8 (I .u32 0))):=⟨_,rfl⟩;have lA:=N.D gA;have aB:=jt eB;have nB:=nQ eB;have gB:hB.A T.Q=U (S Y 1 (List.replicate 8 (I .u32 0))):=by rw[eB,N.F,if_pos rfl]
 have hf:jh (E b).toiS 108 T=U (pO T.Q 0,hB):=by rw[eB];exact zn b T
 have s':iz T 0 0 8=U (.agg ⟨tE⟩):=by
  rw[Uh (aA.A Z') (by simp[tE])];rfl
 obtain⟨hC,eC⟩:∃ hC,hC=hB.set T.Q (U (S Y 1 tE)):=⟨_,rfl⟩;have lB:=N.D gB;have gC:hC.A T.Q=U (S Y 1 tE):=by rw[eC,gY lB,if_pos rfl]
 have re:j0 (E b).toiS 108 (pO T.Q 0) (.agg ⟨tE⟩) hB=U hC:=(Eh b hB T.Q 0 _ (by simp[tE])).trans (by rw[kI gB (by simp[tE]),eC];rfl);have hm:Jr hC T.Q 0=U (I .u32 1779033703):=by rw[Zy gC];rfl
 obtain⟨hD,eD⟩:∃ hD,hD=hC.set T.Q (U (S Y 1 (tE.set 0 (I .u32 (KR (L key)))))):=⟨_,rfl⟩;have lC:=N.D gC;have q1:Wp hC T.Q 0 [I .u32 (KR (L key))]=U hD:=by rw[eD];exact oF gC (by simp[tE])
 have gD:hD.A T.Q=U (S Y 1 ((tO (Bl.start (L key))).map ir)):=by
  rw[eD,gY lC,if_pos rfl,J6b _ jA];rfl
 have aC:a_ h hC:=by rw[eC];exact(aA.trans aB).set _ jA lB
 have hp:a_ T hD:=by rw[eD,eC];exact(aB.set _ (ac _) lB).set _ (ac _) (by rw[<- eC];exact lC)
 have aD:a_ h hD:=by rw[eD];exact aC.set _ jA lC
 have gR:hD.A R=U (S Y 1 js):=by
  rw[eD,gY lC,if_neg jA,eC,gY lB,if_neg jA];exact aB.A gA
 have he:Ug (E b).toiS 108 (pO T.Q 0) (I X 0)=U (pO T.Q 0):=Eg b ⟨jA,jA⟩;obtain⟨a0,hq⟩:∃ a:Int,a=IntKind.u32.wrap (L key:Int):=⟨_,rfl⟩;obtain⟨a1,hg⟩:∃ a:Int,a=IntKind.u32.wrap (a0*2 ^ 8):=⟨_,rfl⟩;obtain⟨a2,s1⟩:∃ a:Int,a=lY 16842752 a1:=⟨_,rfl⟩;obtain⟨a3,hn⟩:∃ a:Int,a=lY a2 32:=⟨_,rfl⟩;obtain⟨a4,es⟩:∃ a:Int,a=KR (L key):=⟨_,rfl⟩;have x0:wR (E b).toiS 3 106 (I X (L key:Int))=U (I .u32 a0):=by rw[hq];exact Aj b _ _
 have x1:jD (binOp .shl 106 (I .u32 a0) (I .u64 8))=U (I .u32 a1):=by rw[hg];exact Vj4 a0
 have x2:jD (binOp .xor 106 (I .u32 16842752) (I .u32 a1))=U (I .u32 a2):=by rw[s1];exact J4y _ _
 have x3:jD (binOp .xor 106 (I .u32 a2) (I .u32 32))=U (I .u32 a3):=by rw[hn];exact J4y _ _
 have x4:jD (binOp .xor 106 (I .u32 1779033703) (I .u32 a3))=U (I .u32 a4):=by rw[es,KR,<- hq,<- hg,<- s1,<- hn];exact J4y _ _
 rw[<- es]at q1;simp[Vj,zn,Aj,yJ,xq,-zn,gn0,t0,t1,t4,hf,hc,hr,hz,s',re,he,hm,q1,-Aj,x0,x1,x2,x3,x4];have q2:=LaidIn.R laid aD;have hy:∀ (t:Tr V) (h0:N) (v:V) (text:List Nat),text=Bl.textOf key l->t.A 4=U (pO R 0)->t.A 6=U (pO T.Q 0)->t.A 7=U v->t.A 8=U (I .u64 0)->SN h0 v text->a_ hD h0->Vn v≠U T.Q ->
   iH (E b) (s7 Tryz.prog (E b).G) (D0 b) O Ms ⟨⟨81,t⟩,[],h0⟩ (uH (E b) (DD b) (FU 27) K):=by
  intro t h0 v text e t4 t6 t7 t8 sn o0 hv;refine J4g b (count:=0) (FIN:=BA (Bl.start (L key)) text 0) laid t4 t6 t7 t8 sn (o0.A gD) (o0.A gR) (aD.trans o0) jA hR jA hv rfl ?_ K fun h' q => ?_
  ·subst e;cases key with
   | nil=>simp[Bl.textOf];omega
   | cons k ks =>
    have z:∀ n,L (Bl.zeros n)=n:=fun n=>by induction n with
     | zero=>rfl
     | succ n ih=>simp[Bl.zeros,ih]
    simp[Bl.textOf,z]at ls ⊢;omega
  ·rw[e]at *;exact hk h' q
 cases hb:key with
 | nil =>
  subst hb;simp[Vj,zn,Aj,yJ,xq,-yJ,t0,t1,t4];refine hy _ hD tv l rfl (by simp[t0,t1,t4]) (by simp[t0,t1,t4]) (by simp[t0,t1,t4]) (by simp[t0,t1,t4]) (sl.R hp) (a_.refl _) fun q => ?_;have:=sl.blk q;omega
 | cons k ks =>
  have h0:0 < L key:=by rw[hb];simp
  rw[<- hb];have w1:IntKind.i64.wrap (64+(L l:Int))=((64+L l:Nat):Int):=by rw[jW jA jA];omega
  have w2:IntKind.i64.wrap (64-(L key:Int))=((64-L key:Nat):Int):=by rw[jW jA jA];omega
  obtain⟨h1,e1⟩:∃ h1,h1=hD.push (S Y 1 (List.replicate (64+L l) zU)):=⟨_,rfl⟩;have a1:=jt e1;have mk:Ah (E b).toiS 28 (I X 0) (I X ((64+L l:Nat):Int)) hD=U (M (U ⟨hD.Q,0,O⟩) 0 (64+L l),h1):=by
   simp only[Ah,qC,(ma b).d,uI];rw[if_pos ⟨jA,jA,jA,by rw[wT];omega,by rw[nf];omega⟩,ZB,e1];have : (I .u8 0).cells.toList=[I .u8 0]:=rfl;rw[this,Lx];simp only[bb,Int.toNat_zero]
  have mk':Ah (E b).toiS 28 (I X 0) (I X (64+(L l:Int))) hD=U (M (U ⟨hD.Q,0,O⟩) 0 (64+L l),h1):=by
   have:=mk;rw[show((64+L l:Nat):Int)=64+(L l:Int) by omega]at this;exact this
  have o1:ig h1 hD.Q 1 (M (U ⟨hD.Q,0,O⟩) 0 (64+L l)) 0 []:=.inr ⟨hD.Q,64+L l,1,_,rfl,ac _,by rw[e1,N.F,if_pos rfl,bU],rfl,jA,by unfold iJ;omega,.inr ⟨by unfold iJ;omega,kA⟩⟩;obtain⟨v2,h2,c1,o2,b2⟩:=wW (ma b) (tx:=28) (m:=L key) (ys:=key.map ax) nf jA o1 a1.1 (uW (ma b) nf (sk.R (hp.trans a1))) kA (by rw[wT];omega) jA;have nz:tn (E b).toiS 3 R5 (I X ((64-L key:Nat):Int)) h2=U (64-L key,List.replicate (64-L key) zU):=by
   have hi:R3.desc=.int X:=kR
   simp only[tn,In,hi];rw[if_pos ⟨jA,jA,by rw[wT];omega,by rw[nf];omega⟩,ZB];have : (I .u8 0).cells.toList=[I .u8 0]:=rfl;rw[this,Lx];simp
  obtain⟨v3,h3,c2,o3,b3⟩:=wW (ma b) (tx:=3) nf jA o2 (ak a1.1 b2.1) nz kA (by rw[wT];omega) jA;have a2:a_ hD h2:=b2.R a1 o1;have a3:a_ hD h3:=b3.R a2 o2;obtain⟨v4,h4,c3,o4,b4⟩:=wW (ma b) (tx:=28) (m:=L l) (ys:=l.map ax) nf jA o3 a3.1 (uW (ma b) nf (sl.R (hp.trans a3))) kA (by rw[wT];omega) jA;have a4:a_ hD h4:=b4.R a3 o3;simp[Vj,zn,Aj,yJ,xq,-yJ,t0,t1,t4,h0,hc,hr,w1,w2,mk',c1,c2,c3];have zl:L (Bl.zeros (64-L key))=64-L key:=by have:=congrArg List.length (Ph (64-L key));simpa using this
  have tx:Bl.textOf key l=key++(Bl.zeros (64-L key)++l):=by rw[hb];rfl
  have sn:SN h4 v4 (key++(Bl.zeros (64-L key)++l)):=by
   have:=o4.sl;have e1 : []++key.map ax++List.replicate (64-L key) (I .u8 0)++l.map ax=(key++(Bl.zeros (64-L key)++l)).map ax:=by
    rw[bg,bg,Ph];simp
   have e2:0+L key+(64-L key)+L l=L (key++(Bl.zeros (64-L key)++l)):=by
    simp only[ah,zl];omega
   rw[e1,e2]at this;exact this
  refine hy _ h4 v4 _ tx.symm (by simp[t0,t1,t4]) (by simp[t0,t1,t4]) (by simp[t0,t1,t4]) (by simp[t0,t1,t4]) sn a4 fun q => ?_;have:=(o4.from q).1;have:=N.D gD;omega
def QB(b:Nat){h:N}(laid:Ab.LaidIn h mQ){kv tv:V}{key l:List Nat}(sk:SN h kv key)(sl:SN h tv l)(T:L key<=32)(hl:L l < 1000000000)(K:KP)(hk:∀ h',a_ h h'->K (.ret (.agg ⟨(Bl.keyed1 key l).map ax⟩)) h') :
  FK b 27 [kv,tv] h K:=by
 refine iI b (Wr b) Ydy rfl ?_;have hc:∀ hx,iP (E b).toiS 28 kv hx=U (I X (L key:Int)):=fun hx=>ja (ma b) sk;have hr:¬ (32:Int) < (L key:Int):=jA
 obtain⟨hA,eA,aA,gA⟩:=oL h js;have h2:jh (E b).toiS 39 h=U (pO h.Q 0,hA):=by rw[eA];exact Vj b h
 simp[Vj,zn,Aj,yJ,xq,-Vj,-xq,h2,hc,hr];exact Z4g b laid aA (ac _) gA (sk.R aA) (sl.R aA) T hl kA kA kA K hk
end
section
attribute [local simp] Xzj Zfb Zf Wr Vy
def Oj(b:Nat){h:N}(laid:Ab.LaidIn h mQ){tv:V}{l:List Nat}(sl:SN h tv l)(hl:L l < 1000000000)(K:KP)(hk:∀ h',a_ h h'->K (.ret (.agg ⟨(Bl.keyed1 [] l).map ax⟩)) h') :
  FK b 50 [tv] h K:=by
 refine iI b (Zf b) Zwl rfl ?_;obtain⟨hA,eA,aA,gA⟩:=oL h js;have hx:jh (E b).toiS 39 h=U (pO h.Q 0,hA):=by rw[eA];exact Vj b h
 simp[Vj,-Vj,hx];refine QB b (LaidIn.R laid aA) (kv:=M O 0 0) (key:=[]) Sl.nil (sl.R aA) kA hl _ fun T a2 => ?_;have g2:T.A h.Q=U (S Y 1 js):=a2.A gA;have kl:L (Bl.keyed1 [] l)=32:=rL _;have l2:=N.D g2;have st:Wp T h.Q 0 ((Bl.keyed1 [] l).map ax)=U (T.set h.Q (U (S Y 1 ((Bl.keyed1 [] l).map ax)))):=by
  rw[kI g2 (by simp[js,kl])];congr 4
 have g3:iz (T.set h.Q (U (S Y 1 ((Bl.keyed1 [] l).map ax)))) h.Q 0 32=U (.agg ⟨(Bl.keyed1 [] l).map ax⟩):=by
  rw[Uh (by rw[gY l2,if_pos rfl]) (by simp[kl])];congr 3
 simp[Vj,Ua,st,kl,g3];exact hk _ ((aA.trans a2).set _ (ac _) l2)
end
def HH(b:Nat)(B o:Nat)(h:N):ka (E b).toiS 39 (pO B o) O O O h=U (M (U ⟨B,o,O⟩) 32 32,h):=kR
section
attribute [local simp] Gt Gt NJ Wr Zf Vy LH zn Eh Eg LI Mu Aj MA AW Fs Fu Mz Z9 NO JK Mw MC My Mx Hm LG Ua yJ qS qT qV qU qR qX qW qQ qO qN qP ri rh rc qY qZ q_ rj
def J3o(b:Nat){h:N}(laid:Ab.LaidIn h mQ){kv tv:V}{key l:List Nat}(sk:SN h kv key)(sl:SN h tv l)(Z':L key < 1000000000)(hl:L l < 1000000000)(K:KP)(hk:∀ h',a_ h h'->K (.ret (.agg ⟨(Bl.keyed key l).map ax⟩)) h') :
  FK b 27 [kv,tv] h K:=by
 by_cases hb:L key<=32
 ·have e:Bl.keyed key l=Bl.keyed1 key l:=by unfold Bl.keyed;rw[rY hb]
  rw[e]at hk;exact QB b laid sk sl hb hl K hk
 ·have e:Bl.keyed key l=Bl.keyed1 (Bl.keyed1 [] key) l:=by
   unfold Bl.keyed;have : Nat.ble (L key) 32=J:=by
    cases hq:Nat.ble (L key) 32 with
    | false=>rfl
    | true=>rw[cY]at hq;omega
   rw[this]
  rw[e]at hk;refine iI b (Wr b) Ydy rfl ?_;have hr:∀ hx,iP (E b).toiS 28 kv hx=U (I X (L key:Int)):=fun hx=>ja (ma b) sk;have hc:(32:Int) < (L key:Int):=jA
  obtain⟨hA,eA,aA,gA⟩:=oL h js;have h3:jh (E b).toiS 39 h=U (pO h.Q 0,hA):=by rw[eA];exact Vj b h
  simp[Vj,xq,-Vj,-xq,h3,hr,hc];refine Oj b (LaidIn.R laid aA) (sk.R aA) Z' _ fun T a2 => ?_;obtain⟨dg,hdg⟩:∃ d,d=Bl.keyed1 [] key:=⟨_,rfl⟩;rw[<- hdg]at hk ⊢;have kl:L dg=32:=by rw[hdg];exact rL _
  obtain⟨hB,eB⟩:∃ hB,hB=T.push (S Y 1 js):=⟨_,rfl⟩;have hp:jh (E b).toiS 39 T=U (pO T.Q 0,hB):=by rw[eB];exact Vj b T
  have gB:hB.A T.Q=U (S Y 1 js):=by rw[eB,N.F,if_pos rfl]
  have lB:=N.D gB;obtain⟨hC,eC⟩:∃ hC,hC=hB.set T.Q (U (S Y 1 (dg.map ax))):=⟨_,rfl⟩;have ls:Wp hB T.Q 0 (dg.map ax)=U hC:=by
   rw[kI gB (by simp[js,kl]),eC];congr 4;simp[js,kl]
  have gC:hC.A T.Q=U (S Y 1 (dg.map ax)):=by rw[eC,gY lB,if_pos rfl]
  have aC:a_ T hC:=by rw[eC,eB];exact(a_.push _ _).set _ (ac _) (by rw[<- eB];exact lB)
  simp[Vj,xq,-Vj,-xq,hp,kl,ls,HH];refine Z4g b laid (aA.trans (a2.trans aC)) (ac _) ((a2.trans aC).A gA) (kv:=M (U ⟨T.Q,0,O⟩) 32 32) (key:=dg) ?_ (sl.R (aA.trans (a2.trans aC))) jA hl kA kA kA K hk;have:=(ig.new (n0:=0) (z:=1) (n:=32) (c:=32) (bQ _) gC (by simp[kl]) qA (.inr rfl)).sl;rw[SN,kl];exact this
end
section
attribute [local simp] Qy1 Xf1 Wq Q8y Q5t Q8w Ykj Lv
def J7z(b:Nat)(h:N)(ν:Nat){o:Int}(ho:o < 1∨32 < o)(K:KP)(T:K (.ret (.pointer O)) h):FK b 168 [pO ν 0,I X o] h K:=by
 refine iI b (Wq b) Xmg rfl ?_;by_cases h1:o < 1
 ·simp[h1];exact T
 ·have h2:32 < o:=jA
  simp[h1,h2];exact T
def Jwh(b:Nat)(h:N)(ν:Nat){o:Int}(h1:1<=o)(h2:o<=32)(K:KP)(hk:K (.ret (.pointer (U ⟨ν,(o-1).toNat*32,O⟩))) h):FK b 168 [pO ν 0,I X o] h K:=by
 refine iI b (Wq b) Xmg rfl ?_;have T:¬ o < 1:=jA
 have a2:¬ 32 < o:=jA
 have w:IntKind.i64.wrap (o-1)=o-1:=jW jA jA;have a3:0<=o-1/\o-1 < ((32:Nat):Int):=⟨jA,jA⟩;have hx:Ug (E b).toiS 58 (pO ν 0) (I X (o-1))=U (.pointer (U ⟨ν,(o-1).toNat*32,O⟩)):=by rw[Lv b a3];simp
 simp[jg,T,a2,w,hx];rw[show o.toNat-1=(o-1).toNat by omega];exact hk
end
def G_:List V:=List.replicate 16 zU
def J98(b:Nat):kh (E b).toiS .neq 264 (.pointer O) (.pointer O)=U (.bool J):=kR
def Jvh(b bk o:Nat):kh (E b).toiS .neq 264 (pO bk o) (.pointer O)=U (.bool Y):=kR
def ZD(b:Nat)(B o:Nat)(h:N):ka (E b).toiS 39 (pO B o) O O O h=U (M (U ⟨B,o,O⟩) 32 32,h):=kR
def Vcn(b:Nat)(B o:Nat)(h:N):ka (E b).toiS 250 (pO B o) O O O h=U (M (U ⟨B,o,O⟩) 16 16,h):=kR
def Vhq(b:Nat){h:N}{B:Nat}{D:Nat}(hD:0 < D){ds:List V}{v:V}{l:List Nat}(hg:h.A B=U (S Y 1 ds))(hd:L ds=D)(s:SN h v l) :
  ∃ h',tj (E b).toiS 28 (M (U ⟨B,0,O⟩) D D) v h=U (I X ((min (L l) D:Nat):Int),h')/\h'.A B=U (S Y 1 ((l.take D).map ax++ds.drop (min (L l) D)))/\h'.Q=h.Q/\∀ c,c≠B->h'.A c=h.A c:=by
 have hk:Nat.min (L l) D=min (L l) D:=rfl;have hx:yj v=U (L l):=by rcases s with⟨c,rfl,_,e,_⟩ | ⟨bk,o,c,ow,z',pre,post,rfl,_⟩ <;> simp_all [yj]
 have T:ta 1 (Nat.min (L l) D) v h=U ((l.take D).map ax):=by
  rcases s with⟨c,rfl,_,e,e2⟩ | ⟨bk,o,c,ow,z',pre,post,rfl,h1,h2,h3, -⟩
  ·have : l=[]:=bI e;subst this;simp[ta]
  ·have h4:nF (Nat.min (L l) D*1) ((pre++l.map ax++post).drop o)=U ((l.take D).map ax):=by
    rw[hk,<- h2,aQ,cd,uD (by simp;omega),aP (by simp;omega),<- dX,de];congr 2;rcases fR (L l) D with q | q
    ·rw[eQ q,ai (ac _),ai q]
    ·rw[fj q]
   simp only[ta,Ab.cellsAt,h1,h4]
 have hr:vc.desc=.slice 5:=(ma b).d;cases hc:(l.take D).map ax with
 | nil =>
  have : l=[]:=by
   cases l with
   | nil=>rfl
   | cons x l=>cases D with
    | zero=>omega
    | succ D=>simp at hc
  subst this;refine⟨h,?_,by simpa using hg,rfl,fun _ _=>rfl⟩;rw[hc]at T;simp only[tj,qC,hr,hx,uI,nf,T]
 | cons x xs =>
  have hb:L (x::xs)<=L ds:=by rw[<- hc,hd];simp;omega
  have hp:storeAt h ⟨B,0,O⟩ (x::xs)=U (h.set B (U (S Y 1 ((x::xs)++ds.drop (L (x::xs)))))):=by
   simp only[storeAt,hg];rw[vd (by simpa using hb)];simp
  rw[hc]at T;refine⟨h.set B (U (S Y 1 ((x::xs)++ds.drop (L (x::xs))))),?_,?_,rfl,fun c hc=>by rw[gY (N.D hg),if_neg (Ne.symm hc)]⟩
  ·simp only[tj,qC,hr,hx,uI,nf,T,hp];rfl
  ·rw[gY (N.D hg),if_pos rfl];congr 4;rw[<- hc,aM,bh,Nat.min_comm]
def qf(ks ds:List Nat):List Nat:=(Bl.keyed1 ks ds).take 16
section
attribute [local simp] Qfw Qkb WY Wq Wr Vj Vy U4 Zf6
def J1g(b:Nat){h:N}(laid:Ab.LaidIn h mQ){ν z:Nat}{ow:Bool}{pre post:List V}{ks ds:List Nat}{o:Int}(h1:1<=o)(h2:o<=32)(hg:h.A ν=U (.cells ow z (pre++ks.map ax++post)))(hp:L pre=(o-1).toNat*32)(hks:L ks=32)(hx:L ds=32)
  (K:KP) (hk:∀ h',a_ h h'->K (.ret (.agg ⟨(qf ks ds).map ax⟩)) h'):FK b 169 [pO ν 0,I X o,.agg ⟨ds.map ax⟩] h K:=by
 refine iI b (WY b) Yjd rfl ?_;obtain⟨hA,eA⟩:∃ hA,hA=h.push (S Y 1 (ds.map ax)):=⟨_,rfl⟩;obtain⟨hB,eB⟩:∃ hB,hB=hA.push (S Y 1 G_):=⟨_,rfl⟩;have aA:=jt eA;have aB:=jt eB;have nA:=nQ eA;have gA:hA.A h.Q=U (S Y 1 (ds.map ax)):=by rw[eA,N.F,if_pos rfl]
 have gB:hB.A hA.Q=U (S Y 1 G_):=by rw[eB,N.F,if_pos rfl]
 have bx:jP (.agg ⟨ds.map ax⟩) h=U (pO h.Q 0,hA):=by rw[eA];exact pk (by simp[hx])
 have h3:jh (E b).toiS 250 hA=U (pO hA.Q 0,hB):=by rw[eB];exact yi b hA
 have ld:L (ds.map ax)=32:=by simpa using hx
 have sk:SN hB (M (U ⟨ν,(o-1).toNat*32,O⟩) 32 32) ks:=.inr ⟨ν,(o-1).toNat*32,32,ow,z,pre,post,by rw[hks],(aA.trans aB).A hg,hp,kA,jA,by unfold iJ;omega,fun q=>by unfold iJ at q;omega⟩;have sd:SN hB (M (U ⟨h.Q,0,O⟩) 32 32) ds:=.inr ⟨h.Q,0,32,Y,1,[],[],by rw[hx],by simpa using aB.A gA,rfl,kA,jA,by unfold iJ;omega,fun q=>by unfold iJ at q;omega⟩;obtain⟨_,hC,c1,n1,rfl,aC⟩:=QB b (LaidIn.R laid (aA.trans aB)) sk sd jA jA (fun r h'=>r=.ret (.agg ⟨(Bl.keyed1 ks ds).map ax⟩)/\a_ hB h') (fun h' q=>⟨rfl,q⟩);simp[yi,hx,bx,-yi,h3];refine Jwh b hB ν h1 h2 _ ?_;simp[yi,Jvh];have kl:L (Bl.keyed1 ks ds)=32:=rL _;obtain⟨hZ,eZ⟩:∃ hZ,hZ=hC.push (S Y 1 js):=⟨_,rfl⟩;have Z':jh (E b).toiS 39 hC=U (pO hC.Q 0,hZ):=by rw[eZ];exact Vj b hC
 have gZ:hZ.A hC.Q=U (S Y 1 js):=by rw[eZ,N.F,if_pos rfl]
 have aZ:=jt eZ;have lZ:=N.D gZ;obtain⟨hW,eW⟩:∃ hW,hW=hZ.set hC.Q (U (S Y 1 ((Bl.keyed1 ks ds).map ax))):=⟨_,rfl⟩;have e2:Wp hZ hC.Q 0 ((Bl.keyed1 ks ds).map ax)=U hW:=by
  rw[kI gZ (by simp[js,kl]),eW];congr 4
 have gW:hW.A hC.Q=U (S Y 1 ((Bl.keyed1 ks ds).map ax)):=by rw[eW,gY lZ,if_pos rfl]
 have aW:a_ hC hW:=by rw[eW];exact aZ.set _ (ac _) lZ
 refine ju [⟨27,[M (U ⟨ν,(o-1).toNat*32,O⟩) 32 32,M (U ⟨h.Q,0,O⟩) 32 32],hB,.agg ⟨(Bl.keyed1 ks ds).map ax⟩,hC,Y⟩] ?_ Xz1 X3d X0f (by simp[X9v,Yh6,yi,jg,ZD,-Vj,Z',kl,e2];first | exact⟨rfl,rfl⟩ | rfl) ?_ ?_
 ·exact pS ⟨c1,n1,fun _ c hc=>aC.2 c hc⟩
 ·simp[CJ,yi]
 simp[yi];have ls:hW.A hA.Q=U (S Y 1 G_):=aW.A (aC.A gB);have hq:SN hW (M (U ⟨hC.Q,0,O⟩) 32 32) (Bl.keyed1 ks ds):=.inr ⟨hC.Q,0,32,Y,1,[],[],by rw[kl],by simpa using gW,rfl,kA,jA,by unfold iJ;omega,fun q=>by unfold iJ at q;omega⟩;obtain⟨hX,cp,gX,nX,kX⟩:=Vhq b (D:=16) jA ls (by simp[G_]) hq;have hr:hX.A hA.Q=U (S Y 1 ((qf ks ds).map ax)):=by
  rw[gX];rw[kl];simp[G_,qf]
 have T:L (qf ks ds)=16:=by simp[qf,kl]
 refine ju [] kA X0e X4b Xyo (by simp[X85,Yha,yi,jg,ZD,Vcn,cp];first | exact⟨rfl,rfl⟩ | rfl) ?_ ?_
 ·simp[CK,yi]
 have lX:=N.D hr;have tk:((qf ks ds).map ax).take 16=(qf ks ds).map ax:=ai (by simp[T]);have s1:((qf ks ds).map ax).drop 16=[]:=cF (by simp[T]);have hy:iz hX hA.Q 0 16=U (.agg ⟨(qf ks ds).map ax⟩):=by
  rw[Uh hr (by simp[T])];simp[tk]
 have e1:Wp hX hA.Q 0 ((qf ks ds).map ax)=U (hX.set hA.Q (U (S Y 1 ((qf ks ds).map ax)))):=by
  rw[kI hr (by simp[T])];simp[T,s1]
 have hb:iz (hX.set hA.Q (U (S Y 1 ((qf ks ds).map ax)))) hA.Q 0 16=U (.agg ⟨(qf ks ds).map ax⟩):=by
  rw[Uh (by rw[gY lX,if_pos rfl]) (by simp[T])];simp[tk]
 simp[yi,hy,e1,T,hb];have aX:a_ h hX:=⟨by rw[nX];exact ak (aA.trans aB).1 (aC.trans aW).1,fun c hc=>by
  rw[kX c jA,(aC.trans aW).2 c (aw hc (aA.trans aB).1),(aA.trans aB).2 c hc]⟩
 exact hk _ (aX.set _ jA lX)
end
def xY(ks:List Nat)(o:Int):List Nat:=(ks.drop ((o-1).toNat*32)).take 32
def Z44:∀ (xs ys:List Nat),L xs=L ys->jz (List.replicate (L xs) 1) (xs.map ax) (ys.map ax)=U (decide (xs=ys))
 | [],[],_=>rfl
 | x::xs,y::ys,h=>by
  have ih:=Z44 xs ys (by simpa using h);simp only[bm,cZ,aK,jz,ih];have : Ax 1 (ax x) (ax y)=U (decide (x=y)):=by
   show(if IntKind.u8=IntKind.u8 then U ((x:Int) == (y:Int))else O)=_;simp only[if_true];congr 1;by_cases e:x=y
   ·subst e;simp
   ·simp[e];omega
  rw[this];simp only[cH,Bool.decide_and]
def Vlr{x y:List Nat}(T:L x=16)(hy:L y=16):jz Vl0 (x.map ax) (y.map ax)=U (decide (x=y)):=by
 have:=Z44 x y jA;rw[T]at this;rw[<- this];congr 1
def teq(b:Nat){x y:List Nat}(T:L x=16)(hy:L y=16):kh (E b).toiS .eql 250 (.agg ⟨x.map ax⟩) (.agg ⟨y.map ax⟩)=U (.bool (decide (x=y))):=by
 have e:kh (E b).toiS .eql 250 (.agg ⟨x.map ax⟩) (.agg ⟨y.map ax⟩)=(jz Vl0 (x.map ax) (y.map ax)).map .bool:=kR
 rw[e,Vlr T hy];rfl
def J4n{ks:List Nat}(hks:L ks=1024){o:Int}(h1:1<=o)(T:o<=32):L (xY ks o)=32:=by
 simp[xY];omega
def J4l{ks:List Nat}(o:Int):ks.map ax=(ks.take ((o-1).toNat*32)).map ax++(xY ks o).map ax++((ks.drop ((o-1).toNat*32)).drop 32).map ax:=by
 rw[<- bg,<- bg,xY,aQ,bf,bf]
def Ven{k d:List Nat}:L (qf k d)=16:=by
 have T:L (Bl.keyed1 k d)=32:=rL _;simp[qf,T]
def Vei(b:Nat){h:N}(laid:Ab.LaidIn h mQ){ν z:Nat}{ow:Bool}{ks ds:List Nat}{o:Int}(h1:1<=o)(h2:o<=32)(hg:h.A ν=U (.cells ow z (ks.map ax)))(hks:L ks=1024)(T:L ds=32)
  (K:KP) (hk:∀ h',a_ h h'->K (.ret (.agg ⟨(qf (xY ks o) ds).map ax⟩)) h'):FK b 169 [pO ν 0,I X o,.agg ⟨ds.map ax⟩] h K :=
 J1g b laid h1 h2 (by rw[hg,J4l o]) (by simp;omega) (J4n hks h1 h2) T K hk
section
attribute [local simp] Qe6 Qhj Vx Wq Ua WY U4 
def Jr8(b:Nat){h:N}(laid:Ab.LaidIn h mQ){ν z:Nat}{ow:Bool}{ks ds tg:List Nat}{o:Int}(hg:h.A ν=U (.cells ow z (ks.map ax)))(hks:L ks=1024)(hx:L ds=32)(hr:L tg=16)
  (h1:1<=o) (h2:o<=32) (K:KP) (hk:∀ h',a_ h h'->K (.ret (.bool (decide (qf (xY ks o) ds=tg)))) h'):FK b 155 [pO ν 0,I X o,.agg ⟨ds.map ax⟩,.agg ⟨tg.map ax⟩] h K:=by
 refine iI b (Vx b) Xe0 rfl ?_;obtain⟨hA,eA⟩:∃ hA,hA=h.push (S Y 1 (ds.map ax)):=⟨_,rfl⟩;obtain⟨T,eB⟩:∃ T,T=hA.push (S Y 1 (tg.map ax)):=⟨_,rfl⟩;have aA:=jt eA;have aB:=jt eB;have gA:hA.A h.Q=U (S Y 1 (ds.map ax)):=by rw[eA,N.F,if_pos rfl]
 have gB:T.A hA.Q=U (S Y 1 (tg.map ax)):=by rw[eB,N.F,if_pos rfl]
 have hp:jP (.agg ⟨ds.map ax⟩) h=U (pO h.Q 0,hA):=by rw[eA];exact pk (by simp[hx])
 have Z':jP (.agg ⟨tg.map ax⟩) hA=U (pO hA.Q 0,T):=by rw[eB];exact pk (by simp[hr])
 simp[hp,Z']
 skip
 obtain⟨_,_,c1,n1,rfl,rfl⟩:=Jwh b T ν h1 h2 (fun r h'=>r=.ret (.pointer (U ⟨ν,(o-1).toNat*32,O⟩))/\T=h') ⟨rfl,rfl⟩;obtain⟨_,hC,c2,n2,rfl,aC⟩:=Vei b (LaidIn.R laid (aA.trans aB)) h1 h2 ((aA.trans aB).A hg) hks hx (fun r h'=>r=.ret (.agg ⟨(qf (xY ks o) ds).map ax⟩)/\a_ T h') (fun h' q=>⟨rfl,q⟩);have hb:iz T h.Q 0 32=U (.agg ⟨ds.map ax⟩):=by
  rw[Uh (aB.A gA) (by simp[hx]),bw,ai (by simp[hx])]
 have h3:iz hC hA.Q 0 16=U (.agg ⟨tg.map ax⟩):=by
  rw[Uh (aC.A gB) (by simp[hr]),bw,ai (by simp[hr])]
 refine ju [⟨168,[pO ν 0,I X o],T,.pointer (U ⟨ν,(o-1).toNat*32,O⟩),T,Y⟩,⟨169,[pO ν 0,I X o,.agg ⟨ds.map ax⟩],T,.agg ⟨(qf (xY ks o) ds).map ax⟩,hC,Y⟩] ?_ Q52 Q7v Q5h (by simp[Q9l,Q9o,Xc8,Xcm,hb,h3,teq b Ven hr,r_,Jvh];first | exact⟨rfl,rfl⟩ | rfl) ?_ ?_
 ·exact wm ⟨c1,n1,fun _ _ _=>rfl⟩ ⟨c2,n2,fun _ c hc=>aC.2 c hc⟩
 ·simp[yI,hb,h3]
 simp;exact hk hC ((aA.trans aB).trans aC)
def Jsx(b:Nat){h:N}(laid:Ab.LaidIn h mQ){ν z:Nat}{ow:Bool}{ks ds tg:List Nat}{o:Int}(hg:h.A ν=U (.cells ow z (ks.map ax)))(hks:L ks=1024)(h2:L ds=32)(hr:L tg=16)
  (ho:¬ (1<=o/\o<=32)) (K:KP) (hk:∀ h',a_ h h'->K (.ret (.bool (J))) h'):FK b 155 [pO ν 0,I X o,.agg ⟨ds.map ax⟩,.agg ⟨tg.map ax⟩] h K:=by
 refine iI b (Vx b) Xe0 rfl ?_;obtain⟨hA,eA⟩:∃ hA,hA=h.push (S Y 1 (ds.map ax)):=⟨_,rfl⟩;obtain⟨T,eB⟩:∃ T,T=hA.push (S Y 1 (tg.map ax)):=⟨_,rfl⟩;have aA:=jt eA;have aB:=jt eB;have gA:hA.A h.Q=U (S Y 1 (ds.map ax)):=by rw[eA,N.F,if_pos rfl]
 have gB:T.A hA.Q=U (S Y 1 (tg.map ax)):=by rw[eB,N.F,if_pos rfl]
 have hx:jP (.agg ⟨ds.map ax⟩) h=U (pO h.Q 0,hA):=by rw[eA];exact pk (by simp[h2])
 have hc:jP (.agg ⟨tg.map ax⟩) hA=U (pO hA.Q 0,T):=by rw[eB];exact pk (by simp[hr])
 simp[hx,hc];obtain⟨_,_,c1,n1,rfl,rfl⟩:=J7z b T ν (o:=o) jA (fun r h'=>r=.ret (.pointer O)/\T=h') ⟨rfl,rfl⟩;refine ju [⟨168,[pO ν 0,I X o],T,.pointer O,T,Y⟩] ?_ Q52 Q7v Q5h (by simp[Q9l,Q9o,Xc8,Xcm,J98];first | exact⟨rfl,rfl⟩ | rfl) ?_ ?_
 ·exact pS ⟨c1,n1,fun _ _ _=>rfl⟩
 ·simp[yI]
 simp;exact hk T (aA.trans aB)
end
def J16(b:Nat){h:N}(laid:Ab.LaidIn h mQ){ν z:Nat}{ow:Bool}{ks ds tg:List Nat}{o:Int}(hg:h.A ν=U (.cells ow z (ks.map ax)))(hks:L ks=1024)(T:L ds=32)(hx:L tg=16)
  (K:KP) (hk:∀ h',a_ h h'->K (.ret (.bool (decide (1<=o/\o<=32) && decide (qf (xY ks o) ds=tg)))) h'):FK b 155 [pO ν 0,I X o,.agg ⟨ds.map ax⟩,.agg ⟨tg.map ax⟩] h K:=by
 by_cases ho:1<=o/\o<=32
 ·exact Jr8 b laid hg hks T hx ho.1 ho.2 K fun h' a=>by
   have:=hk h' a;rwa [decide_eq_true ho,dx]at this
 ·exact Jsx b laid hg hks T hx ho K fun h' a=>by
   have:=hk h' a;rwa [decide_eq_false ho,fJ]at this
structure jL where
 ks:List Nat
 dg:List Nat
 lk:Int
 hks:L ks=1024
 hdg:L dg=32
def mP(l:List Nat):List Int:=l.map Int.ofNat
def qe(l:List Int):List Nat:=l.map Int.toNat
def EQ(a:jL)(o:Int)(t:List Int):Bool:=decide (1<=o/\o<=32) && decide (qf (xY a.ks o) a.dg=qe t)
def Db(x:List Int):List Int:=mP (Bl.keyed1 [] (qe x))
def pU(x:List Int)(st:List (List Int)):Except Int (List (List Int)):=if L st < 16 then .ok (x::st)else .error 16
def jS(a:jL)(code:Int)(data:List Int)(st:List (List Int)):Except Int (List (List Int)) :=
 if code=129 then(match st with | x::r=>(pU x r).bind (pU x) | [] => .error 16)
 else if code=130 then(match st with | _::r => .ok r | [] => .error 16)
 else if code=131 then(match st with | x::r=>pU (Db x) r | [] => .error 16)
 else if code=132 then(match st with | x::y::r=>pU (Cl (decide (x=y))) r | _ => .error 16)
 else if code=133 then(match st with | x::r=>if mY x then .ok r else .error 16 | [] => .error 16)
 else if code=134 then(match st with | x::y::r=>if L x=1/\L y=16 then pU (Cl (EQ a (x.getD 0 0) y)) r else .error 16 | _ => .error 16)
 else if code=135 then(match st with | x::r=>if L x=4 then(if yh x 4<=a.lk then .ok r else .error 18)else .error 16 | [] => .error 16)
 else if code=139 then(match st with | x::r=>(pU x r).bind (pU [(L x:Int)]) | [] => .error 16)
 else pU data st
def qy(a:jL)(code:Int)(data:List Int)(st:List (List Int))(op:List Br):Except Int (List (List Int) × List Br) :=
 match lS code st op with
 | some O => .error 16
 | some (U p) => .ok p
 | none=>if BB op then .ok (st,op)else(jS a code data st).map fun T=>(T,op)
def Az(a:jL):List (Int × List Int)->List (List Int)->List Br->Except Int (List (List Int) × List Br)
 | [],st,op => .ok (st,op)
 | (c,d)::l,st,op=>(qy a c d st op).bind fun p=>Az a l p.1 p.2
def vF:List (List Int)->List (List Int)->Except Int (List (List Int))
 | [],st => .ok st
 | x::l,st=>if L x<=64 then(pU x st).bind (vF l)else .error 16
def OD:Except Int (List (List Int) × List Br)->Int
 | .error z=>z
 | .ok (st,op)=>if L op=0/\L st=1/\mY (st.getD 0 [])=Y then 0 else 16
def MY(a:jL)(l:List (Int × List Int))(T:List (List Int)):Int:=match vF T []with
 | .error z=>z
 | .ok st=>OD (Az a l st [])
def s_(a:jL)(xs:List Int)(T:List (List Int)):Int :=
 if L xs > 256 then 16 else match pz (L xs) xs with
 | none=>16
 | some l=>if L l > 64 then 16 else MY a l T
structure Wd (h:N) (MB:Nat->Prop) (e:iO) (a:jL):Prop where
 laid:Ab.LaidIn h mQ
 low:∀ c,MB c->3<=c
 Q:3<=h.Q
 nota:∃ ν z ow,e.nk=pO ν 0/\h.A ν=U (.cells ow z (a.ks.map ax))/\¬ MB ν
 dg:e.dig=a.dg.map ax
 lk:e.lk=a.lk
def Vdw{x:Nat × List V}(T:x ∈ mQ):x.1 < 3:=by
 simp only[mQ,ao,cy,or_false]at T;rcases T with rfl | rfl
 ·exact of_decide_eq_true (by kernel_rfl)
 ·exact of_decide_eq_true (by kernel_rfl)
def Wd.mv{h h':N}{MB T:Nat->Prop}{e:iO}{a:jL}(w:Wd h MB e a)(m:Mv MB T h h'):Wd h' T e a:=by
 obtain⟨laid,low,nx,⟨ν,z,ow,q1,q2,q3⟩,dg,lk⟩:=w;refine⟨fun x hx => ?_,fun c hc => ?_,ak nx m.Q,⟨ν,z,ow,q1,?_,fun hc => ?_⟩,dg,lk⟩
 ·have g:=laid x hx;rw[m.same x.1 (N.D g) (fun hb=>by have:=low _ hb;have:=Vdw hx;omega)];exact g
 ·rcases m.sub c hc with h | h
  ·exact low c h
  ·omega
 ·rw[m.same ν (N.D q2) q3];exact q2
 ·rcases m.sub ν hc with h | h
  ·exact q3 h
  ·have:=N.D q2;omega
def Va0{y:List Int}(T:Bytes y):y.map i8=(qe y).map ax:=by
 rw[qe,cE];apply bV;intro z hz;have:=T z hz;show I .u8 z=I .u8 ((z.toNat:Nat):Int);rw[dw this.1]
def Vh6(b:Nat){h:N}{v:V}{y:List Int}(s:SB h v y)(hy:L y=16):∃ bk o,DQ (E b).toiS 250 v=U (pO bk o)/\iz h bk o 16=U (.agg ⟨y.map i8⟩):=by
 rcases s with⟨c,_,_,e,_⟩ | ⟨bk,o,c,ow,z',pre,post,rfl,T,g2,g3,g4,_⟩
 ·omega
 ·refine⟨bk,o,?_,?_⟩
  ·have hd:Ij.desc=.array 16 5:=kR
   simp only[DQ,J2q,hd,hy];rfl
  ·rw[Uh T (by simp;omega),aQ,<- g2,cd,aP (by simp;omega),ai (by simp;omega)]
def Wd.R{h h':N}{MB:Nat->Prop}{e:iO}{a:jL}(w:Wd h MB e a)(o:a_ h h'):Wd h' MB e a:=w.mv (Mv.R o)
def i_.env{h:N}{MB:Nat->Prop}{μ:Nat}{e:iO}{ps:List (V × List Int)}{op:List Br}(M_:i_ h MB μ e ps op):Jr h μ 0=U e.nk/\iz h μ 1 32=U (.agg ⟨e.dig⟩):=by
 obtain⟨⟨sv,ov,z,r⟩,_,_⟩:=M_;refine⟨?_,?_⟩
 ·rw[Zy r.at'];rfl
 ·rw[Uh r.at' (by simp[e.len])];congr 3;show((e.dig ++ [I X e.lk]) ++ [sv,ov]).take 32=_;rw[aQ,aP (by rw[e.hd];exact ac _),ai (by rw[e.hd];exact ac _)]
section
attribute [local simp] W9 Qab Xe Wm Qt Z9 X8 Wk Wb VX Q0b ID zx NE NF Q1b Ua U4 Vx
def J5x(b:Nat){h:N}{MB:Nat->Prop}{μ:Nat}{e:iO}{a:jL}{v w:V}{x y:List Int}{ps:List (V × List Int)}{op:List Br}(M_:i_ h MB μ e ((v,x)::(w,y)::ps) op)(wd:Wd h MB e a)(hl:L ps < 900)(K:KP)
  (hk:L x=1->L y=16->∀ h',i_ h' MB μ e ps op->Mv MB MB h h'->K (.ret (.bool (EQ a (x.getD 0 0) y))) h') (hp:¬ (L x=1/\L y=16)->∀ h',Mv MB MB h h'->K (.panic (pe 16)) h'):FK b 133 [pO μ 0] h K:=by
 refine iI b (Xe b) Xcp rfl ?_;simp;refine vm b M_ (by simp;omega) _ fun h1 M1 m1 _ i1 _ => ?_;simp;refine vm b M1 jA _ fun h2 M2 m2 _ i2 _ => ?_;have kP:=fun hx=>m_ (b:=b) (h1:=hx) i1.sb;have hb:=fun hx=>m_ (b:=b) (h1:=hx) i2.sb;have Z':=m1.trans m2;by_cases hx:L x=1
 ·rw[hx]at kP;have hr:∀ hx,iP (E b).toiS 28 v hx=U (I X 1):=kP;by_cases hy:L y=16
  ·rw[hy]at hb;have hA:∀ hx,iP (E b).toiS 28 w hx=U (I X 16):=hb;simp[hr,hA];refine vL b h2 16 _ ?_;have ls:=wd.mv Z';obtain⟨ν,z,ow,q1,q2,q3⟩:=ls.nota;obtain⟨T,rfl⟩:∃ T,x=[T]:=by
    match x,hx with
    | [T],_=>exact⟨T,rfl⟩
   have hn:=i1.mv m2;obtain⟨bk,o,x1,x2,x3⟩:=Dc (b:=b) hn.sb (k:=.i64) (i:=0) (z:=T) rfl;obtain⟨bt,ot,y1,y2⟩:=Vh6 b i2.sb hy;obtain⟨e1,e2⟩:=M2.env;rw[q1]at e1;rw[ls.dg]at e2;rw[Va0 i2.by8]at y2;have hz:=i1.by8 T kA;have w1:IntKind.i64.wrap T=T:=jW jA jA;have hq:L (qe y)=16:=by simp[qe,hy]
   obtain⟨_,h3,c1,n1,rfl,a3⟩:=J16 b ls.laid (o:=T) q2 a.hks a.hdg hq (fun r h'=>r=.ret (.bool (EQ a T y))/\a_ h2 h') (fun h' q=>⟨rfl,q⟩);simp only[i8]at x3;simp at x2;simp;refine ju [⟨155,[pO ν 0,I X T,.agg ⟨a.dg.map ax⟩,.agg ⟨(qe y).map ax⟩],h2,.bool (EQ a T y),h3,Y⟩] ?_ Xp7 Xt3 Xor (by simp[Xvk,Xuo,jg,e1,e2,x2,x3,y1,y2,w1];first | exact⟨rfl,rfl⟩ | rfl) ?_ ?_
   ·exact pS ⟨c1,n1,fun _ c hc=>a3.2 c hc⟩
   ·simp[CT]
   simp;exact hk rfl hy h3 (M2.R a3) (Z'.trans (Mv.R a3))
  ·have s1:¬ (L y:Int)=16:=jA
   simp[hr,hb,s1];refine uo b h2 16 _ ?_;simp;exact hp (fun q=>hy q.2) h2 Z'
 ·have hg:¬ (L x:Int)=1:=jA
  simp[kP,hg];refine uo b h2 16 _ ?_;simp;exact hp (fun q=>hx q.1) h2 Z'
def Z5l(b:Nat){h:N}{MB:Nat->Prop}{μ:Nat}{e:iO}{ps:List (V × List Int)}{op:List Br}(M_:i_ h MB μ e ps op)(hl:L ps < 2)(K:KP)
  (T:∀ h',Mv MB MB h h'->K (.panic (pe 16)) h'):FK b 133 [pO μ 0] h K:=by
 refine iI b (Xe b) Xcp rfl ?_;simp
 match ps,hl with
 | [],_ =>
  refine wM b M_ _ ?_;simp;exact T h (Mv.refl _ _)
 | [p],_ =>
  obtain⟨v,x⟩:=p;refine vm b M_ kA _ fun h1 M1 m1 _ i1 _ => ?_;simp;refine wM b M1 _ ?_;simp;exact T h1 m1
end
def Vf7(h:Nat):∀ n ∈ Bl.by4 h,n < 256:=by
 intro n T;simp only[Bl.by4,ao,cy,or_false]at T;rcases T with rfl | rfl | rfl | rfl <;> exact eJ _ qA
def J9l(p:Bl.P8):∀ n ∈ Bl.out p,n < 256:=by
 obtain⟨h0,h1,h2,h3,h4,h5,h6,h7⟩:=p;intro n T;simp only[Bl.out,ab]at T;rcases T with((((((T | T) | T) | T) | T) | T) | T) | T <;> exact Vf7 _ n T
def Jxu{l:List Nat}(h:∀ n ∈ l,n < 256):Bytes (mP l):=by
 intro z hz;obtain⟨n,T,rfl⟩:=am.1 hz;have:=h n T;show(0:Int)<=(n:Int)/\(n:Int) < 256;omega
def Va5(l:List Nat):l.map ax=(mP l).map i8:=by
 rw[mP,cE];rfl
def QF(x:List Int):L (Db x)=32:=by
 have : L (Bl.keyed1 [] (qe x))=32:=rL _;simp[Db,mP,this]
def Jz1(x:List Int):Bytes (Db x):=Jxu (J9l _)
def qb.at{h:N}{MB:Nat->Prop}{B z:Nat}{ow:Bool}{xs:List Int}(hg:h.A B=U (.cells ow z (xs.map i8)))(T:Bytes xs)(hl:L xs < 1000000)(hm:¬ MB B):qb h MB (M (U ⟨B,0,O⟩) (L xs) (L xs)) xs :=
 ⟨.inr ⟨B,0,L xs,ow,z,[],[],rfl,by simpa using hg,rfl,kA,ac _,by unfold iJ;omega,fun q=>by unfold iJ at q;omega⟩,T,fun c hc=>by cases hc;exact hm⟩
def uV(b:Nat)(h:N)(code:Int)(dv:V):jP (.agg ⟨[I X code,dv]⟩) h=U (pO h.Q 0,h.push (S Y 1 [I X code,dv])):=rfl
def pT(h:N)(code:Int)(dv:V):Jr (h.push (S Y 1 [I X code,dv])) h.Q 0=U (I X code):=(Zy (z:=1) (ow:=true) (c:=[I X code,dv]) ((N.F _ _ _).trans (if_pos rfl))).trans rfl
def Vjs(h:N)(code:Int)(dv:V):Jr (h.push (S Y 1 [I X code,dv])) h.Q 1=U dv:=(Zy (z:=1) (ow:=true) (c:=[I X code,dv]) ((N.F _ _ _).trans (if_pos rfl))).trans rfl
structure At (h:N) (MB:Nat->Prop) (μ:Nat) (e:iO) (a:jL) (ps:List (V × List Int)) (op:List Br) (dv:V) (data:List Int):Prop where
 m:i_ h MB μ e ps op
 w:Wd h MB e a
 i:qb h MB dv data
 l1:L ps<=16
 l2:L op < 1000
 l3:∀ p ∈ ps,L p.2<=64
section
variable(b:Nat){h:N}{MB:Nat->Prop}{μ:Nat}{e:iO}{a:jL}{ps:List (V × List Int)}{op:List Br}{dv:V}{data:List Int}(A:At h MB μ e a ps op dv data)
include A
section
attribute [local simp] Xo Xy Qx Ui kQ Qu Qy Xq Xm Z9 Qt X9 Zf Vj Vy Zb Xt Xp X8 Xe Xb GA GD Vz U7
theorem J7j(hoff:BB op=Y){code:Int}(T:lS code [] []=O)(K:KP)(hk:∀ h',s9 MB h μ e (ps.map (·.2)) op h'->K (.ret (.tuple #[])) h'):fx Tryz.prog (E b).G 108 [pO μ 0,.agg ⟨[I X code,dv]⟩] h K:=by
 refine kW (E b) (kE _ _) (Wh b) (Vm b) ie (Ws b) (Qx b) kY.1 kY.2.1 kY.2.2 rfl ?_;simp[uV b,pT];refine yq b T _ ?_;simp;refine(wJ b (A.m.R (a_.push _ _)) A.l2 _ ?_).ok;simp[hoff];exact hk _ ⟨ps,MB,rfl,A.m.R (a_.push _ _),Mv.R (a_.push _ _)⟩
end
variable(hoff:BB op=J)
include hoff
section
attribute [local simp] Xo Xy Qx Ui kQ Qu Qy Xq Xm Z9 Qt X9 Zf Vj Vy Zb Xt Xp X8 Xe Xb GA GD Vz U7
theorem J1p(K:KP)(hk:∀ T,jS a 130 data (ps.map (·.2))=.ok T->∀ h',s9 MB h μ e T op h'->K (.ret (.tuple #[])) h')(hp:∀ z,jS a 130 data (ps.map (·.2))=.error z->∀ h',tL MB h h'->K (.panic (pe z)) h') :
  fx Tryz.prog (E b).G 108 [pO μ 0,.agg ⟨[I X 130,dv]⟩] h K:=by
 have M0:=A.m.R (a_.push h (S Y 1 [I X 130,dv]));have m0:Mv MB MB h (h.push (S Y 1 [I X 130,dv])):=Mv.R (a_.push _ _);refine kW (E b) (kE _ _) (Wh b) (Vm b) ie (Ws b) (Qx b) kY.1 kY.2.1 kY.2.2 rfl ?_;simp[uV b,pT];refine yq b (by simp[lS]) _ ?_;simp;refine(wJ b M0 A.l2 _ ?_).ok;simp[hoff,pT]
 match ps,A with
 | [],A =>
  refine(wM b M0 _ ?_).ok;simp;exact hp 16 (by simp[jS]) _ ⟨MB,m0⟩
 | (v,x)::ps,A =>
  refine(vm b M0 (by have:=A.l1;simp at this;omega) _ fun h1 M1 m1 _ i1 _ => ?_).ok;simp;exact hk _ (by simp[jS]) _ ⟨ps,MB,rfl,M1,m0.trans m1⟩
end
end
section
attribute [local simp] W_ Qbi Xb Qt Z9 X8 zx NE NF VX Xat kQ 
def J30(b:Nat){h:N}{MB:Nat->Prop}{μ:Nat}{e:iO}{op:List Br}(M_:i_ h MB μ e [] op)(K:KP)(T:K (.panic (pe 16)) h):FK b 134 [pO μ 0] h K:=by
 refine iI b (Xb b) Q9g rfl ?_;simp;refine wM b M_ _ ?_;simp;exact T
end
section
variable(b:Nat){h:N}{MB:Nat->Prop}{μ:Nat}{e:iO}{a:jL}{ps:List (V × List Int)}{op:List Br}{dv:V}{data:List Int}(A:At h MB μ e a ps op dv data)(hoff:BB op=J)
include A hoff
section
attribute [local simp] Xo Xy Qx Ui kQ Qu Qy Xq Xm Z9 Qt X9 Zf Vy Zb Xt Xp X8 Xe Xb GA GD Vz U7
theorem J84(K:KP)(hk:∀ T,jS a 129 data (ps.map (·.2))=.ok T->∀ h',s9 MB h μ e T op h'->K (.ret (.tuple #[])) h')(hp:∀ z,jS a 129 data (ps.map (·.2))=.error z->∀ h',tL MB h h'->K (.panic (pe z)) h') :
  fx Tryz.prog (E b).G 108 [pO μ 0,.agg ⟨[I X 129,dv]⟩] h K:=by
 have M0:=A.m.R (a_.push h (S Y 1 [I X 129,dv]));have m0:Mv MB MB h (h.push (S Y 1 [I X 129,dv])):=Mv.R (a_.push _ _);refine kW (E b) (kE _ _) (Wh b) (Vm b) ie (Ws b) (Qx b) kY.1 kY.2.1 kY.2.2 rfl ?_;simp[Vj,uV b,pT];refine yq b (by simp[lS]) _ ?_;simp[Vj];refine(wJ b M0 A.l2 _ ?_).ok;simp[Vj,hoff,pT]
 match ps,A with
 | [],A =>
  refine(wM b M0 _ ?_).ok;simp[Vj];exact hp 16 (by simp[jS]) _ ⟨MB,m0⟩
 | (v,x)::ps,A =>
  have l1:L ps < 16:=by have:=A.l1;simp at this;omega
  have lx:L x<=64:=A.l3 (v,x) kA;refine(vm b M0 jA _ fun h1 M1 m1 _ i1 _ => ?_).ok;simp[Vj];refine(zi b M1 i1 l1 _ fun h2 hx M2 m2 => ?_).ok;simp[Vj];by_cases l2:L ps+1 < 16
  ·refine(zi b M2 (i1.mv m2) (by simpa using l2) _ fun h3 hc M3 m3 => ?_).ok;simp[Vj];exact hk (x::x::ps.map (·.2)) (by simp[jS,pU,l1,l2,Except.bind]) _ ⟨_,hc,kA,M3,m0.trans (m1.trans (m2.trans m3))⟩
  ·refine(Ez b M2 (by simp;omega) _ ?_).ok;simp[Vj];exact hp 16 (by simp[jS,pU,l1,l2,Except.bind]) _ ⟨hx,m0.trans (m1.trans m2)⟩
theorem Jzg(K:KP)(hk:∀ hx,jS a 131 data (ps.map (·.2))=.ok hx->∀ h',s9 MB h μ e hx op h'->K (.ret (.tuple #[])) h')(hp:∀ z,jS a 131 data (ps.map (·.2))=.error z->∀ h',tL MB h h'->K (.panic (pe z)) h') :
  fx Tryz.prog (E b).G 108 [pO μ 0,.agg ⟨[I X 131,dv]⟩] h K:=by
 have M0:=A.m.R (a_.push h (S Y 1 [I X 131,dv]));have m0:Mv MB MB h (h.push (S Y 1 [I X 131,dv])):=Mv.R (a_.push _ _);refine kW (E b) (kE _ _) (Wh b) (Vm b) ie (Ws b) (Qx b) kY.1 kY.2.1 kY.2.2 rfl ?_;simp[Vj,uV b,pT];refine yq b (by simp[lS]) _ ?_;simp[Vj];refine(wJ b M0 A.l2 _ ?_).ok;simp[Vj,hoff,pT]
 match ps,A with
 | [],A =>
  refine(wM b M0 _ ?_).ok;simp[Vj];exact hp 16 (by simp[jS]) _ ⟨MB,m0⟩
 | (v,x)::ps,A =>
  have l1:L ps < 16:=by have:=A.l1;simp at this;omega
  have lx:L x<=64:=A.l3 (v,x) kA;refine(vm b M0 jA _ fun h1 M1 m1 _ i1 _ => ?_).ok;simp[Vj];have sn:SN h1 v (qe x):=by
   have:=i1.sb;rw[SB,Va0 i1.by8]at this;rwa [show L x=L (qe x) by simp[qe]]at this
  refine(Oj b ((A.w.mv (m0.trans m1)).laid) sn (by simp[qe];omega) _ fun T a2 => ?_).ok;have kl:L (Bl.keyed1 [] (qe x))=32:=rL _;obtain⟨hZ,eZ⟩:∃ hZ,hZ=T.push (S Y 1 js):=⟨_,rfl⟩;have hr:jh (E b).toiS 39 T=U (pO T.Q 0,hZ):=by rw[eZ];exact Vj b T
  have gZ:hZ.A T.Q=U (S Y 1 js):=by rw[eZ,N.F,if_pos rfl]
  have aZ:=jt eZ;have lZ:=N.D gZ;obtain⟨hW,eW⟩:∃ hW,hW=hZ.set T.Q (U (S Y 1 ((Bl.keyed1 [] (qe x)).map ax))):=⟨_,rfl⟩;have hb:Wp hZ T.Q 0 ((Bl.keyed1 [] (qe x)).map ax)=U hW:=by
   rw[kI gZ (by simp[js,kl]),eW];congr 4
  have gW:hW.A T.Q=U (S Y 1 ((Db x).map i8)):=by rw[eW,gY lZ,if_pos rfl,Va5];rfl
  have aW:a_ T hW:=by rw[eW];exact aZ.set _ (ac _) lZ
  simp[Vj,-Vj,hr,kl,hb,ZD];have M2:=(M1.R a2).R aW;have iw:qb hW MB (M (U ⟨T.Q,0,O⟩) 32 32) (Db x):=by
   have:=qb.at (MB:=MB) gW (Jz1 x) (by rw[QF];omega) (fun q=>by have:=(M1.R a2).low _ q;omega);rwa [QF]at this
  refine(zi b M2 iw l1 _ fun h3 hc M3 m3 => ?_).ok;simp[Vj];exact hk (Db x::ps.map (·.2)) (by simp[jS,pU,l1]) _ ⟨_,hc,kA,M3,m0.trans (m1.trans ((Mv.R (a2.trans aW)).trans m3))⟩
theorem Jz5(K:KP)(hk:∀ T,jS a 132 data (ps.map (·.2))=.ok T->∀ h',s9 MB h μ e T op h'->K (.ret (.tuple #[])) h')(hp:∀ z,jS a 132 data (ps.map (·.2))=.error z->∀ h',tL MB h h'->K (.panic (pe z)) h') :
  fx Tryz.prog (E b).G 108 [pO μ 0,.agg ⟨[I X 132,dv]⟩] h K:=by
 have M0:=A.m.R (a_.push h (S Y 1 [I X 132,dv]));have m0:Mv MB MB h (h.push (S Y 1 [I X 132,dv])):=Mv.R (a_.push _ _);refine kW (E b) (kE _ _) (Wh b) (Vm b) ie (Ws b) (Qx b) kY.1 kY.2.1 kY.2.2 rfl ?_;simp[Vj,uV b,pT];refine yq b (by simp[lS]) _ ?_;simp[Vj];refine(wJ b M0 A.l2 _ ?_).ok;simp[Vj,hoff,pT]
 match ps,A with
 | [],A =>
  refine(wM b M0 _ ?_).ok;simp[Vj];exact hp 16 (by simp[jS]) _ ⟨MB,m0⟩
 | [(v,x)],A =>
  refine(vm b M0 kA _ fun h1 M1 m1 _ i1 _ => ?_).ok;simp[Vj];refine(wM b M1 _ ?_).ok;simp[Vj];exact hp 16 (by simp[jS]) _ ⟨MB,m0.trans m1⟩
 | (v,x)::(w,y)::ps,A =>
  have l1:L ps < 15:=by have:=A.l1;simp at this;omega
  refine(vm b M0 (by simp;omega) _ fun h1 M1 m1 _ i1 _ => ?_).ok;simp[Vj];refine(vm b M1 jA _ fun h2 M2 m2 _ i2 _ => ?_).ok;have hc:=i1.mv m2;simp[Vj];refine(J6d b hc.sb i2.sb i1.by8 i2.by8 _ ?_).ok;simp[Vj];refine(J22 b (decide (x=y)) M2 _ (fun _ v3 h3 hx M3 m3 => ?_) (fun q=>by omega)).ok;simp[Vj];exact hk (Cl (decide (x=y))::ps.map (·.2)) (by simp[jS,pU];omega) _ ⟨_,hx,kA,M3,m0.trans (m1.trans (m2.trans m3))⟩
theorem Js2(K:KP)(hk:∀ T,jS a 133 data (ps.map (·.2))=.ok T->∀ h',s9 MB h μ e T op h'->K (.ret (.tuple #[])) h')(hp:∀ z,jS a 133 data (ps.map (·.2))=.error z->∀ h',tL MB h h'->K (.panic (pe z)) h') :
  fx Tryz.prog (E b).G 108 [pO μ 0,.agg ⟨[I X 133,dv]⟩] h K:=by
 have M0:=A.m.R (a_.push h (S Y 1 [I X 133,dv]));have m0:Mv MB MB h (h.push (S Y 1 [I X 133,dv])):=Mv.R (a_.push _ _);refine kW (E b) (kE _ _) (Wh b) (Vm b) ie (Ws b) (Qx b) kY.1 kY.2.1 kY.2.2 rfl ?_;simp[Vj,uV b,pT];refine yq b (by simp[lS]) _ ?_;simp[Vj];refine(wJ b M0 A.l2 _ ?_).ok;simp[Vj,hoff,pT]
 match ps,A with
 | [],A =>
  refine(wM b M0 _ ?_).ok;simp[Vj];exact hp 16 (by simp[jS]) _ ⟨MB,m0⟩
 | (v,x)::ps,A =>
  have l1:L ps < 16:=by have:=A.l1;simp at this;omega
  have lx:L x<=64:=A.l3 (v,x) kA;refine(vm b M0 jA _ fun h1 M1 m1 _ i1 _ => ?_).ok;simp[Vj];refine(PA b i1.sb jA _ fun h2 a2 => ?_).ok;cases ht:mY x with
  | true =>
   simp[Vj];refine(vL b h2 16 _ ?_).ok;simp[Vj];exact hk (ps.map (·.2)) (by simp[jS,ht]) _ ⟨ps,MB,rfl,M1.R a2,m0.trans (m1.trans (Mv.R a2))⟩
  | false =>
   simp[Vj];refine(uo b h2 16 _ ?_).ok;simp[Vj];exact hp 16 (by simp[jS,ht]) _ ⟨MB,m0.trans (m1.trans (Mv.R a2))⟩
theorem J49(K:KP)(hk:∀ hx,jS a 134 data (ps.map (·.2))=.ok hx->∀ h',s9 MB h μ e hx op h'->K (.ret (.tuple #[])) h')(hp:∀ z,jS a 134 data (ps.map (·.2))=.error z->∀ h',tL MB h h'->K (.panic (pe z)) h') :
  fx Tryz.prog (E b).G 108 [pO μ 0,.agg ⟨[I X 134,dv]⟩] h K:=by
 have M0:=A.m.R (a_.push h (S Y 1 [I X 134,dv]));have m0:Mv MB MB h (h.push (S Y 1 [I X 134,dv])):=Mv.R (a_.push _ _);refine kW (E b) (kE _ _) (Wh b) (Vm b) ie (Ws b) (Qx b) kY.1 kY.2.1 kY.2.2 rfl ?_;simp[Vj,uV b,pT];refine yq b (by simp[lS]) _ ?_;simp[Vj];refine(wJ b M0 A.l2 _ ?_).ok;simp[Vj,hoff,pT]
 match ps,A with
 | [],A =>
  refine(Z5l b M0 kA _ fun h1 T => ?_).ok;simp[Vj];exact hp 16 (by simp[jS]) _ ⟨MB,m0.trans T⟩
 | [(v,x)],A =>
  refine(Z5l b M0 kA _ fun h1 T => ?_).ok;simp[Vj];exact hp 16 (by simp[jS]) _ ⟨MB,m0.trans T⟩
 | (v,x)::(w,y)::ps,A =>
  have l1:L ps < 15:=by have:=A.l1;simp at this;omega
  refine(J5x b M0 (A.w.mv m0) jA _ (fun q1 q2 h1 M1 T => ?_) (fun q h1 T => ?_)).ok
  ·simp[Vj];refine(J22 b (EQ a (x.getD 0 0) y) M1 _ (fun _ v3 h3 hc M3 m3 => ?_) (fun q=>by omega)).ok;simp[Vj];exact hk (Cl (EQ a (x.getD 0 0) y)::ps.map (·.2)) (by simp[jS,pU,q1,q2];omega) _ ⟨_,hc,kA,M3,m0.trans (T.trans m3)⟩
  ·simp[Vj];exact hp 16 (by simp only[jS,aK];simp[q]) _ ⟨MB,m0.trans T⟩
theorem Jyo(K:KP)(hk:∀ hx,jS a 135 data (ps.map (·.2))=.ok hx->∀ h',s9 MB h μ e hx op h'->K (.ret (.tuple #[])) h')(hp:∀ z,jS a 135 data (ps.map (·.2))=.error z->∀ h',tL MB h h'->K (.panic (pe z)) h') :
  fx Tryz.prog (E b).G 108 [pO μ 0,.agg ⟨[I X 135,dv]⟩] h K:=by
 have M0:=A.m.R (a_.push h (S Y 1 [I X 135,dv]));have m0:Mv MB MB h (h.push (S Y 1 [I X 135,dv])):=Mv.R (a_.push _ _);refine kW (E b) (kE _ _) (Wh b) (Vm b) ie (Ws b) (Qx b) kY.1 kY.2.1 kY.2.2 rfl ?_;simp[Vj,uV b,pT];refine yq b (by simp[lS]) _ ?_;simp[Vj];refine(wJ b M0 A.l2 _ ?_).ok;simp[Vj,hoff,pT]
 match ps,A with
 | [],A =>
  refine(J30 b M0 _ ?_).ok;simp[Vj];exact hp 16 (by simp[jS]) _ ⟨MB,m0⟩
 | (v,x)::ps,A =>
  have l1:L ps < 16:=by have:=A.l1;simp at this;omega
  refine(J66 b M0 jA _ (fun q1 q2 h1 M1 T => ?_) (fun q1 h1 T => ?_) (fun q1 q2 h1 T => ?_)).ok
  ·simp[Vj];rw[A.w.lk]at q2;exact hk (ps.map (·.2)) (by simp[jS,q1,q2]) _ ⟨ps,MB,rfl,M1,m0.trans T⟩
  ·simp[Vj];exact hp 16 (by simp[jS,q1]) _ ⟨MB,m0.trans T⟩
  ·simp[Vj];rw[A.w.lk]at q2;exact hp 18 (by simp[jS,q1,q2]) _ ⟨MB,m0.trans T⟩
theorem Jzb(K:KP)(hk:∀ hc,jS a 139 data (ps.map (·.2))=.ok hc->∀ h',s9 MB h μ e hc op h'->K (.ret (.tuple #[])) h')(hp:∀ z,jS a 139 data (ps.map (·.2))=.error z->∀ h',tL MB h h'->K (.panic (pe z)) h') :
  fx Tryz.prog (E b).G 108 [pO μ 0,.agg ⟨[I X 139,dv]⟩] h K:=by
 have M0:=A.m.R (a_.push h (S Y 1 [I X 139,dv]));have m0:Mv MB MB h (h.push (S Y 1 [I X 139,dv])):=Mv.R (a_.push _ _);refine kW (E b) (kE _ _) (Wh b) (Vm b) ie (Ws b) (Qx b) kY.1 kY.2.1 kY.2.2 rfl ?_;simp[Vj,uV b,pT];refine yq b (by simp[lS]) _ ?_;simp[Vj];refine(wJ b M0 A.l2 _ ?_).ok;simp[Vj,hoff,pT]
 match ps,A with
 | [],A =>
  refine(wM b M0 _ ?_).ok;simp[Vj];exact hp 16 (by simp[jS]) _ ⟨MB,m0⟩
 | (v,x)::ps,A =>
  have l1:L ps < 16:=by have:=A.l1;simp at this;omega
  have lx:L x<=64:=A.l3 (v,x) kA;refine(vm b M0 jA _ fun h1 M1 m1 _ i1 _ => ?_).ok;simp[Vj];refine(zi b M1 i1 l1 _ fun h2 T M2 m2 => ?_).ok;have i2:=i1.mv m2;have len:=fun hx=>m_ (b:=b) (h1:=hx) i2.sb;have w8:IntKind.u8.wrap (L x:Int)=(L x:Int):=Vgk jA;simp[Vj,len,w8,HI];have m3:Mv T T h2 (h2.push (S Y 1 [i8 (L x:Int)])):=Mv.R (a_.push _ _);have i3:=qb.new (h:=h2) (MB:=T) M2.low (xs:=[(L x:Int)]) (by intro z hz;simp at hz;omega) kA;by_cases l2:L ps+1 < 16
  ·refine(zi b (M2.R (a_.push _ _)) i3 (by simpa using l2) _ fun h4 hr M4 m4 => ?_).ok;simp[Vj];exact hk ([(L x:Int)]::x::ps.map (·.2)) (by simp[jS,pU,l1,l2,Except.bind]) _ ⟨_,hr,kA,M4,m0.trans (m1.trans (m2.trans (m3.trans m4)))⟩
  ·refine(Ez b (M2.R (a_.push _ _)) (by simp;omega) _ ?_).ok;simp[Vj];exact hp 16 (by simp[jS,pU,l1,l2,Except.bind]) _ ⟨T,m0.trans (m1.trans (m2.trans m3))⟩
theorem J0b{code:Int}(e1:¬ code=129)(e2:¬ code=130)(e3:¬ code=131)(e4:¬ code=132)(e5:¬ code=133)(e6:¬ code=134)(e7:¬ code=135)(c8:¬ code=136)(c9:¬ code=137)(hr:¬ code=138)(T:¬ code=139)(K:KP)(hk:∀ hx,jS a code data (ps.map (·.2))=.ok hx->∀ h',s9 MB h μ e hx op h'->K (.ret (.tuple #[])) h')(hp:∀ z,jS a code data (ps.map (·.2))=.error z->∀ h',tL MB h h'->K (.panic (pe z)) h') :
  fx Tryz.prog (E b).G 108 [pO μ 0,.agg ⟨[I X code,dv]⟩] h K:=by
 have M0:=A.m.R (a_.push h (S Y 1 [I X code,dv]));have m0:Mv MB MB h (h.push (S Y 1 [I X code,dv])):=Mv.R (a_.push _ _);refine kW (E b) (kE _ _) (Wh b) (Vm b) ie (Ws b) (Qx b) kY.1 kY.2.1 kY.2.2 rfl ?_;simp[Vj,uV b,pT];refine yq b (by simp[lS,c8,c9,hr]) _ ?_;simp[Vj];refine(wJ b M0 A.l2 _ ?_).ok;simp[Vj,hoff,pT,Vjs,e1,e2,e3,e4,e5,e6,e7,T];by_cases l1:L ps < 16
 ·refine(zi b M0 (A.i.mv m0) l1 _ fun h2 hc M2 m2 => ?_).ok;simp[Vj];exact hk (data::ps.map (·.2)) (by simp[jS,pU,l1,e1,e2,e3,e4,e5,e6,e7,T]) _ ⟨_,hc,kA,M2,m0.trans m2⟩
 ·refine(Ez b M0 jA _ ?_).ok;simp[Vj];exact hp 16 (by simp[jS,pU,l1,e1,e2,e3,e4,e5,e6,e7,T]) _ ⟨MB,m0⟩
end
end
section
variable(b:Nat){h:N}{MB:Nat->Prop}{μ:Nat}{e:iO}{a:jL}{ps:List (V × List Int)}{op:List Br}{dv:V}{data:List Int}(A:At h MB μ e a ps op dv data)
include A
section
attribute [local simp] Xo Xy Qx Ui kQ Qu Qy Xq Xm Z9 Qt X9 Zf Vj Vy Zb Xt Xp X8 Xe Xb GA GD Vz U7
theorem Vba(K:KP)(hk:∀ hx T,lS 136 (ps.map (·.2)) op=U (U (hx,T))->∀ h',s9 MB h μ e hx T h'->K (.ret (.tuple #[])) h')(hp:lS 136 (ps.map (·.2)) op=U O->∀ h',tL MB h h'->K (.panic (pe 16)) h') :
  fx Tryz.prog (E b).G 108 [pO μ 0,.agg ⟨[I X 136,dv]⟩] h K:=by
 have M0:=A.m.R (a_.push h (S Y 1 [I X 136,dv]));have m0:Mv MB MB h (h.push (S Y 1 [I X 136,dv])):=Mv.R (a_.push _ _);refine kW (E b) (kE _ _) (Wh b) (Vm b) ie (Ws b) (Qx b) kY.1 kY.2.1 kY.2.2 rfl ?_;simp[uV b,pT];refine Vjr b M0 (by have:=A.l1;omega) A.l2 (fun p hp=>by have:=A.l3 p hp;omega) _ (fun hx T q h' m => ?_) (fun q h' m => ?_)
 ·obtain⟨h2,hc,q1,q2,q3⟩:=m;simp;exact hk hx T q h' ⟨h2,hc,q1,q2,m0.trans q3⟩
 ·obtain⟨hc,q1⟩:=m;simp;exact hp q h' ⟨hc,m0.trans q1⟩
theorem Jzs(K:KP)(hk:∀ hx T,lS 137 (ps.map (·.2)) op=U (U (hx,T))->∀ h',s9 MB h μ e hx T h'->K (.ret (.tuple #[])) h')(hp:lS 137 (ps.map (·.2)) op=U O->∀ h',tL MB h h'->K (.panic (pe 16)) h') :
  fx Tryz.prog (E b).G 108 [pO μ 0,.agg ⟨[I X 137,dv]⟩] h K:=by
 have M0:=A.m.R (a_.push h (S Y 1 [I X 137,dv]));have m0:Mv MB MB h (h.push (S Y 1 [I X 137,dv])):=Mv.R (a_.push _ _);refine kW (E b) (kE _ _) (Wh b) (Vm b) ie (Ws b) (Qx b) kY.1 kY.2.1 kY.2.2 rfl ?_;simp[uV b,pT]
 match op,A with
 | [],A =>
  refine J4p b M0 (.inl rfl) _ ?_;simp;exact hp (by simp[lS]) _ ⟨MB,m0⟩
 | x::l,A =>
  refine Ve0 b M0 (by have:=A.l2;simp at this;omega) _ (fun ht h1 M1 m1 => ?_) (fun ht => ?_)
  ·simp;exact hk _ _ (by simp[lS,ht]) _ ⟨ps,MB,rfl,M1,m0.trans m1⟩
  ·simp;exact hp (by simp[lS,ht]) _ ⟨MB,m0⟩
theorem J9c(K:KP)(hk:∀ hx T,lS 138 (ps.map (·.2)) op=U (U (hx,T))->∀ h',s9 MB h μ e hx T h'->K (.ret (.tuple #[])) h')(hp:lS 138 (ps.map (·.2)) op=U O->∀ h',tL MB h h'->K (.panic (pe 16)) h') :
  fx Tryz.prog (E b).G 108 [pO μ 0,.agg ⟨[I X 138,dv]⟩] h K:=by
 have M0:=A.m.R (a_.push h (S Y 1 [I X 138,dv]));have m0:Mv MB MB h (h.push (S Y 1 [I X 138,dv])):=Mv.R (a_.push _ _);refine kW (E b) (kE _ _) (Wh b) (Vm b) ie (Ws b) (Qx b) kY.1 kY.2.1 kY.2.2 rfl ?_;simp[uV b,pT]
 match op,A with
 | [],A =>
  refine J4p b M0 (.inr rfl) _ ?_;simp;exact hp (by simp[lS]) _ ⟨MB,m0⟩
 | x::l,A =>
  refine Vfr b M0 (by have:=A.l2;simp at this;omega) _ (fun h1 M1 m1 => ?_);simp;exact hk _ _ (by simp[lS]) _ ⟨ps,MB,rfl,M1,m0.trans m1⟩
end
def Ve3{code:Int}(K:KP)(hk:∀ T hx,qy a code data (ps.map (·.2)) op=.ok (T,hx)->∀ h',s9 MB h μ e T hx h'->K (.ret (.tuple #[])) h')(hp:∀ z,qy a code data (ps.map (·.2)) op=.error z->∀ h',tL MB h h'->K (.panic (pe z)) h') :
  fx Tryz.prog (E b).G 108 [pO μ 0,.agg ⟨[I X code,dv]⟩] h K:=by
 by_cases c8:code=136
 ·subst c8;exact Vba b A K (fun T hx q=>hk T hx (by simp only[qy,q])) (fun q=>hp 16 (by simp only[qy,q]))
 by_cases c9:code=137
 ·subst c9;exact Jzs b A K (fun T hx q=>hk T hx (by simp only[qy,q])) (fun q=>hp 16 (by simp only[qy,q]))
 by_cases h2:code=138
 ·subst h2;exact J9c b A K (fun T hx q=>hk T hx (by simp only[qy,q])) (fun q=>hp 16 (by simp only[qy,q]))
 have hc:∀ st op,lS code st op=O:=fun st op=>by simp[lS,c8,c9,h2]
 cases hoff:BB op with
 | true=>exact J7j b A hoff (hc _ _) K (fun h' m=>hk _ _ (by simp[qy,hc,hoff]) h' m)
 | false =>
  have e1:∀ T,jS a code data (ps.map (·.2))=.ok T->qy a code data (ps.map (·.2)) op=.ok (T,op):=fun T q=>by simp[qy,hc,hoff,q,Except.map]
  have e2:∀ z,jS a code data (ps.map (·.2))=.error z->qy a code data (ps.map (·.2)) op=.error z:=fun z q=>by simp[qy,hc,hoff,q,Except.map]
  have k1:∀ T,jS a code data (ps.map (·.2))=.ok T->∀ h',s9 MB h μ e T op h'->K (.ret (.tuple #[])) h':=fun T q h' m=>hk _ _ (e1 T q) h' m;have k2:∀ z,jS a code data (ps.map (·.2))=.error z->∀ h',tL MB h h'->K (.panic (pe z)) h':=fun z q h' m=>hp _ (e2 z q) h' m;clear hk hp e1 e2;by_cases c1:code=129
  ·subst c1;exact J84 b A hoff K k1 k2
  by_cases c2:code=130
  ·subst c2;exact J1p b A hoff K k1 k2
  by_cases c3:code=131
  ·subst c3;exact Jzg b A hoff K k1 k2
  by_cases c4:code=132
  ·subst c4;exact Jz5 b A hoff K k1 k2
  by_cases c5:code=133
  ·subst c5;exact Js2 b A hoff K k1 k2
  by_cases c6:code=134
  ·subst c6;exact J49 b A hoff K k1 k2
  by_cases c7:code=135
  ·subst c7;exact Jyo b A hoff K k1 k2
  by_cases hr:code=139
  ·subst hr;exact Jzb b A hoff K k1 k2
  exact J0b b A hoff c1 c2 c3 c4 c5 c6 c7 c8 c9 h2 hr K k1 k2
end
def Vc5(b:Nat){l:List V}(hl:L l=34):lK (E b).toiS 198 [(0,.agg ⟨l⟩)]=U (.agg ⟨l ++ [M O 0 0,M O 0 0]⟩):=by
 have e:lK (E b).toiS 198 [(0,.agg ⟨l⟩)]=(nr (gS [(0,34),(34,1),(35,1)]) ((.pointer O::List.replicate 32 zU) ++ [I X 0,M O 0 0,M O 0 0]) [(0,.agg ⟨l⟩)]).map fun c => .agg c.toArray:=kR
 rw[e];have hc:(Value.agg ⟨l⟩).cells.toList=l:=rfl;have hs:(Value.agg ⟨l⟩).cells.size=34:=hl;have T:L ((.pointer O::List.replicate 32 zU) ++ [I X 0,M O 0 0,M O 0 0]:List V)=36:=kA
 have hp:mM ((.pointer O::List.replicate 32 zU) ++ [I X 0,M O 0 0,M O 0 0]:List V) 0 l=U (l ++ [M O 0 0,M O 0 0]):=by
  rw[vd (by rw[T,hl];omega),hl];rfl
 have hb:(lN (.agg ⟨l⟩) && (Value.agg ⟨l⟩).cells.size == 34 && Nat.ble (0+34) (L ((.pointer O::List.replicate 32 zU) ++ [I X 0,M O 0 0,M O 0 0]:List V)))=Y:=by
  rw[hs,T];rfl
 simp only[nr,gS,hb,if_true,hc,hp];rfl
def mj(h:N)(items:List (V × List Int)):Prop:=∀ p ∈ items,SB h p.1 p.2/\Bytes p.2
def mj.R{h h':N}{items:List (V × List Int)}(i:mj h items)(a:a_ h h'):mj h' items:=fun p T=>⟨(i p T).1.R a,(i p T).2⟩
def BGI(sv:V)(items:List (V × List Int))(e:iO)(h:N)(μ:Nat)(k:Nat)(s:St):Prop:=∃ (t:Tr V) (h1:N) (MB:Nat->Prop) (ps:List (V × List Int)) (i:Nat),s=⟨⟨26,t⟩,[],h1⟩/\t.A 5=U (pO μ 0)/\t.A 11=U sv/\t.A 12=U (I X (L items:Int))/\t.A 13=U (I X (i:Int))/\i<=L items/\k=L items-i/\i_ h1 MB μ e ps []/\a_ h h1/\(∀ c,MB c->h.Q<=c) /\
 vF (items.map (·.2)) []=vF ((items.drop i).map (·.2)) (ps.map (·.2))
section
attribute [local simp] Ql8 Qse Wg WC U7 X8 X9 
def J8j(b:Nat){h:N}{sv:V}{items:List (V × List Int)}{e:iO}(ss:Sl h 1 sv (L items) (items.map (·.1)))(hn:L items < 1000000)(its:mj h items)(K:KP)
  (hk:∀ h' μ MB ps,vF (items.map (·.2)) []=.ok (ps.map (·.2))->i_ h' MB μ e ps []->a_ h h'->(∀ c,MB c->h.Q<=c)->K (.ret (pO μ 0)) h')
  (hp:vF (items.map (·.2)) []=.error 16->∀ h',a_ h h'->K (.panic (pe 16)) h'):FK b 107 [sv,.agg ⟨e.cells⟩] h K:=by
 refine iI b (Wg b) Zd9 rfl ?_;obtain⟨hA,eA⟩:∃ hA,hA=h.push (S Y 1 e.cells):=⟨_,rfl⟩;have s1:jP (.agg ⟨e.cells⟩) h=U (pO h.Q 0,hA):=by rw[eA];exact pk (by rw[e.len];omega)
 have gA:hA.A h.Q=U (S Y 1 e.cells):=by rw[eA,N.F,if_pos rfl]
 have aA:=jt eA;have nA:=nQ eA;have es:iz hA h.Q 0 34=U (.agg ⟨e.cells⟩):=oJ gA (by rw[e.len];omega) (by rw[e.len];exact ac _);have hg:jP (.agg ⟨e.cells ++ [M O 0 0,M O 0 0]⟩) hA=U (pO hA.Q 0,hA.push (S Y 1 (e.cells ++ [M O 0 0,M O 0 0]))):=pk (by simp[e.len]);obtain⟨hB,eB⟩:∃ hB,hB=hA.push (S Y 1 (e.cells ++ [M O 0 0,M O 0 0])):=⟨_,rfl⟩;rw[<- eB]at hg;have gB:hB.A hA.Q=U (S Y 1 (e.cells ++ [M O 0 0,M O 0 0])):=by rw[eB,N.F,if_pos rfl]
 have aB:=jt eB;have e2:∀ hx,iP (E b).toiS 141 sv hx=U (I X (L items:Int)):=fun hx=>ja (mK b) ss;simp[s1,es,Vc5 b e.len,hg,e2];have lB:=N.D gB;have M0:i_ hB (fun c=>c=hA.Q) hA.Q e [] []:=by
  refine⟨⟨M O 0 0,M O 0 0,1,gB,rfl,?_,?_,fun c hc=>by simp[Vn]at hc,fun c hc=>by simp[Vn]at hc⟩,kA,fun c hc=>by rw[hc];exact lB⟩
  ·exact ig.nil
  ·exact ig.nil
 refine jE (BGI sv items e h hA.Q) (L items) ⟨_,hB,fun c=>c=hA.Q,[],0,rfl,kA,kA,kA,kA,jA,rfl,M0,aA.trans aB,fun c hc=>by omega,kA⟩ ?_;rintro k s' ⟨t,h1,MB,ps,i,rfl,t5,hb,h3,t13,hi,rfl,M_,T,Z',hF⟩ _;by_cases hy:i < L items
 ·have hr:(i:Int) < (L items:Int):=jA
  obtain⟨p,ls⟩:∃ p,items[i]? = U p:=⟨_,List.getElem?_eq_getElem hy⟩;obtain⟨v,x⟩:=p;have hd:items.drop i=(v,x)::items.drop (i+1):=by
   rw[aS hy];rw[List.getElem?_eq_getElem hy]at ls;rw[bM ls]
  obtain⟨bk,off,q1,q2,q3, -⟩:=o_ (mK b) qE (ss.R T) (k:=.i64) (i:=(i:Int)) jA jA;have q4:Jr h1 bk off=U v:=by
   have:=q3 0 jA;simpa[ls]using this
  obtain⟨sx,bx⟩:=its (v,x) (List.mem_of_getElem? ls);have iv:qb h1 MB v x:=⟨sx.R T,bx,fun c hc hm=>by have:=sx.blk hc;have:=Z' c hm;omega⟩;have len:=fun hx=>m_ (b:=b) (h1:=hx) iv.sb;have hw:=wS (i:=i) jA;rw[hd]at hF;by_cases hx:L x<=64
  ·have hq:(L x:Int)<=64:=jA
   simp[t5,hb,h3,t13,hr,q2,q4,len,hq];refine vL b h1 16 _ ?_;simp[t5,hb,h3,t13];by_cases hl:L ps < 16
   ·refine zi b M_ iv hl _ fun h2 e1 M2 m2 => ?_;simp[t5,hb,h3,t13,hw];refine⟨L items-(i+1),jA,_,h2,e1,(v,x)::ps,i+1,rfl,by simp[t5],by simp[hb],by simp[h3],kA,jA,rfl,M2,⟨ak T.1 m2.Q,fun c hc => ?_⟩,fun c hc => ?_,?_⟩
    ·rw[m2.same c (aw hc T.1) (fun q=>by have:=Z' c q;omega),T.2 c hc]
    ·rcases m2.sub c hc with q | q
     ·exact Z' c q
     ·exact ak T.1 q
    ·rw[hF];simp[vF,hx,pU,hl,Except.bind]
   ·refine Ez b M_ jA _ ?_;simp[t5,hb,h3,t13];exact hp (by rw[hF];simp[vF,hx,pU,hl,Except.bind]) h1 T
  ·have hq:¬ (L x:Int)<=64:=jA
   simp[t5,hb,h3,t13,hr,q2,q4,len,hq];refine uo b h1 16 _ ?_;simp[t5,hb,h3,t13];exact hp (by rw[hF];simp[vF,hx]) h1 T
 ·have hr:¬ (i:Int) < (L items:Int):=jA
  simp[t5,hb,h3,t13,hr];have : i=L items:=jA
  subst this;exact hk h1 hA.Q MB ps (by rw[hF];simp[vF]) M_ T Z'
end
end Go.Proofs.YtbhojjejgmfgmaaGreatDoor
end
noncomputable section
namespace Go.Ab
section
variable{P:Program}{E:d_ P}{C:b_}{k:Nat}
def Zpm:∀ l:List Oper,DH (l.map bare)=DH l
 | []=>rfl
 | o::r=>by
  simp only[aK,DH,Zpm r];rfl
def Jo4(ops:List Oper):∀ (l:List Oper) (u:FrameMode) (s:St),tQ E (ops.map bare) (l.map bare) u s=tQ E ops l u s
 | [],u,s=>rfl
 | o::r,u,s=>by
  have ih:=Jo4 ops r;have T:(bare o).dst=o.dst:=rfl;have e2:Dw (bare o)=Dw o:=rfl;have e3:J4 (bare o)=J4 o:=rfl;have e4:∀ t h,iN E t h (bare o)=iN E t h o:=fun _ _=>rfl;simp only[aK,tQ,Er,T,e2,e3,e4,ih]
def Ie:∀ (c:Code) (u:FrameMode) (s:St),nS E C k (Uz c) u s=nS E C k c u s
 | .seq x y,u,s=>by
  simp only[Uz,nS,Ie x];split
  ·exact Ie y _ _
  ·rfl
 | .cond c x y,u,s=>by
  simp only[Uz,nS];split
  ·exact Ie x u s
  ·exact Ie y u s
  ·rfl
 | .block id c,u,s=>by simp only[nS,yN (.block id c)];simp only[Uz,nS];rw[<- yN (.block id c)];rfl
 | .loop c,u,s=>by
  have:=yN (E:=E) (C:=C) (rd:=O) (k:=k) (.loop c) s;simp only[Uz]at this;simp only[Uz,nS,this]
 | .region id T J,u,s=>by
  have h1:=yN (E:=E) (C:=C) (rd:=O) (k:=k) (.region id T J) s;simp only[Uz]at h1;have h2:=Zpm T.toList;have h3:=Jo4 (E:=E) T.toList T.toList u s;simp only[Uz,nS,h1,h2,h3]
 | .region id T Y,u,s=>rfl
 | .skip,u,s=>rfl
 | .label _,u,s=>rfl
 | .ret,u,s=>rfl
 | .exit _,u,s=>rfl
 | .rangeFunc ..,u,s=>rfl
 | .scope ..,u,s=>rfl
 | .goto ..,u,s=>rfl
 | .refuse ..,u,s=>rfl
def Jv1{f n:Nat}{args:List V}{u u':FrameMode}{h h':N}{fn:Func}{c cb:Code}{e:Exit}{t:Tm}{v:V}(T:E.fn.A f=U fn)(hb:fn.body=U c)(hn:fn.ntmps=n)(hc:Uz c=cb)(h2:Nat.ble (L args) n=Y)
  (hx:nS E C k cb u ⟨⟨n,Xs.putAll 0 args .leaf⟩,[],h⟩=U (e,u',⟨t,[],h'⟩)) (he:e=.normal∨e=.ret) (hr:Zk E fn t h'=U v):vM E C k f args u h=U (.ret v,u',h'):=by
 subst hn hc;rw[Ie]at hx;unfold vM;simp only[T,hb,h2,Xs,hx];rcases he with rfl | rfl <;> simp only[hr]
end
end Go.Ab
namespace Go.Proofs.YtbhojjejgmfgmaaGreatDoor
open Go Go.Ab
set_option maxRecDepth 100000
def peR(z:Int):List PanicEntry:=[{v:=.iface 36 (I X z),recovered:=true}]
def Vej(b:Nat)(q:Bool)(t:TypeId)(v:V):Yx (E b).toiS .neq 20 q (.iface t v) .nilIface=U (.bool Y):=kR
def Vd3(b:Nat):Yx (E b).toiS .neq 20 Y .nilIface .nilIface=U (.bool J):=kR
def J8w(b:Nat)(z:Int):DP (E b).toiS (.iface 36 (I X z)) 36 J=U (I X z):=kR
section
attribute [local simp] Xhr Xtw Xu6 Xtx Xpy Xqz Xts Xu9 Xui Xrs nS DH Dw tQ xK J4 pe Xs.putAll jF rW o8 ui iN Qg gS Ab.g0 gv gs Q7 Qd Xd g_ kH kU Qh Tr.H St.put Tm.put flat i5 Xa Qm Qp Qn Qo Qk Ql Qj Qq Z6 Qi Q9 Q8 Qr Q0 Qb Qa
def J6k(b:Nat){h:N}{B:Nat}{y:V}(z:Int)(hg:h.A B=U (S Y 1 [y])):DD b 104 [pO B 0] (.panicking (pe z)) h=U (.ret (.tuple #[]),.panicking (peR z),h.set B (U (S Y 1 [I X z]))):=by
 have T:(E b).fn.A 104=U (FU 104):=Mq b;have st:Wp h B 0 [I X z]=U (h.set B (U (S Y 1 [I X z]))):=oF hg kA;refine Jv1 (e:=.normal) T EB.1 EB.2.1 EB.2.2 rfl (by simp[Yx,-Yx,Vej,J8w,CN,st];first | exact rfl | exact⟨rfl,rfl⟩) (.inl rfl) ?_;simp[Zk,Yjb]
def Vht(b:Nat){h:N}{B:Nat}{y:V}:DD b 104 [pO B 0] .returning h=U (.ret (.tuple #[]),.returning,h):=by
 have T:(E b).fn.A 104=U (FU 104):=Mq b;refine Jv1 (e:=.normal) T EB.1 EB.2.1 EB.2.2 rfl (by simp[Yx,-Yx,Vd3];first | exact rfl | exact⟨rfl,rfl⟩) (.inl rfl) ?_;simp[Zk,Yjb]
end
end Go.Proofs.YtbhojjejgmfgmaaGreatDoor
end
noncomputable section
namespace Go.Proofs.YtbhojjejgmfgmaaGreatDoor
open Go Go.Ab
set_option maxRecDepth 100000
def Bd(st:List (List Int)):Prop:=L st<=16/\∀ x ∈ st,L x<=64
def zq{x:List Int}{st T:List (List Int)}(h:pU x st=.ok T)(hb:Bd st)(hx:L x<=64):Bd T:=by
 unfold pU at h;split at h
 ·rename_i hl;cases h;refine⟨by simp;omega,fun y hy => ?_⟩;rcases ao.1 hy with rfl | hy
  ·exact hx
  ·exact hb.2 y hy
 ·cases h
def wC{x:List Int}{st:List (List Int)}(hb:Bd (x::st)):Bd st/\L x<=64:=by
 obtain⟨h1,T⟩:=hb;simp at h1;exact⟨⟨jA,fun y hy=>T y (by simp[hy])⟩,T x kA⟩
def ZT{A B:Type}{x:Except Int A}{f:A->Except Int B}{y:B}(h:x.bind f=.ok y):∃ z,x=.ok z/\f z=.ok y:=by
 cases x with
 | error e=>cases h
 | ok z=>exact⟨z,rfl,h⟩
def J2n(x:Bool):L (Cl x)<=64:=by cases x <;> simp[Cl]
def Vfy{a:jL}{code:Int}{data:List Int}{st hx:List (List Int)}(h:jS a code data st=.ok hx)(T:Bd st)(hd:L data<=64):Bd hx:=by
 unfold jS at h;split at h
 ·split at h
  ·obtain⟨p1,p2⟩:=wC T;obtain⟨z,z1,z2⟩:=ZT h;exact zq z2 (zq z1 p1 p2) p2
  ·cases h
 split at h
 ·split at h
  ·cases h;exact(wC T).1
  ·cases h
 split at h
 ·split at h
  ·exact zq h (wC T).1 (by rw[QF];omega)
  ·cases h
 split at h
 ·split at h
  ·exact zq h (wC (wC T).1).1 (J2n _)
  ·cases h
 split at h
 ·split at h
  ·split at h
   ·cases h;exact(wC T).1
   ·cases h
  ·cases h
 split at h
 ·split at h
  ·split at h
   ·exact zq h (wC (wC T).1).1 (J2n _)
   ·cases h
  ·cases h
 split at h
 ·split at h
  ·split at h
   ·split at h
    ·cases h;exact(wC T).1
    ·cases h
   ·cases h
  ·cases h
 split at h
 ·split at h
  ·obtain⟨p1,p2⟩:=wC T;obtain⟨z,z1,z2⟩:=ZT h;exact zq z2 (zq z1 p1 p2) kA
  ·cases h
 exact zq h T hd
def Vf1{code:Int}{st hx:List (List Int)}{op T:List Br}(h:lS code st op=U (U (hx,T)))(hb:Bd st):Bd hx/\L T<=L op+1:=by
 unfold lS at h;split at h
 ·split at h
  ·cases h;exact⟨hb,kA⟩
  ·split at h
   ·cases h
   ·cases h;exact⟨(wC hb).1,kA⟩
 ·split at h
  ·split at h
   ·cases h
   ·split at h
    ·cases h;exact⟨hb,by simp;omega⟩
    ·split at h
     ·cases h
     ·cases h;exact⟨hb,kA⟩
  ·cases h
def J62{a:jL}{code:Int}{data:List Int}{st hx:List (List Int)}{op T:List Br}(h:qy a code data st op=.ok (hx,T))(hb:Bd st)(hd:L data<=64):Bd hx/\L T<=L op+1:=by
 unfold qy at h;split at h
 ·cases h
 next p hp=>cases h;exact Vf1 hp hb
 ·split at h
  ·cases h;exact⟨hb,jA⟩
  ·cases hq:jS a code data st with
   | error e=>rw[hq]at h;cases h
   | ok OY =>
    rw[hq]at h;cases h;exact⟨Vfy hq hb hd,jA⟩
def Jve:∀ {l st T:List (List Int)},vF l st=.ok T->Bd st->Bd T
 | [],st,T,h,hb=>by cases h;exact hb
 | x::l,st,T,h,hb=>by
  unfold vF at h;split at h
  next hx=>obtain⟨z,z1,z2⟩:=ZT h;exact Jve z2 (zq z1 hb hx)
  ·cases h
def Bd.nil:Bd []:=⟨kA,kA⟩
def Jeu:∀ {f:Nat} {xs:List Int} {l:List (Int × List Int)},Bytes xs->pz f xs=U l->∀ p ∈ l,Bytes p.2
 | f,[],l,_,h=>by cases f <;> (simp[pz]at h;subst h;simp)
 | 0,_::_,l,_,h=>by simp[pz]at h
 | f+1,c::r,l,hb,h=>by
  have hr:Bytes r:=fun z hz=>hb z (by simp[hz]);simp only[pz]at h;split at h
  ·rw[aj]at h;obtain⟨l',h1,rfl⟩:=h;intro p T;rcases ao.1 T with rfl | T
   ·exact fun z hz=>hr z (cI hz)
   ·exact Jeu (fun z hz=>hr z (dj hz)) h1 p T
  ·split at h
   ·cases h
   ·rw[aj]at h;obtain⟨l',h1,rfl⟩:=h;intro p T;rcases ao.1 T with rfl | T
    ·intro z hz;simp at hz
    ·exact Jeu hr h1 p T
def yX(B:Nat):Deferred:={target:=.fn (.func 104) #[pO B 0],args:=#[]}
def Vl2(b:Nat)(h:N)(bk o:Nat):jy (E b).toiS 36 (pO bk o) h=Jr h bk o:=oG (TO b) J20
def J0f(b:Nat){t:Tr V}{h:N}{B:Nat}{y:V}{z:Int}{K:ip->N->Prop}(ht:t.A 6=U (pO B 0))(T:h.A B=U (S Y 1 [y]))(hk:K (.ret (I X z)) (h.set B (U (S Y 1 [I X z])))) :
  uH (E b) (DD b) (FU 67) K (.panic (pe z)) ⟨⟨59,t⟩,[yX B],h⟩:=by
 have e1:(E b).fn.A 104=U (FU 104):=Mq b;have e2:=J6k b z T;have e3:settle (.panicking (peR z))=.returning:=kR
 have lt:=N.D T;have e4:Jr (h.set B (U (S Y 1 [I X z]))) B 0=U (I X z):=(Zy (z:=1) (ow:=true) (c:=[I X z]) (by rw[gY lt,if_pos rfl])).trans rfl;show tB (E b) (DD b) (FU 67) K (.panicking (pe z)) ⟨⟨59,t⟩,[yX B],h⟩;rw[Q6];have e5:Qv (E b) (DD b) (FU 67) ⟨59,t⟩ [yX B] (.panicking (pe z)) h=U (.ret (I X z),h.set B (U (S Y 1 [I X z]))):=by
  simp only[Qv,yX,e1];simp[e2,e3,Qv,Zk,Z6,WQ,ht,Vl2,e4]
 rw[e5];exact hk
def Vdr(b:Nat){t:Tr V}{h:N}{B:Nat}{z:Int}{K:ip->N->Prop}(ht:t.A 6=U (pO B 0))(hg:Jr h B 0=U (I X z))(hk:K (.ret (I X z)) h) :
  tB (E b) (DD b) (FU 67) K .returning ⟨⟨59,t⟩,[yX B],h⟩:=by
 have T:(E b).fn.A 104=U (FU 104):=Mq b;have e2:=Vht b (h:=h) (B:=B) (y:=.bool Y);have e3:settle .returning=.returning:=kR
 rw[Q6];have e5:Qv (E b) (DD b) (FU 67) ⟨59,t⟩ [yX B] .returning h=U (.ret (I X z),h):=by
  simp only[Qv,yX,T];simp[e2,e3,Qv,Zk,Z6,WQ,ht,Vl2,hg]
 rw[e5];exact hk
abbrev Wo(h:N)(e:iO)(a:jL):Prop:=Wd h (fun _=>False) e a
def Wo.R{h h':N}{e:iO}{a:jL}(w:Wo h e a)(o:a_ h h'):Wo h' e a:=w.mv (Mv.R o)
def Wo.mb{h h':N}{MB:Nat->Prop}{e:iO}{a:jL}(w:Wo h e a)(o:a_ h h')(hm:∀ c,MB c->h.Q<=c):Wd h' MB e a :=
 w.mv ⟨o.1,fun c T _=>o.2 c T,fun c T => .inr (hm c T)⟩
def Vfg{h:N}{n0:Nat}{lv:V}{os:List qs}{te ts:TypeId}{re rs:ib}{b:Nat}(T:jQ (E b).toiS te ts re rs)(hz:re.size=2)(o:ig h n0 2 lv (L os) (zy os)){i:Nat}{p:qs}(hp:os[i]? = U p) :
  ∃ bk off,Ug (E b).toiS ts lv (I X (i:Int))=U (pO bk off)/\iz h bk off 2=U (.agg ⟨[I X p.code,p.val]⟩):=by
 obtain⟨bk,off,h1,h2,h3,h4⟩:=Vfm (b:=b) T hz o hp;refine⟨bk,off,h2,?_⟩;unfold Jr at h3 h4;unfold iz;cases hg:h.A bk with
 | none=>rw[hg]at h3;cases h3
 | some x =>
  cases x with
  | cells ow z c =>
   rw[hg]at h3 h4;simp only at h3 h4;have : nF 2 (c.drop off)=U [I X p.code,p.val]:=by
    have l1:off < L c:=(List.getElem?_eq_some_iff.1 h3).1;have l2:off+1 < L c:=(List.getElem?_eq_some_iff.1 h4).1;rw[aS l1,aS l2];rw[List.getElem?_eq_getElem l1]at h3;rw[List.getElem?_eq_getElem l2]at h4;rw[bM h3,bM h4];simp[nF]
   simp only[this];rfl
  | _=>rw[hg]at h3;cases h3
def RLI(a:jL)(l:List (Int × List Int))(DB:List (List Int))(lv:V)(os:List qs)(e:iO)(T:N)(B μ:Nat)(k:Nat)(s:St):Prop:=∃ (t:Tr V) (h1:N) (MB:Nat->Prop) (ps:List (V × List Int)) (op:List Br) (i:Nat),s=⟨⟨59,t⟩,[yX B],h1⟩/\t.A 6=U (pO B 0)/\t.A 9=U (pO μ 0)/\t.A 25=U lv/\t.A 26=U (I X (L os:Int))/\t.A 27=U (I X (i:Int))/\i<=L os/\k=L os-i /\
 i_ h1 MB μ e ps op/\a_ T h1/\(∀ c,MB c->T.Q<=c)/\Bd (ps.map (·.2))/\L op<=i/\Az a l DB []=Az a (l.drop i) (ps.map (·.2)) op
def gK{MB T:Nat->Prop}{hq h h':N}(a:a_ hq h)(hm:∀ c,MB c->hq.Q<=c)(m:Mv MB T h h'):a_ hq h'/\∀ c,T c->hq.Q<=c :=
 ⟨⟨ak a.1 m.Q,fun c hc=>by rw[m.same c (aw hc a.1) (fun q=>by have:=hm c q;omega),a.2 c hc]⟩,fun c hc=>by
  rcases m.sub c hc with q | q
  ·exact hm c q
  ·exact ak a.1 q⟩
attribute [local simp] Xd Xu Zk Z6 iN Qg gS Ab.g0 gv gs Q7 Qd g_ kH kU Qh Tr.H St.put Tm.put flat i5 Xa Yx Qm Qp Qn Qo Qk Ql Qj Qq Qi Q9 Q8 Xs.putAll Qr Q0 Qb Qa
section
attribute [local simp] Qbf WQ Ub W1 U2 X8 WC Wg Qwx Qx3 Qwz Qx vl vi Z9 tI ph U7 Xp Qbh Qav Qag CN Y5 Y0 X6 Xi Y4 Xw Xg Y3 X7 Xz Xx Xh Qw Xv Xj Qz Ja U0 J9 Zd
def KC(b:Nat){h:N}{v sv:V}{xs:List Int}{items:List (V × List Int)}{e:iO}{a:jL}(s:SB h v xs)(hb:Bytes xs)(ss:Sl h 1 sv (L items) (items.map (·.1)))(hn:L items < 1000000)(its:mj h items)(wo:Wo h e a)(K:KP)
  (hk:∀ h',a_ h h'->K (.ret (I X (s_ a xs (items.map (·.2))))) h'):fx Tryz.prog (E b).G 67 [v,sv,.agg ⟨e.cells⟩] h K:=by
 refine kW (E b) (kE _ _) (Wh b) (Vm b) ie (Ws b) (Ub b) Pa.1 Pa.2.1 Pa.2.2 rfl ?_;obtain⟨hA,eA⟩:∃ hA,hA=h.push (S Y 1 e.cells):=⟨_,rfl⟩;obtain⟨hB,eB⟩:∃ hB,hB=hA.push (S Y 1 [I X 0]):=⟨_,rfl⟩;have aA:=jt eA;have aB:=jt eB;have hp:=aA.trans aB;have nA:=nQ eA;have gA:hA.A h.Q=U (S Y 1 e.cells):=by rw[eA,N.F,if_pos rfl]
 have gB:hB.A hA.Q=U (S Y 1 [I X 0]):=by rw[eB,N.F,if_pos rfl]
 have ha:jP (.agg ⟨e.cells⟩) h=U (pO h.Q 0,hA):=by rw[eA];exact pk (by rw[e.len];omega)
 have e0:jh (E b).toiS 36 hA=U (pO hA.Q 0,hB):=by rw[eB];exact kD b hA
 have die:∀ (t:Tr V) (h1:N) (z:Int),t.A 6=U (pO hA.Q 0)->a_ hB h1->s_ a xs (items.map (·.2))=z->uH (E b) (DD b) (FU 67) K (.panic (pe z)) ⟨⟨59,t⟩,[yX hA.Q],h1⟩:=by
  intro t h1 z ht ho hz;have g1:=ho.A gB;refine J0f b ht g1 ?_;rw[<- hz];refine hk _ ((hp.trans ho).set _ jA (N.D g1))
 simp[kD,Q6,Qv,ha,-kD,e0,BM];refine(J9j b (s.R hp) hb _ (fun pD h3 a3 => ?_) (fun l g1 g2 g3 lv os h3 q3 q2 a3 => ?_)).ok
 ·simp[kD,Q6,Qv];refine(uo b h3 16 _ ?_).ok;simp[kD,Q6,Qv];refine die _ h3 16 kA a3 ?_;rcases pD with q | q | ⟨l',q,q'⟩
  ·simp[s_,q]
  ·unfold s_;split
   ·rfl
   ·rw[q]
  ·unfold s_;split
   ·rfl
   ·rw[q];simp only;rw[if_pos q']
 ·have hF:s_ a xs (items.map (·.2))=MY a l (items.map (·.2)):=by
   unfold s_;rw[if_neg jA,g2];simp only;rw[if_neg jA]
  have m1:iz h3 h.Q 0 34=U (.agg ⟨e.cells⟩):=oJ ((aB.trans a3).A gA) (by rw[e.len];omega) (by rw[e.len];exact ac _);simp[kD,Q6,Qv];refine(vL b h3 0 _ ?_).ok;simp[kD,Q6,Qv,m1];refine(J8j b (ss.R (hp.trans a3)) hn (its.R (hp.trans a3)) _ (fun h4 μ MB ps p1 M4 a4 z' => ?_) (fun p1 h4 a4 => ?_)).ok
  ·have v':s_ a xs (items.map (·.2))=OD (Az a l (ps.map (·.2)) []):=by
    rw[hF];unfold MY;rw[p1]
   have e1:∀ h,iP (E b).toiS 187 lv h=U (I X (L os:Int)):=fun h=>ja (Dx b) q2.row.sl;have pF:L os<=64:=by rw[<- Lr os,q3];exact g3
   simp[kD,Q6,Qv,e1];refine jE (RLI a l (ps.map (·.2)) lv os e h3 hA.Q μ) (L os) ⟨_,h4,MB,ps,[],0,rfl,?_,?_,?_,?_,?_,jA,rfl,M4,a4,z',Jve p1 Bd.nil,kA,kA⟩ ?_
   ·simp
   ·simp
   ·simp
   ·simp
   ·simp
   rintro k s' ⟨t,h5,e2,h2,hy,i,rfl,t6,t9,t25,t26,t27,hi,rfl,M5,a5,s1,hg,c1,hS⟩ _;have w5:Wd h5 e2 e a:=(wo.R (hp.trans a3)).mb a5 s1;by_cases p4:i < L os
   ·have T:(i:Int) < (L os:Int):=jA
    obtain⟨p,es⟩:∃ p,os[i]? = U p:=⟨_,List.getElem?_eq_getElem p4⟩;have he:l[i]? = U (p.code,p.data):=by
     rw[<- q3,zC,List.getElem?_map,es];rfl
    have r2:l.drop i=(p.code,p.data)::l.drop (i+1):=by
     obtain⟨pB,e3⟩:=List.getElem?_eq_some_iff.1 he;rw[aS pB,e3]
    have p3:L p.data<=64:=Z_ g2 (p.code,p.data) (List.mem_of_getElem? he);have od:=(q2.R a5).data p (List.mem_of_getElem? es);obtain⟨bk,off,x1,x2⟩:=Vfg (b:=b) (Dx b) B9 (q2.R a5).row es;have hw:=wS (i:=i) jA;obtain⟨h6,e6⟩:∃ h6,h6=(h5.push (S Y 1 [I X 0,M O 0 0])).set h5.Q (U (S Y 1 [I X p.code,p.val])):=⟨_,rfl⟩;have g5:(h5.push (S Y 1 [I X 0,M O 0 0])).A h5.Q=U (S Y 1 [I X 0,M O 0 0]):=by rw[N.F,if_pos rfl]
    have a2:=N.D g5;have xT:Wp (h5.push (S Y 1 [I X 0,M O 0 0])) h5.Q 0 [I X p.code,p.val]=U h6:=by
     rw[kI g5 kA,e6];rfl
    have Z':a_ h5 h6:=(by rw[e6];exact(a_.push _ _).set _ (ac _) a2);have g6:h6.A h5.Q=U (S Y 1 [I X p.code,p.val]):=by rw[e6,gY a2,if_pos rfl]
    have pC:iz h6 h5.Q 0 2=U (.agg ⟨[I X p.code,p.val]⟩):=by
     rw[Uh g6 kA];rfl
    have hL:Bytes p.data:=Jeu hb g2 (p.code,p.data) (List.mem_of_getElem? he);have id:qb h6 e2 p.val p.data:=⟨(od.sl.R Z'),hL,fun c hc hm=>by
     have:=(q2.data p (List.mem_of_getElem? es)).out hc;have:=s1 c hm;omega⟩
    have A6:At h6 e2 μ e a h2 hy p.val p.data:=⟨M5.R Z',w5.R Z',id,by simpa using hg.1,jA,fun q hq=>hg.2 q.2 (am.2 ⟨q,hq,rfl⟩)⟩;rw[r2]at hS;simp[kD,Q6,Qv,t6,t9,t25,t26,t27,T,x1,x2,xT,pC];refine Ve3 b A6 _ (fun n1 p7 q h7 m => ?_) (fun z q h7 m => ?_)
    ·obtain⟨p9,hu,rfl,M7,m7⟩:=m;obtain⟨a7,m0⟩:=gK (a5.trans Z') s1 m7;obtain⟨r1,cb⟩:=J62 q hg p3;simp[kD,Q6,Qv,t6,t9,t25,t26,t27,hw];refine⟨L os-(i+1),jA,_,h7,hu,p9,p7,i+1,rfl,by simp[t6],by simp[t9],by simp[t25],by simp[t26],kA,jA,rfl,M7,a7,m0,r1,jA,?_⟩;rw[hS];simp only[Az,q,Except.bind]
    ·obtain⟨hu,m7⟩:=m;obtain⟨a7,m0⟩:=gK (a5.trans Z') s1 m7;simp[kD,Q6,Qv,t6,t9,t25,t26,t27];refine die _ h7 z (by simp[t6]) (a3.trans a7) ?_;rw[v',hS];simp only[Az,q,Except.bind,OD]
   ·have T:¬ (i:Int) < (L os:Int):=jA
    have q4:i=L l:=by
     have : L l=L os:=(by rw[<- q3,Lr]);omega
    rw[q4,cK]at hS;simp only[Az]at hS;have hr:s_ a xs (items.map (·.2))=if L hy=0/\L h2=1/\mY ((h2.map (·.2)).getD 0 [])=Y then 0 else 16:=by
     rw[v',hS];simp only[OD,aM]
    have g5:=(a3.trans a5).A gB;have a2:=N.D g5;obtain⟨⟨p2,hj,z5,r⟩,a1,p5⟩:=M5;have hf:=r.c35;have q1:=r.c34;have lo:∀ hx,iP (E b).toiS 196 hj hx=U (I X (L hy:Int)):=fun hx=>ja (yR b) r.op.sl;have ls:∀ hx,iP (E b).toiS 141 p2 hx=U (I X (L h2:Int)):=fun hx=>ja (mK b) r.st.sl;by_cases ho:L hy=0
    ·rw[ho]at lo;have lb:∀ hx,iP (E b).toiS 196 hj hx=U (I X 0):=lo;by_cases hC:L h2=1
     ·rw[hC]at ls;have p6:∀ hx,iP (E b).toiS 141 p2 hx=U (I X 1):=ls;obtain⟨⟨v1,x1⟩,rfl⟩:∃ q,h2=[q]:=by
       match h2,hC with
       | [q],_=>exact⟨q,rfl⟩
      obtain⟨bk,o,y1,y2,y3, -⟩:=o_ (mK b) qE r.st.sl (k:=.i64) (i:=0) jA kA;have y4:Jr h5 bk o=U v1:=by
       have:=y3 0 jA;simpa using this
      have i1:qb h5 e2 v1 x1:=a1 (v1,x1) kA;have lx:L x1<=64:=hg.2 x1 kA;simp only[aK,dP,List.getD_cons_zero,bm,da,ho]at hr;simp[kD,Q6,Qv,t6,t9,t25,t26,t27,T,jg,hf,q1,lb,p6,y2,y4];refine(PA b i1.sb jA _ fun h6 a6 => ?_).ok;cases ht:mY x1 with
      | true =>
       have g6:=a6.A g5;have ud:=N.D g6;have DA:Wp h6 hA.Q 0 [I X 0]=U (h6.set hA.Q (U (S Y 1 [I X 0]))):=oF g6 kA;simp[kD,Q6,Qv,-Q6,-Qv];refine(vL b h6 16 _ ?_).ok;simp[kD,Q6,Qv,-Q6,-Qv,t6,DA];refine Vdr b (B:=hA.Q) (z:=0) (by simp[t6]) ?_ ?_
       ·exact(Zy (z:=1) (ow:=true) (c:=[I X 0]) (by rw[gY ud,if_pos rfl])).trans rfl
       ·rw[ht]at hr;simp at hr;rw[<- hr];exact hk _ (((hp.trans a3).trans (a5.trans a6)).set _ jA ud)
      | false =>
       simp[kD,Q6,Qv];refine(uo b h6 16 _ ?_).ok;simp[kD,Q6,Qv];refine die _ h6 16 (by simp[t6]) (a3.trans (a5.trans a6)) ?_;rw[hr,ht];simp
     ·have re:¬ (L h2:Int)=1:=jA
      simp[kD,Q6,Qv,t6,t9,t25,t26,t27,T,jg,hf,q1,lb,ls,re];refine(uo b h5 16 _ ?_).ok;simp[kD,Q6,Qv];exact die _ h5 16 (by simp[t6]) (a3.trans a5) (by rw[hr,if_neg (fun q=>hC q.2.1)])
    ·have pE:¬ (L hy:Int)=0:=jA
     simp[kD,Q6,Qv,t6,t9,t25,t26,t27,T,jg,hf,q1,lo,ho,pE];refine(uo b h5 16 _ ?_).ok;simp[kD,Q6,Qv];exact die _ h5 16 (by simp[t6]) (a3.trans a5) (by rw[hr,if_neg (fun q=>ho q.1)])
  ·simp[kD,Q6,Qv];exact die _ h4 16 kA (a3.trans a4) (by rw[hF];unfold MY;rw[p1])
end
def Jgn(k l:List Nat):L (Bl.keyed k l)=32:=by
 unfold Bl.keyed;split <;> exact rL _
def Mi(seed:List Nat):∀ n i,L (sU seed n i)=n*32
 | 0,_=>rfl
 | n+1,i=>by simp only[sU,ah,Jgn,Mi seed n];omega
def LB{h:N}(l:Ab.LaidIn h laidAll):Ab.LaidIn h mQ:=fun x T=>l x (by
 simp only[mQ,laidAll,ao,cy,or_false]at T ⊢;rcases T with rfl | rfl <;> simp)
def J4e{h:N}(l:Ab.LaidIn h laidAll):3<=h.Q:=by
 have h1:=N.D (l (0,tE) (by simp[laidAll]));have T:=N.D (l (1,zu) (by simp[laidAll]));have h3:=N.D (l (2,Ei) (by simp[laidAll]));simp only at h1 T h3;omega
def SB.push{h:N}{xs:List Int}(hl:L xs < 1000000):SB (h.push (S Y 1 (xs.map i8))) (M (U ⟨h.Q,0,O⟩) (L xs) (L xs)) xs :=
 (ig.new (n0:=0) (bQ _) (by rw[N.F,if_pos rfl]) kA (by unfold iJ;omega) (.inr rfl)).sl
def Vi3{h:N}{B:Nat}{ow:Bool}{z:Nat}{l:List Nat}(T:h.A B=U (.cells ow z (l.map ax)))(hl:L l < 1000000):SB h (M (U ⟨B,0,O⟩) (L l) (L l)) (mP l):=by
 have e:L (mP l)=L l:=by simp[mP]
 rw[SB,e,<- Va5];exact .inr ⟨B,0,L l,ow,z,[],[],rfl,by simpa using T,rfl,kA,ac _,by unfold iJ;omega,fun q=>by unfold iJ at q;omega⟩
def tM(z:Int):Int:=if 1099511627776 < z then 1099511627776 else z
def wk:List (List Int)->Int->Int
 | [],n=>n
 | x::l,n=>wk l (tM (n+L x+1))
def DM{z:Int}(h:0<=z):0<=tM z/\tM z<=1099511627776:=by unfold tM;split <;> omega
def Jty:∀ {l:List (List Int)} {n:Int},0<=n->wk l n<=4096->n+L l<=4096/\∀ x ∈ l,n+L x<=4096
 | [],n,h0,h=>by simp[wk]at h ⊢;exact h
 | x::l,n,h0,h=>by
  simp only[wk]at h;obtain⟨h1,h2⟩:=Jty (DM jA).1 h;have h3:tM (n+L x+1)=n+L x+1:=by
   unfold tM at h1 ⊢;split
   next q=>rw[if_pos q]at h1;omega
   ·rfl
  rw[h3]at h1 h2;refine⟨by simp;omega,fun y T => ?_⟩;rcases ao.1 T with rfl | T
  ·omega
  ·have:=h2 y T;omega
def ALI(sv:V)(items:List (V × List Int))(h:N)(k:Nat)(s:St):Prop:=∃ (t:Tr V) (i:Nat) (n:Int),s=⟨⟨21,t⟩,[],h⟩/\t.A 0=U sv/\t.A 3=U (I X n)/\t.A 4=U (I X (i:Int))/\i<=L items/\k=L items-i/\0<=n/\n<=1099511627776/\wk (items.map (·.2)) 0=wk ((items.drop i).map (·.2)) n
section
attribute [local simp] Xwe Ze4 UW Yjx U7 Y5 Y0 X6 Xi Y4 Xw Xg Y3 Q6 Qv X7 Xz Xx Xh Qw Xv Xj Qz Ja U0 J9 Zd
def Vgv(b:Nat){h:N}{sv:V}{items:List (V × List Int)}(ss:Sl h 1 sv (L items) (items.map (·.1)))(hn:L items<=0x7ffffffff000)(its:mj h items)(hl:∀ p ∈ items,L p.2<=0x7ffffffff000)(K:KP)(hk:K (.ret (I X (wk (items.map (·.2)) 0))) h):FK b 78 [sv] h K:=by
 refine iI b (UW b) Jj4 rfl ?_;have h2:∀ hx,iP (E b).toiS 141 sv hx=U (I X (L items:Int)):=fun hx=>ja (mK b) ss;simp;refine jE (ALI sv items h) (L items) ⟨_,0,0,rfl,kA,kA,kA,jA,rfl,jA,jA,kA⟩ ?_;rintro k s' ⟨t,i,n,rfl,t0,t3,t4,hi,rfl,n0,n1,hF⟩ _;by_cases hr:i < L items
 ·have hc:(i:Int) < (L items:Int):=jA
  obtain⟨⟨v,x⟩,T⟩:∃ p,items[i]? = U p:=⟨_,List.getElem?_eq_getElem hr⟩;have hd:items.drop i=(v,x)::items.drop (i+1):=by
   rw[aS hr];rw[List.getElem?_eq_getElem hr]at T;rw[bM T]
  obtain⟨bk,off,q1,q2,q3, -⟩:=o_ (mK b) qE ss (k:=.i64) (i:=(i:Int)) jA jA;have q4:Jr h bk off=U v:=by
   have:=q3 0 jA;simpa[T]using this
  obtain⟨sx,bx⟩:=its (v,x) (List.mem_of_getElem? T);have lx:=hl (v,x) (List.mem_of_getElem? T);simp only at lx;have len:=fun hx=>m_ (b:=b) (h1:=hx) sx;have hw:=wS (i:=i) jA;have w1:IntKind.i64.wrap (n+(L x:Int))=n+(L x:Int):=jW jA jA;have w2:IntKind.i64.wrap (n+(L x:Int)+1)=n+(L x:Int)+1:=jW jA jA;rw[hd]at hF;simp[t0,t3,t4,h2,hc,q2,q4,len,w1,w2,hw,nh];refine⟨L items-(i+1),jA,_,i+1,tM (n+L x+1),rfl,by simp[t0],by simp[tM],kA,jA,rfl,(DM jA).1,(DM jA).2,?_⟩;rw[hF];simp only[aK,wk]
 ·have hc:¬ (i:Int) < (L items:Int):=jA
  have : i=L items:=jA
  subst this;simp[t0,t3,t4,h2];rw[cK]at hF;simp only[dP,wk]at hF;rw[hF]at hk;exact hk
end
def Vcc(b:Nat)(h:N):MZ (E b).toiS 28 (M O 0 0)=U (I X 0):=kR
def Vcl(b:Nat)(h:N)(v1 v2:V)(n1:lN v1=Y)(T:v1.cells = #[v1])(n2:lN v2=Y)(c2:v2.cells = #[v2]):Wc (E b).toiS 141 2 [(0,v1),(1,v2)] h=U (M (U ⟨h.Q,0,O⟩) 2 2,h.push (S Y 1 [v1,v2])):=by
 have hz:vc.zero.cells.toList=[M O 0 0]:=kR
 have e1:(Nat.ble (2*vc.size) 16777216 && Nat.ble 1 vc.size)=Y:=by rw[qE];rfl
 simp only[Wc,BS,(mK b).d,qC,e1,if_true,hz,qE];simp[nr,n1,n2,T,c2,kx,mM,over,Nat.ble]
def Jfk(b:Nat)(n:Nat)(T:n < 1000000000)(h:N):tn (E b).toiS 3 R5 (I X (n:Int)) h=U (n,List.replicate n zU):=by
 have hi:R3.desc=.int X:=kR
 simp only[tn,In,hi];rw[if_pos ⟨jA,jA,by rw[wT];omega,by rw[nf];omega⟩,ZB];have : (I .u8 0).cells.toList=[I .u8 0]:=rfl;rw[this,Lx];simp
section
attribute [local simp] Qun Q9j Bp Q5a qS qT qV qU qR qX qW Q6 Qv qQ qO qN qP ri rh rc qY qZ q_ rj
def J95(b:Nat){h:N}(n:Nat)(hn:n < 1000000000)(K:KP)(hk:∀ v h',OB h' h.Q v []->a_ h h'->K (.ret v) h'):FK b 118 [M O 0 0,I X (n:Int)] h K:=by
 refine iI b (Bp b) Xq6 rfl ?_;have c0:=Vcc b h;have l0:∀ hx,iP (E b).toiS 28 (M O 0 0) hx=U (I X 0):=fun hx=>m_ (b:=b) (xs:=[]) (h:=h) Sl.nil;have h0:¬ (n:Int) < 0:=jA
 have w0:IntKind.i64.wrap (n:Int)=(n:Int):=jW jA jA;by_cases hz:n=0
 ·subst hz;have wz:IntKind.i64.wrap 0=0:=jW jA jA;simp[c0,l0,wz];exact hk _ h ig.nil (a_.refl _)
 ·have hp:0 < (n:Int):=jA
  have hc:0 < n:=jA
  have wz:IntKind.i64.wrap 0=0:=jW jA jA;obtain⟨v1,k1,o1, -⟩:=KA (ma b) (h:=h) (n0:=h.Q) (v:=M O 0 0) (n:=0) (xs:=[]) (k:=.i64) (i:=0) nf jA ig.nil jA jA;obtain⟨v2,T,k2,o2,b2⟩:=wW (ma b) (tx:=3) (m:=n) nf jA o1 (ac _) (Jfk b n hn h) kA (by rw[wT];omega) jA;obtain⟨v3,k3,o3, -⟩:=KA (ma b) (k:=.i64) (i:=0) nf jA o2 jA jA;have a2:a_ h T:=b2.R (a_.refl _) o1;simp[c0,l0,h0,wz,w0,hp,hc,k1,k2,k3];exact hk v3 T (by show ig T h.Q 1 v3 0 [];simpa using o3) a2
end
def oK(l:List (V × List Int)):List Int:=(l.map (·.2)).flatten
def Jkr{l:List (V × List Int)}{i:Nat}{p:V × List Int}(h:l[i]? = U p):oK (l.take (i+1))=oK (l.take i)++p.2:=by
 rw[bH,h];simp[oK]
def J2y(l:List (V × List Int))(i:Nat):L (oK (l.take i))<=L (oK l):=by
 have e:oK l=oK (l.take i)++oK (l.drop i):=by unfold oK;rw[<- List.flatten_append,<- bg,bf]
 rw[e,ah];omega
def CC1(sv:V)(items:List (V × List Int))(h:N)(k:Nat)(s:St):Prop:=∃ (t:Tr V) (i:Nat),s=⟨⟨36,t⟩,[],h⟩/\t.A 0=U sv/\t.A 9=U sv/\t.A 10=U (I X (L items:Int))/\t.A 3=U (I X (L (oK (items.take i)):Int))/\t.A 11=U (I X (i:Int))/\i<=L items/\k=L items-i
def CC2(sv:V)(items:List (V × List Int))(h:N)(k:Nat)(s:St):Prop:=∃ (t:Tr V) (h1:N) (o:V) (i:Nat),s=⟨⟨36,t⟩,[],h1⟩/\t.A 25=U sv/\t.A 26=U (I X (L items:Int))/\t.A 6=U o/\t.A 27=U (I X (i:Int))/\i<=L items/\k=L items-i/\OB h1 h.Q o (oK (items.take i))/\a_ h h1
section
attribute [local simp] Uu qS qT qV qU qR qX qW Q6 Qv qQ qO qN qP ri rh rc qY qZ q_ rj
def Jhv(b:Nat){h:N}{sv:V}{items:List (V × List Int)}(ss:Sl h 1 sv (L items) (items.map (·.1)))(hn:L items<=1000000)(its:∀ p ∈ items,SB h p.1 p.2)(hl:L (oK items) < 1000000000)(K:KP)
  (hk:∀ v h',OB h' h.Q v (oK items)->a_ h h'->K (.ret v) h'):FK b 80 [sv] h K:=by
 refine iI b (Uu b) Xm1 rfl ?_;have hr:∀ hx,iP (E b).toiS 141 sv hx=U (I X (L items:Int)):=fun hx=>ja (mK b) ss;simp[CZ,Gk,U7,Bp,Gq,hr];refine jE (CC1 sv items h) (L items) ⟨_,0,rfl,kA,kA,kA,by simp[oK],kA,jA,rfl⟩ ?_;rintro k s' ⟨t,i,rfl,t0,t9,t10,t3,h3,hi,rfl⟩ _;by_cases hb:i < L items
 ·have T:(i:Int) < (L items:Int):=jA
  obtain⟨⟨v,x⟩,h2⟩:∃ p,items[i]? = U p:=⟨_,List.getElem?_eq_getElem hb⟩;obtain⟨bk,off,q1,q2,q3, -⟩:=o_ (mK b) qE ss (k:=.i64) (i:=(i:Int)) jA jA;have q4:Jr h bk off=U v:=by
   have:=q3 0 jA;simpa[h2]using this
  have sx:=its (v,x) (List.mem_of_getElem? h2);have len:=fun hx=>m_ (b:=b) (h1:=hx) sx;have hw:=wS (i:=i) jA;have e1:=Jkr h2;have e2:=J2y items (i+1);rw[e1,ah]at e2;simp only at e2 sx len;have w1:IntKind.i64.wrap ((L (oK (items.take i)):Int)+(L x:Int))=(L (oK (items.take i)):Int)+(L x:Int):=jW jA jA;have n1:¬ (L (oK (items.take i)):Int)+(L x:Int) < 0:=jA
  simp[CZ,Gk,U7,Bp,Gq,t0,t9,t10,t3,h3,T,q2,q4,len,w1,n1,hw];refine⟨L items-(i+1),jA,_,i+1,rfl,by simp[t0],by simp[t9],by simp[t10],?_,kA,jA,rfl⟩;rw[e1];simp
 ·have T:¬ (i:Int) < (L items:Int):=jA
  have : i=L items:=jA
  subst this;rw[ai (ac _)]at t3;simp[CZ,Gk,U7,Bp,Gq,t0,t9,t10,t3,h3];refine J95 b _ hl _ fun v0 h0 o0 a0 => ?_;simp[CZ,Gk,U7,Bp,Gq,t0,hr];refine jE (CC2 sv items h) (L items) ⟨_,h0,v0,0,rfl,kA,kA,kA,kA,jA,rfl,by simpa[oK]using o0,a0⟩ ?_;rintro k s' ⟨t,h1,o,i,rfl,t25,t26,t6,t27,hi,rfl,ob,hc⟩ _;by_cases hb:i < L items
  ·have T:(i:Int) < (L items:Int):=jA
   obtain⟨⟨v,x⟩,h2⟩:∃ p,items[i]? = U p:=⟨_,List.getElem?_eq_getElem hb⟩;obtain⟨bk,off,q1,q2,q3, -⟩:=o_ (mK b) qE (ss.R hc) (k:=.i64) (i:=(i:Int)) jA jA;have q4:Jr h1 bk off=U v:=by
    have:=q3 0 jA;simpa[h2]using this
   have sx:=its (v,x) (List.mem_of_getElem? h2);have hw:=wS (i:=i) jA;have e1:=Jkr h2;have e2:=J2y items (i+1);rw[e1,ah]at e2;simp only at e2 sx;obtain⟨v',h',k1,k2,k3⟩:=J2g (b:=b) ob hc.1 (sx.R hc) jA;simp[CZ,Gk,U7,Bp,Gq,t25,t26,t6,t27,T,q2,q4,k1,hw];refine⟨L items-(i+1),jA,_,h',v',i+1,rfl,by simp[t25],by simp[t26],kA,kA,jA,rfl,?_,k3.R hc ob⟩;rw[e1];exact k2
  ·have T:¬ (i:Int) < (L items:Int):=jA
   have : i=L items:=jA
   subst this;rw[ai (ac _)]at ob;simp[CZ,Gk,U7,Bp,Gq,t25,t26,t6,t27];exact hk o h1 ob hc
def Pl(b:Nat){h:N}{v1 v2:V}{xs ys:List Int}(s1:SB h v1 xs)(s2:SB h v2 ys)(hl:L xs+L ys < 1000000000)(K:KP)(hk:∀ v h',OB h' h.Q v (xs++ys)->a_ h h'->K (.ret v) h') :
  FK b 52 [v1,v2] h K:=by
 refine iI b (CQ b) Zj9 rfl ?_;obtain⟨hA,eA⟩:∃ hA,hA=h.push (S Y 1 [v1,v2]):=⟨_,rfl⟩;have bl:Wc (E b).toiS 141 2 [(0,v1),(1,v2)] h=U (M (U ⟨h.Q,0,O⟩) 2 2,hA):=by
  obtain⟨n1,c1⟩:=yP s1.one;obtain⟨n2,c2⟩:=yP s2.one;rw[eA];exact Vcl b h v1 v2 n1 c1 n2 c2
 have T:=jt eA;have ss:Sl hA 1 (M (U ⟨h.Q,0,O⟩) 2 2) 2 [v1,v2]:=(ig.new (n0:=0) (z:=1) (bQ _) (by rw[eA,N.F,if_pos rfl]) rfl qA (.inr rfl)).sl;simp[Sk,Yw8,CQ,Ye1,bl];refine Jhv b (items:=[(v1,xs),(v2,ys)]) ss kA (fun p hp => ?_) (by simpa[oK]using hl) _ fun v h' o a => ?_
 ·simp at hp;rcases hp with rfl | rfl
  ·exact s1.R T
  ·exact s2.R T
 ·simp[Sk,Yw8,CQ,Ye1];exact hk v h' (by
   have q:=o.low T.1;have e:oK [(v1,xs),(v2,ys)]=xs++ys:=by simp[oK]
   rwa [e]at q) (T.trans a)
end
def gn1(b:Nat):(1 < (E b).G.n)=True:=eq_true (by show 1 < nv;decide)
section
attribute [local simp] VF Q0c Uw Fs Fu LF Xns Y52 Xof GA GD CQ Y7t uT Y9d Y58 QO Xny Xpd zx Xne kQ Xpa Xo2 qS qT qV qU qR qX qW Q6 Qv qQ qO qN qP ri rh rc qY qZ q_ rj
def Jgw(b:Nat){h:N}(laid:Ab.LaidIn h laidAll){bv:V}{xs:List Int}(s:SB h bv xs){n:Nat}(hn:n < 253)(hl:L xs < 999999999)(K:KP)(hk:∀ v h',OB h' h.Q v (xs ++ [(n:Int)])->a_ h h'->K (.ret v) h') :
  FK b 28 [bv,I X (n:Int)] h K:=by
 refine iI b (Uw b) Y8u rfl ?_;have g1:h.A 1=U (S J 0 zu):=laid (1,zu) (by simp[laidAll]);have ld:Jr h 1 2=U (I .u64 253):=by rw[Zy g1];rfl
 have hx:Ug (E b).toiS 116 (pO 1 0) (I X 0)=U (pO 1 0):=by simpa using LF b (bk:=1) (o:=0) (k:=.i64) (i:=0) ⟨jA,jA⟩
 have w1:IntKind.u64.wrap (n:Int)=(n:Int):=Oz jA jA;have w2:IntKind.u8.wrap (n:Int)=(n:Int):=Vgk jA;have T:(n:Int) < 253:=jA
 have c2:n < 253:=hn;simp[gn1,hx,ld,w1,w2,T,c2,HI];refine Pl b (v2:=M (U ⟨h.Q,0,O⟩) 1 1) (ys:=[(n:Int)]) (s.R (a_.push _ _)) (SB.push (xs:=[(n:Int)]) kA) (by simp;omega) _ fun v h' o a => ?_;simp;exact hk v h' (o.low (bn _)) ((a_.push _ _).trans a)
end
def Y3x(seed:List Nat):∀ n i,sU seed (n+1) i=sU seed n i++Bl.keyed seed [i+n]
 | 0,i=>by simp[sU]
 | n+1,i=>by
  rw[sU,Y3x seed n (Nat.succ i)]
  conv=>rhs;rw[sU]
  rw[aQ];congr 3;simp;omega
def NWI(sv:V)(seed:List Nat)(h:N)(ν:Nat)(k:Nat)(s:St):Prop:=∃ (t:Tr V) (h1:N) (i:Nat),s=⟨⟨17,t⟩,[],h1⟩/\t.A 0=U sv/\t.A 3=U (pO ν 0)/\t.A 5=U (I X (i:Int))/\i<=32/\k=32-i/\h1.A ν=U (S Y 1 ((sU seed i 1).map ax++List.replicate ((32-i)*32) zU))/\a_ h h1
section
attribute [local simp] Q7g Xqj Zz Uw Wr Ykj Lv Vy qS qT qV qU qR qX qW Q6 Qv qQ qO qN qP ri rh rc qY qZ q_ rj
def Vab(b:Nat){h:N}(laid:Ab.LaidIn h laidAll){sv:V}{seed:List Nat}(s:SN h sv seed)(hl:L seed < 1000000000)(K:KP)(hk:∀ ν h',h'.A ν=U (S Y 1 ((sU seed 32 1).map ax))->h.Q<=ν->a_ h h'->K (.ret (pO ν 0)) h') :
  FK b 7 [sv] h K:=by
 refine iI b (Zz b) Jes rfl ?_;obtain⟨hA,eA⟩:∃ hA,hA=h.push (S Y 1 (List.replicate 1024 zU)):=⟨_,rfl⟩;have hr:jh (E b).toiS 60 h=U (pO h.Q 0,hA):=by rw[eA];exact Dq b h
 have aA:=jt eA;have gA:hA.A h.Q=U (S Y 1 (List.replicate 1024 zU)):=by rw[eA,N.F,if_pos rfl]
 simp[Dq,-Dq,hr];refine jE (NWI sv seed h h.Q) 32 ⟨_,hA,0,rfl,kA,kA,kA,jA,rfl,by simpa[sU]using gA,aA⟩ ?_;rintro k s' ⟨t,h1,i,rfl,t0,t3,t5,hi,rfl,g1,T⟩ _;by_cases hb:i < 32
 ·have hc:(i:Int) < 32:=jA
  have hw:=wS (i:=i) jA;simp[Dq,t0,t3,t5,hc,hw];refine Jgw b (Laid.R laid T) (bv:=M O 0 0) (xs:=[]) (n:=i+1) Sl.nil jA kA _ fun v h2 o2 a2 => ?_;have s2:SN h2 v [i+1]:=o2.sl;simp[Dq,t0,t3,t5];refine J3o b (LB (Laid.R laid (T.trans a2))) (s.R (T.trans a2)) s2 hl kA _ fun h3 a3 => ?_;obtain⟨dg,hdg⟩:∃ d,d=Bl.keyed seed [i+1]:=⟨_,rfl⟩;rw[<- hdg];have kl:L dg=32:=by rw[hdg];exact Jgn _ _
  have g3:=(a2.trans a3).A g1;have l3:=N.D g3;have kf:L ((sU seed i 1).map ax)=i*32:=by rw[aM,Mi]
  have hx:Ug (E b).toiS 58 (pO h.Q 0) (I X (i:Int))=U (pO h.Q (i*32)):=by simpa using Lv b (bk:=h.Q) (o:=0) (k:=.i64) (i:=(i:Int)) ⟨jA,jA⟩
  obtain⟨h4,e4⟩:∃ h4,h4=h3.set h.Q (U (S Y 1 ((sU seed (i+1) 1).map ax++List.replicate ((32-(i+1))*32) zU))):=⟨_,rfl⟩;have st:Wp h3 h.Q (i*32) (dg.map ax)=U h4:=by
   rw[kI g3 (by rw[ah,kf,aM,kl,List.length_replicate];omega),e4];congr 4;rw[<- kf,dR,Y3x,bg,show 1+i=i+1 by omega,<- hdg,<- cD,cd,gj,aM,kl,show(32-i)*32-32=(32-(i+1))*32 by omega]
  have g4:h4.A h.Q=U (S Y 1 ((sU seed (i+1) 1).map ax++List.replicate ((32-(i+1))*32) zU)):=by rw[e4,gY l3,if_pos rfl]
  have a4:a_ h h4:=by rw[e4];exact(T.trans (a2.trans a3)).set _ (ac _) l3
  simp[Dq,t0,t3,t5,hx,kl,st,hw];exact⟨32-(i+1),jA,_,h4,i+1,rfl,by simp[t0],by simp[t3],kA,jA,rfl,g4,a4⟩
 ·have hc:¬ (i:Int) < 32:=jA
  have : i=32:=jA
  subst this;simp[Dq,t0,t3,t5];exact hk h.Q h1 (by simpa using g1) (ac _) T
end
end Go.Proofs.YtbhojjejgmfgmaaGreatDoor
end
