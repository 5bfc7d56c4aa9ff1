import Derived.Test.YtmgonkaadhbnpaaGreatDoorStA
import Derived.Test.YtmgonkaadhbnpaaGreatDoorScA
import Derived.Test.YtmgonkaadhbnpaaGreatDoorFA
set_option linter.all false
set_option maxHeartbeats 2000000
open List renaming length→L
open Option renaming some→U,none→O
open Bool renaming true→Y,false→J
open Go renaming Value→V
open Go.Value renaming int→I,slice→M
open Go.IntKind renaming i64→X
open Go.Ab.Blk renaming cells→S
noncomputable section
namespace Go.Proofs.YtmgonkaadhbnpaaGreatDoor
open Go Go.Ab
set_option maxRecDepth 100000
abbrev SN(h:N)(v:V)(l:List Nat):Prop:=Sl h 1 v (L l) (l.map dk)
def SN.sb{h:N}{v:V}{l:List Nat}(s:SN h v l):SB h v (l.map Int.ofNat):=by
 have e:(l.map Int.ofNat).map i8=l.map dk:=by rw[bL];rfl
 grind
def SN.of{h:N}{v:V}{xs:List Int}(s:SB h v xs)(j:Bytes xs):SN h v (xs.map Int.toNat):=by
 have e:(xs.map Int.toNat).map dk=xs.map i8:=by
  rw[bL];refine bK fun z C => ?_;have:=j z C;show I .u8 (Int.ofNat z.toNat)=I .u8 z
  grind
 grind
def U73(b:Nat){h:N}{B:Nat}{ds:List V}{v:V}{l:List Nat}(hg:h.A B=U (S Y 1 ds))(hd:L ds=64)(s:SN h v l) :
  ∃ h',rV (E b).tojo 31 (M (U ⟨B,0,O⟩) 64 64) v h=U (I X ((min (L l) 64:Nat):Int),h')/\h'.A B=U (S Y 1 ((l.take 64).map dk++ds.drop (min (L l) 64)))/\h'.Q=h.Q/\∀ c,c≠B->h'.A c=h.A c:=by
 have hx:Nat.min (L l) 64=min (L l) 64:=rfl;have C:wK v=U (L l):=by rcases s with⟨c,rfl,_,e,_⟩ | ⟨bk,o,c,ow,z',pre,post,rfl,_⟩ <;> simp_all [wK]
 have j:sf 1 (Nat.min (L l) 64) v h=U ((l.take 64).map dk):=by
  rcases s with⟨c,rfl,_,e,e2⟩ | ⟨bk,o,c,ow,z',pre,post,rfl,h1,h2,h3, -⟩
  ·have : l=[]:=bB e;subst this;simp[sf]
  ·have h4:nQ (Nat.min (L l) 64*1) ((pre++l.map dk++post).drop o)=U ((l.take 64).map dk):=by
    rw[hx,<- h2,b9,di,th (by simp;omega),bm (by simp;omega),<- dJ,cg]
    grind
   simp only[sf,Ab.cellsAt,h1,h4]
 have hr:uF.desc=.slice 5:=(j' b).d;cases hc:(l.take 64).map dk with
 | nil =>
  have : l=[]:=by
   simp_all
  subst this;refine⟨h,?_,by grind,rfl,fun _ _=>rfl⟩;rw[hc]at j;simp only[rV,rX,hr,C,sX,k_,j]
 | cons x T =>
  have hl:L (x::T)<=L ds:=by grind
  have hk:storeAt h ⟨B,0,O⟩ (x::T)=U (h.set B (U (S Y 1 ((x::T)++ds.drop (L (x::T)))))):=by
   simp only[storeAt,hg];rw[q_ iA];simp
  rw[hc]at j;refine⟨h.set B (U (S Y 1 ((x::T)++ds.drop (L (x::T))))),?_,?_,rfl,fun c hc=>by rw[gY (N.D hg),if_neg (Ne.symm hc)]⟩
  ·simp only[rV,rX,hr,C,sX,k_,j,hk];rfl
  ·rw[gY (N.D hg),if_pos rfl]
   grind
def Jzz:∀ (n m:Nat) (h:List Nat) (text:List Nat) (count:Nat),L text < n->L text < m->Bl.blocks n h text count=Bl.blocks m h text count
 | 0,_,_,_,_,h,_=>by omega
 | n+1,0,_,_,_,_,h=>by omega
 | n+1,m+1,h,text,count,h1,C=>by
  simp only[Bl.blocks];cases j:Nat.ble (L text) 64 with
  | true=>rfl
  | false =>
   have : ¬ L text<=64:=fun q=>by rw[<- cR,j]at q;cases q
   exact Jzz n m _ _ _ (by grind) (by grind)
def uD(p8:List Nat)(text:List Nat)(count:Nat):List Nat:=Bl.blocks (L text).succ p8 text count
def Ue5{p8:List Nat}{text:List Nat}{count:Nat}(h:L text<=64):uD p8 text count=Bl.take p8 (Bl.blk text) (count+L text) Y:=by
 simp[uD,Bl.blocks,yF h]
def Uaq{p8:List Nat}{text:List Nat}{count:Nat}(h:64 < L text):uD p8 text count=uD (Bl.take p8 (Bl.blk text) (count+64) J) (text.drop 64) (count+64):=by
 have e:Nat.ble (L text) 64=J:=by rw[bM];simp_all
 simp only[uD,Bl.blocks,e];exact Jzz (L text) (L (text.drop 64)).succ _ _ _ (by grind) (bY _)
def oR(p:List Nat):L (Bl.out p)=32:=by simp[Bl.out]
def U8z(p:List Nat){q r:Nat}(T:q < 8)(hr:r < 4):(Bl.out p)[4*q+r]? = U (Bl.wd p q / 2 ^ (8*r) % 256):=by
 have j:(4*q+r) / 4=q:=iA
 have C:(4*q+r) % 4=r:=iA
 rw[Bl.out,b7,dc iA,aQ,j,C]
def Wcp(x:Nat):ja (binOp .shr 124 (I .u32 (.ofNat x)) (I X 0))=U (I .u32 (Int.fdiv (.ofNat x) (2 ^ 0))):=kR
def Wd2(x:Nat):ja (binOp .shr 124 (I .u32 (.ofNat x)) (I X 8))=U (I .u32 (Int.fdiv (.ofNat x) (2 ^ 8))):=kR
def U9o(x:Nat):ja (binOp .shr 124 (I .u32 (.ofNat x)) (I X 16))=U (I .u32 (Int.fdiv (.ofNat x) (2 ^ 16))):=kR
def Wac(x:Nat):ja (binOp .shr 124 (I .u32 (.ofNat x)) (I X 24))=U (I .u32 (Int.fdiv (.ofNat x) (2 ^ 24))):=kR
def Wbw(x:Nat){r:Nat}(C:r < 4):ja (binOp .shr 124 (I .u32 (.ofNat x)) (I X (8*(r:Int))))=U (I .u32 (Int.fdiv (.ofNat x) (2 ^ (8*r)))):=by
 have j:r=0∨r=1∨r=2∨r=3:=iA
 rcases j with rfl | rfl | rfl | rfl
 ·exact Wcp x
 ·exact Wd2 x
 ·exact U9o x
 ·exact Wac x
def Uzk(x r:Nat):IntKind.u8.wrap (Int.fdiv (.ofNat x) (2 ^ (8*r)))=.ofNat (x / 2 ^ (8*r) % 256):=by
 have e:Int.fdiv (.ofNat x) (2 ^ (8*r))=.ofNat (x / 2 ^ (8*r)):=by
  grind
 rw[e];show((Int.ofNat (x / 2 ^ (8*r))) % (2 ^ 8:Int))=_;simp
def jn:List V:=List.replicate 32 zU
def OI(R0 W:Nat)(p8:List Nat)(h:N)(k:Nat)(s:St):Prop:=∃ (t:Tr V) (h1:N) (j i:Nat),s=⟨⟨81,t⟩,[],h1⟩/\t.A 4=U (pO R0 0)/\t.A 6=U (pO W 0)/\t.A 11=U (pO j 0)/\t.A 65=U (I X (i:Int)) /\
 i<=32/\k=32-i/\h1.A j=U (S Y 1 (((Bl.out p8).take i).map dk++List.replicate (32-i) zU))/\h1.A W=U (S Y 1 (p8.map iG))/\h1.A R0=U (S Y 1 jn)/\a_ h h1/\h.Q<=j/\h.Q<=R0/\j≠W/\j≠R0
attribute [local simp] Qw Y9 Xz X0 X6 Xf Y8 Xo Xd Y7 Q6 Qt Yg Y6 jm Qg iD Ab.g0 gv gs Q8 Qd iH kH lr Qh Tr.H St.put Tm.put flat iS Y5 Qm Qp Qn Qo Qk Ql Qj Qq Qi Q7 Q9 X7 Xy Xp Xe Qx Xn Xg X4 Zz Va Zy Yn Qz.putAll Qr Q0 Qa Wa ku Yk Jn Yo Nat.testBit Y0 loadAt Ab.runT Ym Yb Yh
section
attribute [local simp] Dc Kd zG Jx Z0 Vw BN pF AB yg nJ zC qM Ju Ad wj wk HE Ya V5 FS yo Uy zy zB uH wg mZ yp xu
def U67(b:Nat){h h0:N}{R0 W:Nat}{p8:List Nat}{t:Tr V}(h8:L p8=8)(t4:t.A 4=U (pO R0 0))(t6:t.A 6=U (pO W 0))(hW:h0.A W=U (S Y 1 (p8.map iG)))(hR:h0.A R0=U (S Y 1 jn))(ho:a_ h h0)(hx:h.Q<=R0)
  (K:KP) (hk:∀ h',a_ h h'->K (.ret (.agg ⟨(Bl.out p8).map dk⟩)) h'):iO (E b) (pL Tryz.prog (E b).G) (D0 b) O MN ⟨⟨81,t⟩,[],h0⟩ (pj (E b) (DD b) (FU 30) K):=by
 have lW:=N.D hW;have lR:=N.D hR;simp;refine iV (OI R0 W p8 h) 32 ⟨_,_,h0.Q,0,rfl,by simp[t4],by simp[t6],jA,jA,iA,rfl,by rw[N.F,if_pos rfl];rfl,by rw[N.F,if_neg iA,hW],by rw[N.F,if_neg iA,hR],ho.push' _,ho.1,hx,iA,iA⟩ ?_;rintro k s' ⟨t,h1,O_,i,rfl,t4,t6,T,h3,hi,rfl,gO,gW,gR,j,hO,_,n1,n2⟩ _;by_cases hB:i < 32
 ·have hy:(i:Int) < 32:=iA
  obtain⟨q,r,rfl,hq,hr⟩:∃ q r,i=4*q+r/\q < 8/\r < 4:=⟨i / 4,i % 4,iA,iA,iA⟩;have C:=U8z p8 hq hr;have g1:=KX gW (i:=q) iA;obtain⟨w,hw⟩:∃ w,w=Bl.wd p8 q:=⟨_,rfl⟩;rw[<- hw]at C g1;have hc:4*(q:Int)+(r:Int) < 32:=iA
  have e1:Int.tdiv ((4*q+r:Nat):Int) 4=(q:Int):=by grind
  have e2:Int.tmod ((4*q+r:Nat):Int) 4=(r:Int):=by grind
  have hp:Int.tdiv (4*(q:Int)+(r:Int)) 4=(q:Int):=by grind
  have hA:Int.tmod (4*(q:Int)+(r:Int)) 4=(r:Int):=by grind
  have w1:IntKind.i64.wrap (q:Int)=(q:Int):=Jr iA iA;have w2:IntKind.i64.wrap (8*(r:Int))=8*(r:Int):=Jr iA iA;have w3:IntKind.i64.wrap (4*(q:Int)+(r:Int)+1)=((4*q+r+1:Nat):Int):=by rw[Jr iA iA];omega
  have x1:J1 (E b).tojo 126 (pO W 0) (I X (q:Int))=U (pO W q):=by rw[yg b ⟨iA,iA⟩];simp
  have x2:J1 (E b).tojo 62 (pO O_ 0) (I X (4*(q:Int)+(r:Int)))=U (pO O_ (4*q+r)):=by rw[uH b ⟨iA,iA⟩];simp
  obtain⟨bv,hl⟩:∃ bv:Nat,bv=w / 2 ^ (8*r) % 256:=⟨_,rfl⟩;obtain⟨fv,hb⟩:∃ fv:Int,fv=Int.fdiv (w:Int) (2 ^ (8*r)):=⟨_,rfl⟩;have sh:ja (binOp .shr 124 (I .u32 (w:Int)) (I X (8*(r:Int))))=U (I .u32 fv):=by rw[hb];exact Wbw w hr
  have ws:IntKind.u8.wrap fv=(bv:Int):=by rw[hb,hl];exact Uzk w r
  rw[<- hl]at C;obtain⟨h2,e⟩:∃ h2,h2=h1.set O_ (U (S Y 1 ((((Bl.out p8).take (4*q+r)).map dk++List.replicate (32-(4*q+r)) (I .u8 0)).set (4*q+r) (I .u8 (bv:Int))))):=⟨_,rfl⟩;have st:iN h1 O_ (4*q+r) [I .u8 (bv:Int)]=U h2:=by rw[e];exact nS gO (by simp[oR];omega)
  simp[t4,t6,T,h3,hc,hp,hA,w1,w2,w3,x1,x2,g1,sh,ws,st];have lO:=N.D gO;refine⟨32-(4*q+r+1),iA,_,h2,O_,4*q+r+1,rfl,by simp[t4],by simp[t6],by simp[T],jA,iA,rfl,?_,?_,?_,?_,hO,hx,n1,n2⟩
  ·rw[e,gY lO,if_pos rfl];congr 2;rw[bD _ _ (by simp[oR];omega),aT,C];have : 32-(4*q+r)=(32-(4*q+r+1))+1:=iA
   rw[this,cy];simp[oR];have e5:4*q+r-min (4*q+r) 32=0:=iA
   rw[e5];rfl
  ·rw[e,gY lO,if_neg iA,gW]
  ·rw[e,gY lO,if_neg iA,gR]
  ·rw[e];exact j.set _ hO lO
 ·have : i=32:=iA
  subst this;have ld:iy h1 O_ 0 32=U (.agg ⟨(Bl.out p8).map dk⟩):=by
   rw[V9 gO (by simp[oR])];congr 3
  have st:iN h1 R0 0 ((Bl.out p8).map dk)=U (h1.set R0 (U (S Y 1 ((Bl.out p8).map dk)))):=by
   rw[jQ gR (by simp[jn,oR])];congr 4
  have lR:=N.D gR;have hn:L ((Bl.out p8).map dk)=32:=by simp[oR]
  have g2:iy (h1.set R0 (U (S Y 1 ((Bl.out p8).map dk)))) R0 0 32=U (.agg ⟨(Bl.out p8).map dk⟩):=by
   rw[V9 (by rw[gY lR,if_pos rfl]) (by simp[oR])];congr 3
  simp[t4,t6,T,h3,ld,oR,st,g2];exact hk _ (j.set _ iA lR)
end
def KI(R0 W:Nat)(FIN:List Nat)(h:N)(k:Nat)(s:St):Prop:=∃ (t:Tr V) (h1:N) (tv:V) (l:List Nat) (count:Nat) (j:List Nat),s=⟨⟨81,t⟩,[],h1⟩/\t.A 4=U (pO R0 0)/\t.A 6=U (pO W 0)/\t.A 7=U tv/\t.A 8=U (I .u64 (count:Int)) /\
 SN h1 tv l/\h1.A W=U (S Y 1 (j.map iG))/\h1.A R0=U (S Y 1 jn)/\a_ h h1/\h.Q<=W/\h.Q<=R0/\W≠R0/\J7 tv≠U W/\uD j l count=FIN/\L j=8/\k=L l/\count+L l < 1000000000000/\Ab.LaidIn h1 pA
def SN.ofB{h:N}{v:V}{l:List Nat}(s:SB h v (l.map Int.ofNat)):SN h v l:=by
 have e:(l.map Int.ofNat).map i8=l.map dk:=by rw[bL];rfl
 grind
def LaidIn.R{h h':N}(l:Ab.LaidIn h pA)(a:a_ h h'):Ab.LaidIn h' pA:=fun x j=>a.A (l x j)
def Il{z:Int}(h0:0<=z)(h1:z<=18446744073709551615):IntKind.u64.wrap z=z:=by
 have : IntKind.u64.wrap z=z % 18446744073709551616:=by simp[IntKind.wrap,IntKind.bits,IntKind.signed]
 omega
def Uwc(b:Nat)(B:Nat)(h:N):j8 (E b).tojo 129 (pO B 0) O O O h=U (M (U ⟨B,0,O⟩) 64 64,h):=kR
section
attribute [local simp] Dc Kd zG Jx Z0 Vw BN pF AB yg nJ zC qM Ju wj wk HE Ya V5 FS yo Uy zy zB uH wg mZ yp xu
def Uwa(b:Nat){h h0:N}{R0 W:Nat}{p8 FIN:List Nat}{t:Tr V}{tv:V}{l:List Nat}{count:Nat}(hl:Ab.LaidIn h pA)(t4:t.A 4=U (pO R0 0))(t6:t.A 6=U (pO W 0))(t7:t.A 7=U tv)(t8:t.A 8=U (I .u64 (count:Int)))(sn:SN h0 tv l)
  (hW:h0.A W=U (S Y 1 (p8.map iG))) (hR:h0.A R0=U (S Y 1 jn)) (ho:a_ h h0) (g3:h.Q<=W) (he:h.Q<=R0) (hC:W≠R0) (hv:J7 tv≠U W) (hf:uD p8 l count=FIN) (j:L p8=8) (hc:count+L l < 1000000000000)
  (K:KP) (hk:∀ h',a_ h h'->K (.ret (.agg ⟨(Bl.out FIN).map dk⟩)) h'):iO (E b) (pL Tryz.prog (E b).G) (D0 b) O Hz ⟨⟨81,t⟩,[],h0⟩ (pj (E b) (DD b) (FU 30) K):=by
 rw[yp,FS];refine iV (KI R0 W FIN h) (L l) ⟨_,h0,tv,l,count,p8,rfl,t4,t6,t7,t8,sn,hW,hR,ho,g3,he,hC,hv,hf,j,rfl,hc,LaidIn.R hl ho⟩ ?_;rintro k s' ⟨t,h1,tv,l,count,p8,rfl,t4,t6,t7,t8,sn,gW,gR,hy,_,_,_,hv,hf,j,rfl,hc,q3⟩ _;obtain⟨h2,e2⟩:∃ h2,h2=h1.push (S Y 1 (List.replicate 64 zU)):=⟨_,rfl⟩;have hz:=jG e2;have n2:=lT e2;have gB:h2.A h1.Q=U (S Y 1 (List.replicate 64 zU)):=by rw[e2,N.F,if_pos rfl]
 obtain⟨h3,c1,c2,c3,c4⟩:=U73 b gB jA (sn.R hz);have hg:a_ h1 h3:=⟨iA,fun c hc=>by rw[c4 c iA,hz.2 c hc]⟩;have x2:=j_ (b:=b) (h1:=h3) sn.sb;have aA:SN h3 tv l:=sn.R hg;obtain⟨q2,h4,f1,f2,f3,f4,f5⟩:=Ix (b:=b) aA.sb (k:=.i64) (i:=((min (L l) 64:Nat):Int)) iA (by simp;omega);have es:SN h4 q2 (l.drop 64):=by
  have e:(l.map Int.ofNat).drop (min (L l) 64)=(l.drop 64).map Int.ofNat:=by
   rw[<- fW];congr 1;rcases Nat.le_total (L l) 64 with q | q
   ·rw[dN q,bG (ai _),bG q]
   grind
  rw[bA,e]at f2;exact SN.ofB f2
 have T:∀ hx,iC (E b).tojo 31 q2 hx=U (I X ((L l-64:Nat):Int)):=fun hx=>by have:=j_ (b:=b) (h1:=hx) es.sb;rw[bo,cK]at this;exact this
 have hr:a_ h1 h4:=hg.trans f3;have g2:h4.A h1.Q=U (S Y 1 ((l.take 64++List.replicate (64-L l) 0).map dk)):=by
  rw[f3.2 _ iA,c2];congr 2;rw[bF,List.map_replicate];congr 1;rw[gQ];congr 1;omega
 have hB:h4.A W=U (S Y 1 (p8.map iG)):=hr.A gW;have q1:h4.A R0=U (S Y 1 jn):=hr.A gR;have ht:iy h4 W 0 8=U ((.agg ⟨p8.map iG⟩)):=by
  rw[V9 hB (by simp[j]),ba,aj (by simp[j])]
 have lW:=N.D hB;have gA:=N.D gW;have x1:((min (L l) 64:Nat):Int)<=64:=iA
 have wc:IntKind.u64.wrap ((min (L l) 64:Nat):Int)=((min (L l) 64:Nat):Int):=Il iA iA;have wa:IntKind.u64.wrap ((count:Int)+((min (L l) 64:Nat):Int))=((count+min (L l) 64:Nat):Int):=by rw[Il iA iA];omega
 obtain⟨m,hm⟩:∃ m:Nat,m=min (L l) 64:=⟨_,rfl⟩;rw[<- hm]at c1 f1 wc wa;have r1:¬ ((m:Int) < 0):=iA
 have eA:L (l.take 64++List.replicate (64-L l) 0)=64:=by simp;omega
 have key:∀ (last:Bool) (v':List Nat),v'=Bl.take p8 (Bl.blk l) (count+m) last->∀ K':jc->N->Prop,(∀ h5,a_ h4 h5->K' (.ret (.agg ⟨v'.map iG⟩)) h5)->FK b 67 [(.agg ⟨p8.map iG⟩),pO h1.Q 0,I .u64 (((count+m:Nat):Int)),.bool last] h4 K':=by
  intro last v' hp K' a3;refine U5x b (LaidIn.R q3 hr) j g2 eA (count+m) last K' fun h5 a5 => ?_;have:=a3 h5 a5;rw[hp]at this;exact this
 have s1:jd (E b).tojo 129 h1=U (pO h1.Q 0,h2):=by rw[e2];exact Ad b h1
 simp[Ad,-Ad,s1,t4,t6,t7,t8,Uwc,c1,f1,wc,wa,ht];have tl:∀ c last,L (Bl.take p8 (Bl.blk l) c last)=8:=fun _ _=>Unc _ _;by_cases hw:L l<=64
 ·have e0:((L l-64:Nat):Int)=0:=iA
  have em:m=L l:=iA
  rw[e0]at T;have hF:FIN=Bl.take p8 (Bl.blk l) (count+m) Y:=by rw[<- hf,Ue5 hw,em]
  simp[T];have a2:L FIN=8:=by rw[hF];exact tl _ _
  refine key Y FIN hF _ fun h5 a5 => ?_;have hA:=a5.A hB;have C:=N.D hA;obtain⟨h6,e6⟩:∃ h6,h6=h5.set W (U (S Y 1 (FIN.map iG))):=⟨_,rfl⟩;have a1:iN h5 W 0 (FIN.map iG)=U h6:=by rw[e6,jQ hA (by simp[j,a2]),cZ,bX,bG (by simp[j,a2]),bS]
  have hq:h6.A W=U (S Y 1 (FIN.map iG)):=by rw[e6,gY C,if_pos rfl]
  have M':h6.A R0=U (S Y 1 jn):=by rw[e6,gY C,if_neg (by assumption)];exact a5.A q1
  have hb:a_ h h6:=by rw[e6];exact((hy.trans hr).trans a5).set _ (by assumption) C
  simp[Ad,a2,a1,t6,T];refine U67 b a2 (W:=W) (h:=h) (R0:=R0) (by simp[t4]) (by simp[t6]) hq M' hb (by assumption) K hk
 ·have e0:¬ ((L l-64:Nat):Int)=0:=iA
  have em:m=64:=iA
  subst em;have e1:(decide (((L l-64:Nat):Int)=0))=J:=by simpa using e0
  have g1:64 < L l:=iA
  have re:¬ (L l-64=0):=iA
  simp only[T,Ya,e1];obtain⟨q8,hu⟩:∃ q,q=Bl.take p8 (Bl.blk l) (count+64) J:=⟨_,rfl⟩;have hn:L q8=8:=by rw[hu];exact tl _ _
  refine key J q8 hu _ fun h5 a5 => ?_;have hA:=a5.A hB;have C:=N.D hA;obtain⟨h6,e6⟩:∃ h6,h6=h5.set W (U (S Y 1 (q8.map iG))):=⟨_,rfl⟩;have a1:iN h5 W 0 (q8.map iG)=U h6:=by rw[e6,jQ hA (by simp[j,hn]),cZ,bX,bG (by simp[j,hn]),bS]
  have hq:h6.A W=U (S Y 1 (q8.map iG)):=by rw[e6,gY C,if_pos rfl]
  have M':h6.A R0=U (S Y 1 jn):=by rw[e6,gY C,if_neg (by assumption)];exact a5.A q1
  have hb:a_ h h6:=by rw[e6];exact((hy.trans hr).trans a5).set _ (by assumption) C
  simp[Ad,hn,a1,t6,T,re];refine⟨L l-64,iA,_,_,q2,l.drop 64,count+64,q8,rfl,by simp[t4],by simp[t6],jA,jA,?_,hq,M',hb,by assumption,by assumption,by assumption,?_,by rw[<- hf,hu];exact(Uaq g1).symm,hn,jA,by simp;omega,LaidIn.R hl hb⟩
  ·refine Sl.keep (es.R a5) fun c hc g1 => ?_;rw[e6,gY C,if_neg];rintro rfl;rcases f5 _ hc with q | q
   ·exact hv q
   ·omega
  ·intro q;rcases f5 _ q with q | q
   ·exact hv q
   ·omega
end
def Wbm(x:Int):ja (binOp .shl 124 (I .u32 x) (I .u64 8))=U (I .u32 (IntKind.u32.wrap (x*2 ^ 8))):=kR
def NQ(x y:Int):ja (binOp .xor 124 (I .u32 x) (I .u32 y))=U (I .u32 (sW x y)):=kR
def EZ(k:Nat):Int:=sW 1779033703 (sW (sW 16842752 (IntKind.u32.wrap (IntKind.u32.wrap (k:Int)*2 ^ 8))) 32)
def Uyi:∀ k,k < 33->EZ k=((Bl.wd (Bl.start k) 0:Nat):Int):=kA
def GK(v:V):∀ n,mK [v] n=List.replicate n v
 | 0=>rfl
 | n+1=>by simp[mK,GK v n,cy]
section
attribute [local simp] Dc Kd zG Z0 Vw BN AB yg nJ zC Ju Ad wj wk HE Ya V5 FS yo Uy zy zB uH wg mZ p6 p7 p_ p9 p5 qd qc pZ pX pW pY qn qk qj qf qg qi qq
def Vps(b:Nat){h j:N}(laid:Ab.LaidIn h pA){R:Nat}{kv tv:V}{key l:List Nat}{tr:Tr V}(aA:a_ h j)(hR:h.Q<=R)(gA:j.A R=U (S Y 1 jn))(sk:SN j kv key)(sl:SN j tv l)(ho:L key<=32)(hl:L l < 1000000000)
  (t0:tr.A 0=U kv) (t1:tr.A 1=U tv) (T:tr.A 4=U (pO R 0)) (K:KP) (hk:∀ h',a_ h h'->K (.ret (.agg ⟨(Bl.keyed1 key l).map dk⟩)) h') :
  iO (E b) (pL Tryz.prog (E b).G) (D0 b) O MR ⟨⟨81,tr⟩,[],j⟩ (pj (E b) (DD b) (FU 30) K):=by
 have hc:∀ hx,iC (E b).tojo 31 kv hx=U (I X (L key:Int)):=fun hx=>iT (j' b) sk;have hb:∀ hx,iC (E b).tojo 31 tv hx=U (I X (L l:Int)):=fun hx=>iT (j' b) sl;have g1:¬ (32:Int) < (L key:Int):=iA
 have hp:h.A 0=U (S J 0 sD):=laid (0,sD) (by simp[pA]);obtain⟨hB,eB⟩:∃ hB,hB=j.push (S Y 1 (List.replicate 8 (I .u32 0))):=⟨_,rfl⟩;have lA:=N.D gA;have aB:=jG eB;have nB:=lT eB;have gB:hB.A j.Q=U (S Y 1 (List.replicate 8 (I .u32 0))):=by rw[eB,N.F,if_pos rfl]
 have q1:jd (E b).tojo 126 j=U (pO j.Q 0,hB):=by rw[eB];exact pF b j
 have s1:iy j 0 0 8=U (.agg ⟨sD⟩):=by
  rw[V9 (aA.A hp) (by simp[sD,Bl.begins])];rfl
 obtain⟨hC,eC⟩:∃ hC,hC=hB.set j.Q (U (S Y 1 sD)):=⟨_,rfl⟩;have lB:=N.D gB;have gC:hC.A j.Q=U (S Y 1 sD):=by rw[eC,gY lB,if_pos rfl]
 have g2:j9 (E b).tojo 126 (pO j.Q 0) (.agg ⟨sD⟩) hB=U hC:=(AB b hB j.Q 0 _ (by simp[sD,Bl.begins])).trans (by rw[jQ gB (by simp[sD,Bl.begins]),eC];rfl);have re:Zq hC j.Q 0=U (I .u32 1779033703):=by rw[Z2 gC];rfl
 obtain⟨C,eD⟩:∃ C,C=hC.set j.Q (U (S Y 1 (sD.set 0 (I .u32 (EZ (L key)))))):=⟨_,rfl⟩;have lC:=N.D gC;have hg:iN hC j.Q 0 [I .u32 (EZ (L key))]=U C:=by rw[eD];exact nS gC (by simp[sD,Bl.begins])
 have gD:C.A j.Q=U (S Y 1 ((Bl.start (L key)).map iG)):=by
  rw[eD,gY lC,if_pos rfl,Uyi _ iA];rfl
 have aC:a_ h hC:=by rw[eC];exact(aA.trans aB).set _ iA lB
 have hr:a_ j C:=by rw[eD,eC];exact(aB.set _ (ai _) lB).set _ (ai _) (by grind)
 have aD:a_ h C:=by rw[eD];exact aC.set _ iA lC
 have gR:C.A R=U (S Y 1 jn):=by
  rw[eD,gY lC,if_neg iA,eC,gY lB,if_neg iA];exact aB.A gA
 have es:J1 (E b).tojo 126 (pO j.Q 0) (I X 0)=U (pO j.Q 0):=yg b ⟨iA,iA⟩;obtain⟨a0,hu⟩:∃ a:Int,a=IntKind.u32.wrap (L key:Int):=⟨_,rfl⟩;obtain⟨a1,M'⟩:∃ a:Int,a=IntKind.u32.wrap (a0*2 ^ 8):=⟨_,rfl⟩;obtain⟨a2,hq⟩:∃ a:Int,a=sW 16842752 a1:=⟨_,rfl⟩;obtain⟨a3,v'⟩:∃ a:Int,a=sW a2 32:=⟨_,rfl⟩;obtain⟨a4,q2⟩:∃ a:Int,a=EZ (L key):=⟨_,rfl⟩;have x0:uL (E b).tojo 3 124 (I X (L key:Int))=U (I .u32 a0):=by rw[hu];exact qM b _ _
 have x1:ja (binOp .shl 124 (I .u32 a0) (I .u64 8))=U (I .u32 a1):=by rw[M'];exact Wbm a0
 have x2:ja (binOp .xor 124 (I .u32 16842752) (I .u32 a1))=U (I .u32 a2):=by rw[hq];exact NQ _ _
 have x3:ja (binOp .xor 124 (I .u32 a2) (I .u32 32))=U (I .u32 a3):=by rw[v'];exact NQ _ _
 have x4:ja (binOp .xor 124 (I .u32 1779033703) (I .u32 a3))=U (I .u32 a4):=by rw[q2,EZ,<- hu,<- M',<- hq,<- v'];exact NQ _ _
 rw[<- q2]at hg;simp[Jx,pF,qM,yp,xu,-pF,SX,t0,t1,T,q1,hc,hb,g1,s1,g2,es,re,hg,-qM,x0,x1,x2,x3,x4];have hz:=LaidIn.R laid aD;have hn:∀ (t:Tr V) (h0:N) (v:V) (text:List Nat),text=Bl.textOf key l->t.A 4=U (pO R 0)->t.A 6=U (pO j.Q 0)->t.A 7=U v->t.A 8=U (I .u64 0)->SN h0 v text->a_ C h0->J7 v≠U j.Q ->
   iO (E b) (pL Tryz.prog (E b).G) (D0 b) O Hz ⟨⟨81,t⟩,[],h0⟩ (pj (E b) (DD b) (FU 30) K):=by
  intro t h0 v text e T t6 t7 t8 sn o0 hv;refine Uwa b (count:=0) (FIN:=uD (Bl.start (L key)) text 0) laid T t6 t7 t8 sn (o0.A gD) (o0.A gR) (aD.trans o0) iA hR iA hv rfl (by simp[Bl.start,Bl.begins]) ?_ K fun h' q => ?_
  ·subst e;cases key with
   | nil=>simp[Bl.textOf];omega
   | cons k ks=>simp[Bl.textOf]at ho ⊢;omega
  ·rw[e]at *;exact hk h' q
 cases hy:key with
 | nil =>
  subst hy;simp[Jx,pF,qM,yp,xu,-yp,t0,t1,T];refine hn _ C tv l rfl (by simp[t0,t1,T]) (by simp[t0,t1,T]) (by simp[t0,t1,T]) (by simp[t0,t1,T]) (sl.R hr) (a_.refl _) fun q => ?_;have:=sl.blk q;omega
 | cons k ks =>
  have h0:0 < L key:=by grind
  rw[<- hy];have w1:IntKind.i64.wrap (64+(L l:Int))=((64+L l:Nat):Int):=by rw[Jr iA iA];omega
  have w2:IntKind.i64.wrap (64-(L key:Int))=((64-L key:Nat):Int):=by rw[Jr iA iA];omega
  obtain⟨h1,e1⟩:∃ h1,h1=C.push (S Y 1 (List.replicate (64+L l) zU)):=⟨_,rfl⟩;have a1:=jG e1;have mk:z8 (E b).tojo 31 (I X 0) (I X ((64+L l:Nat):Int)) C=U (M (U ⟨C.Q,0,O⟩) 0 (64+L l),h1):=by
   simp only[z8,rX,(j' b).d,sX];rw[if_pos ⟨iA,iA,iA,by rw[ux];omega,by rw[k_];omega⟩,Oo,e1];have : (I .u8 0).cells.toList=[I .u8 0]:=rfl;rw[this,GK]
   grind
  have mk':z8 (E b).tojo 31 (I X 0) (I X (64+(L l:Int))) C=U (M (U ⟨C.Q,0,O⟩) 0 (64+L l),h1):=by
   grind
  have o1:ij h1 C.Q 1 (M (U ⟨C.Q,0,O⟩) 0 (64+L l)) 0 []:=.inr ⟨C.Q,64+L l,1,_,rfl,ai _,by rw[e1,N.F,if_pos rfl,bX],rfl,iA,by unfold iJ;omega,.inr ⟨by unfold iJ;omega,jA⟩⟩;obtain⟨v2,h2,c1,o2,b2⟩:=yr (j' b) (tx:=31) (m:=L key) (ys:=key.map dk) k_ iA o1 a1.1 (us (j' b) k_ (sk.R (hr.trans a1))) jA (by rw[ux];omega) iA;have nz:sN (E b).tojo 3 R5 (I X ((64-L key:Nat):Int)) h2=U (64-L key,List.replicate (64-L key) zU):=by
   have hi:R3.desc=.int X:=kR
   simp only[sN,Fe,hi];rw[if_pos ⟨iA,iA,by rw[ux];omega,by rw[k_];omega⟩,Oo];have : (I .u8 0).cells.toList=[I .u8 0]:=rfl;rw[this,GK];simp
  obtain⟨v3,h3,c2,o3,b3⟩:=yr (j' b) (tx:=3) k_ iA o2 (ao a1.1 b2.1) nz jA (by rw[ux];omega) iA;have a2:a_ C h2:=b2.R a1 o1;have a3:a_ C h3:=b3.R a2 o2;obtain⟨v4,h4,c3,o4,b4⟩:=yr (j' b) (tx:=31) (m:=L l) (ys:=l.map dk) k_ iA o3 a3.1 (us (j' b) k_ (sl.R (hr.trans a3))) jA (by rw[ux];omega) iA;have a4:a_ C h4:=b4.R a3 o3;simp[Jx,pF,qM,yp,xu,-yp,t0,t1,T,h0,hc,hb,w1,w2,mk',c1,c2,c3];have tx:Bl.textOf key l=key++(List.replicate (64-L key) 0++l):=by rw[hy];rfl
  have sn:SN h4 v4 (key++(List.replicate (64-L key) 0++l)):=by
   have:=o4.sl;have e1 : []++key.map dk++List.replicate (64-L key) (I .u8 0)++l.map dk=(key++(List.replicate (64-L key) 0++l)).map dk:=by
    rw[bF,bF,List.map_replicate];simp[dk]
   have e2:0+L key+(64-L key)+L l=L (key++(List.replicate (64-L key) 0++l)):=by
    simp only[aJ,List.length_replicate];omega
   rw[e1,e2]at this;exact this
  refine hn _ h4 v4 _ tx.symm (by simp[t0,t1,T]) (by simp[t0,t1,T]) (by simp[t0,t1,T]) (by simp[t0,t1,T]) sn a4 fun q => ?_;have:=(o4.from q).1;have:=N.D gD;omega
def Nu(b:Nat){h:N}(laid:Ab.LaidIn h pA){kv tv:V}{key l:List Nat}(sk:SN h kv key)(sl:SN h tv l)(j:L key<=32)(hl:L l < 1000000000)(K:KP)(hk:∀ h',a_ h h'->K (.ret (.agg ⟨(Bl.keyed1 key l).map dk⟩)) h') :
  FK b 30 [kv,tv] h K:=by
 refine ip b (zG b) UG rfl ?_;have C:∀ hx,iC (E b).tojo 31 kv hx=U (I X (L key:Int)):=fun hx=>iT (j' b) sk;have h2:¬ (32:Int) < (L key:Int):=iA
 obtain⟨hA,eA,T,gA⟩:=kQ h jn;have hc:jd (E b).tojo 62 h=U (pO h.Q 0,hA):=by rw[eA];exact Jx b h
 simp[Jx,pF,qM,yp,xu,-Jx,-xu,hc,C,h2];exact Vps b laid T (ai _) gA (sk.R T) (sl.R T) j hl jA jA jA K hk
end
section
attribute [local simp] YA Jg5 Z0 zG Vw
def I1(b:Nat){h:N}(laid:Ab.LaidIn h pA){tv:V}{l:List Nat}(sl:SN h tv l)(hl:L l < 1000000000)(K:KP)(hk:∀ h',a_ h h'->K (.ret (.agg ⟨(Bl.keyed1 [] l).map dk⟩)) h') :
  FK b 66 [tv] h K:=by
 refine ip b (Z0 b) Vbq rfl ?_;obtain⟨hA,eA,C,gA⟩:=kQ h jn;have T:jd (E b).tojo 62 h=U (pO h.Q 0,hA):=by rw[eA];exact Jx b h
 simp[Jx,-Jx,T];refine Nu b (LaidIn.R laid C) (kv:=M O 0 0) (key:=[]) Sl.nil (sl.R C) jA hl _ fun j a2 => ?_;have g2:j.A h.Q=U (S Y 1 jn):=a2.A gA;have kl:L (Bl.keyed1 [] l)=32:=oR _;have l2:=N.D g2;have st:iN j h.Q 0 ((Bl.keyed1 [] l).map dk)=U (j.set h.Q (U (S Y 1 ((Bl.keyed1 [] l).map dk)))):=by
  rw[jQ g2 (by simp[jn,kl])];congr 4
 have g3:iy (j.set h.Q (U (S Y 1 ((Bl.keyed1 [] l).map dk)))) h.Q 0 32=U (.agg ⟨(Bl.keyed1 [] l).map dk⟩):=by
  rw[V9 (by rw[gY l2,if_pos rfl]) (by simp[kl])];congr 3
 simp[Jx,mZ,st,kl,g3];exact hk _ ((C.trans a2).set _ (ai _) l2)
end
def AW(b:Nat)(B o:Nat)(h:N):j8 (E b).tojo 62 (pO B o) O O O h=U (M (U ⟨B,o,O⟩) 32 32,h):=kR
section
attribute [local simp] Dc Dc Kd zG Z0 Vw BN pF AB yg nJ zC qM Ju Ad wj wk HE Ya V5 FS yo Uy zy zB uH wg mZ yp p6 p7 p_ p9 p5 qd qc pZ pX pW pY qn qk qj qf qg qi qq
def Uvh(b:Nat){h:N}(laid:Ab.LaidIn h pA){kv tv:V}{key l:List Nat}(sk:SN h kv key)(sl:SN h tv l)(hp:L key < 1000000000)(hl:L l < 1000000000)(K:KP)(hk:∀ h',a_ h h'->K (.ret (.agg ⟨(Bl.keyed key l).map dk⟩)) h') :
  FK b 30 [kv,tv] h K:=by
 by_cases T:L key<=32
 ·have e:Bl.keyed key l=Bl.keyed1 key l:=by unfold Bl.keyed;rw[yF T]
  rw[e]at hk;exact Nu b laid sk sl T hl K hk
 ·have e:Bl.keyed key l=Bl.keyed1 (Bl.keyed1 [] key) l:=by
   unfold Bl.keyed;have : Nat.ble (L key) 32=J:=by
    cases hq:Nat.ble (L key) 32 with
    | false=>rfl
    | true=>rw[cR]at hq;omega
   rw[this]
  rw[e]at hk;refine ip b (zG b) UG rfl ?_;have hb:∀ hx,iC (E b).tojo 31 kv hx=U (I X (L key:Int)):=fun hx=>iT (j' b) sk;have hc:(32:Int) < (L key:Int):=iA
  obtain⟨hA,eA,aA,gA⟩:=kQ h jn;have hr:jd (E b).tojo 62 h=U (pO h.Q 0,hA):=by rw[eA];exact Jx b h
  simp[Jx,xu,-Jx,-xu,hr,hb,hc];refine I1 b (LaidIn.R laid aA) (sk.R aA) hp _ fun j a2 => ?_;obtain⟨dg,hdg⟩:∃ d,d=Bl.keyed1 [] key:=⟨_,rfl⟩;rw[<- hdg]at hk ⊢;have kl:L dg=32:=by rw[hdg];exact oR _
  obtain⟨C,eB⟩:∃ C,C=j.push (S Y 1 jn):=⟨_,rfl⟩;have h3:jd (E b).tojo 62 j=U (pO j.Q 0,C):=by rw[eB];exact Jx b j
  have gB:C.A j.Q=U (S Y 1 jn):=by rw[eB,N.F,if_pos rfl]
  have lB:=N.D gB;obtain⟨hC,eC⟩:∃ hC,hC=C.set j.Q (U (S Y 1 (dg.map dk))):=⟨_,rfl⟩;have hy:iN C j.Q 0 (dg.map dk)=U hC:=by
   rw[jQ gB (by simp[jn,kl]),eC];congr 4;simp[jn,kl]
  have gC:hC.A j.Q=U (S Y 1 (dg.map dk)):=by rw[eC,gY lB,if_pos rfl]
  have aC:a_ j hC:=by rw[eC,eB];exact(a_.push _ _).set _ (ai _) (by grind)
  simp[Jx,xu,-Jx,-xu,h3,kl,hy,AW];refine Vps b laid (aA.trans (a2.trans aC)) (ai _) ((a2.trans aC).A gA) (kv:=M (U ⟨j.Q,0,O⟩) 32 32) (key:=dg) ?_ (sl.R (aA.trans (a2.trans aC))) iA hl jA jA jA K hk;have:=(ij.new (n0:=0) (z:=1) (n:=32) (c:=32) (bw _) gC (by simp[kl]) kA (.inr rfl)).sl
  grind
end
section
attribute [local simp] Q56 Xlh Gb Xg2 Xcv XK TE Iu
def U05(b:Nat)(h:N)(ν:Nat){o:Int}(T:o < 1∨32 < o)(K:KP)(j:K (.ret (.pointer O)) h):FK b 148 [pO ν 0,I X o] h K:=by
 refine ip b (Gb b) WC rfl ?_;by_cases h1:o < 1
 ·simp[h1];exact j
 ·have C:32 < o:=iA
  simp[h1,C];exact j
def Uo0(b:Nat)(h:N)(ν:Nat){o:Int}(h1:1<=o)(h2:o<=32)(K:KP)(hk:K (.ret (.pointer (U ⟨ν,(o-1).toNat*32,O⟩))) h):FK b 148 [pO ν 0,I X o] h K:=by
 refine ip b (Gb b) WC rfl ?_;have j:¬ o < 1:=iA
 have C:¬ 32 < o:=iA
 have w:IntKind.i64.wrap (o-1)=o-1:=Jr iA iA;have T:0<=o-1/\o-1 < ((32:Nat):Int):=⟨iA,iA⟩;have hx:J1 (E b).tojo 74 (pO ν 0) (I X (o-1))=U (.pointer (U ⟨ν,(o-1).toNat*32,O⟩)):=by rw[Iu b T];simp
 simp[ju,j,C,w,hx]
 grind
end
def qR:List V:=List.replicate 16 zU
def U1m(b:Nat):oM (E b).tojo .neq 226 (.pointer O) (.pointer O)=U (.bool J):=kR
def Umz(b bk o:Nat):oM (E b).tojo .neq 226 (pO bk o) (.pointer O)=U (.bool Y):=kR
def Oq(b:Nat)(B o:Nat)(h:N):j8 (E b).tojo 62 (pO B o) O O O h=U (M (U ⟨B,o,O⟩) 32 32,h):=kR
def U5a(b:Nat)(B o:Nat)(h:N):j8 (E b).tojo 186 (pO B o) O O O h=U (M (U ⟨B,o,O⟩) 16 16,h):=kR
def Wal(b:Nat){h:N}{B:Nat}{D:Nat}(hD:0 < D){ds:List V}{v:V}{l:List Nat}(hg:h.A B=U (S Y 1 ds))(hd:L ds=D)(s:SN h v l) :
  ∃ h',rV (E b).tojo 31 (M (U ⟨B,0,O⟩) D D) v h=U (I X ((min (L l) D:Nat):Int),h')/\h'.A B=U (S Y 1 ((l.take D).map dk++ds.drop (min (L l) D)))/\h'.Q=h.Q/\∀ c,c≠B->h'.A c=h.A c:=by
 have hx:Nat.min (L l) D=min (L l) D:=rfl;have C:wK v=U (L l):=by rcases s with⟨c,rfl,_,e,_⟩ | ⟨bk,o,c,ow,z',pre,post,rfl,_⟩ <;> simp_all [wK]
 have j:sf 1 (Nat.min (L l) D) v h=U ((l.take D).map dk):=by
  rcases s with⟨c,rfl,_,e,e2⟩ | ⟨bk,o,c,ow,z',pre,post,rfl,h1,h2,h3, -⟩
  ·have : l=[]:=bB e;subst this;simp[sf]
  ·have h4:nQ (Nat.min (L l) D*1) ((pre++l.map dk++post).drop o)=U ((l.take D).map dk):=by
    rw[hx,<- h2,b9,di,th (by simp;omega),bm (by simp;omega),<- dJ,cg]
    grind
   simp only[sf,Ab.cellsAt,h1,h4]
 have hr:uF.desc=.slice 5:=(j' b).d;cases hc:(l.take D).map dk with
 | nil =>
  have : l=[]:=by
   cases l with
   | nil=>rfl
   | cons x l=>simp_all
  subst this;refine⟨h,?_,by grind,rfl,fun _ _=>rfl⟩;rw[hc]at j;simp only[rV,rX,hr,C,sX,k_,j]
 | cons x T =>
  have hl:L (x::T)<=L ds:=by grind
  have hk:storeAt h ⟨B,0,O⟩ (x::T)=U (h.set B (U (S Y 1 ((x::T)++ds.drop (L (x::T)))))):=by
   simp only[storeAt,hg];rw[q_ iA];simp
  rw[hc]at j;refine⟨h.set B (U (S Y 1 ((x::T)++ds.drop (L (x::T))))),?_,?_,rfl,fun c hc=>by rw[gY (N.D hg),if_neg (Ne.symm hc)]⟩
  ·simp only[rV,rX,hr,C,sX,k_,j,hk];rfl
  ·rw[gY (N.D hg),if_pos rfl]
   grind
def na(ks ds:List Nat):List Nat:=(Bl.keyed1 ks ds).take 16
section
attribute [local simp] Qj4 Qot Vz Gb zG Jx Vw BH Rm
def Utp(b:Nat){h:N}(laid:Ab.LaidIn h pA){ν z:Nat}{ow:Bool}{pre post:List V}{ks ds:List Nat}{o:Int}(h1:1<=o)(h2:o<=32)(hg:h.A ν=U (.cells ow z (pre++ks.map dk++post)))(hp:L pre=(o-1).toNat*32)(hks:L ks=32)(hl:L ds=32)
  (K:KP) (hk:∀ h',a_ h h'->K (.ret (.agg ⟨(na ks ds).map dk⟩)) h'):FK b 110 [pO ν 0,I X o,.agg ⟨ds.map dk⟩] h K:=by
 refine ip b (Vz b) Y6e rfl ?_;obtain⟨C,eA⟩:∃ C,C=h.push (S Y 1 (ds.map dk)):=⟨_,rfl⟩;obtain⟨hB,eB⟩:∃ hB,hB=C.push (S Y 1 qR):=⟨_,rfl⟩;have aA:=jG eA;have aB:=jG eB;have nA:=lT eA;have gA:C.A h.Q=U (S Y 1 (ds.map dk)):=by rw[eA,N.F,if_pos rfl]
 have gB:hB.A C.Q=U (S Y 1 qR):=by rw[eB,N.F,if_pos rfl]
 have bx:nP (.agg ⟨ds.map dk⟩) h=U (pO h.Q 0,C):=by rw[eA];exact tB (by simp[hl])
 have hr:jd (E b).tojo 186 C=U (pO C.Q 0,hB):=by rw[eB];exact lY b C
 have ld:L (ds.map dk)=32:=by grind
 have sk:SN hB (M (U ⟨ν,(o-1).toNat*32,O⟩) 32 32) ks:=.inr ⟨ν,(o-1).toNat*32,32,ow,z,pre,post,by rw[hks],(aA.trans aB).A hg,hp,jA,iA,by unfold iJ;omega,fun q=>by unfold iJ at q;omega⟩;have sd:SN hB (M (U ⟨h.Q,0,O⟩) 32 32) ds:=.inr ⟨h.Q,0,32,Y,1,[],[],by rw[hl],by simpa using aB.A gA,rfl,jA,iA,by unfold iJ;omega,fun q=>by simp⟩;obtain⟨_,T,c1,n1,rfl,aC⟩:=Nu b (LaidIn.R laid (aA.trans aB)) sk sd iA iA (fun r h'=>r=.ret (.agg ⟨(Bl.keyed1 ks ds).map dk⟩)/\a_ hB h') (fun h' q=>⟨rfl,q⟩);simp[lY,hl,bx,-lY,hr];refine Uo0 b hB ν h1 h2 _ ?_;simp[lY,Umz];have kl:L (Bl.keyed1 ks ds)=32:=oR _;obtain⟨hZ,eZ⟩:∃ hZ,hZ=T.push (S Y 1 jn):=⟨_,rfl⟩;have h3:jd (E b).tojo 62 T=U (pO T.Q 0,hZ):=by rw[eZ];exact Jx b T
 have gZ:hZ.A T.Q=U (S Y 1 jn):=by rw[eZ,N.F,if_pos rfl]
 have aZ:=jG eZ;have lZ:=N.D gZ;obtain⟨hW,eW⟩:∃ hW,hW=hZ.set T.Q (U (S Y 1 ((Bl.keyed1 ks ds).map dk))):=⟨_,rfl⟩;have hn:iN hZ T.Q 0 ((Bl.keyed1 ks ds).map dk)=U hW:=by
  rw[jQ gZ (by simp[jn,kl]),eW];congr 4
 have gW:hW.A T.Q=U (S Y 1 ((Bl.keyed1 ks ds).map dk)):=by rw[eW,gY lZ,if_pos rfl]
 have aW:a_ T hW:=by rw[eW];exact aZ.set _ (ai _) lZ
 refine jf [⟨30,[M (U ⟨ν,(o-1).toNat*32,O⟩) 32 32,M (U ⟨h.Q,0,O⟩) 32 32],hB,.agg ⟨(Bl.keyed1 ks ds).map dk⟩,T,Y⟩] ?_ YD.1 (by simp[YD.2,Y13,lY,ju,Oq,-Jx,h3,kl,hn];first | exact⟨rfl,rfl⟩ | rfl) ?_ ?_
 ·exact nK ⟨c1,n1,fun _ c hc=>aC.2 c hc⟩
 ·simp[PZ,lY]
 simp[lY];have hy:hW.A C.Q=U (S Y 1 qR):=aW.A (aC.A gB);have e1:SN hW (M (U ⟨T.Q,0,O⟩) 32 32) (Bl.keyed1 ks ds):=.inr ⟨T.Q,0,32,Y,1,[],[],by rw[kl],by grind,rfl,jA,iA,by unfold iJ;omega,fun q=>by simp⟩;obtain⟨hX,cp,gX,nX,kX⟩:=Wal b (D:=16) iA hy (by simp[qR]) e1;have hx:hX.A C.Q=U (S Y 1 ((na ks ds).map dk)):=by
  rw[gX];rw[kl];simp[qR,na]
 have j:L (na ks ds)=16:=by simp[na,kl]
 refine jf [] jA UZ.1 (by simp[UZ.2,Y1p,lY,ju,Oq,U5a,cp];first | exact⟨rfl,rfl⟩ | rfl) ?_ ?_
 ·simp[P2,lY]
 have lX:=N.D hx;have tk:((na ks ds).map dk).take 16=(na ks ds).map dk:=aj (by simp[j]);have h4:((na ks ds).map dk).drop 16=[]:=ck (by simp[j]);have ho:iy hX C.Q 0 16=U (.agg ⟨(na ks ds).map dk⟩):=by
  rw[V9 hx (by simp[j])];simp[tk]
 have a2:iN hX C.Q 0 ((na ks ds).map dk)=U (hX.set C.Q (U (S Y 1 ((na ks ds).map dk)))):=by
  rw[jQ hx (by simp[j])]
  grind
 have hb:iy (hX.set C.Q (U (S Y 1 ((na ks ds).map dk)))) C.Q 0 16=U (.agg ⟨(na ks ds).map dk⟩):=by
  rw[V9 (by rw[gY lX,if_pos rfl]) (by simp[j])];simp[tk]
 simp[lY,ho,a2,j,hb];have aX:a_ h hX:=⟨by rw[nX];exact ao (aA.trans aB).1 (aC.trans aW).1,fun c hc=>by
  rw[kX c iA,(aC.trans aW).2 c (aq hc (aA.trans aB).1),(aA.trans aB).2 c hc]⟩
 exact hk _ (aX.set _ iA lX)
end
def rD(ks:List Nat)(o:Int):List Nat:=(ks.drop ((o-1).toNat*32)).take 32
def Vpg:∀ (xs ys:List Nat),L xs=L ys->kw (List.replicate (L xs) 1) (xs.map dk) (ys.map dk)=U (decide (xs=ys))
 | [],[],_=>rfl
 | x::xs,y::ys,h=>by
  have ih:=Vpg xs ys (by grind);simp only[bI,cy,aH,kw,ih];have : AG 1 (dk x) (dk y)=U (decide (x=y)):=by
   show(if IntKind.u8=IntKind.u8 then U ((x:Int) == (y:Int))else O)=_;simp only[if_true];congr 1
   grind
  simp_all
def We2{x y:List Nat}(j:L x=16)(C:L y=16):kw Wch (x.map dk) (y.map dk)=U (decide (x=y)):=by
 have:=Vpg x y iA;rw[j]at this;rw[<- this];congr 1
def SP(b:Nat){x y:List Nat}(j:L x=16)(C:L y=16):oM (E b).tojo .eql 186 (.agg ⟨x.map dk⟩) (.agg ⟨y.map dk⟩)=U (.bool (decide (x=y))):=by
 have e:oM (E b).tojo .eql 186 (.agg ⟨x.map dk⟩) (.agg ⟨y.map dk⟩)=(kw Wch (x.map dk) (y.map dk)).map .bool:=kR
 rw[e,We2 j C];rfl
def Uwh{ks:List Nat}(hks:L ks=1024){o:Int}(h1:1<=o)(j:o<=32):L (rD ks o)=32:=by
 simp[rD];omega
def Uwg{ks:List Nat}(o:Int):ks.map dk=(ks.take ((o-1).toNat*32)).map dk++(rD ks o).map dk++((ks.drop ((o-1).toNat*32)).drop 32).map dk:=by
 rw[<- bF,<- bF,rD,b9,bz,bz]
def Uxa{k d:List Nat}:L (na k d)=16:=by
 have j:L (Bl.keyed1 k d)=32:=oR _;simp[na,j]
def Ux4(b:Nat){h:N}(laid:Ab.LaidIn h pA){ν z:Nat}{ow:Bool}{ks ds:List Nat}{o:Int}(h1:1<=o)(C:o<=32)(T:h.A ν=U (.cells ow z (ks.map dk)))(hks:L ks=1024)(j:L ds=32)
  (K:KP) (hk:∀ h',a_ h h'->K (.ret (.agg ⟨(na (rD ks o) ds).map dk⟩)) h'):FK b 110 [pO ν 0,I X o,.agg ⟨ds.map dk⟩] h K :=
 Utp b laid h1 C (by rw[T,Uwg o]) (by simp;omega) (Uwh hks h1 C) j K hk
section
attribute [local simp] Qhb Ql3 Vj Gb mZ Vz BH 
def Uig(b:Nat){h:N}(laid:Ab.LaidIn h pA){ν z:Nat}{ow:Bool}{ks ds tg:List Nat}{o:Int}(hg:h.A ν=U (.cells ow z (ks.map dk)))(hks:L ks=1024)(T:L ds=32)(hx:L tg=16)
  (h1:1<=o) (h2:o<=32) (K:KP) (hk:∀ h',a_ h h'->K (.ret (.bool (decide (na (rD ks o) ds=tg)))) h'):FK b 158 [pO ν 0,I X o,.agg ⟨ds.map dk⟩,.agg ⟨tg.map dk⟩] h K:=by
 refine ip b (Vj b) WV rfl ?_;obtain⟨C,eA⟩:∃ C,C=h.push (S Y 1 (ds.map dk)):=⟨_,rfl⟩;obtain⟨j,eB⟩:∃ j,j=C.push (S Y 1 (tg.map dk)):=⟨_,rfl⟩;have aA:=jG eA;have aB:=jG eB;have gA:C.A h.Q=U (S Y 1 (ds.map dk)):=by rw[eA,N.F,if_pos rfl]
 have gB:j.A C.Q=U (S Y 1 (tg.map dk)):=by rw[eB,N.F,if_pos rfl]
 have hr:nP (.agg ⟨ds.map dk⟩) h=U (pO h.Q 0,C):=by rw[eA];exact tB (by simp[T])
 have h3:nP (.agg ⟨tg.map dk⟩) C=U (pO C.Q 0,j):=by rw[eB];exact tB (by simp[hx])
 simp[hr,h3]
 skip
 obtain⟨_,_,c1,n1,rfl,rfl⟩:=Uo0 b j ν h1 h2 (fun r h'=>r=.ret (.pointer (U ⟨ν,(o-1).toNat*32,O⟩))/\j=h') ⟨rfl,rfl⟩;obtain⟨_,hC,c2,n2,rfl,aC⟩:=Ux4 b (LaidIn.R laid (aA.trans aB)) h1 h2 ((aA.trans aB).A hg) hks T (fun r h'=>r=.ret (.agg ⟨(na (rD ks o) ds).map dk⟩)/\a_ j h') (fun h' q=>⟨rfl,q⟩);have hl:iy j h.Q 0 32=U (.agg ⟨ds.map dk⟩):=by
  rw[V9 (aB.A gA) (by simp[T]),ba,aj (by simp[T])]
 have hb:iy hC C.Q 0 16=U (.agg ⟨tg.map dk⟩):=by
  rw[V9 (aC.A gB) (by simp[hx]),ba,aj (by simp[hx])]
 refine jf [⟨148,[pO ν 0,I X o],j,.pointer (U ⟨ν,(o-1).toNat*32,O⟩),j,Y⟩,⟨110,[pO ν 0,I X o,.agg ⟨ds.map dk⟩],j,.agg ⟨(na (rD ks o) ds).map dk⟩,hC,Y⟩] ?_ HN.1 (by simp[HN.2,XF,Xa,WY,hl,hb,SP b Uxa hx,qy,Umz];first | exact⟨rfl,rfl⟩ | rfl) ?_ ?_
 ·exact tu ⟨c1,n1,fun _ _ _=>rfl⟩ ⟨c2,n2,fun _ c hc=>aC.2 c hc⟩
 ·simp[F0,hl,hb]
 simp;exact hk hC ((aA.trans aB).trans aC)
def Ukk(b:Nat){h:N}(laid:Ab.LaidIn h pA){ν z:Nat}{ow:Bool}{ks ds T:List Nat}{o:Int}(hg:h.A ν=U (.cells ow z (ks.map dk)))(hks:L ks=1024)(h2:L ds=32)(hl:L T=16)
  (ho:¬ (1<=o/\o<=32)) (K:KP) (hk:∀ h',a_ h h'->K (.ret (.bool (J))) h'):FK b 158 [pO ν 0,I X o,.agg ⟨ds.map dk⟩,.agg ⟨T.map dk⟩] h K:=by
 refine ip b (Vj b) WV rfl ?_;obtain⟨C,eA⟩:∃ C,C=h.push (S Y 1 (ds.map dk)):=⟨_,rfl⟩;obtain⟨j,eB⟩:∃ j,j=C.push (S Y 1 (T.map dk)):=⟨_,rfl⟩;have aA:=jG eA;have aB:=jG eB;have gA:C.A h.Q=U (S Y 1 (ds.map dk)):=by rw[eA,N.F,if_pos rfl]
 have gB:j.A C.Q=U (S Y 1 (T.map dk)):=by rw[eB,N.F,if_pos rfl]
 have hc:nP (.agg ⟨ds.map dk⟩) h=U (pO h.Q 0,C):=by rw[eA];exact tB (by simp[h2])
 have hx:nP (.agg ⟨T.map dk⟩) C=U (pO C.Q 0,j):=by rw[eB];exact tB (by simp[hl])
 simp[hc,hx];obtain⟨_,_,c1,n1,rfl,rfl⟩:=U05 b j ν (o:=o) iA (fun r h'=>r=.ret (.pointer O)/\j=h') ⟨rfl,rfl⟩;refine jf [⟨148,[pO ν 0,I X o],j,.pointer O,j,Y⟩] ?_ HN.1 (by simp[HN.2,XF,Xa,WY,U1m];first | exact⟨rfl,rfl⟩ | rfl) ?_ ?_
 ·exact nK ⟨c1,n1,fun _ _ _=>rfl⟩
 ·simp[F0]
 simp;exact hk j (aA.trans aB)
end
def Ut9(b:Nat){h:N}(laid:Ab.LaidIn h pA){ν z:Nat}{ow:Bool}{ks ds tg:List Nat}{o:Int}(hg:h.A ν=U (.cells ow z (ks.map dk)))(hks:L ks=1024)(j:L ds=32)(C:L tg=16)
  (K:KP) (hk:∀ h',a_ h h'->K (.ret (.bool (decide (1<=o/\o<=32) && decide (na (rD ks o) ds=tg)))) h'):FK b 158 [pO ν 0,I X o,.agg ⟨ds.map dk⟩,.agg ⟨tg.map dk⟩] h K:=by
 by_cases T:1<=o/\o<=32
 ·exact Uig b laid hg hks j C T.1 T.2 K fun h' a=>by
   grind
 ·exact Ukk b laid hg hks j C T K fun h' a=>by
   grind
structure jv where
 ks:List Nat
 dg:List Nat
 lk:Int
 hks:L ks=1024
 hdg:L dg=32
def kI(l:List Nat):List Int:=l.map Int.ofNat
def nW(l:List Int):List Nat:=l.map Int.toNat
def tO(a:jv)(o:Int)(t:List Int):Bool:=decide (1<=o/\o<=32) && decide (na (rD a.ks o) a.dg=nW t)
def zg(x:List Int):List Int:=kI (Bl.keyed1 [] (nW x))
def lS(x:List Int)(st:List (List Int)):Except Int (List (List Int)):=if L st < 16 then .ok (x::st)else .error 16
def jC(a:jv)(code:Int)(data:List Int)(st:List (List Int)):Except Int (List (List Int)) :=
 if code=129 then(match st with | x::r=>(lS x r).bind (lS x) | [] => .error 16)
 else if code=130 then(match st with | _::r => .ok r | [] => .error 16)
 else if code=131 then(match st with | x::r=>lS (zg x) r | [] => .error 16)
 else if code=132 then(match st with | x::y::r=>lS (vc (decide (x=y))) r | _ => .error 16)
 else if code=133 then(match st with | x::r=>if kS x then .ok r else .error 16 | [] => .error 16)
 else if code=134 then(match st with | x::y::r=>if L x=1/\L y=16 then lS (vc (tO a (x.getD 0 0) y)) r else .error 16 | _ => .error 16)
 else if code=135 then(match st with | x::r=>if L x=4 then(if rA x 4<=a.lk then .ok r else .error 18)else .error 16 | [] => .error 16)
 else if code=139 then(match st with | x::r=>(lS x r).bind (lS [(L x:Int)]) | [] => .error 16)
 else lS data st
def nF(a:jv)(code:Int)(data:List Int)(st:List (List Int))(op:List Br):Except Int (List (List Int) × List Br) :=
 match kx code st op with
 | some O => .error 16
 | some (U p) => .ok p
 | none=>if vf op then .ok (st,op)else(jC a code data st).map fun j=>(j,op)
def qZ(a:jv):List (Int × List Int)->List (List Int)->List Br->Except Int (List (List Int) × List Br)
 | [],st,op => .ok (st,op)
 | (c,d)::l,st,op=>(nF a c d st op).bind fun p=>qZ a l p.1 p.2
def rC:List (List Int)->List (List Int)->Except Int (List (List Int))
 | [],st => .ok st
 | x::l,st=>if L x<=64 then(lS x st).bind (rC l)else .error 16
def zj:Except Int (List (List Int) × List Br)->Int
 | .error z=>z
 | .ok (st,op)=>if L op=0/\L st=1/\kS (st.getD 0 [])=Y then 0 else 16
def Ap(a:jv)(l:List (Int × List Int))(j:List (List Int)):Int:=match rC j []with
 | .error z=>z
 | .ok st=>zj (qZ a l st [])
def mw(a:jv)(xs:List Int)(j:List (List Int)):Int :=
 if L xs > 256 then 16 else match pz (L xs) xs with
 | none=>16
 | some l=>if L l > 64 then 16 else Ap a l j
structure Wd (h:N) (MB:Nat->Prop) (e:iu) (a:jv):Prop where
 laid:Ab.LaidIn h pA
 low:∀ c,MB c->3<=c
 Q:3<=h.Q
 nota:∃ ν z ow,e.nk=pO ν 0/\h.A ν=U (.cells ow z (a.ks.map dk))/\¬ MB ν
 dg:e.dig=a.dg.map dk
 lk:e.lk=a.lk
def U6k{x:Nat × List V}(j:x ∈ pA):x.1 < 3:=by
 simp only[pA,ar,ct,or_false]at j
 grind
def Wd.mv{h h':N}{MB j:Nat->Prop}{e:iu}{a:jv}(w:Wd h MB e a)(m:Mv MB j h h'):Wd h' j e a:=by
 obtain⟨laid,low,nx,⟨ν,z,ow,q1,T,q3⟩,dg,lk⟩:=w;refine⟨fun x hx => ?_,fun c C => ?_,ao nx m.Q,⟨ν,z,ow,q1,?_,fun C => ?_⟩,dg,lk⟩
 ·have g:=laid x hx;rw[m.same x.1 (N.D g) (fun hb=>by have:=low _ hb;have:=U6k hx;omega)];exact g
 ·rcases m.sub c C with h | h
  ·grind
  ·omega
 ·rw[m.same ν (N.D T) q3];exact T
 ·rcases m.sub ν C with h | h
  ·exact q3 h
  ·have:=N.D T;omega
def IZ{y:List Int}(j:Bytes y):y.map i8=(nW y).map dk:=by
 rw[nW,bL];apply bK;intro z C;have:=j z C;show I .u8 z=I .u8 ((z.toNat:Nat):Int)
 grind
def U9u(b:Nat){h:N}{v:V}{y:List Int}(s:SB h v y)(T:L y=16):∃ bk o,Gv (E b).tojo 186 v=U (pO bk o)/\iy h bk o 16=U (.agg ⟨y.map i8⟩):=by
 rcases s with⟨c,_,_,e,_⟩ | ⟨bk,o,c,ow,z',pre,post,rfl,j,C,g3,g4,_⟩
 ·omega
 ·refine⟨bk,o,?_,?_⟩
  ·have hd:CZ.desc=.array 16 5:=kR
   simp only[Gv,E7,hd,T];rfl
  ·rw[V9 j (by simp;omega),b9,<- C,di,bm (by simp;omega),aj (by simp;omega)]
def Wd.R{h h':N}{MB:Nat->Prop}{e:iu}{a:jv}(w:Wd h MB e a)(o:a_ h h'):Wd h' MB e a:=w.mv (Mv.R o)
def jy.env{h:N}{MB:Nat->Prop}{μ:Nat}{e:iu}{ps:List (V × List Int)}{op:List Br}(M_:jy h MB μ e ps op):Zq h μ 0=U e.nk/\iy h μ 1 32=U (.agg ⟨e.dig⟩):=by
 obtain⟨⟨sv,ov,z,r⟩,_,_⟩:=M_;refine⟨?_,?_⟩
 ·rw[Z2 r.at'];rfl
 ·rw[V9 r.at' (by simp[e.len])];congr 3;show((e.dig ++ [I X e.lk]) ++ [sv,ov]).take 32=_;rw[b9,bm (by rw[e.hd];omega),aj (by rw[e.hd];omega)]
section
attribute [local simp] Qap Qby Xj qu Qu Ya Xc Qb8 Qau PU Q8p Dv qx Ay Az Q8h mZ BH Vj
def Uy2(b:Nat){h:N}{MB:Nat->Prop}{μ:Nat}{e:iu}{a:jv}{v w:V}{x y:List Int}{ps:List (V × List Int)}{op:List Br}(M_:jy h MB μ e ((v,x)::(w,y)::ps) op)(wd:Wd h MB e a)(hl:L ps < 900)(K:KP)
  (hk:L x=1->L y=16->∀ h',jy h' MB μ e ps op->Mv MB MB h h'->K (.ret (.bool (tO a (x.getD 0 0) y))) h') (hp:¬ (L x=1/\L y=16)->∀ h',Mv MB MB h h'->K (.panic (pe 16)) h'):FK b 126 [pO μ 0] h K:=by
 refine ip b (Xj b) WX rfl ?_;simp;refine uX b M_ (by simp;omega) _ fun h1 M1 m1 _ i1 _ => ?_;simp;refine uX b M1 iA _ fun h2 M2 m2 _ i2 _ => ?_;have jR:=fun j=>j_ (b:=b) (h1:=j) i1.sb;have T:=fun j=>j_ (b:=b) (h1:=j) i2.sb;have hr:=m1.trans m2;by_cases j:L x=1
 ·rw[j]at jR;have C:∀ j,iC (E b).tojo 31 v j=U (I X 1):=jR;by_cases hy:L y=16
  ·rw[hy]at T;have hb:∀ j,iC (E b).tojo 31 w j=U (I X 16):=T;simp[C,hb];refine vJ b h2 16 _ ?_;have hA:=wd.mv hr;obtain⟨ν,z,ow,q1,q2,q3⟩:=hA.nota;obtain⟨z1,rfl⟩:∃ z1,x=[z1]:=by
    match x,j with
    | [z1],_=>simp
   have a2:=i1.mv m2;obtain⟨bk,o,x1,x2,x3⟩:=sL (b:=b) a2.sb (k:=.i64) (i:=0) (z:=z1) rfl;obtain⟨bt,ot,y1,y2⟩:=U9u b i2.sb hy;obtain⟨e1,e2⟩:=M2.env;rw[q1]at e1;rw[hA.dg]at e2;rw[IZ i2.by8]at y2;have hz:=i1.by8 z1 jA;have w1:IntKind.i64.wrap z1=z1:=Jr iA iA;have ho:L (nW y)=16:=by simp[nW,hy]
   obtain⟨_,h3,c1,n1,rfl,a3⟩:=Ut9 b hA.laid (o:=z1) q2 a.hks a.hdg ho (fun r h'=>r=.ret (.bool (tO a z1 y))/\a_ h2 h') (fun h' q=>⟨rfl,q⟩);simp only[i8]at x3;simp at x2;simp;refine jf [⟨158,[pO ν 0,I X z1,.agg ⟨a.dg.map dk⟩,.agg ⟨(nW y).map dk⟩],h2,.bool (tO a z1 y),h3,Y⟩] ?_ VS.1 (by simp[VS.2,X3o,ju,e1,e2,x2,x3,y1,y2,w1];first | exact⟨rfl,rfl⟩ | rfl) ?_ ?_
   ·exact nK ⟨c1,n1,fun _ c hc=>a3.2 c hc⟩
   ·simp[QJ]
   simp;exact hk rfl hy h3 (M2.R a3) (hr.trans (Mv.R a3))
  ·have hn:¬ (L y:Int)=16:=iA
   simp[C,T,hn];refine uC b h2 16 _ ?_;simp;exact hp (fun q=>hy q.2) h2 hr
 ·have hB:¬ (L x:Int)=1:=iA
  simp[jR,hB];refine uC b h2 16 _ ?_;simp;exact hp (fun q=>j q.1) h2 hr
def Vqv(b:Nat){h:N}{MB:Nat->Prop}{μ:Nat}{e:iu}{ps:List (V × List Int)}{op:List Br}(M_:jy h MB μ e ps op)(T:L ps < 2)(K:KP)
  (j:∀ h',Mv MB MB h h'->K (.panic (pe 16)) h'):FK b 126 [pO μ 0] h K:=by
 refine ip b (Xj b) WX rfl ?_;simp
 match ps,T with
 | [],_ =>
  refine wR b M_ _ ?_;simp;exact j h (Mv.refl _ _)
 | [p],_ =>
  obtain⟨v,x⟩:=p;refine uX b M_ jA _ fun h1 C m1 _ i1 _ => ?_;simp;refine wR b C _ ?_;simp;exact j h1 m1
end
def BQ(p:List Nat):∀ n ∈ Bl.out p,n < 256:=by
 intro n j;obtain⟨i, -,rfl⟩:=am.1 j;omega
def Vq4{l:List Nat}(h:∀ n ∈ l,n < 256):Bytes (kI l):=by
 intro z j;obtain⟨n,C,rfl⟩:=am.1 j
 grind
def E_(l:List Nat):l.map dk=(kI l).map i8:=by
 rw[kI,bL];rfl
def ND(x:List Int):L (zg x)=32:=by
 have : L (Bl.keyed1 [] (nW x))=32:=oR _;simp[zg,kI,this]
def Uqz(x:List Int):Bytes (zg x):=Vq4 (BQ _)
def qC.at{h:N}{MB:Nat->Prop}{B z:Nat}{ow:Bool}{xs:List Int}(hg:h.A B=U (.cells ow z (xs.map i8)))(j:Bytes xs)(hl:L xs < 1000000)(T:¬ MB B):qC h MB (M (U ⟨B,0,O⟩) (L xs) (L xs)) xs :=
 ⟨.inr ⟨B,0,L xs,ow,z,[],[],rfl,by grind,rfl,jA,ai _,by unfold iJ;omega,fun q=>by unfold iJ at q;omega⟩,j,fun c C=>by cases C;exact T⟩
def uW(b:Nat)(h:N)(code:Int)(dv:V):nP (.agg ⟨[I X code,dv]⟩) h=U (pO h.Q 0,h.push (S Y 1 [I X code,dv])):=rfl
def qs(h:N)(code:Int)(dv:V):Zq (h.push (S Y 1 [I X code,dv])) h.Q 0=U (I X code):=(Z2 (z:=1) (ow:=true) (c:=[I X code,dv]) ((N.F _ _ _).trans (if_pos rfl))).trans rfl
def Wc8(h:N)(code:Int)(dv:V):Zq (h.push (S Y 1 [I X code,dv])) h.Q 1=U dv:=(Z2 (z:=1) (ow:=true) (c:=[I X code,dv]) ((N.F _ _ _).trans (if_pos rfl))).trans rfl
structure At (h:N) (MB:Nat->Prop) (μ:Nat) (e:iu) (a:jv) (ps:List (V × List Int)) (op:List Br) (dv:V) (data:List Int):Prop where
 m:jy h MB μ e ps op
 w:Wd h MB e a
 i:qC h MB dv data
 l1:L ps<=16
 l2:L op < 1000
 l3:∀ p ∈ ps,L p.2<=64
section
variable(b:Nat){h:N}{MB:Nat->Prop}{μ:Nat}{e:iu}{a:jv}{ps:List (V × List Int)}{op:List Br}{dv:V}{data:List Int}(A:At h MB μ e a ps op dv data)
include A
section
attribute [local simp] Xq Xw X8 U9 V0 Qv X9 Xs Xm Ya Qu Xh Z0 Jx Vw Yv Xt Xr Xc Xj Xi Vv Vu Vd Z8
theorem Uzp(hoff:vf op=Y){code:Int}(j:kx code [] []=O)(K:KP)(C:∀ h',tq MB h μ e (ps.map (·.2)) op h'->K (.ret (.tuple #[])) h'):gr Tryz.prog (E b).G 87 [pO μ 0,.agg ⟨[I X code,dv]⟩] h K:=by
 refine mf (E b) (lQ _ _) (Uc b) (Jh b) iI (Ui b) (X8 b) l_.1 l_.2.1 l_.2.2 rfl ?_;simp[uW b,qs];refine xW b j _ ?_;simp;refine(wM b (A.m.R (a_.push _ _)) A.l2 _ ?_).ok;simp[hoff];exact C _ ⟨ps,MB,rfl,A.m.R (a_.push _ _),Mv.R (a_.push _ _)⟩
end
variable(hoff:vf op=J)
include hoff
section
attribute [local simp] Xq Xw X8 U9 V0 Qv X9 Xs Xm Ya Qu Xh Z0 Jx Vw Yv Xt Xr Xc Xj Xi Vv Vu Vd Z8
theorem Uty(K:KP)(hk:∀ j,jC a 130 data (ps.map (·.2))=.ok j->∀ h',tq MB h μ e j op h'->K (.ret (.tuple #[])) h')(hp:∀ z,jC a 130 data (ps.map (·.2))=.error z->∀ h',tL MB h h'->K (.panic (pe z)) h') :
  gr Tryz.prog (E b).G 87 [pO μ 0,.agg ⟨[I X 130,dv]⟩] h K:=by
 have C:=A.m.R (a_.push h (S Y 1 [I X 130,dv]));have T:Mv MB MB h (h.push (S Y 1 [I X 130,dv])):=Mv.R (a_.push _ _);refine mf (E b) (lQ _ _) (Uc b) (Jh b) iI (Ui b) (X8 b) l_.1 l_.2.1 l_.2.2 rfl ?_;simp[uW b,qs];refine xW b (by simp[kx]) _ ?_;simp;refine(wM b C A.l2 _ ?_).ok;simp[hoff,qs]
 match ps,A with
 | [],A =>
  refine(wR b C _ ?_).ok;simp;exact hp 16 (by simp[jC]) _ ⟨MB,T⟩
 | (v,x)::ps,A =>
  refine(uX b C (by have:=A.l1;grind) _ fun h1 M1 m1 _ i1 _ => ?_).ok;simp;exact hk _ (by simp[jC]) _ ⟨ps,MB,rfl,M1,T.trans m1⟩
end
end
section
attribute [local simp] Q4 Qds Xi Qu Ya Xc qx Ay Az PU XB V0 
def Uuv(b:Nat){h:N}{MB:Nat->Prop}{μ:Nat}{e:iu}{op:List Br}(M_:jy h MB μ e [] op)(K:KP)(j:K (.panic (pe 16)) h):FK b 127 [pO μ 0] h K:=by
 refine ip b (Xi b) XJ rfl ?_;simp;refine wR b M_ _ ?_;simp;exact j
end
section
variable(b:Nat){h:N}{MB:Nat->Prop}{μ:Nat}{e:iu}{a:jv}{ps:List (V × List Int)}{op:List Br}{dv:V}{data:List Int}(A:At h MB μ e a ps op dv data)(hoff:vf op=J)
include A hoff
section
attribute [local simp] Xq Xw X8 U9 V0 Qv X9 Xs Xm Ya Qu Xh Z0 Vw Yv Xt Xr Xc Xj Xi Vv Vu Vd Z8
theorem U0d(K:KP)(hk:∀ j,jC a 129 data (ps.map (·.2))=.ok j->∀ h',tq MB h μ e j op h'->K (.ret (.tuple #[])) h')(hp:∀ z,jC a 129 data (ps.map (·.2))=.error z->∀ h',tL MB h h'->K (.panic (pe z)) h') :
  gr Tryz.prog (E b).G 87 [pO μ 0,.agg ⟨[I X 129,dv]⟩] h K:=by
 have C:=A.m.R (a_.push h (S Y 1 [I X 129,dv]));have m0:Mv MB MB h (h.push (S Y 1 [I X 129,dv])):=Mv.R (a_.push _ _);refine mf (E b) (lQ _ _) (Uc b) (Jh b) iI (Ui b) (X8 b) l_.1 l_.2.1 l_.2.2 rfl ?_;simp[Jx,uW b,qs];refine xW b (by simp[kx]) _ ?_;simp[Jx];refine(wM b C A.l2 _ ?_).ok;simp[Jx,hoff,qs]
 match ps,A with
 | [],A =>
  refine(wR b C _ ?_).ok;simp[Jx];exact hp 16 (by simp[jC]) _ ⟨MB,m0⟩
 | (v,x)::ps,A =>
  have l1:L ps < 16:=by have:=A.l1;grind
  have lx:L x<=64:=A.l3 (v,x) jA;refine(uX b C iA _ fun h1 M1 m1 _ i1 _ => ?_).ok;simp[Jx];refine(yK b M1 i1 l1 _ fun h2 T M2 m2 => ?_).ok;simp[Jx];by_cases l2:L ps+1 < 16
  ·refine(yK b M2 (i1.mv m2) iA _ fun h3 hc M3 m3 => ?_).ok;simp[Jx];exact hk (x::x::ps.map (·.2)) (by simp[jC,lS,l1,l2,Except.bind]) _ ⟨_,hc,jA,M3,m0.trans (m1.trans (m2.trans m3))⟩
  ·refine(Cg b M2 (by simp;omega) _ ?_).ok;simp[Jx];exact hp 16 (by simp[jC,lS,l1,l2,Except.bind]) _ ⟨T,m0.trans (m1.trans m2)⟩
theorem Urn(K:KP)(hk:∀ hc,jC a 131 data (ps.map (·.2))=.ok hc->∀ h',tq MB h μ e hc op h'->K (.ret (.tuple #[])) h')(hp:∀ z,jC a 131 data (ps.map (·.2))=.error z->∀ h',tL MB h h'->K (.panic (pe z)) h') :
  gr Tryz.prog (E b).G 87 [pO μ 0,.agg ⟨[I X 131,dv]⟩] h K:=by
 have M0:=A.m.R (a_.push h (S Y 1 [I X 131,dv]));have m0:Mv MB MB h (h.push (S Y 1 [I X 131,dv])):=Mv.R (a_.push _ _);refine mf (E b) (lQ _ _) (Uc b) (Jh b) iI (Ui b) (X8 b) l_.1 l_.2.1 l_.2.2 rfl ?_;simp[Jx,uW b,qs];refine xW b (by simp[kx]) _ ?_;simp[Jx];refine(wM b M0 A.l2 _ ?_).ok;simp[Jx,hoff,qs]
 match ps,A with
 | [],A =>
  refine(wR b M0 _ ?_).ok;simp[Jx];exact hp 16 (by simp[jC]) _ ⟨MB,m0⟩
 | (v,x)::ps,A =>
  have l1:L ps < 16:=by have:=A.l1;grind
  have lx:L x<=64:=A.l3 (v,x) jA;refine(uX b M0 iA _ fun h1 M1 m1 _ i1 _ => ?_).ok;simp[Jx];have sn:SN h1 v (nW x):=by
   have:=i1.sb;rw[SB,IZ i1.by8]at this;rwa [show L x=L (nW x) by simp[nW]]at this
  refine(I1 b ((A.w.mv (m0.trans m1)).laid) sn (by simp[nW];omega) _ fun j a2 => ?_).ok;have kl:L (Bl.keyed1 [] (nW x))=32:=oR _;obtain⟨T,eZ⟩:∃ T,T=j.push (S Y 1 jn):=⟨_,rfl⟩;have hl:jd (E b).tojo 62 j=U (pO j.Q 0,T):=by rw[eZ];exact Jx b j
  have gZ:T.A j.Q=U (S Y 1 jn):=by rw[eZ,N.F,if_pos rfl]
  have aZ:=jG eZ;have lZ:=N.D gZ;obtain⟨C,eW⟩:∃ C,C=T.set j.Q (U (S Y 1 ((Bl.keyed1 [] (nW x)).map dk))):=⟨_,rfl⟩;have hb:iN T j.Q 0 ((Bl.keyed1 [] (nW x)).map dk)=U C:=by
   rw[jQ gZ (by simp[jn,kl]),eW];congr 4
  have gW:C.A j.Q=U (S Y 1 ((zg x).map i8)):=by rw[eW,gY lZ,if_pos rfl,E_];rfl
  have aW:a_ j C:=by rw[eW];exact aZ.set _ (ai _) lZ
  simp[Jx,-Jx,hl,kl,hb,Oq];have M2:=(M1.R a2).R aW;have iw:qC C MB (M (U ⟨j.Q,0,O⟩) 32 32) (zg x):=by
   have:=qC.at (MB:=MB) gW (Uqz x) (by rw[ND];omega) (fun q=>by have:=(M1.R a2).low _ q;omega);rwa [ND]at this
  refine(yK b M2 iw l1 _ fun h3 hx M3 m3 => ?_).ok;simp[Jx];exact hk (zg x::ps.map (·.2)) (by simp[jC,lS,l1]) _ ⟨_,hx,jA,M3,m0.trans (m1.trans ((Mv.R (a2.trans aW)).trans m3))⟩
theorem Ur2(K:KP)(hk:∀ j,jC a 132 data (ps.map (·.2))=.ok j->∀ h',tq MB h μ e j op h'->K (.ret (.tuple #[])) h')(hp:∀ z,jC a 132 data (ps.map (·.2))=.error z->∀ h',tL MB h h'->K (.panic (pe z)) h') :
  gr Tryz.prog (E b).G 87 [pO μ 0,.agg ⟨[I X 132,dv]⟩] h K:=by
 have C:=A.m.R (a_.push h (S Y 1 [I X 132,dv]));have m0:Mv MB MB h (h.push (S Y 1 [I X 132,dv])):=Mv.R (a_.push _ _);refine mf (E b) (lQ _ _) (Uc b) (Jh b) iI (Ui b) (X8 b) l_.1 l_.2.1 l_.2.2 rfl ?_;simp[Jx,uW b,qs];refine xW b (by simp[kx]) _ ?_;simp[Jx];refine(wM b C A.l2 _ ?_).ok;simp[Jx,hoff,qs]
 match ps,A with
 | [],A =>
  refine(wR b C _ ?_).ok;simp[Jx];exact hp 16 (by simp[jC]) _ ⟨MB,m0⟩
 | [(v,x)],A =>
  refine(uX b C jA _ fun h1 T m1 _ i1 _ => ?_).ok;simp[Jx];refine(wR b T _ ?_).ok;simp[Jx];exact hp 16 (by simp[jC]) _ ⟨MB,m0.trans m1⟩
 | (v,x)::(w,y)::ps,A =>
  have l1:L ps < 15:=by have:=A.l1;grind
  refine(uX b C (by simp;omega) _ fun h1 T m1 _ i1 _ => ?_).ok;simp[Jx];refine(uX b T iA _ fun h2 M2 m2 _ i2 _ => ?_).ok;have hx:=i1.mv m2;simp[Jx];refine(Uyk b hx.sb i2.sb i1.by8 i2.by8 _ ?_).ok;simp[Jx];refine(Uua b (decide (x=y)) M2 _ (fun _ v3 h3 hc M3 m3 => ?_) (fun q=>by omega)).ok;simp[Jx];exact hk (vc (decide (x=y))::ps.map (·.2)) (by simp[jC,lS];omega) _ ⟨_,hc,jA,M3,m0.trans (m1.trans (m2.trans m3))⟩
theorem Ujl(K:KP)(hk:∀ j,jC a 133 data (ps.map (·.2))=.ok j->∀ h',tq MB h μ e j op h'->K (.ret (.tuple #[])) h')(hp:∀ z,jC a 133 data (ps.map (·.2))=.error z->∀ h',tL MB h h'->K (.panic (pe z)) h') :
  gr Tryz.prog (E b).G 87 [pO μ 0,.agg ⟨[I X 133,dv]⟩] h K:=by
 have C:=A.m.R (a_.push h (S Y 1 [I X 133,dv]));have m0:Mv MB MB h (h.push (S Y 1 [I X 133,dv])):=Mv.R (a_.push _ _);refine mf (E b) (lQ _ _) (Uc b) (Jh b) iI (Ui b) (X8 b) l_.1 l_.2.1 l_.2.2 rfl ?_;simp[Jx,uW b,qs];refine xW b (by simp[kx]) _ ?_;simp[Jx];refine(wM b C A.l2 _ ?_).ok;simp[Jx,hoff,qs]
 match ps,A with
 | [],A =>
  refine(wR b C _ ?_).ok;simp[Jx];exact hp 16 (by simp[jC]) _ ⟨MB,m0⟩
 | (v,x)::ps,A =>
  have l1:L ps < 16:=by have:=A.l1;grind
  have lx:L x<=64:=A.l3 (v,x) jA;refine(uX b C iA _ fun h1 M1 m1 _ i1 _ => ?_).ok;simp[Jx];refine(RK b i1.sb iA _ fun h2 T => ?_).ok;cases ht:kS x with
  | true =>
   simp[Jx];refine(vJ b h2 16 _ ?_).ok;simp[Jx];exact hk (ps.map (·.2)) (by simp[jC,ht]) _ ⟨ps,MB,rfl,M1.R T,m0.trans (m1.trans (Mv.R T))⟩
  | false =>
   simp[Jx];refine(uC b h2 16 _ ?_).ok;simp[Jx];exact hp 16 (by simp[jC,ht]) _ ⟨MB,m0.trans (m1.trans (Mv.R T))⟩
theorem Uw4(K:KP)(hk:∀ T,jC a 134 data (ps.map (·.2))=.ok T->∀ h',tq MB h μ e T op h'->K (.ret (.tuple #[])) h')(hp:∀ z,jC a 134 data (ps.map (·.2))=.error z->∀ h',tL MB h h'->K (.panic (pe z)) h') :
  gr Tryz.prog (E b).G 87 [pO μ 0,.agg ⟨[I X 134,dv]⟩] h K:=by
 have M0:=A.m.R (a_.push h (S Y 1 [I X 134,dv]));have C:Mv MB MB h (h.push (S Y 1 [I X 134,dv])):=Mv.R (a_.push _ _);refine mf (E b) (lQ _ _) (Uc b) (Jh b) iI (Ui b) (X8 b) l_.1 l_.2.1 l_.2.2 rfl ?_;simp[Jx,uW b,qs];refine xW b (by simp[kx]) _ ?_;simp[Jx];refine(wM b M0 A.l2 _ ?_).ok;simp[Jx,hoff,qs]
 match ps,A with
 | [],A =>
  refine(Vqv b M0 jA _ fun h1 j => ?_).ok;simp[Jx];exact hp 16 (by simp[jC]) _ ⟨MB,C.trans j⟩
 | [(v,x)],A =>
  refine(Vqv b M0 jA _ fun h1 j => ?_).ok;simp[Jx];exact hp 16 (by simp[jC]) _ ⟨MB,C.trans j⟩
 | (v,x)::(w,y)::ps,A =>
  have l1:L ps < 15:=by have:=A.l1;grind
  refine(Uy2 b M0 (A.w.mv C) iA _ (fun q1 q2 h1 M1 j => ?_) (fun q h1 j => ?_)).ok
  ·simp[Jx];refine(Uua b (tO a (x.getD 0 0) y) M1 _ (fun _ v3 h3 hc M3 m3 => ?_) (fun q=>by omega)).ok;simp[Jx];exact hk (vc (tO a (x.getD 0 0) y)::ps.map (·.2)) (by simp[jC,lS,q1,q2];omega) _ ⟨_,hc,jA,M3,C.trans (j.trans m3)⟩
  ·simp[Jx];exact hp 16 (by simp only[jC,aH];simp[q]) _ ⟨MB,C.trans j⟩
theorem Uql(K:KP)(hk:∀ hc,jC a 135 data (ps.map (·.2))=.ok hc->∀ h',tq MB h μ e hc op h'->K (.ret (.tuple #[])) h')(hp:∀ z,jC a 135 data (ps.map (·.2))=.error z->∀ h',tL MB h h'->K (.panic (pe z)) h') :
  gr Tryz.prog (E b).G 87 [pO μ 0,.agg ⟨[I X 135,dv]⟩] h K:=by
 have M0:=A.m.R (a_.push h (S Y 1 [I X 135,dv]));have m0:Mv MB MB h (h.push (S Y 1 [I X 135,dv])):=Mv.R (a_.push _ _);refine mf (E b) (lQ _ _) (Uc b) (Jh b) iI (Ui b) (X8 b) l_.1 l_.2.1 l_.2.2 rfl ?_;simp[Jx,uW b,qs];refine xW b (by simp[kx]) _ ?_;simp[Jx];refine(wM b M0 A.l2 _ ?_).ok;simp[Jx,hoff,qs]
 match ps,A with
 | [],A =>
  refine(Uuv b M0 _ ?_).ok;simp[Jx];exact hp 16 (by simp[jC]) _ ⟨MB,m0⟩
 | (v,x)::ps,A =>
  have l1:L ps < 16:=by have:=A.l1;grind
  refine(Uye b M0 iA _ (fun C T h1 M1 j => ?_) (fun C h1 j => ?_) (fun C T h1 j => ?_)).ok
  ·simp[Jx];rw[A.w.lk]at T;exact hk (ps.map (·.2)) (by simp[jC,C,T]) _ ⟨ps,MB,rfl,M1,m0.trans j⟩
  ·simp[Jx];exact hp 16 (by simp[jC,C]) _ ⟨MB,m0.trans j⟩
  ·simp[Jx];rw[A.w.lk]at T;exact hp 18 (by simp[jC,C,T]) _ ⟨MB,m0.trans j⟩
theorem Urg(K:KP)(hk:∀ C,jC a 139 data (ps.map (·.2))=.ok C->∀ h',tq MB h μ e C op h'->K (.ret (.tuple #[])) h')(hp:∀ z,jC a 139 data (ps.map (·.2))=.error z->∀ h',tL MB h h'->K (.panic (pe z)) h') :
  gr Tryz.prog (E b).G 87 [pO μ 0,.agg ⟨[I X 139,dv]⟩] h K:=by
 have T:=A.m.R (a_.push h (S Y 1 [I X 139,dv]));have m0:Mv MB MB h (h.push (S Y 1 [I X 139,dv])):=Mv.R (a_.push _ _);refine mf (E b) (lQ _ _) (Uc b) (Jh b) iI (Ui b) (X8 b) l_.1 l_.2.1 l_.2.2 rfl ?_;simp[Jx,uW b,qs];refine xW b (by simp[kx]) _ ?_;simp[Jx];refine(wM b T A.l2 _ ?_).ok;simp[Jx,hoff,qs]
 match ps,A with
 | [],A =>
  refine(wR b T _ ?_).ok;simp[Jx];exact hp 16 (by simp[jC]) _ ⟨MB,m0⟩
 | (v,x)::ps,A =>
  have l1:L ps < 16:=by have:=A.l1;grind
  have lx:L x<=64:=A.l3 (v,x) jA;refine(uX b T iA _ fun h1 M1 m1 _ i1 _ => ?_).ok;simp[Jx];refine(yK b M1 i1 l1 _ fun h2 j M2 m2 => ?_).ok;have i2:=i1.mv m2;have len:=fun hx=>j_ (b:=b) (h1:=hx) i2.sb;have w8:IntKind.u8.wrap (L x:Int)=(L x:Int):=CM iA;simp[Jx,len,w8,ua];have m3:Mv j j h2 (h2.push (S Y 1 [i8 (L x:Int)])):=Mv.R (a_.push _ _);have i3:=qC.new (h:=h2) (MB:=j) M2.low (xs:=[(L x:Int)]) (by intro z hz;grind) jA;by_cases l2:L ps+1 < 16
  ·refine(yK b (M2.R (a_.push _ _)) i3 iA _ fun h4 hc M4 m4 => ?_).ok;simp[Jx];exact hk ([(L x:Int)]::x::ps.map (·.2)) (by simp[jC,lS,l1,l2,Except.bind]) _ ⟨_,hc,jA,M4,m0.trans (m1.trans (m2.trans (m3.trans m4)))⟩
  ·refine(Cg b (M2.R (a_.push _ _)) (by simp;omega) _ ?_).ok;simp[Jx];exact hp 16 (by simp[jC,lS,l1,l2,Except.bind]) _ ⟨j,m0.trans (m1.trans (m2.trans m3))⟩
theorem Usf{code:Int}(e1:¬ code=129)(e2:¬ code=130)(e3:¬ code=131)(e4:¬ code=132)(e5:¬ code=133)(e6:¬ code=134)(e7:¬ code=135)(c8:¬ code=136)(c9:¬ code=137)(hx:¬ code=138)(j:¬ code=139)(K:KP)(hk:∀ C,jC a code data (ps.map (·.2))=.ok C->∀ h',tq MB h μ e C op h'->K (.ret (.tuple #[])) h')(hp:∀ z,jC a code data (ps.map (·.2))=.error z->∀ h',tL MB h h'->K (.panic (pe z)) h') :
  gr Tryz.prog (E b).G 87 [pO μ 0,.agg ⟨[I X code,dv]⟩] h K:=by
 have T:=A.m.R (a_.push h (S Y 1 [I X code,dv]));have m0:Mv MB MB h (h.push (S Y 1 [I X code,dv])):=Mv.R (a_.push _ _);refine mf (E b) (lQ _ _) (Uc b) (Jh b) iI (Ui b) (X8 b) l_.1 l_.2.1 l_.2.2 rfl ?_;simp[Jx,uW b,qs];refine xW b (by simp[kx,c8,c9,hx]) _ ?_;simp[Jx];refine(wM b T A.l2 _ ?_).ok;simp[Jx,hoff,qs,Wc8,e1,e2,e3,e4,e5,e6,e7,j];by_cases l1:L ps < 16
 ·refine(yK b T (A.i.mv m0) l1 _ fun h2 hc M2 m2 => ?_).ok;simp[Jx];exact hk (data::ps.map (·.2)) (by simp[jC,lS,l1,e1,e2,e3,e4,e5,e6,e7,j]) _ ⟨_,hc,jA,M2,m0.trans m2⟩
 ·refine(Cg b T iA _ ?_).ok;simp[Jx];exact hp 16 (by simp[jC,lS,l1,e1,e2,e3,e4,e5,e6,e7,j]) _ ⟨MB,m0⟩
end
end
section
variable(b:Nat){h:N}{MB:Nat->Prop}{μ:Nat}{e:iu}{a:jv}{ps:List (V × List Int)}{op:List Br}{dv:V}{data:List Int}(A:At h MB μ e a ps op dv data)
include A
section
attribute [local simp] Xq Xw X8 U9 V0 Qv X9 Xs Xm Ya Qu Xh Z0 Jx Vw Yv Xt Xr Xc Xj Xi Vv Vu Vd Z8
theorem U3t(K:KP)(hk:∀ C j,kx 136 (ps.map (·.2)) op=U (U (C,j))->∀ h',tq MB h μ e C j h'->K (.ret (.tuple #[])) h')(hp:kx 136 (ps.map (·.2)) op=U O->∀ h',tL MB h h'->K (.panic (pe 16)) h') :
  gr Tryz.prog (E b).G 87 [pO μ 0,.agg ⟨[I X 136,dv]⟩] h K:=by
 have M0:=A.m.R (a_.push h (S Y 1 [I X 136,dv]));have m0:Mv MB MB h (h.push (S Y 1 [I X 136,dv])):=Mv.R (a_.push _ _);refine mf (E b) (lQ _ _) (Uc b) (Jh b) iI (Ui b) (X8 b) l_.1 l_.2.1 l_.2.2 rfl ?_;simp[uW b,qs];refine Wc5 b M0 (by have:=A.l1;omega) A.l2 (fun p hp=>by have:=A.l3 p hp;omega) _ (fun C j q h' m => ?_) (fun q h' m => ?_)
 ·obtain⟨hc,T,q1,q2,q3⟩:=m;simp;exact hk C j q h' ⟨hc,T,q1,q2,m0.trans q3⟩
 ·obtain⟨T,q1⟩:=m;simp;exact hp q h' ⟨T,m0.trans q1⟩
theorem Urw(K:KP)(hk:∀ C j,kx 137 (ps.map (·.2)) op=U (U (C,j))->∀ h',tq MB h μ e C j h'->K (.ret (.tuple #[])) h')(hp:kx 137 (ps.map (·.2)) op=U O->∀ h',tL MB h h'->K (.panic (pe 16)) h') :
  gr Tryz.prog (E b).G 87 [pO μ 0,.agg ⟨[I X 137,dv]⟩] h K:=by
 have M0:=A.m.R (a_.push h (S Y 1 [I X 137,dv]));have m0:Mv MB MB h (h.push (S Y 1 [I X 137,dv])):=Mv.R (a_.push _ _);refine mf (E b) (lQ _ _) (Uc b) (Jh b) iI (Ui b) (X8 b) l_.1 l_.2.1 l_.2.2 rfl ?_;simp[uW b,qs]
 match op,A with
 | [],A =>
  refine Uwl b M0 (.inl rfl) _ ?_;simp;exact hp (by simp[kx]) _ ⟨MB,m0⟩
 | x::l,A =>
  refine U6o b M0 (by have:=A.l2;grind) _ (fun T h1 M1 m1 => ?_) (fun T => ?_)
  ·simp;exact hk _ _ (by simp[kx,T]) _ ⟨ps,MB,rfl,M1,m0.trans m1⟩
  ·simp;exact hp (by simp[kx,T]) _ ⟨MB,m0⟩
theorem U1p(K:KP)(hk:∀ C j,kx 138 (ps.map (·.2)) op=U (U (C,j))->∀ h',tq MB h μ e C j h'->K (.ret (.tuple #[])) h')(hp:kx 138 (ps.map (·.2)) op=U O->∀ h',tL MB h h'->K (.panic (pe 16)) h') :
  gr Tryz.prog (E b).G 87 [pO μ 0,.agg ⟨[I X 138,dv]⟩] h K:=by
 have T:=A.m.R (a_.push h (S Y 1 [I X 138,dv]));have m0:Mv MB MB h (h.push (S Y 1 [I X 138,dv])):=Mv.R (a_.push _ _);refine mf (E b) (lQ _ _) (Uc b) (Jh b) iI (Ui b) (X8 b) l_.1 l_.2.1 l_.2.2 rfl ?_;simp[uW b,qs]
 match op,A with
 | [],A =>
  refine Uwl b T (.inr rfl) _ ?_;simp;exact hp (by simp[kx]) _ ⟨MB,m0⟩
 | x::l,A =>
  refine U88 b T (by have:=A.l2;grind) _ (fun h1 M1 m1 => ?_);simp;exact hk _ _ (by simp[kx]) _ ⟨ps,MB,rfl,M1,m0.trans m1⟩
end
def U6p{code:Int}(K:KP)(hk:∀ j C,nF a code data (ps.map (·.2)) op=.ok (j,C)->∀ h',tq MB h μ e j C h'->K (.ret (.tuple #[])) h')(hp:∀ z,nF a code data (ps.map (·.2)) op=.error z->∀ h',tL MB h h'->K (.panic (pe z)) h') :
  gr Tryz.prog (E b).G 87 [pO μ 0,.agg ⟨[I X code,dv]⟩] h K:=by
 by_cases c8:code=136
 ·subst c8;exact U3t b A K (fun j C q=>hk j C (by simp only[nF,q])) (fun q=>hp 16 (by simp only[nF,q]))
 by_cases c9:code=137
 ·subst c9;exact Urw b A K (fun j C q=>hk j C (by simp only[nF,q])) (fun q=>hp 16 (by simp only[nF,q]))
 by_cases hc:code=138
 ·subst hc;exact U1p b A K (fun j C q=>hk j C (by simp only[nF,q])) (fun q=>hp 16 (by simp only[nF,q]))
 have T:∀ st op,kx code st op=O:=fun st op=>by simp[kx,c8,c9,hc]
 cases hoff:vf op with
 | true=>exact Uzp b A hoff (T _ _) K (fun h' m=>hk _ _ (by simp[nF,T,hoff]) h' m)
 | false =>
  have e1:∀ j,jC a code data (ps.map (·.2))=.ok j->nF a code data (ps.map (·.2)) op=.ok (j,op):=fun j q=>by simp[nF,T,hoff,q,Except.map]
  have e2:∀ z,jC a code data (ps.map (·.2))=.error z->nF a code data (ps.map (·.2)) op=.error z:=fun z q=>by simp[nF,T,hoff,q,Except.map]
  have k1:∀ j,jC a code data (ps.map (·.2))=.ok j->∀ h',tq MB h μ e j op h'->K (.ret (.tuple #[])) h':=fun j q h' m=>hk _ _ (e1 j q) h' m;have k2:∀ z,jC a code data (ps.map (·.2))=.error z->∀ h',tL MB h h'->K (.panic (pe z)) h':=fun z q h' m=>hp _ (e2 z q) h' m;clear hk hp e1 e2;by_cases c1:code=129
  ·subst c1;exact U0d b A hoff K k1 k2
  by_cases c2:code=130
  ·subst c2;exact Uty b A hoff K k1 k2
  by_cases c3:code=131
  ·subst c3;exact Urn b A hoff K k1 k2
  by_cases c4:code=132
  ·subst c4;exact Ur2 b A hoff K k1 k2
  by_cases c5:code=133
  ·subst c5;exact Ujl b A hoff K k1 k2
  by_cases c6:code=134
  ·subst c6;exact Uw4 b A hoff K k1 k2
  by_cases c7:code=135
  ·subst c7;exact Uql b A hoff K k1 k2
  by_cases hx:code=139
  ·subst hx;exact Urg b A hoff K k1 k2
  exact Usf b A hoff c1 c2 c3 c4 c5 c6 c7 c8 c9 hc hx K k1 k2
end
def U4q(b:Nat){l:List V}(j:L l=34):jP (E b).tojo 160 [(0,.agg ⟨l⟩)]=U (.agg ⟨l ++ [M O 0 0,M O 0 0]⟩):=by
 have e:jP (E b).tojo 160 [(0,.agg ⟨l⟩)]=(oQ (iD [(0,34),(34,1),(35,1)]) ((.pointer O::List.replicate 32 zU) ++ [I X 0,M O 0 0,M O 0 0]) [(0,.agg ⟨l⟩)]).map fun c => .agg c.toArray:=kR
 rw[e];have T:(Value.agg ⟨l⟩).cells.toList=l:=rfl;have hs:(Value.agg ⟨l⟩).cells.size=34:=j;have hz:L ((.pointer O::List.replicate 32 zU) ++ [I X 0,M O 0 0,M O 0 0]:List V)=36:=jA
 have hp:kZ ((.pointer O::List.replicate 32 zU) ++ [I X 0,M O 0 0,M O 0 0]:List V) 0 l=U (l ++ [M O 0 0,M O 0 0]):=by
  rw[q_ iA,j];rfl
 have C:(mg (.agg ⟨l⟩) && (Value.agg ⟨l⟩).cells.size == 34 && Nat.ble (0+34) (L ((.pointer O::List.replicate 32 zU) ++ [I X 0,M O 0 0,M O 0 0]:List V)))=Y:=by
  rw[hs,hz];rfl
 simp only[oQ,iD,C,if_true,T,hp];rfl
def km(h:N)(items:List (V × List Int)):Prop:=∀ p ∈ items,SB h p.1 p.2/\Bytes p.2
def km.R{h h':N}{items:List (V × List Int)}(i:km h items)(a:a_ h h'):km h' items:=fun p j=>⟨(i p j).1.R a,(i p j).2⟩
def BGI(sv:V)(items:List (V × List Int))(e:iu)(h:N)(μ:Nat)(k:Nat)(s:St):Prop:=∃ (t:Tr V) (h1:N) (MB:Nat->Prop) (ps:List (V × List Int)) (i:Nat),s=⟨⟨26,t⟩,[],h1⟩/\t.A 5=U (pO μ 0)/\t.A 11=U sv/\t.A 12=U (I X (L items:Int))/\t.A 13=U (I X (i:Int))/\i<=L items/\k=L items-i/\jy h1 MB μ e ps []/\a_ h h1/\(∀ c,MB c->h.Q<=c) /\
 rC (items.map (·.2)) []=rC ((items.drop i).map (·.2)) (ps.map (·.2))
section
attribute [local simp] Qqb Qys Ra P9 Z8 Xc Xh 
def U0w(b:Nat){h:N}{sv:V}{items:List (V × List Int)}{e:iu}(ss:Sl h 1 sv (L items) (items.map (·.1)))(hn:L items < 5864062014805)(its:km h items)(K:KP)
  (hk:∀ h' μ MB ps,rC (items.map (·.2)) []=.ok (ps.map (·.2))->jy h' MB μ e ps []->a_ h h'->(∀ c,MB c->h.Q<=c)->K (.ret (pO μ 0)) h')
  (hp:rC (items.map (·.2)) []=.error 16->∀ h',a_ h h'->K (.panic (pe 16)) h'):FK b 86 [sv,.agg ⟨e.cells⟩] h K:=by
 refine ip b (Ra b) Je0 rfl ?_;obtain⟨hA,eA⟩:∃ hA,hA=h.push (S Y 1 e.cells):=⟨_,rfl⟩;have a2:nP (.agg ⟨e.cells⟩) h=U (pO h.Q 0,hA):=by rw[eA];exact tB (by rw[e.len];omega)
 have gA:hA.A h.Q=U (S Y 1 e.cells):=by rw[eA,N.F,if_pos rfl]
 have aA:=jG eA;have nA:=lT eA;have e2:iy hA h.Q 0 34=U (.agg ⟨e.cells⟩):=nZ gA (by rw[e.len];omega) (by rw[e.len];omega);have hy:nP (.agg ⟨e.cells ++ [M O 0 0,M O 0 0]⟩) hA=U (pO hA.Q 0,hA.push (S Y 1 (e.cells ++ [M O 0 0,M O 0 0]))):=tB (by simp[e.len]);obtain⟨hB,eB⟩:∃ hB,hB=hA.push (S Y 1 (e.cells ++ [M O 0 0,M O 0 0])):=⟨_,rfl⟩;rw[<- eB]at hy;have gB:hB.A hA.Q=U (S Y 1 (e.cells ++ [M O 0 0,M O 0 0])):=by rw[eB,N.F,if_pos rfl]
 have aB:=jG eB;have h3:∀ hx,iC (E b).tojo 94 sv hx=U (I X (L items:Int)):=fun hx=>iT (kB b) ss;simp[a2,e2,U4q b e.len,hy,h3];have lB:=N.D gB;have M0:jy hB (fun c=>c=hA.Q) hA.Q e [] []:=by
  refine⟨⟨M O 0 0,M O 0 0,1,gB,rfl,?_,?_,fun c hc=>by simp[J7]at hc,fun c hc=>by simp[J7]at hc⟩,jA,fun c hc=>by omega⟩
  ·exact ij.nil
  ·exact ij.nil
 refine iV (BGI sv items e h hA.Q) (L items) ⟨_,hB,fun c=>c=hA.Q,[],0,rfl,jA,jA,jA,jA,iA,rfl,M0,aA.trans aB,fun c hc=>by omega,jA⟩ ?_;rintro k s' ⟨t,h1,MB,ps,i,rfl,t5,C,T,t13,hi,rfl,M_,j,h4,hF⟩ _;by_cases ho:i < L items
 ·have hb:(i:Int) < (L items:Int):=iA
  obtain⟨p,hu⟩:∃ p,items[i]? = U p:=⟨_,ac ho⟩;obtain⟨v,x⟩:=p;have hd:items.drop i=(v,x)::items.drop (i+1):=by
   rw[bh ho]
   grind
  obtain⟨bk,off,q1,q2,q3, -⟩:=mQ (kB b) oT (ss.R j) (k:=.i64) (i:=(i:Int)) iA iA;have q4:Zq h1 bk off=U v:=by
   grind
  obtain⟨sx,bx⟩:=its (v,x) (ae hu);have iv:qC h1 MB v x:=⟨sx.R j,bx,fun c hc hm=>by have:=sx.blk hc;grind⟩;have len:=fun hx=>j_ (b:=b) (h1:=hx) iv.sb;have hw:=wS (i:=i) iA;rw[hd]at hF;by_cases hx:L x<=64
  ·have hr:(L x:Int)<=64:=iA
   simp[t5,C,T,t13,hb,q2,q4,len,hr];refine vJ b h1 16 _ ?_;simp[t5,C,T,t13];by_cases hl:L ps < 16
   ·refine yK b M_ iv hl _ fun h2 e1 M2 m2 => ?_;simp[t5,C,T,t13,hw];refine⟨L items-(i+1),iA,_,h2,e1,(v,x)::ps,i+1,rfl,by simp[t5],by simp[C],by simp[T],jA,iA,rfl,M2,⟨ao j.1 m2.Q,fun c hc => ?_⟩,fun c hc => ?_,?_⟩
    ·rw[m2.same c (aq hc j.1) (fun q=>by grind),j.2 c hc]
    ·rcases m2.sub c hc with q | q
     ·grind
     grind
    ·rw[hF];simp[rC,hx,lS,hl,Except.bind]
   ·refine Cg b M_ iA _ ?_;simp[t5,C,T,t13];exact hp (by rw[hF];simp[rC,hx,lS,hl,Except.bind]) h1 j
  ·have hr:¬ (L x:Int)<=64:=iA
   simp[t5,C,T,t13,hb,q2,q4,len,hr];refine uC b h1 16 _ ?_;simp[t5,C,T,t13];exact hp (by rw[hF];simp[rC,hx]) h1 j
 ·have hb:¬ (i:Int) < (L items:Int):=iA
  simp[t5,C,T,t13,hb];have : i=L items:=iA
  subst this;exact hk h1 hA.Q MB ps (by rw[hF];simp[rC]) M_ j h4
end
end Go.Proofs.YtmgonkaadhbnpaaGreatDoor
end
noncomputable section
namespace Go.Ab
section
variable{P:Program}{E:f_ P}
def Uf8(ops:List Oper):∀ (l:List Oper) (u:FrameMode) (s:St),tQ E (ops.map bare) (l.map bare) u s=tQ E ops l u s
 | [],u,s=>rfl
 | o::r,u,s=>by
  have ih:=Uf8 ops r;have j:(bare o).dst=o.dst:=rfl;have C:CQ (bare o)=CQ o:=rfl;have T:Ym (bare o)=Ym o:=rfl;have e4:∀ t h,jm E t h (bare o)=jm E t h o:=fun _ _=>rfl;simp only[aH,tQ,Cq,j,C,T,e4,ih]
def Er:∀ (c:Code) (u:FrameMode) (s:St),rW E (Up c) u s=rW E c u s
 | .seq x y,u,s=>by
  simp only[Up,rW,Er x];split
  ·exact Er y _ _
  ·rfl
 | .cond c x y,u,s=>by simp only[Up,rW,Er x,Er y]
 | .region id j J,u,s=>Uf8 j.toList j.toList u s
 | .block _ _,u,s=>rfl
 | .loop _,u,s=>rfl
 | .region _ _ Y,u,s=>rfl
 | .skip,u,s=>rfl
 | .label _,u,s=>rfl
 | .ret,u,s=>rfl
 | .exit _,u,s=>rfl
 | .rangeFunc ..,u,s=>rfl
 | .scope ..,u,s=>rfl
 | .goto ..,u,s=>rfl
 | .refuse ..,u,s=>rfl
def Umi{f n:Nat}{args:List V}{u u':FrameMode}{h h':N}{fn:Func}{c T:Code}{t:Tm}{v:V}(j:E.fn.A f=U fn)(hb:fn.body=U c)(hn:fn.ntmps=n)(hc:Up c=T)(C:Nat.ble (L args) n=Y)
  (hx:rW E T u ⟨⟨n,Qz.putAll 0 args .leaf⟩,[],h⟩=U (.normal,u',⟨t,[],h'⟩)) (hr:Yg E fn t h'=U v):BR E f args u h=U (.ret v,u',h'):=by
 subst hn hc;rw[Er]at hx;unfold BR;simp only[j,hb,C,Qz,hx,hr]
 grind
end
end Go.Ab
namespace Go.Proofs.YtmgonkaadhbnpaaGreatDoor
open Go Go.Ab
set_option maxRecDepth 100000
def SQ(z:Int):List PanicEntry:=[{v:=.iface 48 (I X z),recovered:=true}]
def U76(b:Nat)(q:Bool)(t:TypeId)(v:V):Y5 (E b).tojo .neq 20 q (.iface t v) .nilIface=U (.bool Y):=kR
def U5p(b:Nat):Y5 (E b).tojo .neq 20 Y .nilIface .nilIface=U (.bool J):=kR
def U1c(b:Nat)(z:Int):zN (E b).tojo (.iface 48 (I X z)) 48 J=U (I X z):=kR
section
attribute [local simp] WM Zc YZ Zb VP VN Zi YY YX ZE rW CQ tQ wY Ym pe Qz.putAll vh CR jm Qg iD Ab.g0 gv gs Q8 Qd Qw iH kH lr Qh Tr.H St.put Tm.put flat iS Qm Qp Qn Qo Qk Ql Qj Qq Y6 Qi Q7 Q9 Qr Q0 Qa
def Uys(b:Nat){h:N}{B:Nat}{y:V}(z:Int)(C:h.A B=U (S Y 1 [y])):DD b 83 [pO B 0] (.panicking (pe z)) h=U (.ret (.tuple #[]),.panicking (SQ z),h.set B (U (S Y 1 [I X z]))):=by
 have j:(E b).fn.A 83=U (FU 83):=Hv b;have st:iN h B 0 [I X z]=U (h.set B (U (S Y 1 [I X z]))):=nS C jA;refine Umi j Ch.1 Ch.2.1 Ch.2.2 rfl (by simp[Y5,-Y5,U76,U1c,Q4d,st];first | exact rfl | exact⟨rfl,rfl⟩) ?_;simp[Yg,VE]
def Wan(b:Nat){h:N}{B:Nat}{y:V}:DD b 83 [pO B 0] .returning h=U (.ret (.tuple #[]),.returning,h):=by
 have j:(E b).fn.A 83=U (FU 83):=Hv b;refine Umi j Ch.1 Ch.2.1 Ch.2.2 rfl (by simp[Y5,-Y5,U5p];first | exact rfl | exact⟨rfl,rfl⟩) ?_;simp[Yg,VE]
end
end Go.Proofs.YtmgonkaadhbnpaaGreatDoor
end
noncomputable section
namespace Go.Proofs.YtmgonkaadhbnpaaGreatDoor
open Go Go.Ab
set_option maxRecDepth 100000
def Bd(st:List (List Int)):Prop:=L st<=16/\∀ x ∈ st,L x<=64
def yQ{x:List Int}{st j:List (List Int)}(h:lS x st=.ok j)(T:Bd st)(hx:L x<=64):Bd j:=by
 unfold lS at h;split at h
 ·rename_i hl;cases h;refine⟨by simp;omega,fun y C => ?_⟩;rcases ar.1 C with rfl | C
  ·exact hx
  ·exact T.2 y C
 ·cases h
def wH{x:List Int}{st:List (List Int)}(C:Bd (x::st)):Bd st/\L x<=64:=by
 obtain⟨h1,j⟩:=C;simp at h1;exact⟨⟨iA,fun y T=>j y (by simp[T])⟩,j x jA⟩
def OL{A B:Type}{x:Except Int A}{f:A->Except Int B}{y:B}(h:x.bind f=.ok y):∃ z,x=.ok z/\f z=.ok y:=by
 cases x with
 | error e=>cases h
 | ok z=>exact⟨z,rfl,h⟩
def Uui(x:Bool):L (vc x)<=64:=by cases x <;> simp[vc]
def Od{a:jv}{code:Int}{data:List Int}{st C:List (List Int)}(h:jC a code data st=.ok C)(j:Bd st)(hd:L data<=64):Bd C:=by
 unfold jC at h;split at h
 ·split at h
  ·obtain⟨p1,T⟩:=wH j;obtain⟨z,z1,z2⟩:=OL h;exact yQ z2 (yQ z1 p1 T) T
  ·cases h
 split at h
 ·split at h
  ·cases h;exact(wH j).1
  ·cases h
 split at h
 ·split at h
  ·exact yQ h (wH j).1 (by rw[ND];omega)
  ·cases h
 split at h
 ·split at h
  ·exact yQ h (wH (wH j).1).1 (Uui _)
  ·cases h
 split at h
 ·split at h
  ·split at h
   ·cases h;exact(wH j).1
   ·cases h
  ·cases h
 split at h
 ·split at h
  ·split at h
   ·exact yQ h (wH (wH j).1).1 (Uui _)
   ·cases h
  ·cases h
 split at h
 ·split at h
  ·split at h
   ·split at h
    ·cases h;exact(wH j).1
    ·cases h
   ·cases h
  ·cases h
 split at h
 ·split at h
  ·obtain⟨p1,T⟩:=wH j;obtain⟨z,z1,z2⟩:=OL h;exact yQ z2 (yQ z1 p1 T) jA
  ·cases h
 exact yQ h j hd
def U7j{code:Int}{st C:List (List Int)}{op j:List Br}(h:kx code st op=U (U (C,j)))(T:Bd st):Bd C/\L j<=L op+1:=by
 unfold kx at h;split at h
 ·split at h
  ·grind
  ·split at h
   ·cases h
   ·cases h;exact⟨(wH T).1,jA⟩
 grind
def Ulo{a:jv}{code:Int}{data:List Int}{st C:List (List Int)}{op j:List Br}(h:nF a code data st op=.ok (C,j))(hb:Bd st)(hd:L data<=64):Bd C/\L j<=L op+1:=by
 unfold nF at h;split at h
 ·cases h
 next p hp=>cases h;exact U7j hp hb
 ·split at h
  ·grind
  ·cases T:jC a code data st with
   | error e=>rw[T]at h;cases h
   | ok hc =>
    rw[T]at h;cases h;exact⟨Od T hb hd,iA⟩
def Umu:∀ {l st j:List (List Int)},rC l st=.ok j->Bd st->Bd j
 | [],st,j,h,C=>by cases h;exact C
 | x::l,st,j,h,C=>by
  unfold rC at h;split at h
  next T=>obtain⟨z,z1,z2⟩:=OL h;exact Umu z2 (yQ z1 C T)
  ·cases h
def Bd.nil:Bd []:=⟨jA,jA⟩
def KR:∀ {f:Nat} {xs:List Int} {l:List (Int × List Int)},Bytes xs->pz f xs=U l->∀ p ∈ l,Bytes p.2
 | f,[],l,_,h=>by cases f <;> (simp[pz]at h;grind)
 | 0,_::_,l,_,h=>by simp[pz]at h
 | f+1,c::r,l,hb,h=>by
  have T:Bytes r:=fun z C=>hb z (by simp[C]);simp only[pz]at h;split at h
  ·rw[au]at h;obtain⟨l',h1,rfl⟩:=h;intro p j;rcases ar.1 j with rfl | j
   ·exact fun z C=>T z (cO C)
   ·exact KR (fun z C=>T z (d6 C)) h1 p j
  ·split at h
   ·cases h
   ·rw[au]at h;obtain⟨l',h1,rfl⟩:=h;intro p j;rcases ar.1 j with rfl | j
    ·intro z C;simp at C
    ·exact KR T h1 p j
def yz(B:Nat):Deferred:={target:=.fn (.func 83) #[pO B 0],args:=#[]}
def Z_(b:Nat)(h:N)(bk o:Nat):jL (E b).tojo 48 (pO bk o) h=Zq h bk o:=oK (U9z b) U6a
def Usi(b:Nat){t:Tr V}{h:N}{B:Nat}{y:V}{z:Int}{K:jc->N->Prop}(ht:t.A 6=U (pO B 0))(j:h.A B=U (S Y 1 [y]))(hk:K (.ret (I X z)) (h.set B (U (S Y 1 [I X z])))) :
  pj (E b) (DD b) (FU 40) K (.panic (pe z)) ⟨⟨59,t⟩,[yz B],h⟩:=by
 have C:(E b).fn.A 83=U (FU 83):=Hv b;have T:=Uys b z j;have e3:settle (.panicking (SQ z))=.returning:=kR
 have lt:=N.D j;have e4:Zq (h.set B (U (S Y 1 [I X z]))) B 0=U (I X z):=(Z2 (z:=1) (ow:=true) (c:=[I X z]) (by rw[gY lt,if_pos rfl])).trans rfl;show tK (E b) (DD b) (FU 40) K (.panicking (pe z)) ⟨⟨59,t⟩,[yz B],h⟩;rw[Q6];have e5:Qt (E b) (DD b) (FU 40) ⟨59,t⟩ [yz B] (.panicking (pe z)) h=U (.ret (I X z),h.set B (U (S Y 1 [I X z]))):=by
  simp only[Qt,yz,C];simp[T,e3,Qt,Yg,Y6,QU,ht,Z_,e4]
 grind
def U6g(b:Nat){t:Tr V}{h:N}{B:Nat}{z:Int}{K:jc->N->Prop}(ht:t.A 6=U (pO B 0))(hg:Zq h B 0=U (I X z))(hk:K (.ret (I X z)) h) :
  tK (E b) (DD b) (FU 40) K .returning ⟨⟨59,t⟩,[yz B],h⟩:=by
 have j:(E b).fn.A 83=U (FU 83):=Hv b;have C:=Wan b (h:=h) (B:=B) (y:=.bool Y);have T:settle .returning=.returning:=kR
 rw[Q6];have e5:Qt (E b) (DD b) (FU 40) ⟨59,t⟩ [yz B] .returning h=U (.ret (I X z),h):=by
  simp only[Qt,yz,j];simp[C,T,Qt,Yg,Y6,QU,ht,Z_,hg]
 grind
abbrev Wo(h:N)(e:iu)(a:jv):Prop:=Wd h (fun _=>False) e a
def Wo.R{h h':N}{e:iu}{a:jv}(w:Wo h e a)(o:a_ h h'):Wo h' e a:=w.mv (Mv.R o)
def Wo.mb{h h':N}{MB:Nat->Prop}{e:iu}{a:jv}(w:Wo h e a)(o:a_ h h')(C:∀ c,MB c->h.Q<=c):Wd h' MB e a :=
 w.mv ⟨o.1,fun c j _=>o.2 c j,fun c j => .inr (C c j)⟩
def U20{h:N}{n0:Nat}{lv:V}{os:List mr}{te ts:TypeId}{re rs:ir}{b:Nat}(T:jF (E b).tojo te ts re rs)(hz:re.size=2)(o:ij h n0 2 lv (L os) (rh os)){i:Nat}{p:mr}(hp:os[i]? = U p) :
  ∃ bk off,J1 (E b).tojo ts lv (I X (i:Int))=U (pO bk off)/\iy h bk off 2=U (.agg ⟨[I X p.code,p.val]⟩):=by
 obtain⟨bk,off,h1,h2,j,C⟩:=U21 (b:=b) T hz o hp;refine⟨bk,off,h2,?_⟩;unfold Zq at j C;unfold iy;cases hg:h.A bk with
 | none=>grind
 | some x =>
  cases x with
  | cells ow z c =>
   rw[hg]at j C;simp only at j C;have : nQ 2 (c.drop off)=U [I X p.code,p.val]:=by
    have l1:off < L c:=(av.1 j).1;have l2:off+1 < L c:=(av.1 C).1;rw[bh l1,bh l2];rw[ac l1]at j;rw[ac l2]at C;rw[cP j,cP C];simp[nQ]
   grind
  | _=>grind
def RLI(a:jv)(l:List (Int × List Int))(j:List (List Int))(T:V)(os:List mr)(e:iu)(C:N)(B μ:Nat)(k:Nat)(s:St):Prop:=∃ (t:Tr V) (h1:N) (MB:Nat->Prop) (ps:List (V × List Int)) (op:List Br) (i:Nat),s=⟨⟨59,t⟩,[yz B],h1⟩/\t.A 6=U (pO B 0)/\t.A 9=U (pO μ 0)/\t.A 25=U T/\t.A 26=U (I X (L os:Int))/\t.A 27=U (I X (i:Int))/\i<=L os/\k=L os-i /\
 jy h1 MB μ e ps op/\a_ C h1/\(∀ c,MB c->C.Q<=c)/\Bd (ps.map (·.2))/\L op<=i/\qZ a l j []=qZ a (l.drop i) (ps.map (·.2)) op
def i9{MB j:Nat->Prop}{T h h':N}(a:a_ T h)(hm:∀ c,MB c->T.Q<=c)(m:Mv MB j h h'):a_ T h'/\∀ c,j c->T.Q<=c :=
 ⟨⟨ao a.1 m.Q,fun c C=>by rw[m.same c (aq C a.1) (fun q=>by grind),a.2 c C]⟩,fun c C=>by
  rcases m.sub c C with q | q
  ·grind
  ·exact ao a.1 q⟩
attribute [local simp] Qw X0 Yg Y6 jm Qg iD Ab.g0 gv gs Q8 Qd iH kH lr Qh Tr.H St.put Tm.put flat iS Y5 Qm Qp Qn Qo Qk Ql Qj Qq Qi Q7 Q9 Qz.putAll Qr Q0 Qa Q6 Qt
section
attribute [local simp] Qdp QU Ul Rf oW Xc P9 Ra Po Pl Pp X8 vw vt Ya tX U1 Z8 Xr Qdr Qcz Qc3 Q4d Y9 Xz X6 Xf Y8 Xo Xd Y7 X7 Xy Xp Xe Qx Xn Xg X4 Zz Va Zy Yn
def U9r(b:Nat){h:N}{v sv:V}{xs:List Int}{items:List (V × List Int)}{e:iu}{a:jv}(s:SB h v xs)(hb:Bytes xs)(ss:Sl h 1 sv (L items) (items.map (·.1)))(hn:L items < 5864062014805)(its:km h items)(wo:Wo h e a)(K:KP)
  (hk:∀ h',a_ h h'->K (.ret (I X (mw a xs (items.map (·.2))))) h'):gr Tryz.prog (E b).G 40 [v,sv,.agg ⟨e.cells⟩] h K:=by
 refine mf (E b) (lQ _ _) (Uc b) (Jh b) iI (Ui b) (Ul b) Sw.1 Sw.2.1 Sw.2.2 rfl ?_;obtain⟨hA,eA⟩:∃ hA,hA=h.push (S Y 1 e.cells):=⟨_,rfl⟩;obtain⟨hB,eB⟩:∃ hB,hB=hA.push (S Y 1 [I X 0]):=⟨_,rfl⟩;have aA:=jG eA;have aB:=jG eB;have hr:=aA.trans aB;have nA:=lT eA;have gA:hA.A h.Q=U (S Y 1 e.cells):=by rw[eA,N.F,if_pos rfl]
 have gB:hB.A hA.Q=U (S Y 1 [I X 0]):=by rw[eB,N.F,if_pos rfl]
 have r2:nP (.agg ⟨e.cells⟩) h=U (pO h.Q 0,hA):=by rw[eA];exact tB (by rw[e.len];omega)
 have e0:jd (E b).tojo 48 hA=U (pO hA.Q 0,hB):=by rw[eB];exact qG b hA
 have die:∀ (t:Tr V) (h1:N) (z:Int),t.A 6=U (pO hA.Q 0)->a_ hB h1->mw a xs (items.map (·.2))=z->pj (E b) (DD b) (FU 40) K (.panic (pe z)) ⟨⟨59,t⟩,[yz hA.Q],h1⟩:=by
  intro t h1 z ht ho hz;have g1:=ho.A gB;refine Usi b ht g1 ?_;rw[<- hz];refine hk _ ((hr.trans ho).set _ iA (N.D g1))
 simp[qG,Q6,Qt,r2,-qG,e0,E9];refine(U1u b (s.R hr) hb _ (fun hD h3 a3 => ?_) (fun l g1 g2 g3 lv os h3 q3 a1 a3 => ?_)).ok
 ·simp[qG,Q6,Qt];refine(uC b h3 16 _ ?_).ok;simp[qG,Q6,Qt];refine die _ h3 16 jA a3 ?_;rcases hD with q | q | ⟨l',q,q'⟩
  ·simp[mw,q]
  ·unfold mw
   grind
  ·unfold mw
   grind
 ·have hF:mw a xs (items.map (·.2))=Ap a l (items.map (·.2)):=by
   unfold mw
   grind
  have n2:iy h3 h.Q 0 34=U (.agg ⟨e.cells⟩):=nZ ((aB.trans a3).A gA) (by rw[e.len];omega) (by rw[e.len];omega);simp[qG,Q6,Qt];refine(vJ b h3 0 _ ?_).ok;simp[qG,Q6,Qt,n2];refine(U0w b (ss.R (hr.trans a3)) hn (its.R (hr.trans a3)) _ (fun h4 μ MB ps p1 M4 a4 p3 => ?_) (fun p1 h4 a4 => ?_)).ok
  ·have c1:mw a xs (items.map (·.2))=zj (qZ a l (ps.map (·.2)) []):=by
    rw[hF];unfold Ap;rw[p1]
   have e1:∀ h,iC (E b).tojo 149 lv h=U (I X (L os:Int)):=fun h=>iT (wX b) a1.row.sl;have f2:L os<=64:=by rw[<- zO os,q3];exact g3
   simp[qG,Q6,Qt,e1];refine iV (RLI a l (ps.map (·.2)) lv os e h3 hA.Q μ) (L os) ⟨_,h4,MB,ps,[],0,rfl,?_,?_,?_,?_,?_,iA,rfl,M4,a4,p3,Umu p1 Bd.nil,jA,jA⟩ ?_
   ·simp
   ·simp
   ·simp
   ·simp
   ·simp
   rintro k s' ⟨t,T,hu,C,a2,i,rfl,t6,t9,h2,hl,hp,hi,rfl,M5,a5,es,e2,ev,hS⟩ _;have w5:Wd T hu e a:=(wo.R (hr.trans a3)).mb a5 es;by_cases bx:i < L os
   ·have j:(i:Int) < (L os:Int):=iA
    obtain⟨p,v'⟩:∃ p,os[i]? = U p:=⟨_,ac bx⟩;have q1:l[i]? = U (p.code,p.data):=by
     rw[<- q3,sV,b7,v'];rfl
    have m1:l.drop i=(p.code,p.data)::l.drop (i+1):=by
     obtain⟨ha,s2⟩:=av.1 q1;rw[bh ha,s2]
    have hj:L p.data<=64:=It g2 (p.code,p.data) (ae q1);have od:=(a1.R a5).data p (ae v');obtain⟨bk,off,x1,x2⟩:=U20 (b:=b) (wX b) xR (a1.R a5).row v';have hw:=wS (i:=i) iA;obtain⟨h6,e6⟩:∃ h6,h6=(T.push (S Y 1 [I X 0,M O 0 0])).set T.Q (U (S Y 1 [I X p.code,p.val])):=⟨_,rfl⟩;have g5:(T.push (S Y 1 [I X 0,M O 0 0])).A T.Q=U (S Y 1 [I X 0,M O 0 0]):=by rw[N.F,if_pos rfl]
    have hf:=N.D g5;have h8:iN (T.push (S Y 1 [I X 0,M O 0 0])) T.Q 0 [I X p.code,p.val]=U h6:=by
     rw[jQ g5 jA,e6];rfl
    have hy:a_ T h6:=(by rw[e6];exact(a_.push _ _).set _ (ai _) hf);have g6:h6.A T.Q=U (S Y 1 [I X p.code,p.val]):=by rw[e6,gY hf,if_pos rfl]
    have M1:iy h6 T.Q 0 2=U (.agg ⟨[I X p.code,p.val]⟩):=by
     rw[V9 g6 jA];rfl
    have p2:Bytes p.data:=KR hb g2 (p.code,p.data) (ae q1);have id:qC h6 hu p.val p.data:=⟨(od.sl.R hy),p2,fun c hc hm=>by
     have:=(a1.data p (ae v')).out hc
     grind⟩
    have A6:At h6 hu μ e a C a2 p.val p.data:=⟨M5.R hy,w5.R hy,id,by simpa using e2.1,iA,fun q hq=>e2.2 q.2 (am.2 ⟨q,hq,rfl⟩)⟩;rw[m1]at hS;simp[qG,Q6,Qt,t6,t9,h2,hl,hp,j,x1,x2,h8,M1];refine U6p b A6 _ (fun w2 o2 q h7 m => ?_) (fun z q h7 m => ?_)
    ·obtain⟨e4,he,rfl,M7,m7⟩:=m;obtain⟨a7,t4⟩:=i9 (a5.trans hy) es m7;obtain⟨w1,hL⟩:=Ulo q e2 hj;simp[qG,Q6,Qt,t6,t9,h2,hl,hp,hw];refine⟨L os-(i+1),iA,_,h7,he,e4,o2,i+1,rfl,by simp[t6],by simp[t9],by simp[h2],by simp[hl],jA,iA,rfl,M7,a7,t4,w1,iA,?_⟩;rw[hS];simp only[qZ,q,Except.bind]
    ·obtain⟨he,m7⟩:=m;obtain⟨a7,t4⟩:=i9 (a5.trans hy) es m7;simp[qG,Q6,Qt,t6,t9,h2,hl,hp];refine die _ h7 z (by simp[t6]) (a3.trans a7) ?_;rw[c1,hS];simp only[qZ,q,Except.bind,zj]
   ·have j:¬ (i:Int) < (L os:Int):=iA
    have c0:i=L l:=by
     have : L l=L os:=(by rw[<- q3,zO]);omega
    rw[c0,cL]at hS;simp only[qZ]at hS;have M':mw a xs (items.map (·.2))=if L a2=0/\L C=1/\kS ((C.map (·.2)).getD 0 [])=Y then 0 else 16:=by
     rw[c1,hS];simp only[zj,bo]
    have g5:=(a3.trans a5).A gB;have hf:=N.D g5;obtain⟨⟨c2,q4,z5,r⟩,re,g'⟩:=M5;have hg:=r.c35;have q2:=r.c34;have lo:∀ hx,iC (E b).tojo 158 q4 hx=U (I X (L a2:Int)):=fun hx=>iT (x_ b) r.op.sl;have ls:∀ hx,iC (E b).tojo 94 c2 hx=U (I X (L C:Int)):=fun hx=>iT (kB b) r.st.sl;by_cases ho:L a2=0
    ·rw[ho]at lo;have r1:∀ hx,iC (E b).tojo 158 q4 hx=U (I X 0):=lo;by_cases hC:L C=1
     ·rw[hC]at ls;have f1:∀ hx,iC (E b).tojo 94 c2 hx=U (I X 1):=ls;obtain⟨⟨v1,x1⟩,rfl⟩:∃ q,C=[q]:=by
       match C,hC with
       | [q],_=>simp
      obtain⟨bk,o,y1,y2,y3, -⟩:=mQ (kB b) oT r.st.sl (k:=.i64) (i:=0) iA jA;have y4:Zq T bk o=U v1:=by
       grind
      have i1:qC T hu v1 x1:=re (v1,x1) jA;have lx:L x1<=64:=e2.2 x1 jA;simp only[aH,dS,List.getD_cons_zero,bI,d5,ho]at M';simp[qG,Q6,Qt,t6,t9,h2,hl,hp,j,ju,hg,q2,r1,f1,y2,y4];refine(RK b i1.sb iA _ fun h6 a6 => ?_).ok;cases ht:kS x1 with
      | true =>
       have g6:=a6.A g5;have e3:=N.D g6;have so:iN h6 hA.Q 0 [I X 0]=U (h6.set hA.Q (U (S Y 1 [I X 0]))):=nS g6 jA;simp[qG,Q6,Qt,-Q6,-Qt];refine(vJ b h6 16 _ ?_).ok;simp[qG,Q6,Qt,-Q6,-Qt,t6,so];refine U6g b (B:=hA.Q) (z:=0) (by simp[t6]) ?_ ?_
       ·exact(Z2 (z:=1) (ow:=true) (c:=[I X 0]) (by rw[gY e3,if_pos rfl])).trans rfl
       ·rw[ht]at M';simp at M';rw[<- M'];exact hk _ (((hr.trans a3).trans (a5.trans a6)).set _ iA e3)
      | false =>
       simp[qG,Q6,Qt];refine(uC b h6 16 _ ?_).ok;simp[qG,Q6,Qt];refine die _ h6 16 (by simp[t6]) (a3.trans (a5.trans a6)) ?_
       grind
     ·have s1:¬ (L C:Int)=1:=iA
      simp[qG,Q6,Qt,t6,t9,h2,hl,hp,j,ju,hg,q2,r1,ls,s1];refine(uC b T 16 _ ?_).ok;simp[qG,Q6,Qt];exact die _ T 16 (by simp[t6]) (a3.trans a5) iA
    ·have o1:¬ (L a2:Int)=0:=iA
     simp[qG,Q6,Qt,t6,t9,h2,hl,hp,j,ju,hg,q2,lo,ho,o1];refine(uC b T 16 _ ?_).ok;simp[qG,Q6,Qt];exact die _ T 16 (by simp[t6]) (a3.trans a5) iA
  ·simp[qG,Q6,Qt];exact die _ h4 16 jA (a3.trans a4) (by rw[hF];unfold Ap;rw[p1])
end
def zZ(k l:List Nat):L (Bl.keyed k l)=32:=by
 unfold Bl.keyed;split <;> exact oR _
def LR(j:List Nat):∀ n i,L (jI j n i)=n*32
 | 0,_=>rfl
 | n+1,i=>by simp only[jI,aJ,zZ,LR j n];omega
def N0(b:Nat)(j C T x3:Int)(h:N):V6 (E b).tojo 31 4 [(0,I .u8 j),(1,I .u8 C),(2,I .u8 T),(3,I .u8 x3)] h=U (M (U ⟨h.Q,0,O⟩) 4 4,h.push (S Y 1 [I .u8 j,I .u8 C,I .u8 T,I .u8 x3])):=kR
def SA(b:Nat){h:N}{B o n c:Nat}{l:List V}(C:h.A B=U (S Y 1 l)):uV (E b).tojo 31 31 (M (U ⟨B,o,O⟩) n c) h=U (M (U ⟨B,o,O⟩) n c,h):=by
 have h1:uF.desc=.slice 5:=(j' b).d;have j:R5.desc=.int .u8:=kR
 simp only[uV,rX,h1,sX,j,C,beq_self_eq_true]
def Eo{h:N}(l:Ab.LaidIn h laidAll):Ab.LaidIn h pA:=fun x j=>l x (by
 simp only[pA,laidAll,ar,ct,or_false]at j ⊢
 grind)
def Uw9{h:N}(l:Ab.LaidIn h laidAll):3<=h.Q:=by
 have h1:=N.D (l (0,sD) (by simp[laidAll]));have j:=N.D (l (1,yR) (by simp[laidAll]));have C:=N.D (l (2,wq) (by simp[laidAll]));omega
def SB.push{h:N}{xs:List Int}(j:L xs < 1000000):SB (h.push (S Y 1 (xs.map i8))) (M (U ⟨h.Q,0,O⟩) (L xs) (L xs)) xs :=
 (ij.new (n0:=0) (bw _) (by rw[N.F,if_pos rfl]) jA (by unfold iJ;omega) (.inr rfl)).sl
def Unw(b:Nat)(h:N)(v:V)(hv:mV v=Y):V6 (E b).tojo 94 1 [(0,v)] h=U (M (U ⟨h.Q,0,O⟩) 1 1,h.push (S Y 1 [v]))/\Sl (h.push (S Y 1 [v])) 1 (M (U ⟨h.Q,0,O⟩) 1 1) 1 [v]:=by
 obtain⟨C,j⟩:=xS hv;refine⟨oL (kB b) (z:=1) oT iA iA C (ys:=[v]) (by rw[j]) rfl,?_⟩;exact(ij.new (n0:=0) (z:=1) (bw _) (by rw[N.F,if_pos rfl]) rfl kA (.inr rfl)).sl
def IV{h:N}{B:Nat}{ow:Bool}{z:Nat}{l:List Nat}(j:h.A B=U (.cells ow z (l.map dk)))(C:L l < 1000000):SB h (M (U ⟨B,0,O⟩) (L l) (L l)) (kI l):=by
 have e:L (kI l)=L l:=by simp[kI]
 rw[SB,e,<- E_];exact .inr ⟨B,0,L l,ow,z,[],[],rfl,by grind,rfl,jA,ai _,by unfold iJ;omega,fun q=>by unfold iJ at q;omega⟩
def sr(h g:N):Prop:=h.Q<=g.Q/\∀ c z cs,h.A c=U (S Y z cs)->∃ j,g.A c=U (S Y z j)/\L j=L cs
def sr.trans{h g k:N}(a:sr h g)(b:sr g k):sr h k :=
 ⟨ao a.1 b.1,fun c z cs q=>by
  obtain⟨j,C,l1⟩:=a.2 c z cs q;obtain⟨T,q2,l2⟩:=b.2 c z j C
  grind⟩
def sr.R{h g:N}(a:a_ h g):sr h g:=⟨a.1,fun c z cs q=>⟨cs,a.A q,rfl⟩⟩
def Cd{h h':N}{n0 z n:Nat}{v:V}{xs:List V}(o:ij h n0 z v n xs)(a:a_ h h'):ij h' n0 z v n xs:=o.keep fun c _ j=>a.2 c j
def oc(h:N)(z:Nat)(v:V)(n:Nat):Prop:=((∃ c,v=M O 0 c)/\n=0) ∨ ∃ j c C cs,v=M (U ⟨j,0,O⟩) n c/\h.A j=U (S Y C cs)/\n*z<=L cs
def oc.of{h:N}{n0 z n:Nat}{v:V}{xs:List V}(o:ij h n0 z v n xs):oc h z v n:=by
 rcases o with⟨rfl,rfl,rfl⟩ | ⟨C,c,z',j,rfl,h1,T,h3,h4⟩
 ·exact .inl ⟨⟨_,rfl⟩,rfl⟩
 ·exact .inr ⟨C,c,z',_,rfl,T,by grind⟩
def oc.shp{h g:N}{z n:Nat}{v:V}(w:oc h z v n)(s:sr h g):oc g z v n:=by
 rcases w with q | ⟨C,c,T,cs,rfl,h1,h2⟩
 ·exact .inl q
 ·obtain⟨j,g1,l1⟩:=s.2 C T cs h1;exact .inr ⟨C,c,T,j,rfl,g1,iA⟩
def oc.keep{h g:N}{z n:Nat}{v:V}(w:oc h z v n)(k:∀ c,J7 v=U c->c < h.Q->g.A c=h.A c):oc g z v n:=by
 rcases w with q | ⟨j,c,T,cs,rfl,h1,C⟩
 ·exact .inl q
 ·exact .inr ⟨j,c,T,cs,rfl,by rw[k j rfl (N.D h1)];exact h1,C⟩
def nf(h:N)(z:Nat)(v:V)(n:Nat):Prop:=oc h z v n/\Ex h v (n*z)
def nf.keep{h g:N}{z n:Nat}{v:V}(w:nf h z v n)(k:∀ c,J7 v=U c->c < h.Q->g.A c=h.A c):nf g z v n:=⟨w.1.keep k,w.2.keep k⟩
def nf.shp{h g:N}{z n:Nat}{v:V}(w:nf h z v n)(s:sr h g):oc g z v n:=w.1.shp s
def nf.all{h:N}{z n:Nat}{v:V}{xs:List V}(w:nf h z v n)(s:Sl h z v n xs){c:Nat}(j:J7 v=U c):∃ z',h.A c=U (S Y z' xs):=by
 obtain⟨ow,z2,cs,g,l⟩:=w.2 c j;rcases w.1 with⟨⟨c',rfl⟩, -⟩ | ⟨T,c',z3,hx,rfl,C, -⟩
 ·cases j
 cases j;rw[C]at g;cases g;rcases s with⟨c4,e, -⟩ | ⟨T,o,c4,ow,z',pre,post,e,h1,h2,h3, -⟩
 ·cases e
 cases e;rw[C]at h1;simp_all
def tN(z:Int):Int:=if 1099511627776 < z then 1099511627776 else z
def vX:List (List Int)->Int->Int
 | [],n=>n
 | x::l,n=>vX l (tN (n+L x+1))
def DI{z:Int}(h:0<=z):0<=tN z/\tN z<=1099511627776:=by unfold tN;omega
def Uln:∀ {l:List (List Int)} {n:Int},0<=n->vX l n<=4096->n+L l<=4096/\∀ x ∈ l,n+L x<=4096
 | [],n,h0,h=>by simp[vX]at h ⊢;exact h
 | x::l,n,h0,h=>by
  simp only[vX]at h;obtain⟨h1,j⟩:=Uln (DI iA).1 h;have C:tN (n+L x+1)=n+L x+1:=by
   unfold tN at h1 ⊢;omega
  grind
def ALI(sv:V)(items:List (V × List Int))(h:N)(k:Nat)(s:St):Prop:=∃ (t:Tr V) (i:Nat) (n:Int),s=⟨⟨21,t⟩,[],h⟩/\t.A 0=U sv/\t.A 3=U (I X n)/\t.A 4=U (I X (i:Int))/\i<=L items/\k=L items-i/\0<=n/\n<=1099511627776/\vX (items.map (·.2)) 0=vX ((items.drop i).map (·.2)) n
section
attribute [local simp] YM Jex Rv lN Y59 Z8 G' Y9 Xz X6 Xf Y8 Xo Xd Y7 X7 Xy Xp Xe Qx Xn Xg X4 Zz Va Zy Yn
def U9n(b:Nat){h:N}{sv:V}{items:List (V × List Int)}(ss:Sl h 1 sv (L items) (items.map (·.1)))(hn:L items<=140737488355327)(its:km h items)(hl:∀ p ∈ items,L p.2<=140737488355327)(K:KP)(hk:K (.ret (I X (vX (items.map (·.2)) 0))) h):FK b 36 [sv] h K:=by
 refine ip b (Rv b) V9u rfl ?_;have C:∀ hx,iC (E b).tojo 94 sv hx=U (I X (L items:Int)):=fun hx=>iT (kB b) ss;simp;refine iV (ALI sv items h) (L items) ⟨_,0,0,rfl,jA,jA,jA,iA,rfl,iA,iA,jA⟩ ?_;rintro k s' ⟨t,i,n,rfl,t0,t3,t4,hi,rfl,n0,n1,hF⟩ _;by_cases T:i < L items
 ·have j:(i:Int) < (L items:Int):=iA
  obtain⟨⟨v,x⟩,hc⟩:∃ p,items[i]? = U p:=⟨_,ac T⟩;have hd:items.drop i=(v,x)::items.drop (i+1):=by
   rw[bh T]
   grind
  obtain⟨bk,off,q1,q2,q3, -⟩:=mQ (kB b) oT ss (k:=.i64) (i:=(i:Int)) iA iA;have q4:Zq h bk off=U v:=by
   grind
  obtain⟨sx,bx⟩:=its (v,x) (ae hc);have lx:=hl (v,x) (ae hc);simp only at lx;have len:=fun hx=>j_ (b:=b) (h1:=hx) sx;have hw:=wS (i:=i) iA;have w1:IntKind.i64.wrap (n+(L x:Int))=n+(L x:Int):=Jr iA iA;have w2:IntKind.i64.wrap (n+(L x:Int)+1)=n+(L x:Int)+1:=Jr iA iA;rw[hd]at hF;simp[t0,t3,t4,C,j,q2,q4,len,w1,w2,hw,K6];refine⟨L items-(i+1),iA,_,i+1,tN (n+L x+1),rfl,by simp[t0],by simp[tN],jA,iA,rfl,(DI iA).1,(DI iA).2,?_⟩;rw[hF];simp only[aH,vX]
 ·have j:¬ (i:Int) < (L items:Int):=iA
  have : i=L items:=iA
  subst this;simp[t0,t3,t4,C];rw[cL]at hF;simp only[dS,vX]at hF
  grind
end
def CNI(sv:V)(items:List (V × List Int))(h:N)(k:Nat)(s:St):Prop:=∃ (t:Tr V) (h1:N) (o:V) (i:Nat) (out:List (V × List Int)),s=⟨⟨20,t⟩,[],h1⟩/\t.A 0=U sv/\t.A 3=U o/\t.A 4=U (I X (i:Int))/\i<=L items/\k=L items-i/\ij h1 h.Q 1 o i (out.map (·.1))/\out.map (·.2)=(items.take i).map (·.2)/\(∀ p ∈ out,OB h1 h.Q p.1 p.2/\Bytes p.2/\(∀ c,J7 p.1=U c->J7 o≠U c)/\Ex h1 p.1 (L p.2))/\a_ h h1/\Ex h1 o i
section
attribute [local simp] Q1c Xe4 Jj lN Z8 J8 Y9 Xz X6 Xf Y8 Xo Xd Y7 X7 Xy Xp Xe Qx Xn Xg X4 Zz Va Zy Yn
def Se(b:Nat){h:N}{sv:V}{items:List (V × List Int)}(ss:Sl h 1 sv (L items) (items.map (·.1)))(hn:L items < 5864062014805)(its:km h items)(hl:∀ p ∈ items,L p.2 < 140737488355328)(K:KP)
  (hk:∀ o out h',ij h' h.Q 1 o (L items) (out.map (·.1))->out.map (·.2)=items.map (·.2)->km h' out->(∀ p ∈ out,∀ c,J7 p.1=U c->h.Q<=c/\J7 o≠U c)->a_ h h'->(Ex h' o (L items)/\∀ p ∈ out,nf h' 1 p.1 (L p.2))->K (.ret o) h'):FK b 114 [sv] h K:=by
 refine ip b (Jj b) Zxf rfl ?_;have hy:∀ hx,iC (E b).tojo 94 sv hx=U (I X (L items:Int)):=fun hx=>iT (kB b) ss;simp;refine iV (CNI sv items h) (L items) ⟨_,h,M O 0 0,0,[],rfl,jA,jA,jA,iA,rfl,ij.nil,jA,jA,a_.refl _,Ex.nil⟩ ?_;rintro k s' ⟨t,h1,o,i,out,rfl,t0,t3,t4,hi,rfl,ho,hr,T,hb,hX⟩ _;have s1:=ss.R hb;by_cases e1:i < L items
 ·have hA:(i:Int) < (L items:Int):=iA
  obtain⟨⟨v,x⟩,hB⟩:∃ p,items[i]? = U p:=⟨_,ac e1⟩;obtain⟨bk,off,q1,q2,q3, -⟩:=mQ (kB b) oT s1 (k:=.i64) (i:=(i:Int)) iA iA;have q4:Zq h1 bk off=U v:=by
   grind
  obtain⟨sx,bx⟩:=its (v,x) (ae hB);have lx:=hl (v,x) (ae hB);have hw:=wS (i:=i) iA;simp[t0,t3,t4,hy,hA,q2,q4];refine Sp b (sx.R hb) lx _ fun v2 h2 o2 a2 e2 => ?_;obtain⟨o',h3,k1,k2,k3,k4,k5⟩:=D8 (kB b) oT iA (ho.keep fun c _ j=>a2.2 c j) (ao hb.1 a2.1) (ys:=[v2]) rfl (by rw[Sq];omega) iA;obtain⟨bl, -⟩:=Unw b h2 v2 o2.one;have nb:∀ c,J7 v2=U c->J7 o≠U c:=fun c j e=>by have:=(o2.from j).1;have:=ho.out e;omega
  have far:∀ c,J7 v2=U c->c < h2.Q:=fun c j=>o2.out j;simp[t0,t3,t4,bl,k1,hw];refine⟨L items-(i+1),iA,_,h3,o',i+1,out ++ [(v2,x)],rfl,by simp[t0],jA,jA,iA,rfl,by grind,?_,fun p hp => ?_,k3.R (hb.trans a2) (ho.keep fun c _ j=>a2.2 c j),by rw[cg,cg]at k5;exact k5 (hX.keep fun c _ j=>a2.2 c j)⟩
  ·rw[aT,hB];simp[hr]
  ·rcases ah.1 hp with hp | hp
   ·obtain⟨g1,g2,g3,g4⟩:=T p hp;refine⟨(g1.keep fun c _ j=>a2.2 c j).keep fun c j C=>k3.2 c C (g3 c j),g2,fun c j e => ?_,(g4.keep fun c _ j=>a2.2 c j).keep fun c j C=>k3.2 c C (g3 c j)⟩;rcases k4 c e with q | q
    ·grind
    ·have:=g1.out j;have:=a2.1;omega
   ·rw[bb.1 hp];refine⟨(o2.low hb.1).keep fun c j C=>k3.2 c C (nb c j),bx,fun c j e => ?_,e2.keep fun c j C=>k3.2 c C (nb c j)⟩
    grind
 ·have hA:¬ (i:Int) < (L items:Int):=iA
  have : i=L items:=iA
  subst this;simp[t0,t3,t4,hy];rw[aj (ai _)]at hr;exact hk o out h1 ho hr (fun p hp=>⟨(T p hp).1.sl,(T p hp).2.1⟩) (fun p hp c j=>⟨((T p hp).1.from j).1,(T p hp).2.2.1 c j⟩) hb ⟨hX,fun p hp=>⟨oc.of (T p hp).1,by grind⟩⟩
end
def U2r{b:Nat}{te ts:TypeId}{C rs:ir}(T:jF (E b).tojo te ts C rs){h:N}{n0 z n:Nat}{v:V}{xs:List V}(hz:C.size=z)(o:ij h n0 z v n xs){k:IntKind}{i:Int}(h0:0<=i)(h1:i < n) :
  ∃ bk,J7 v=U bk/\J1 (E b).tojo ts v (I k i)=U (pO bk (i.toNat*z))/\∀ j,i.toNat*z+j < L xs->Zq h bk (i.toNat*z+j)=xs[i.toNat*z+j]? := by
 rcases o with⟨rfl,rfl,rfl⟩ | ⟨bk,c,z',hc,rfl,g1,g2,g3,g4,g5⟩
 ·omega
 ·refine⟨bk,rfl,?_,fun j hj => ?_⟩
  ·rw[xo T hz ⟨h0,h1⟩,bW]
  ·rw[Z2 g2,aN hj]
def U4x(b:Nat)(h:N):Ic (E b).tojo 31 (M O 0 0)=U (I X 0):=kR
def U57(b:Nat)(h:N)(v1 v2:V)(n1:mg v1=Y)(j:v1.cells = #[v1])(n2:mg v2=Y)(C:v2.cells = #[v2]):V6 (E b).tojo 94 2 [(0,v1),(1,v2)] h=U (M (U ⟨h.Q,0,O⟩) 2 2,h.push (S Y 1 [v1,v2])):=by
 have hz:uF.zero.cells.toList=[M O 0 0]:=kR
 have T:(Nat.ble (2*uF.size) 16777216 && Nat.ble 1 uF.size)=Y:=by rw[oT];rfl
 simp only[V6,IT,(kB b).d,rX,T,if_true,hz,oT];simp[oQ,n1,n2,j,C,mK,kZ,over,Nat.ble]
def V5f(b:Nat)(n:Nat)(C:n < 1000000000)(h:N):sN (E b).tojo 3 R5 (I X (n:Int)) h=U (n,List.replicate n zU):=by
 have j:R3.desc=.int X:=kR
 simp only[sN,Fe,j];rw[if_pos ⟨iA,iA,by rw[ux];omega,by rw[k_];omega⟩,Oo];have : (I .u8 0).cells.toList=[I .u8 0]:=rfl;rw[this,GK];simp
section
attribute [local simp] Q17 Xgj Ax oU p6 p7 p_ p9 p5 qd qc pZ pX pW pY qn qk qj qf qg qi qq
def U1j(b:Nat){h:N}(n:Nat)(hn:n < 1000000000)(K:KP)(hk:∀ v h',OB h' h.Q v []->a_ h h'->K (.ret v) h'):FK b 151 [M O 0 0,I X (n:Int)] h K:=by
 refine ip b (Ax b) Xz8 rfl ?_;have T:=U4x b h;have l0:∀ hx,iC (E b).tojo 31 (M O 0 0) hx=U (I X 0):=fun hx=>j_ (b:=b) (xs:=[]) (h:=h) Sl.nil;have h0:¬ (n:Int) < 0:=iA
 have w0:IntKind.i64.wrap (n:Int)=(n:Int):=Jr iA iA;by_cases hz:n=0
 ·subst hz;have C:IntKind.i64.wrap 0=0:=Jr iA iA;simp[T,l0,C];exact hk _ h ij.nil (a_.refl _)
 ·have hp:0 < (n:Int):=iA
  have j:0 < n:=iA
  have C:IntKind.i64.wrap 0=0:=Jr iA iA;obtain⟨v1,k1,o1, -⟩:=BS (j' b) (h:=h) (n0:=h.Q) (v:=M O 0 0) (n:=0) (xs:=[]) (k:=.i64) (i:=0) k_ iA ij.nil iA iA;obtain⟨v2,h2,k2,o2,b2⟩:=yr (j' b) (tx:=3) (m:=n) k_ iA o1 (ai _) (V5f b n hn h) jA (by rw[ux];omega) iA;obtain⟨v3,k3,o3, -⟩:=BS (j' b) (k:=.i64) (i:=0) k_ iA o2 iA iA;have a2:a_ h h2:=b2.R (a_.refl _) o1;simp[T,l0,h0,C,w0,hp,j,k1,k2,k3]
  grind
end
def qJ(l:List (V × List Int)):List Int:=(l.map (·.2)).flatten
def Ubp{l:List (V × List Int)}{i:Nat}{p:V × List Int}(h:l[i]? = U p):qJ (l.take (i+1))=qJ (l.take i)++p.2:=by
 rw[aT,h];simp[qJ]
def Uuu(l:List (V × List Int))(i:Nat):L (qJ (l.take i))<=L (qJ l):=by
 have e:qJ l=qJ (l.take i)++qJ (l.drop i):=by unfold qJ;rw[<- List.flatten_append,<- bF,bz]
 grind
def CC1(sv:V)(items:List (V × List Int))(h:N)(k:Nat)(s:St):Prop:=∃ (t:Tr V) (i:Nat),s=⟨⟨36,t⟩,[],h⟩/\t.A 0=U sv/\t.A 9=U sv/\t.A 10=U (I X (L items:Int))/\t.A 3=U (I X (L (qJ (items.take i)):Int))/\t.A 11=U (I X (i:Int))/\i<=L items/\k=L items-i
def CC2(sv:V)(items:List (V × List Int))(h:N)(k:Nat)(s:St):Prop:=∃ (t:Tr V) (h1:N) (o:V) (i:Nat),s=⟨⟨36,t⟩,[],h1⟩/\t.A 25=U sv/\t.A 26=U (I X (L items:Int))/\t.A 6=U o/\t.A 27=U (I X (i:Int))/\i<=L items/\k=L items-i/\OB h1 h.Q o (qJ (items.take i))/\a_ h h1
section
attribute [local simp] Qeu p6 p7 p_ p9 p5 qd qc pZ pX pW pY qn qk qj qf qg qi qq
def Ut1(b:Nat){h:N}{sv:V}{items:List (V × List Int)}(ss:Sl h 1 sv (L items) (items.map (·.1)))(hn:L items < 5864062014805)(its:∀ p ∈ items,SB h p.1 p.2)(hl:L (qJ items) < 1000000000)(K:KP)
  (hk:∀ v h',OB h' h.Q v (qJ items)->a_ h h'->K (.ret v) h'):FK b 113 [sv] h K:=by
 refine ip b (Qeu b) Xu5 rfl ?_;have hc:∀ hx,iC (E b).tojo 94 sv hx=U (I X (L items:Int)):=fun hx=>iT (kB b) ss;simp[BE,C6,Z8,Ax,C9,hc];refine iV (CC1 sv items h) (L items) ⟨_,0,rfl,jA,jA,jA,by simp[qJ],jA,iA,rfl⟩ ?_;rintro k s' ⟨t,i,rfl,t0,t9,t10,t3,h3,hi,rfl⟩ _;by_cases h2:i < L items
 ·have j:(i:Int) < (L items:Int):=iA
  obtain⟨⟨v,x⟩,T⟩:∃ p,items[i]? = U p:=⟨_,ac h2⟩;obtain⟨bk,off,q1,q2,q3, -⟩:=mQ (kB b) oT ss (k:=.i64) (i:=(i:Int)) iA iA;have q4:Zq h bk off=U v:=by
   grind
  have sx:=its (v,x) (ae T);have len:=fun hx=>j_ (b:=b) (h1:=hx) sx;have hw:=wS (i:=i) iA;have e1:=Ubp T;have e2:=Uuu items (i+1);rw[e1,aJ]at e2;simp only at e2 sx len;have w1:IntKind.i64.wrap ((L (qJ (items.take i)):Int)+(L x:Int))=(L (qJ (items.take i)):Int)+(L x:Int):=Jr iA iA;have n1:¬ (L (qJ (items.take i)):Int)+(L x:Int) < 0:=iA
  simp[BE,C6,Z8,Ax,C9,t0,t9,t10,t3,h3,j,q2,q4,len,w1,n1,hw];refine⟨L items-(i+1),iA,_,i+1,rfl,by simp[t0],by simp[t9],by simp[t10],?_,jA,iA,rfl⟩;rw[e1];simp
 ·have j:¬ (i:Int) < (L items:Int):=iA
  have : i=L items:=iA
  subst this;rw[aj (ai _)]at t3;simp[BE,C6,Z8,Ax,C9,t0,t9,t10,t3,h3];refine U1j b _ hl _ fun v0 h0 o0 a0 => ?_;simp[BE,C6,Z8,Ax,C9,t0,hc];refine iV (CC2 sv items h) (L items) ⟨_,h0,v0,0,rfl,jA,jA,jA,jA,iA,rfl,by simpa[qJ]using o0,a0⟩ ?_;rintro k s' ⟨t,h1,o,i,rfl,hb,hr,t6,hp,hi,rfl,ob,C⟩ _;by_cases h2:i < L items
  ·have j:(i:Int) < (L items:Int):=iA
   obtain⟨⟨v,x⟩,T⟩:∃ p,items[i]? = U p:=⟨_,ac h2⟩;obtain⟨bk,off,q1,q2,q3, -⟩:=mQ (kB b) oT (ss.R C) (k:=.i64) (i:=(i:Int)) iA iA;have q4:Zq h1 bk off=U v:=by
    have:=q3 0 iA;simpa[T]using this
   have sx:=its (v,x) (ae T);have hw:=wS (i:=i) iA;have e1:=Ubp T;have e2:=Uuu items (i+1);rw[e1,aJ]at e2;simp only at e2 sx;obtain⟨v',h',k1,k2,k3⟩:=yE (b:=b) ob C.1 (sx.R C) iA;simp[BE,C6,Z8,Ax,C9,hb,hr,t6,hp,j,q2,q4,k1,hw];refine⟨L items-(i+1),iA,_,h',v',i+1,rfl,by simp[hb],by simp[hr],jA,jA,iA,rfl,?_,k3.R C ob⟩;rw[e1];exact k2
  ·have j:¬ (i:Int) < (L items:Int):=iA
   have : i=L items:=iA
   subst this;rw[aj (ai _)]at ob;simp[BE,C6,Z8,Ax,C9,hb,hr,t6,hp];exact hk o h1 ob C
def SK(b:Nat){h:N}{v1 v2:V}{xs ys:List Int}(s1:SB h v1 xs)(s2:SB h v2 ys)(hl:L xs+L ys < 1000000000)(K:KP)(hk:∀ v h',OB h' h.Q v (xs++ys)->a_ h h'->K (.ret v) h') :
  FK b 68 [v1,v2] h K:=by
 refine ip b (BB b) Jn0 rfl ?_;obtain⟨C,T⟩:∃ C,C=h.push (S Y 1 [v1,v2]):=⟨_,rfl⟩;have bl:V6 (E b).tojo 94 2 [(0,v1),(1,v2)] h=U (M (U ⟨h.Q,0,O⟩) 2 2,C):=by
  obtain⟨n1,c1⟩:=xS s1.one;obtain⟨n2,c2⟩:=xS s2.one;rw[T];exact U57 b h v1 v2 n1 c1 n2 c2
 have j:=jG T;have ss:Sl C 1 (M (U ⟨h.Q,0,O⟩) 2 2) 2 [v1,v2]:=(ij.new (n0:=0) (z:=1) (bw _) (by rw[T,N.F,if_pos rfl]) rfl kA (.inr rfl)).sl;simp[LZ,Tc,BB,oU,bl];refine Ut1 b (items:=[(v1,xs),(v2,ys)]) ss jA (fun p hp => ?_) (by simpa[qJ]using hl) _ fun v h' o a => ?_
 ·simp at hp;rcases hp with rfl | rfl
  ·exact s1.R j
  ·exact s2.R j
 ·simp[LZ,Tc,BB,oU];exact hk v h' (by
   have q:=o.low j.1;have e:qJ [(v1,xs),(v2,ys)]=xs++ys:=by simp[qJ]
   rwa [e]at q) (j.trans a)
end
def SV(b:Nat):(1 < (E b).G.n)=True:=eq_true (by show 1 < nv;decide)
section
attribute [local simp] Pq Q7q yq wj wk GQ VU TZ VQ Vv Vu BB TW uZ T7 T9 Lt VY V7 qx VV V0 Mn Mm p6 p7 p_ p9 p5 qd qc pZ pX pW pY qn qk qj qf qg qi qq
def V77(b:Nat){h:N}(laid:Ab.LaidIn h laidAll){bv:V}{xs:List Int}(s:SB h bv xs){n:Nat}(hn:n < 253)(hl:L xs < 999999999)(K:KP)(hk:∀ v h',OB h' h.Q v (xs ++ [(n:Int)])->a_ h h'->K (.ret v) h') :
  FK b 31 [bv,I X (n:Int)] h K:=by
 refine ip b (yq b) TP rfl ?_;have T:h.A 1=U (S J 0 yR):=laid (1,yR) (by simp[laidAll]);have ld:Zq h 1 2=U (I .u64 253):=by rw[Z2 T];rfl
 have hx:J1 (E b).tojo 134 (pO 1 0) (I X 0)=U (pO 1 0):=by simpa using GQ b (bk:=1) (o:=0) (k:=.i64) (i:=0) ⟨iA,iA⟩
 have w1:IntKind.u64.wrap (n:Int)=(n:Int):=Il iA iA;have w2:IntKind.u8.wrap (n:Int)=(n:Int):=CM iA;have j:(n:Int) < 253:=iA
 have C:n < 253:=hn;simp[SV,hx,ld,w1,w2,j,C,ua];refine SK b (v2:=M (U ⟨h.Q,0,O⟩) 1 1) (ys:=[(n:Int)]) (s.R (a_.push _ _)) (SB.push (xs:=[(n:Int)]) jA) (by simp;omega) _ fun v h' o a => ?_;simp;exact hk v h' (o.low (bJ _)) ((a_.push _ _).trans a)
end
def Um(j:List Nat):∀ n i,jI j (n+1) i=jI j n i++Bl.keyed j [i+n]
 | 0,i=>by simp[jI]
 | n+1,i=>by
  rw[jI,Um j n (Nat.succ i)]
  conv=>rhs;rw[jI]
  grind
def Ukm(k l:List Nat):∀ x ∈ Bl.keyed k l,x < 256:=by
 unfold Bl.keyed;split <;> exact BQ _
def NWI(sv:V)(j:List Nat)(h:N)(ν:Nat)(k:Nat)(s:St):Prop:=∃ (t:Tr V) (h1:N) (i:Nat),s=⟨⟨17,t⟩,[],h1⟩/\t.A 0=U sv/\t.A 3=U (pO ν 0)/\t.A 5=U (I X (i:Int))/\i<=32/\k=32-i/\h1.A ν=U (S Y 1 ((jI j i 1).map dk++List.replicate ((32-i)*32) zU))/\a_ h h1
section
attribute [local simp] XO Xzf Wp yq zG TE Iu Vw p6 p7 p_ p9 p5 qd qc pZ pX pW pY qn qk qj qf qg qi qq
def U2z(b:Nat){h:N}(laid:Ab.LaidIn h laidAll){sv:V}{j:List Nat}(s:SN h sv j)(hl:L j < 1000000000)(K:KP)(hk:∀ ν h',h'.A ν=U (S Y 1 ((jI j 32 1).map dk))->h.Q<=ν->a_ h h'->K (.ret (pO ν 0)) h') :
  FK b 8 [sv] h K:=by
 refine ip b (Wp b) V40 rfl ?_;obtain⟨hA,eA⟩:∃ hA,hA=h.push (S Y 1 (List.replicate 1024 zU)):=⟨_,rfl⟩;have hc:jd (E b).tojo 76 h=U (pO h.Q 0,hA):=by rw[eA];exact Bm b h
 have aA:=jG eA;have gA:hA.A h.Q=U (S Y 1 (List.replicate 1024 zU)):=by rw[eA,N.F,if_pos rfl]
 simp[Bm,-Bm,hc];refine iV (NWI sv j h h.Q) 32 ⟨_,hA,0,rfl,jA,jA,jA,iA,rfl,by simpa[jI]using gA,aA⟩ ?_;rintro k s' ⟨t,h1,i,rfl,t0,t3,t5,hi,rfl,g1,C⟩ _;by_cases hb:i < 32
 ·have T:(i:Int) < 32:=iA
  have hw:=wS (i:=i) iA;simp[Bm,t0,t3,t5,T,hw];refine V77 b (Laid.R laid C) (bv:=M O 0 0) (xs:=[]) (n:=i+1) Sl.nil iA jA _ fun v h2 o2 a2 => ?_;have s2:SN h2 v [i+1]:=o2.sl;simp[Bm,t0,t3,t5];refine Uvh b (Eo (Laid.R laid (C.trans a2))) (s.R (C.trans a2)) s2 hl jA _ fun h3 a3 => ?_;obtain⟨dg,hdg⟩:∃ d,d=Bl.keyed j [i+1]:=⟨_,rfl⟩;rw[<- hdg];have kl:L dg=32:=by rw[hdg];exact zZ _ _
  have g3:=(a2.trans a3).A g1;have l3:=N.D g3;have kf:L ((jI j i 1).map dk)=i*32:=by rw[bo,LR]
  have hx:J1 (E b).tojo 74 (pO h.Q 0) (I X (i:Int))=U (pO h.Q (i*32)):=by simpa using Iu b (bk:=h.Q) (o:=0) (k:=.i64) (i:=(i:Int)) ⟨iA,iA⟩
  obtain⟨h4,e4⟩:∃ h4,h4=h3.set h.Q (U (S Y 1 ((jI j (i+1) 1).map dk++List.replicate ((32-(i+1))*32) zU))):=⟨_,rfl⟩;have st:iN h3 h.Q (i*32) (dg.map dk)=U h4:=by
   rw[jQ g3 (by grind),e4];congr 4;rw[<- kf,List.take_left,Um,bF,show 1+i=i+1 by omega,<- hdg,<- bU,di,gQ,bo,kl,show(32-i)*32-32=(32-(i+1))*32 by omega]
  have g4:h4.A h.Q=U (S Y 1 ((jI j (i+1) 1).map dk++List.replicate ((32-(i+1))*32) zU)):=by rw[e4,gY l3,if_pos rfl]
  have a4:a_ h h4:=by rw[e4];exact(C.trans (a2.trans a3)).set _ (ai _) l3
  simp[Bm,t0,t3,t5,hx,kl,st,hw];exact⟨32-(i+1),iA,_,h4,i+1,rfl,by simp[t0],by simp[t3],jA,iA,rfl,g4,a4⟩
 ·have T:¬ (i:Int) < 32:=iA
  have : i=32:=iA
  subst this;simp[Bm,t0,t3,t5];exact hk h.Q h1 (by simpa using g1) (ai _) C
end
end Go.Proofs.YtmgonkaadhbnpaaGreatDoor
end
