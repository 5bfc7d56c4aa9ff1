import Derived.Test.YtmgonkaadhbnpaaGreatDoorLuA
import Derived.Test.YtmgonkaadhbnpaaGreatDoorMkA
import Derived.Test.YtmgonkaadhbnpaaGreatDoorLgI
import Derived.Test.YtmgonkaadhbnpaaGreatDoorLgA
import Derived.Test.YtmgonkaadhbnpaaGreatDoorRgA
set_option linter.all false
set_option maxHeartbeats 8000000
open List renaming length→L
open Option renaming some→U,none→O
open Bool renaming true→Y,false→J
open Go renaming Value→V
open Go.Value renaming int→I,slice→M
open Go.IntKind renaming i64→X
open Go.Ab.Blk renaming cells→S
noncomputable section
namespace Go.Proofs.YtmgonkaadhbnpaaGreatDoor
open Go Go.Ab
set_option maxRecDepth 100000
def Ik{h:N}{bk o n:Nat}{l:List V}(j:iy h bk o n=U (.agg ⟨l⟩)){a z:Nat}(hz:a+z<=n):iy h bk (o+a) z=U (.agg ⟨(l.drop a).take z⟩):=by
 unfold iy at j ⊢;split at j
 ·rename_i c T;cases C:nQ n (c.drop o)with
  | none=>grind
  | some r =>
   rw[C]at j;have e:=Vqk _ _ _ C;have sp:=(z_ _ _ _ C).1;simp only[aQ,aU,fJ,fR]at j;subst j;have P:n<=L (c.drop o):=by grind
   rw[cK]at P;rw[th (by grind),e];simp only[aQ];congr 3;rw[List.drop_take,fN,dN iA,bU]
 ·cases j
def LC.dcells(x:LC):List V:=x.key.cells++x.c.cells
def qr(l:List LC):List V:=l.flatMap LC.dcells
def LC.dlen(x:LC):L x.dcells=36:=by simp[LC.dcells,Pt.len,LV.cells]
def U65(l k:List LC):qr (l++k)=qr l++qr k:=by simp[qr]
def U3o(x:LC):qr [x]=x.dcells:=by simp[qr]
structure SM (h:N) (bk off:Nat) (x:LC):Prop where
 all:iy h bk off 36=U (.agg ⟨x.dcells⟩)
 key:iy h bk off 33=U (.agg ⟨x.key.cells⟩)
 val:Zq h bk (off+33)=U (I X x.c.value)
 sv:Zq h bk (off+34)=U x.c.sv
 made:Zq h bk (off+35)=U (I X x.c.made)
def Aj{b:Nat}{te ts:TypeId}{re rs:ir}(T:jF (E b).tojo te ts re rs)(hz:re.size=36){h:N}{v:V}{l:List LC}(s:Sl h 36 v (L l) (qr l)){i:Nat}{x:LC}(hp:l[i]? = U x) :
  ∃ bk off,J7 v=U bk/\J1 (E b).tojo ts v (I X (i:Int))=U (pO bk off)/\SM h bk off x:=by
 have hl:=(av.1 hp).1;obtain⟨bk,off,q1,q2,q3,P⟩:=mQ T hz s (k:=.i64) (i:=(i:Int)) iA iA;have e:((qr l).drop (i*36)).take 36=x.dcells:=AS LC.dlen hp;rw[bA,e]at P;have c:∀ j,j < 3->Zq h bk (off+(33+j))=x.c.cells[j]? := fun j hj=>by
  have:=q3 (33+j) iA;rw[bA]at this;rw[this];have C:=congrArg (·[33+j]?) e;simp only[List.getElem?_take,fq]at C;rw[if_pos iA]at C;rw[C,LC.dcells,aL (by rw[Pt.len];omega),Pt.len];simp
 refine⟨bk,off,q1,q2,P,?_,c 0 iA,c 1 iA,c 2 iA⟩;have:=Ik P (a:=0) (z:=33) iA;rw[bR,ba,LC.dcells,bm (by rw[Pt.len];omega),aj (by rw[Pt.len];omega)]at this;exact this
def Ef(b:Nat)(x:LC)(h:N):V6 (E b).tojo 79 1 [(0,.agg ⟨x.dcells⟩)] h=U (M (U ⟨h.Q,0,O⟩) 1 1,h.push (S Y 1 x.dcells)):=oL (tR b) (z:=36) vR iA iA (y:=.agg ⟨x.dcells⟩) rfl (ys:=x.dcells) rfl x.dlen
def DJ{b:Nat}{h:N}{n0:Nat}{v:V}{l:List LC}(o:ij h n0 36 v (L l) (qr l))(h0:n0<=h.Q)(hn:L l < 1000000)(x:LC) :
  ∃ j h',kU (E b).tojo 79 79 v (M (U ⟨h.Q,0,O⟩) 1 1) (h.push (S Y 1 x.dcells))=U (j,h')/\ij h' n0 36 j (L (l ++ [x])) (qr (l ++ [x]))/\iM v h h':=by
 obtain⟨j,h',C,P,T⟩:=Ca (tR b) (z:=36) vR iA o h0 (ys:=x.dcells) x.dlen (by rw[Uut];omega) iA;refine⟨j,h',C,?_,T⟩;rw[U65,U3o,aJ];exact P
def We9(b:Nat)(p r:Pt):oM (E b).tojo .neq 64 (.agg ⟨p.cells⟩) (.agg ⟨r.cells⟩)=U (.bool (!decide (p=r))):=by
 have e:oM (E b).tojo .neq 64 (.agg ⟨p.cells⟩) (.agg ⟨r.cells⟩)=(kw DC p.cells r.cells).map fun z => .bool (!z):=kR
 rw[e,Ff];rfl
def U2q:∀ {a c:List Nat} {i:Nat},(∀ j,j < i->a[j]? = c[j]?)->∀ {x y},a[i]? = U x->c[i]? = U y->x≠y->decide (m9 a c < 0)=decide (x < y)
 | [],_,i,_,x,y,h,_,_=>by simp at h
 | _::_,[],i,_,x,y,_,h,_=>by simp at h
 | u::a,v::c,0,_,x,y,h1,C,ne=>by
  simp at h1 C;subst h1 C;unfold m9
  grind
 | u::a,v::c,i+1,e,x,y,h1,C,ne=>by
  have P:=e 0 iA;simp at P;subst P;unfold m9;rw[if_neg iA,if_neg iA];exact U2q (i:=i) (fun j T=>by grind) (by grind) (by grind) ne
def tM(p q:Pt):Bool:=decide (pC p q < 0)
def U9x{p q:Pt}(h:p.id=q.id):tM p q=decide (p.n < q.n):=by
 unfold tM;rw[AX,h,Sv,if_pos rfl];by_cases h:p.n < q.n
 ·rw[decide_eq_true h,decide_eq_true (OP.2 h)]
 ·rw[decide_eq_false h,decide_eq_false (fun e=>h (OP.1 e))]
def U8b{p q:Pt}{i x y:Nat}(e:∀ j,j < i->p.id[j]? = q.id[j]?)(h1:p.id[i]? = U x)(C:q.id[i]? = U y)(ne:x≠y):tM p q=decide (x < y):=by
 rw[<- U2q e h1 C ne];unfold tM;rw[AX,if_neg];intro h;have:=Ea h
 grind
def BfI(C P:Nat)(p q:Pt)(h:N)(k:Nat)(s:St):Prop:=∃ (t:Tr V) (i:Nat),s=⟨⟨33,t⟩,[],h⟩/\t.A 2=U (pO C 0)/\t.A 3=U (pO P 0)/\t.A 5=U (I X (i:Int))/\i<=32/\k=32-i/\∀ j,j < i->p.id[j]? = q.id[j]?
def Waf{h:N}{B z:Nat}{ow:Bool}{p:Pt}(g:h.A B=U (.cells ow z p.cells)){i x:Nat}(j:p.id[i]? = U x):Zq h B i=U (I .u8 (x:Int)):=by
 have C:=(av.1 j).1;rw[Z2 g,Pt.cells,aN (by grind),b7,j];rfl
def ZY{h:N}{B z:Nat}{ow:Bool}{p:Pt}(g:h.A B=U (.cells ow z p.cells)):Zq h B 32=U (I X p.n):=by
 rw[Z2 g,Pt.cells,aL (by simp[p.hd])];simp[p.hd]
attribute [local simp] Qw p6 p7 X0 p_ p9 p5 qd qc Q6 Qt Yg Y6 jm Qg iD Ab.g0 gv gs Q8 Qd iH kH lr Qh Tr.H St.put Tm.put flat iS Y5 Qm Qp Qn Qo Qk Ql Qj Qq Qi Q7 Q9 pZ pX pW pY qn qk qj qf qg qi qq Qz.putAll Qr Q0 Qa Wa ku Yk Jn Yo Nat.testBit Y0 loadAt Ab.runT Ym Yb Yh
section
attribute [local simp] Qke Qr7 QW v_ yh uH qx YI Cy vu V0
def Uvd(b:Nat)(p q:Pt)(h:N)(K:KP)(hk:∀ h',a_ h h'->K (.ret (.bool (tM p q))) h'):FK b 70 [.agg ⟨p.cells⟩,.agg ⟨q.cells⟩] h K:=by
 refine ip b (QW b) Jb5 rfl ?_;obtain⟨h1,e1⟩:∃ h1,h1=h.push (S Y 1 p.cells):=⟨_,rfl⟩;have hb:=kE e1;have q1:=lT e1;obtain⟨T,e2⟩:∃ T,T=h1.push (S Y 1 q.cells):=⟨_,rfl⟩;have hr:=kE e2;have gp:T.A h.Q=U (S Y 1 p.cells):=by rw[e2,N.F,if_neg iA,e1,N.F,if_pos rfl]
 have gq:T.A h1.Q=U (S Y 1 q.cells):=by rw[e2,N.F,if_pos rfl]
 have a2:a_ h T:=by rw[e2];exact(by rw[e1];exact a_.push _ _:a_ h h1).push' _
 simp[hb,hr];refine iV (BfI h.Q h1.Q p q T) 32 ⟨_,0,rfl,jA,jA,jA,iA,rfl,fun j hj=>by omega⟩ ?_;rintro k s' ⟨t,i,rfl,t2,t3,t5,hi,rfl,eq⟩ _;by_cases hl:i < 32
 rotate_left
 ·have C:¬ (i:Int) < 32:=iA
  have : i=32:=iA
  subst this;have h3:p.id=q.id:=by
   apply dq;intro j;by_cases hj:j < 32
   ·grind
   ·rw[cm (by rw[p.hd];omega),cm (by rw[q.hd];omega)]
  have r:=U9x h3;have n1:=ZY gp;have n2:=ZY gq;rw[r]at hk;simp[t2,t3,t5,n1,n2]
  grind
 have C:(i:Int) < 32:=iA
 obtain⟨x,hx⟩:∃ x,p.id[i]? = U x:=⟨_,ac (by rw[p.hd];exact hl)⟩;obtain⟨y,hy⟩:∃ y,q.id[i]? = U y:=⟨_,ac (by rw[q.hd];exact hl)⟩;have w1:=wS (i:=i) iA;have xi:∀ B:Nat,J1 (E b).tojo 62 (pO B 0) (I X (i:Int))=U (pO B i):=fun B=>by rw[uH b ⟨iA,iA⟩];simp
 have c1:=Waf gp hx;have c2:=Waf gq hy;simp[t2,t3,t5,C];refine jf [] jA VH.1 (by simp[VH.2,t2,t3,t5,xi,c1,c2];first | exact⟨rfl,rfl⟩ | rfl) ?_ ?_
 ·simp[Q74]
 by_cases P:x=y
 ·subst P;simp[t5,w1];exact⟨32-(i+1),iA,_,i+1,rfl,by simp[t2],by simp[t3],jA,iA,rfl,fun j hj=>by
   grind⟩
 ·have hc:¬ (x:Int)=(y:Int):=iA
  have r:=U8b eq hx hy P;have r2:decide (x < y)=decide ((x:Int) < (y:Int)):=by
   simp
  rw[r,r2]at hk;simp[P,hc];refine jf [] jA VF.1 (by simp[VF.2,t2,t3,t5,xi,c1,c2];first | exact⟨rfl,rfl⟩ | rfl) ?_ ?_
  ·simp[Q64]
  simp
  grind
end
def sY(p:Pt)(x:LC):Bool:=decide (x.key=p)
def pk(l:List LC)(p:Pt):List LC:=l.filter fun x => !sY p x
def WoI(v:V)(B:Nat)(l:List LC)(p:Pt)(h:N)(k:Nat)(s:St):Prop:=∃ (t:Tr V) (h1:N) (o:V) (i:Nat),s=⟨⟨28,t⟩,[],h1⟩/\t.A 0=U v/\t.A 3=U (pO B 0)/\t.A 5=U o/\t.A 6=U (I X (i:Int))/\i<=L l/\k=L l-i /\
 ij h1 h.Q 36 o (L (pk (l.take i) p)) (qr (pk (l.take i) p))/\a_ h h1
def U0z{A:Type}{q:A->Bool}{l:List A}{i:Nat}{x:A}(j:l[i]? = U x):(l.take (i+1)).filter q=(l.take i).filter q++if q x then [x]else []:=by
 rw[aT,j,List.filter_append]
 grind
def U46{A:Type}(q:A->Bool)(l:List A)(i:Nat):L ((l.take i).filter q)<=L l :=
 ao (dI _ _) (by grind)
section
attribute [local simp] Qqn Qzf V4 Kl J' ph Mb
def Vq0(b:Nat){h:N}{v:V}{l:List LC}(s:Sl h 36 v (L l) (qr l))(hn:L l < 1000000)(p:Pt)(K:KP)(hk:∀ v' h',ij h' h.Q 36 v' (L (pk l p)) (qr (pk l p))->a_ h h'->K (.ret v') h') :
  FK b 69 [v,.agg ⟨p.cells⟩] h K:=by
 refine ip b (V4 b) Z76 rfl ?_;obtain⟨h1,e1⟩:∃ h1,h1=h.push (S Y 1 p.cells):=⟨_,rfl⟩;have bx:=kE e1;have g1:h1.A h.Q=U (S Y 1 p.cells):=by rw[e1,N.F,if_pos rfl]
 have a1:=jG e1;have len:∀ P,iC (E b).tojo 79 v P=U (I X (L l:Int)):=fun P=>iT (tR b) s;simp[bx];refine iV (WoI v h.Q l p h1) (L l) ⟨_,h1,M O 0 0,0,rfl,jA,jA,jA,jA,iA,rfl,ij.nil,a_.refl _⟩ ?_;rintro k s' ⟨t,g,o,i,rfl,t0,t3,t5,t6,hi,rfl,T,a⟩ _;by_cases C:i < L l
 rotate_left
 ·have j:¬ (i:Int) < (L l:Int):=iA
  simp[t0,t5,t6,len,C,j];rw[aj iA]at T;exact hk o g (T.low a1.1) (a1.trans a)
 have j:(i:Int) < (L l:Int):=iA
 have w1:=wS (i:=i) iA;obtain⟨x,P⟩:∃ x,l[i]? = U x:=⟨_,ac C⟩;obtain⟨bk,off, -,x1,D⟩:=Aj (b:=b) (tR b) vR (s.R (a1.trans a)) P;have gp:=a.A g1;have pl:iy g h.Q 0 33=U (.agg ⟨p.cells⟩):=nZ gp (by rw[Pt.len];omega) (by rw[Pt.len];omega);have pe:=We9 b x.key p;have et:=U0z (q:=fun x => !sY p x) P;have d1:=D.key;have d2:=D.all;simp[t0,t3,t5,t6,len,C,j];refine jf [] jA VM.1 (by simp[VM.2,t0,t3,t5,t6,x1,d1,pl,pe];first | exact⟨rfl,rfl⟩ | rfl) ?_ ?_
 ·simp[Q3t]
 by_cases hp:x.key=p
 ·have ef:pk (l.take (i+1)) p=pk (l.take i) p:=by unfold pk;rw[et];simp[sY,hp]
  simp[hp,t6,w1];exact⟨L l-(i+1),iA,_,g,o,i+1,rfl,by simp[t0],by simp[t3],by simp[t5],jA,iA,rfl,by grind,a⟩
 ·have ef:pk (l.take (i+1)) p=pk (l.take i) p ++ [x]:=by unfold pk;rw[et];simp[sY,hp]
  have hc:=U46 (fun x => !sY p x) l i;obtain⟨v',g',k1,k2,k3⟩:=DJ (b:=b) T a.1 (by unfold pk;omega) x;simp[hp,t0,t5,t6,x1,d2,Ef,k1,w1];exact⟨L l-(i+1),iA,_,g',v',i+1,rfl,by simp[t0],by simp[t3],jA,jA,iA,rfl,by grind,k3.R a T⟩
end
def nM:LC:=⟨⟨List.replicate 32 0,0,jA⟩,⟨0,M O 0 0,[],0⟩,0⟩
def oG(l:List LC)(p:Pt):Option LC:=l.find? (sY p)
def FnI(v:V)(B A:Nat)(l:List LC)(p:Pt)(h:N)(k:Nat)(s:St):Prop:=∃ (t:Tr V) (i:Nat),s=⟨⟨25,t⟩,[],h⟩/\t.A 0=U v/\t.A 3=U (pO B 0)/\t.A 4=U (pO A 0)/\t.A 6=U (I X (i:Int))/\i<=L l/\k=L l-i/\∀ x ∈ l.take i,sY p x=J
def Urd(b:Nat):jP (E b).tojo 82 []=U (.agg ⟨nM.dcells⟩):=kR
def N5(b:Nat)(h:N):jd (E b).tojo 82 h=U (pO h.Q 0,h.push (S Y 1 nM.dcells)):=kR
section
attribute [local simp] Qxw Q8b Ku BO Q16 J' ph Mb Mo Qzc
def Utn(b:Nat){h:N}{v:V}{l:List LC}(s:Sl h 36 v (L l) (qr l))(hn:L l < 1000000)(p:Pt)(K:KP)(hk:∀ h',a_ h h'->K (.ret (.tuple #[.agg ⟨((oG l p).getD nM).dcells⟩,.bool (oG l p).isSome])) h') :
  FK b 90 [v,.agg ⟨p.cells⟩] h K:=by
 refine ip b (Ku b) J5q rfl ?_;obtain⟨h1,e1⟩:∃ h1,h1=h.push (S Y 1 p.cells):=⟨_,rfl⟩;have bx:=kE e1;have q1:=lT e1;obtain⟨j,e2⟩:∃ j,j=h1.push (S Y 1 nM.dcells):=⟨_,rfl⟩;have al:jd (E b).tojo 82 h1=U (pO h1.Q 0,j):=by rw[e2];exact N5 b h1
 have g1:j.A h.Q=U (S Y 1 p.cells):=by rw[e2,N.F,if_neg iA,e1,N.F,if_pos rfl]
 have gA:j.A h1.Q=U (S Y 1 nM.dcells):=by rw[e2,N.F,if_pos rfl]
 have a2:a_ h j:=by rw[e2];exact(by rw[e1];exact a_.push _ _:a_ h h1).push' _
 have lA:=N.D gA;have st:∀ x:LC,iN j h1.Q 0 x.dcells=U (j.set h1.Q (U (S Y 1 x.dcells))):=fun x=>by
  rw[jQ gA (by rw[LC.dlen,LC.dlen];omega),cZ,bX,bG (by rw[LC.dlen,LC.dlen];omega),bS]
 have ld:∀ x:LC,iy (j.set h1.Q (U (S Y 1 x.dcells))) h1.Q 0 36=U (.agg ⟨x.dcells⟩):=fun x=>by
  rw[V9 (by rw[gY lA,if_pos rfl]) (by rw[LC.dlen];omega),ba,aj (by rw[LC.dlen];omega)]
 have aS:∀ x:LC,a_ h (j.set h1.Q (U (S Y 1 x.dcells))):=fun x=>a2.set _ iA lA;have len:∀ T,iC (E b).tojo 79 v T=U (I X (L l:Int)):=fun T=>iT (tR b) s;have pl:iy j h.Q 0 33=U (.agg ⟨p.cells⟩):=nZ g1 (by rw[Pt.len];omega) (by rw[Pt.len];omega);simp[bx,al];refine iV (FnI v h.Q h1.Q l p j) (L l) ⟨_,0,rfl,jA,jA,jA,jA,iA,rfl,fun x T=>by simp at T⟩ ?_;rintro k s' ⟨t,i,rfl,t0,t3,t4,t6,hi,rfl,no⟩ _;by_cases hc:i < L l
 rotate_left
 ·have C:¬ (i:Int) < (L l:Int):=iA
  rw[aj iA]at no;have ef:oG l p=O:=List.find?_eq_none.2 fun x T=>by grind
  rw[ef]at hk;have hr:=st nM;have hl:=ld nM;have P:L nM.dcells=36:=nM.dlen;simp[t0,t4,t6,len,hc,C,Urd,P,hr,hl]
  grind
 have C:(i:Int) < (L l:Int):=iA
 have w1:=wS (i:=i) iA;obtain⟨x,T⟩:∃ x,l[i]? = U x:=⟨_,ac hc⟩;obtain⟨bk,off, -,x1,D⟩:=Aj (b:=b) (tR b) vR (s.R a2) T;have pe:=DR b x.key p;have hb:=Ff x.key p;have d1:=D.key;have d2:=D.all;simp[t0,t3,t4,t6,len,hc,C];refine jf [] jA S6.1 (by simp[S6.2,t0,t3,t6,x1,d1,pl,pe,hb];first | exact⟨rfl,rfl⟩ | rfl) ?_ ?_
 ·simp[XU]
 by_cases hp:x.key=p
 ·have ef:oG l p=U x:=by
   unfold oG;rw[List.find?_eq_some_iff_append];refine⟨by simp[sY,hp],l.take i,l.drop (i+1),?_,fun y hy=>by grind⟩;rw[av]at T;obtain⟨h1,j⟩:=T;rw[<- j,List.getElem_cons_drop,bz]
  rw[ef]at hk;have sx:=st x;have lx:=ld x;have P:=x.dlen;simp[hp,t0,t4,t6,x1,d2,P,sx,lx]
  grind
 ·simp[hp,t6,w1];exact⟨L l-(i+1),iA,_,i+1,rfl,by simp[t0],by simp[t3],by simp[t4],jA,iA,rfl,fun y hy=>by
   rw[aT,T]at hy;rcases ah.1 hy with q | q
   ·grind
   ·simp at q;subst q;simp[sY,hp]⟩
end
def rI(c:LC)(s:List LC × Bool)(x:LC):List LC × Bool:=if !s.2 && tM c.key x.key then(s.1 ++ [c] ++ [x],Y)else(s.1 ++ [x],s.2)
def oZ(l:List LC)(c:LC):List LC × Bool:=l.foldl (rI c) ([],J)
def ze(l:List LC)(c:LC):List LC:=if(oZ l c).2 then(oZ l c).1 else(oZ l c).1 ++ [c]
def rE(l:List LC)(c:LC):List LC:=ze (pk l c.key) c
def Uyc{l:List LC}{c x:LC}{i:Nat}(j:l[i]? = U x):oZ (l.take (i+1)) c=rI c (oZ (l.take i) c) x:=by
 unfold oZ;rw[aT,j,List.foldl_append];rfl
def Uzh(c:LC)(s:List LC × Bool)(x:LC):L (rI c s x).1<=L s.1+2:=by
 unfold rI
 grind
def Umr(c:LC):∀ (l:List LC),L (oZ l c).1<=2*L l:=fun l=>by
 have : ∀ (l:List LC) (s:List LC × Bool),L (l.foldl (rI c) s).1<=L s.1+2*L l:=fun l=>by
  induction l with
  | nil=>simp
  | cons x l ih=>intro s;rw[dC];have:=ih (rI c s x);have:=Uzh c s x;grind
 have:=this l ([],J);simpa[oZ]using this
def WtI(v:V)(B:Nat)(l:List LC)(c:LC)(h:N)(k:Nat)(s:St):Prop:=∃ (t:Tr V) (h1:N) (o:V) (i:Nat),s=⟨⟨48,t⟩,[],h1⟩/\t.A 0=U v/\t.A 3=U (pO B 0)/\t.A 5=U o/\t.A 6=U (.bool (oZ (l.take i) c).2)/\t.A 7=U (I X (i:Int))/\i<=L l/\k=L l-i /\
 ij h1 h.Q 36 o (L (oZ (l.take i) c).1) (qr (oZ (l.take i) c).1)/\a_ h h1
section
attribute [local simp] Qk3 Qro Wh J' ph V4 Kl Qmv Kq QW Mb Qjz
def Uwk(b:Nat){h:N}{v:V}{l:List LC}(s:Sl h 36 v (L l) (qr l))(hn:L l < 100000)(c:LC)(K:KP)(hk:∀ C h',ij h' h.Q 36 C (L (rE l c)) (qr (rE l c))->a_ h h'->K (.ret C) h') :
  FK b 32 [v,.agg ⟨c.dcells⟩] h K:=by
 refine ip b (Wh b) J8e rfl ?_;obtain⟨h1,e1⟩:∃ h1,h1=h.push (S Y 1 c.dcells):=⟨_,rfl⟩;have bx:=kE e1;have g1:h1.A h.Q=U (S Y 1 c.dcells):=by rw[e1,N.F,if_pos rfl]
 have a1:=jG e1;have cA:∀ g,a_ h1 g->iy g h.Q 0 36=U (.agg ⟨c.dcells⟩)/\iy g h.Q 0 33=U (.agg ⟨c.key.cells⟩):=fun g a=>by
  have q:iy g h.Q 0 36=U (.agg ⟨c.dcells⟩):=nZ (a.A g1) (by rw[LC.dlen];omega) (by rw[LC.dlen];omega);refine⟨q,?_⟩;have:=Ik q (a:=0) (z:=33) iA;rw[bR,ba,LC.dcells,bm (by rw[Pt.len];omega),aj (by rw[Pt.len];omega)]at this;exact this
 have c0:=(cA h1 (a_.refl _)).2;simp[bx,c0];refine Vq0 b (s.R a1) iA c.key _ fun v1 h2 o1 a2 => ?_;have s2:=o1.sl;obtain⟨l2,e2⟩:∃ l2,l2=pk l c.key:=⟨_,rfl⟩;have hk:∀ C h',ij h' h.Q 36 C (L (ze l2 c)) (qr (ze l2 c))->a_ h h'->K (.ret C) h':=by rw[e2];exact hk
 rw[<- e2]at s2;have s1:L l2<=L l:=by rw[e2];exact dI _ _
 have len:∀ hx,iC (E b).tojo 79 v1 hx=U (I X (L l2:Int)):=fun hx=>iT (tR b) s2;simp;refine iV (WtI v1 h.Q l2 c h2) (L l2) ⟨_,h2,M O 0 0,0,rfl,jA,jA,jA,by simp[oZ],jA,iA,rfl,ij.nil,a_.refl _⟩ ?_;rintro k s' ⟨t,g,o,i,rfl,t0,t3,t5,t6,t7,hi,rfl,ho,a⟩ _;have hp:=a2.trans a;obtain⟨hB,hA⟩:=cA g hp;by_cases T:i < L l2
 rotate_left
 ·have j:¬ (i:Int) < (L l2:Int):=iA
  rw[aj iA]at ho t6;have hl:=Umr c l2;cases hb:(oZ l2 c).2 with
  | true =>
   have P:ze l2 c=(oZ l2 c).1:=by unfold ze;grind
   rw[hb]at t6;simp[t0,t5,t6,t7,len,T,j];exact hk o g (by rw[P];exact ho.low (ao a1.1 a2.1)) (a1.trans hp)
  | false =>
   have P:ze l2 c=(oZ l2 c).1 ++ [c]:=by unfold ze;grind
   rw[hb]at t6;obtain⟨C,g',k1,k2,k3⟩:=DJ (b:=b) ho a.1 iA c;simp[t0,t3,t5,t6,t7,len,T,j,hB,Ef,k1];exact hk C g' (by rw[P];exact k2.low (ao a1.1 a2.1)) (a1.trans (a2.trans (k3.R a ho)))
 have j:(i:Int) < (L l2:Int):=iA
 have w1:=wS (i:=i) iA;obtain⟨x,hx⟩:∃ x,l2[i]? = U x:=⟨_,ac T⟩;have h4:=Umr c (l2.take i);rw[df]at h4;have et:=Uyc (c:=c) hx;simp[t0,t3,t5,t6,t7,len,T,j];cases hb:(oZ (l2.take i) c).2 with
 | true =>
  rw[hb]at t6;have P:oZ (l2.take (i+1)) c=((oZ (l2.take i) c).1 ++ [x],Y):=by rw[et];unfold rI;grind
  obtain⟨bk,off, -,x1,D⟩:=Aj (b:=b) (tR b) vR (s2.R a) hx;have d2:=D.all;refine jf [] jA HY.1 (by simp[HY.2,US,UQ,t0,t3,t6,t7,x1];first | exact⟨rfl,rfl⟩ | rfl) ?_ ?_
  ·simp[JK]
  obtain⟨C,g',k1,k2,k3⟩:=DJ (b:=b) ho a.1 iA x;simp[t0,t3,t5,t6,t7,x1,d2,Ef,k1,w1];exact⟨L l2-(i+1),iA,_,g',C,i+1,rfl,by simp[t0],by simp[t3],jA,by simp[P,t6],jA,iA,rfl,by grind,k3.R a ho⟩
 | false =>
  rw[hb]at t6;obtain⟨bk,off, -,x1,D⟩:=Aj (b:=b) (tR b) vR (s2.R a) hx;have d1:=D.key;obtain⟨_,gb,kb,hu,j1,ab⟩:=Uvd b c.key x.key g (fun r h'=>r=.ret (.bool (tM c.key x.key))/\a_ g h') (fun h' a=>⟨rfl,a⟩);rw[j1]at kb;refine jf [⟨70,[.agg ⟨c.key.cells⟩,.agg ⟨x.key.cells⟩],g,.bool (tM c.key x.key),gb,J⟩] ?_ HY.1 (by simp[HY.2,US,UQ,t0,t3,t6,t7,x1,hA,d1];first | exact⟨rfl,rfl⟩ | rfl) ?_ ?_
  ·exact nK ⟨kb,hu,fun h=>by cases h⟩
  ·simp[JK]
  have ag:a_ h2 gb:=a.trans ab;have hc:ij gb h2.Q 36 o (L (oZ (l2.take i) c).1) (qr (oZ (l2.take i) c).1):=ho.keep fun z _ hz=>ab.2 z hz;obtain⟨h3,hy⟩:=cA gb (a2.trans ag);obtain⟨q1,M', -,hg,D'⟩:=Aj (b:=b) (tR b) vR (s2.R ag) hx;have d2:=D'.all;cases hq:tM c.key x.key with
  | true =>
   have P:oZ (l2.take (i+1)) c=((oZ (l2.take i) c).1 ++ [c] ++ [x],Y):=by rw[et];unfold rI;grind
   obtain⟨C,g',k1,k2,k3⟩:=DJ (b:=b) hc ag.1 iA c;have hr:=k3.R ag hc;obtain⟨es,q2, -,x2,D2⟩:=Aj (b:=b) (tR b) vR (s2.R hr) hx;have d3:=D2.all;obtain⟨v2,g2,m1,m2,m3⟩:=DJ (b:=b) k2 hr.1 (by grind) x;simp[hq,t0,t3,t5,t7,h3,Ef,k1,x2,d3,m1,w1];exact⟨L l2-(i+1),iA,_,g2,v2,i+1,rfl,by simp[t0],by simp[t3],jA,by simp[P],jA,iA,rfl,by grind,m3.R hr k2⟩
  | false =>
   have P:oZ (l2.take (i+1)) c=((oZ (l2.take i) c).1 ++ [x],J):=by rw[et];unfold rI;grind
   obtain⟨C,g',k1,k2,k3⟩:=DJ (b:=b) hc ag.1 iA x;simp[hq,t0,t3,t5,t6,t7,hg,d2,Ef,k1,w1];exact⟨L l2-(i+1),iA,_,g',C,i+1,rfl,by simp[t0],by simp[t3],jA,by simp[P,t6],jA,iA,rfl,by grind,k3.R ag hc⟩
end
end Go.Proofs.YtmgonkaadhbnpaaGreatDoor
end
noncomputable section
namespace Go.Proofs.YtmgonkaadhbnpaaGreatDoor
open Go Go.Ab
def iR(l:List LC):Prop:=(l.map (·.key)).Pairwise fun p q=>pC p q < 0
def Uqp(p:Pt):pC p p=0:=by rw[AX,Sv,if_pos rfl];unfold vb;omega
def iR.nd{l:List LC}(r:iR l):(l.map (·.key)).Nodup:=r.imp fun {a c} h e=>by rw[e,Uqp]at h;omega
def iR.pts{l:List LC}(r:iR l):uc (iE l) (l.map (·.key)) :=
 ⟨r.imp fun {a c} h=>by have:=Es a c;omega,r.nd,fun p=>KZ.symm⟩
def KQ:∀ (l:List LC) (p:Pt),(oG l p).map (·.c)=jw l p
 | [],_=>rfl
 | x::l,p=>by
  unfold oG jw;rw[List.find?_cons];by_cases h:x.key=p
  ·simp[sY,h]
  ·rw[if_neg (Ne.symm h),<- KQ l p];simp[sY,h,oG]
def Uah{l:List LC}(r:iR l)(p:Pt):iR (pk l p):=List.Pairwise.sublist (List.filter_sublist.map _) r
def OY:∀ (l:List LC) (p q:Pt),jw (pk l p) q=if q=p then O else jw l q
 | [],p,q=>by simp[pk,jw]
 | x::l,p,q=>by
  have ih:=OY l p q;unfold pk at ih ⊢;rw[ek];by_cases h:x.key=p
  ·rw[if_neg (by simp[sY,h]),ih];by_cases j:q=p
   ·grind
   ·rw[if_neg j,if_neg j,jw,if_neg (by grind)]
  ·rw[if_pos (by simp[sY,h]),jw,ih];by_cases j:q=x.key
   ·rw[if_pos j,if_neg (by grind),jw,if_pos j]
   ·rw[if_neg j];by_cases C:q=p
    ·grind
    ·rw[if_neg C,if_neg C,jw,if_neg j]
def U9v(l:List LC)(p:Pt):iE (pk l p)=mO (iE l) p O:=by
 funext q;unfold iE mO;rw[OY]
 grind
def U8u(l:List LC)(p:Pt):p ∉ (pk l p).map (·.key):=fun h=>by
 obtain⟨x,j,e⟩:=am.1 h;have:=(dA.1 j).2;simp[sY,e]at this
def tP(c:LC):List LC->List LC
 | []=>[c]
 | x::l=>if tM c.key x.key then c::x::l else x::tP c l
def U9q(c:LC):∀ (l j:List LC),l.foldl (rI c) (j,Y)=(j++l,Y)
 | [],j=>by simp
 | x::l,j=>by rw[dC];show l.foldl (rI c) (j ++ [x],Y)=_;rw[U9q c l];simp
def U7i(c:LC):∀ (l j:List LC),(if(l.foldl (rI c) (j,J)).2 then(l.foldl (rI c) (j,J)).1 else(l.foldl (rI c) (j,J)).1 ++ [c])=j++tP c l
 | [],j=>by simp[tP]
 | x::l,j=>by
  rw[dC,tP];cases h:tM c.key x.key with
  | true =>
   have : rI c (j,J) x=(j ++ [c] ++ [x],Y):=by unfold rI;simp[h]
   rw[this,U9q];simp
  | false =>
   have : rI c (j,J) x=(j ++ [x],J):=by unfold rI;simp[h]
   rw[this,U7i c l];simp
def Iz(l:List LC)(c:LC):ze l c=tP c l:=by
 have:=U7i c l [];rw[bX]at this;rw[<- this];unfold ze oZ;congr
def Ol{c x:LC}:∀ {l:List LC},x ∈ tP c l↔x=c∨x ∈ l
 | []=>by simp[tP]
 | y::l=>by
  unfold tP;split
  ·simp
  ·rw[ar,Ol,ar]
   grind
def Utm(c:LC):∀ (l:List LC),L (tP c l)=L l+1
 | []=>rfl
 | y::l=>by unfold tP;split <;> simp[Utm c l]
def Vqx{c:LC}:∀ {l:List LC},iR l->c.key ∉ l.map (·.key)->iR (tP c l)
 | [],_,_=>by simp[tP,iR]
 | y::l,r,no=>by
  unfold iR at r;rw[aH,dV]at r;rw[aH,ar,not_or]at no;unfold tP;cases h:tM c.key y.key with
  | true =>
   have h:pC c.key y.key < 0:=by simpa[tM]using h
   rw[if_pos rfl];unfold iR;rw[aH,dV,aH,dV];refine⟨fun q j => ?_,r⟩;rcases ar.1 j with rfl | j
   ·exact h
   ·exact Ls h (r.1 q j)
  | false =>
   have h:¬ pC c.key y.key < 0:=by simpa[tM]using h
   rw[if_neg jA];unfold iR;rw[aH,dV];refine⟨fun q j => ?_,Vqx (l:=l) r.2 no.2⟩;obtain⟨x,C,rfl⟩:=am.1 j;rcases Ol.1 C with rfl | C
   ·have f:=Es x.key y.key;have : pC x.key y.key≠0:=fun e=>no.1 (Sn e);omega
   grind
def U1y{c:LC}:∀ {l:List LC},c.key ∉ l.map (·.key)->∀ q,jw (tP c l) q=if q=c.key then U c.c else jw l q
 | [],_,q=>rfl
 | y::l,no,q=>by
  rw[aH,ar,not_or]at no;unfold tP;cases h:tM c.key y.key with
  | true=>rfl
  | false =>
   rw[if_neg jA,jw,U1y (l:=l) no.2 q];by_cases j:q=y.key
   ·rw[if_pos j,if_neg (by grind),jw,if_pos j]
   ·rw[if_neg j,jw,if_neg j]
def J7b{l:List LC}(r:iR l)(c:LC):iR (rE l c):=by
 unfold rE;rw[Iz];exact Vqx (Uah r _) (U8u l _)
def Unl(l:List LC)(c:LC):iE (rE l c)=mO (iE l) c.key (U c.c.c):=by
 unfold rE;rw[Iz];funext q;unfold iE mO;rw[U1y (U8u l _),OY]
 grind
def KV{l:List LC}{c x:LC}(h:x ∈ rE l c):x=c∨x ∈ l:=by
 unfold rE at h;rw[Iz]at h;exact(Ol.1 h).imp id fun h=>(dA.1 h).1
def NI(l:List LC)(c:LC):L (rE l c)<=L l+1:=by
 unfold rE;rw[Iz,Utm];have:=dI (fun x => !sY c.key x) l;unfold pk;omega
def U8f(l:List LC)(p:Pt):L (pk l p)<=L l:=dI _ _
end Go.Proofs.YtmgonkaadhbnpaaGreatDoor
end
noncomputable section
namespace Go.Proofs.YtmgonkaadhbnpaaGreatDoor
open Go Go.Ab
set_option maxRecDepth 100000
def Uif(p:Pt):mJ [p]=p.cells:=by simp[mJ]
def Ui8(l m:List Pt):mJ (l++m)=mJ l++mJ m:=by simp[mJ]
def Ulg(b:Nat)(p:Pt)(h:N):V6 (E b).tojo 115 1 [(0,.agg ⟨p.cells⟩)] h=U (M (U ⟨h.Q,0,O⟩) 1 1,h.push (S Y 1 p.cells)):=oL (vj b) (z:=33) (y:=.agg ⟨p.cells⟩) (ys:=p.cells) uY iA iA rfl rfl p.len
def Usz{b:Nat}{h:N}{n0:Nat}{v:V}{l:List Pt}(o:ij h n0 33 v (L l) (mJ l))(h0:n0<=h.Q)(hn:L l < 1000000)(p:Pt) :
  ∃ j h',kU (E b).tojo 115 115 v (M (U ⟨h.Q,0,O⟩) 1 1) (h.push (S Y 1 p.cells))=U (j,h')/\ij h' n0 33 j (L (l ++ [p])) (mJ (l ++ [p]))/\iM v h h':=by
 obtain⟨j,h',C,P,T⟩:=Ca (vj b) (z:=33) uY iA o h0 (ys:=p.cells) p.len (by rw[Uby];omega) iA;refine⟨j,h',C,?_,T⟩;rw[Ui8,Uif,aJ];exact P
structure jE where
 v:V
 l:List LC
structure jK (h:N) (x:jE):Prop where
 s:Sl h 36 x.v (L x.l) (qr x.l)
 n:L x.l < 50000
 a:∀ c ∈ x.l,jb h c.c
def jK.R{h h':N}{x:jE}(d:jK h x)(a:a_ h h'):jK h' x:=⟨d.s.R a,d.n,fun c j=>(d.a c j).R a⟩
def jE.vs(x:jE):List V:=x.v::x.l.map (·.c.sv)
structure jr (h:N) (D η:Nat) (pv:V) (past:List jE):Prop where
 gD:h.A D=U (S Y 1 [pO η 0,pv])
 ow:ij h 0 1 pv (L past) (past.map jE.v)
 nd:J7 pv≠U D
 at':∀ x ∈ past,jK h x
 off:∀ x ∈ past,∀ s ∈ x.vs,∀ c,J7 s=U c->c≠D/\J7 pv≠U c
 n:L past < 1000
def jr.R{h h':N}{D η:Nat}{pv:V}{past:List jE}(d:jr h D η pv past)(a:a_ h h'):jr h' D η pv past :=
 ⟨a.A d.gD,d.ow.keep fun c _ j=>a.2 c j,d.nd,fun x C=>(d.at' x C).R a,d.off,d.n⟩
section
variable(b:Nat){h:N}{D η:Nat}{pv:V}{ps:List jE}{x:jE}
def jr.c0{past:List jE}(d:jr h D η pv past):Zq h D 0=U (pO η 0):=by rw[Z2 d.gD];rfl
def jr.c1{past:List jE}(d:jr h D η pv past):Zq h D 1=U pv:=by rw[Z2 d.gD];rfl
def jr.len{past:List jE}(d:jr h D η pv past)(j:N):iC (E b).tojo 85 pv j=U (I X (L past:Int)):=iT (As b) d.ow.sl
def jr.ix{past:List jE}(d:jr h D η pv past){i:Nat}{y:jE}(j:past[i]? = U y):∃ bk off,J1 (E b).tojo 85 pv (I X (i:Int))=U (pO bk off)/\Zq h bk off=U y.v:=by
 have C:=(av.1 j).1;obtain⟨bk,off, -,P,T, -⟩:=mQ (As b) zR d.ow.sl (k:=.i64) (i:=(i:Int)) iA iA
 grind
attribute [local simp] Qw p6 p7 X0 p_ p9 p5 qd qc Q6 Qt Yg Y6 jm Qg iD Ab.g0 gv gs Q8 Qd iH kH lr Qh Tr.H St.put Tm.put flat iS Y5 Qm Qp Qn Qo Qk Ql Qj Qq Qi Q7 Q9 pZ pX pW pY qn qk qj qf qg qi qq Qz.putAll Qr Q0 Qa Wa ku Yk Jn Yo Nat.testBit Y0 loadAt Ab.runT Ym Yb Yh
section
attribute [local simp] FL EE 
def yG(d:jr h D η pv (ps ++ [x]))(K:KP)(C:K (.ret x.v) h):FK b 42 [pO D 0] h K:=by
 refine ip b (Zp b) Y8d rfl ?_;have j:=d.c1;have len:=d.len b;have P:=d.n;rw[aJ,bI,d5]at len P;have w:IntKind.i64.wrap (((L ps+(0+1):Nat):Int)-1)=(L ps:Int):=by rw[Jr iA iA];omega
 have T:IntKind.i64.wrap ((L ps:Int)+1-1)=(L ps:Int):=by grind
 have w3:IntKind.i64.wrap (L ps:Int)=(L ps:Int):=Jr iA iA;obtain⟨bk,off,x1,x2⟩:=d.ix b (i:=L ps) (y:=x) jA;simp[Fy,Ky,Zp,qB,ID,IQ];refine jf [] jA Yp.1 (by simp[Yp.2,Fy,Ky,Zp,qB,ID,IQ,ju,j,len,w,T,w3,x1,x2];first | exact⟨rfl,rfl⟩ | rfl) ?_ ?_
 ·simp[Qyo,Fy,Ky,Zp,qB,ID,IQ]
 simp[Fy,Ky,Zp,qB,ID,IQ];exact C
def Et(d:jr h D η pv (ps ++ [x]))(K:KP)(C:K (.ret (I X (L ps:Int))) h):FK b 57 [pO D 0] h K:=by
 refine ip b (Yc b) Ye2 rfl ?_;have j:=d.c1;have len:=d.len b;have P:=d.n;rw[aJ,bI,d5]at len P;have w:IntKind.i64.wrap (((L ps+(0+1):Nat):Int)-1)=(L ps:Int):=by rw[Jr iA iA];omega
 have T:IntKind.i64.wrap ((L ps:Int)+1-1)=(L ps:Int):=by grind
 have w3:IntKind.i64.wrap (L ps:Int)=(L ps:Int):=Jr iA iA;simp[XA,Yvu,Yc,mW,ju,j,len,w,T,w3];exact C
end
def RpI(D:Nat)(l:List LC)(h:N)(k:Nat)(s:St):Prop:=∃ (t:Tr V) (h1:N) (o:V) (i:Nat),s=⟨⟨22,t⟩,[],h1⟩/\t.A 0=U (pO D 0)/\t.A 3=U o/\t.A 4=U (I X (i:Int))/\i<=L l/\k=L l-i /\
 ij h1 h.Q 33 o (L ((l.map (·.key)).take i)) (mJ ((l.map (·.key)).take i))/\a_ h h1
section
attribute [local simp] Qk6 Qr4 U8 qB Dy lN Zp J' ph 
def Upq(d:jr h D η pv (ps ++ [x]))(K:KP)(hk:∀ T h',ij h' h.Q 33 T (L (x.l.map (·.key))) (mJ (x.l.map (·.key)))->a_ h h'->K (.ret T) h'):FK b 55 [pO D 0] h K:=by
 refine ip b (U8 b) Yd6 rfl ?_;have X_:=d.at' x jA;have hn:=X_.n;have len:∀ hx,iC (E b).tojo 79 x.v hx=U (I X (L x.l:Int)):=fun hx=>iT (tR b) X_.s;simp;refine iV (RpI D x.l h) (L x.l) ⟨_,h,M O 0 0,0,rfl,jA,jA,jA,iA,rfl,ij.nil,a_.refl _⟩ ?_;rintro k s' ⟨t,g,o,i,rfl,t0,t3,P,hi,rfl,ho,a⟩ _;by_cases C:i < L x.l
 rotate_left
 ·have j:¬ (i:Int) < (L x.l:Int):=iA
  simp[t0,P];refine yG b (d.R a) _ ?_;simp[t0,t3,P,len,C,j]
  grind
 have j:(i:Int) < (L x.l:Int):=iA
 have w1:=wS (i:=i) iA;obtain⟨y,hy⟩:∃ y,x.l[i]? = U y:=⟨_,ac C⟩;obtain⟨bk,off, -,x1,Y_⟩:=Aj (b:=b) (tR b) vR (X_.s.R a) hy;have y1:=Y_.key;obtain⟨T,g',k1,k2,k3⟩:=Usz (b:=b) ho a.1 (by grind) y.key;simp[t0,P];refine yG b (d.R a) _ ?_;simp[t0,t3,P,len,C,j];refine yG b (d.R a) _ ?_;simp[t0,t3,P,x1,y1,Ulg,k1,w1];refine⟨L x.l-(i+1),iA,_,g',T,i+1,rfl,by simp[t0],jA,jA,iA,rfl,?_,k3.R a ho⟩;have e:(x.l.map (·.key)).take (i+1)=(x.l.map (·.key)).take i ++ [y.key]:=by rw[aT,b7,hy];rfl
 grind
end
def Oz:∀ {l:List LC},(∀ c ∈ l,0<=c.c.value/\c.c.value<=1125899906842624)->0<=kh l/\kh l<=(L l:Int)*1125899906842624
 | [],_=>by simp[kh]
 | y::l,j=>by
  have q:=j y jA;have:=Oz (l:=l) fun c C=>j c (by simp[C]);rw[B4,bI];omega
def RtI(D:Nat)(l:List LC)(h:N)(k:Nat)(s:St):Prop:=∃ (t:Tr V) (i:Nat),s=⟨⟨22,t⟩,[],h⟩/\t.A 0=U (pO D 0)/\t.A 3=U (I X (kh (l.take i)))/\t.A 4=U (I X (i:Int))/\i<=L l/\k=L l-i
section
attribute [local simp] Qli Qs6 Uz mW yU lN Zp Qq4 PL Jy V0 Qoe Qod
def Ux6(d:jr h D η pv (ps ++ [x]))(hx:L x.l<=8000)(K:KP)(hk:K (.ret (I X (kh x.l))) h):FK b 58 [pO D 0] h K:=by
 refine ip b (Uz b) Yr3 rfl ?_;have T:=d.at' x jA;have hn:=T.n;have len:∀ hx,iC (E b).tojo 79 x.v hx=U (I X (L x.l:Int)):=fun hx=>iT (tR b) T.s;simp;refine iV (RtI D x.l h) (L x.l) ⟨_,0,rfl,jA,by simp[kh],jA,iA,rfl⟩ ?_;rintro k s' ⟨t,i,rfl,t0,t3,P,hi,rfl⟩ _;by_cases C:i < L x.l
 rotate_left
 ·have j:¬ (i:Int) < (L x.l:Int):=iA
  simp[t0,P];refine yG b d _ ?_;rw[aj iA]at t3;simp[t0,t3,P,len,C,j];exact hk
 have j:(i:Int) < (L x.l:Int):=iA
 have w1:=wS (i:=i) iA;obtain⟨y,hy⟩:∃ y,x.l[i]? = U y:=⟨_,ac C⟩;obtain⟨bk,off, -,x1,Y_⟩:=Aj (b:=b) (tR b) vR T.s hy;have y1:=Y_.val;have et:kh (x.l.take (i+1))=kh (x.l.take i)+y.c.value:=by rw[aT,hy,Ow];simp[kh]
 have bn:=Oz (l:=x.l.take (i+1)) fun c hc=>(T.a c (cO hc)).v;rw[df]at bn;obtain⟨z,ez⟩:∃ z,z=kh (x.l.take (i+1)):=⟨_,rfl⟩;have w2:IntKind.i64.wrap (kh (x.l.take i)+y.c.value)=z:=by rw[<- et,<- ez];exact Jr iA iA
 simp[t0,P];refine yG b d _ ?_;simp[t0,t3,P,len,C,j];refine yG b d _ ?_;simp[t0,t3,P,x1,y1,w2,w1];exact⟨L x.l-(i+1),iA,_,i+1,rfl,by simp[t0],by simp[ez],jA,iA,rfl⟩
end
end
attribute [local simp] Qw p6 p7 X0 p_ p9 p5 qd qc Q6 Qt Yg Y6 jm Qg iD Ab.g0 gv gs Q8 Qd iH kH lr Qh Tr.H St.put Tm.put flat iS Y5 Qm Qp Qn Qo Qk Ql Qj Qq Qi Q7 Q9 pZ pX pW pY qn qk qj qf qg qi qq Qz.putAll Qr Q0 Qa Wa ku Yk Jn Yo Nat.testBit Y0 loadAt Ab.runT Ym Yb Yh
def jK.lt{h:N}{x:jE}(d:jK h x):∀ s ∈ x.vs,∀ c,J7 s=U c->c < h.Q:=fun s hs c j=>by
 rcases ar.1 hs with rfl | hs
 ·exact d.s.blk j
 ·obtain⟨y,C,rfl⟩:=am.1 hs;exact(d.a y C).s.blk j
def jK.keep{h h':N}{x:jE}(d:jK h x)(k:∀ s ∈ x.vs,∀ c,J7 s=U c->c < h.Q->h'.A c=h.A c):jK h' x :=
 ⟨d.s.keep fun c C P=>k x.v (by simp[jE.vs]) c C P,d.n,fun y j=>⟨(d.a y j).s.keep fun c C P=>k y.c.sv (aR _ (am.2 ⟨y,j,rfl⟩)) c C P,(d.a y j).b,(d.a y j).l,(d.a y j).v⟩⟩
section
variable(b:Nat){h:N}{D η:Nat}{pv:V}{ps:List jE}{x:jE}
section
attribute [local simp] Qni Qug Je qu Yc Ya qu FL EE BM
def Upu(d:jr h D η pv [x])(K:KP)(j:K (.ret (.bool J)) h):FK b 46 [pO D 0] h K:=by
 refine ip b (Je b) WP rfl ?_;simp;refine Et b (ps:=[]) (x:=x) d _ ?_;simp;exact j
def U1k(d:jr h D η pv (ps ++ [x]))(hp:ps ≠ [])(K:KP)(hk:∀ j h',jr h' D η j ps->kW D h h'->J7 j=J7 pv->h'.Q=h.Q->K (.ret (.bool Y)) h'):FK b 46 [pO D 0] h K:=by
 refine ip b (Je b) WP rfl ?_;have c1:=d.c1;have len:=d.len b;have hn:=d.n;have h2:0 < L ps:=dP.2 hp;rw[aJ,bI,d5]at len hn;have w:IntKind.i64.wrap (((L ps+(0+1):Nat):Int)-1)=(L ps:Int):=by rw[Jr iA iA];omega
 have w2:IntKind.i64.wrap ((L ps:Int)+1-1)=(L ps:Int):=by grind
 have w3:IntKind.i64.wrap (L ps:Int)=(L ps:Int):=Jr iA iA;have z:¬ (L ps:Int)=0:=iA
 obtain⟨j,k1,k2,k3⟩:=BS (As b) (k:=.i64) (i:=(L ps:Int)) zR iA d.ow iA (by simp;omega);obtain⟨h',P⟩:∃ h',h'=h.set D (U (S Y 1 [pO η 0,j])):=⟨_,rfl⟩;have lD:=N.D d.gD;have o1:mV j=Y:=by rcases k2 with⟨rfl,_⟩ | ⟨_,_,_,_,rfl,_⟩ <;> rfl
 have st:iN h D 1 [j]=U h':=by rw[P];exact nS d.gD jA
 have hx:j9 (E b).tojo 85 (pO D 1) j h=U h':=(U97 b h D 1 j o1).trans st;have sm:∀ c,c≠D->h'.A c=h.A c:=fun c C=>by rw[P,gY lD,if_neg (Ne.symm C)]
 have nx:h'.Q=h.Q:=by rw[P];rfl
 simp;refine Et b d _ ?_;simp[z,hp,(show ¬ L ps=0 by omega)];refine jf [] jA YU.1 (by simp[YU.2,Yfx,ju,c1,len,w,w2,w3,k1,hx];first | exact⟨rfl,rfl⟩ | rfl) ?_ ?_
 ·simp only[Yb,Y0,Qc,ku,Ab.runT,Nat.testBit,Jn,Yk,Yh,Ym,loadAt,Wa,Yo,jm,Qg,iD,Ab.g0,gv,gs,Q8,Qd,Qw,iH,kH,lr,Qh,Tr.H,St.put,Tm.put,flat,iS,Y5,Qm,Qp,Qn,Qo,Qk,Ql,Qj,Qq,Y6,Qi,Q7,Q9,Qr,Q0,Qa,d8];simp
 simp;refine hk j h' ⟨by rw[P,gY lD,if_pos rfl],?_,by rw[k3];exact d.nd,fun y T=>(d.at' y (by simp[T])).keep fun s hs c C _=>sm c ((d.off y (by simp[T]) s hs c C).1),fun y T s hs c C=>by rw[k3];exact d.off y (by simp[T]) s hs c C,iA⟩ ⟨iA,fun c _ C=>sm c C⟩ k3 nx;rw[bA,cg,bF,bm jA,aj jA]at k2;exact k2.keep fun c C _=>sm c fun e=>d.nd (by grind)
end
def RcI(D:Nat)(past:List jE)(h:N)(k:Nat)(s:St):Prop:=∃ (t:Tr V) (h1:N) (o:V) (i:Nat),s=⟨⟨31,t⟩,[],h1⟩/\t.A 0=U (pO D 0)/\t.A 3=U o/\t.A 4=U (I X (i:Int))/\i<=L past/\k=L past-i /\
 ij h1 h.Q 1 o i ((past.take i).map jE.v)/\a_ h h1
section
attribute [local simp] Q2a Xfq Zw Mt Dy lN FL EE U4z Q4c Mp
def Uyr{past:List jE}(d:jr h D η pv past)(K:KP)(hk:∀ D' hx h',jr h' D' η hx past->a_ h h'->h.Q<=D'->(∀ c,J7 hx=U c->h.Q<=c)->K (.ret (pO D' 0)) h'):FK b 21 [pO D 0] h K:=by
 refine ip b (Zw b) Y1b rfl ?_;have hn:=d.n;simp;refine iV (RcI D past h) (L past) ⟨_,h,M O 0 0,0,rfl,jA,jA,jA,iA,rfl,ij.nil,a_.refl _⟩ ?_;rintro k s' ⟨t,g,o,i,rfl,t0,t3,t4,hi,rfl,C,a⟩ _;have dg:=d.R a;have c1:=dg.c1;have len:=dg.len b;by_cases P:i < L past
 rotate_left
 ·have j:¬ (i:Int) < (L past:Int):=iA
  have ei:i=L past:=iA
  have c0:=dg.c0;rw[aj iA,ei]at C;obtain⟨h',e'⟩:∃ h',h'=g.push (S Y 1 [pO η 0,o]):=⟨_,rfl⟩;have bx:=kE e';have o1:mV o=Y:=by rcases C with⟨rfl,_⟩ | ⟨_,_,_,_,rfl,_⟩ <;> rfl
  have bd:jP (E b).tojo 87 [(0,pO η 0),(1,o)]=U (.agg ⟨[pO η 0,o]⟩):=by
   rcases C with⟨rfl,_⟩ | ⟨_,_,_,_,rfl,_⟩ <;> kernel_rfl
  have a2:=jG e';simp[ju,t0,t3,t4,c0,c1,len,P,j,bd,bx];refine hk g.Q o h' ⟨by rw[e',N.F,if_pos rfl],(C.keep fun c _ T=>a2.2 c T).low (bw _),fun e=>by have:=(C.from e).2;omega,fun y hy=>(dg.at' y hy).R a2,fun y hy s hs c T => ?_,hn⟩ (a.trans a2) a.1 (fun c T=>(C.from T).1);have lt:=(d.at' y hy).lt s hs c T;exact⟨by grind,fun e=>by have:=(C.from e).1;omega⟩
 have j:(i:Int) < (L past:Int):=iA
 have w1:=wS (i:=i) iA;obtain⟨y,hy⟩:∃ y,past[i]? = U y:=⟨_,ac P⟩;obtain⟨bk,off,x1,x2⟩:=dg.ix b hy;have h2:iy g bk off 1=U (.agg ⟨[y.v]⟩):=by
  unfold Zq at x2;unfold iy;split at x2
  next c T=>rw[V80 x2];rfl
  ·cases x2
 have hb:=oL (As b) (z:=1) zR iA iA (y:=.agg ⟨[y.v]⟩) rfl (ys:=[y.v]) rfl rfl (h:=g);obtain⟨v',g',k1,k2,k3⟩:=Ca (As b) (z:=1) zR iA C a.1 (ys:=[y.v]) rfl (by rw[V90];omega) iA;simp[ju,t0,t3,t4,c1,len,P,j,x1,h2,hb,k1,w1];exact⟨L past-(i+1),iA,_,g',v',i+1,rfl,by simp[t0],jA,jA,iA,rfl,by rw[aT,hy,bF];exact k2,k3.R a C⟩
end
end
def Uzx{l:List LC}{p:Pt}{y:LC}(h:oG l p=U y):y ∈ l/\y.key=p:=by
 unfold oG at h;have:=List.find?_some h;exact⟨List.mem_of_find?_eq_some h,by simpa[sY]using this⟩
def Ulh{h:N}{x:jE}(j:jK h x)(p:Pt):jb h ((oG x.l p).getD nM).c:=by
 cases e:oG x.l p with
 | none=>exact⟨Sl.nil,fun _ h=>(by cases h),by simp[nM],by simp[nM]⟩
 | some y=>exact j.a y (Uzx e).1
def KW{h:N}{B z:Nat}{ow:Bool}{y:LC}(g:h.A B=U (.cells ow z y.dcells)):Zq h B 33=U (I X y.c.value)/\Zq h B 34=U y.c.sv/\Zq h B 35=U (I X y.c.made):=by
 have q:∀ j,Zq h B (33+j)=y.c.cells[j]? := fun j=>by
  rw[Z2 g,LC.dcells,aL (by rw[Pt.len];omega),Pt.len];simp
 exact⟨q 0,q 1,q 2⟩
section
variable(b:Nat){h:N}{D η:Nat}{pv:V}{ps:List jE}{x:jE}
section
attribute [local simp] Ql8 Qrz Wz Qox Zp ph Ku Mo PL Jy V0 J0 Z8 J8 Zwh qL
def U6f(d:jr h D η pv (ps ++ [x]))(p:Pt)(K:KP)(hk:∀ j h',OB h' h.Q j ((oG x.l p).getD nM).c.script->a_ h h'->K (.ret (.tuple #[.agg ⟨[I X ((oG x.l p).getD nM).c.value,j]⟩,I X ((oG x.l p).getD nM).c.made,.bool (oG x.l p).isSome])) h') :
  FK b 61 [pO D 0,.agg ⟨p.cells⟩] h K:=by
 refine ip b (Wz b) Y7r rfl ?_;have X_:=d.at' x jA;have hq:=X_.n;obtain⟨h1,e1⟩:∃ h1,h1=h.push (S Y 1 p.cells):=⟨_,rfl⟩;have bx:=kE e1;have q1:=lT e1;have a1:=jG e1;obtain⟨C,e2⟩:∃ C,C=h1.push (S Y 1 [I X 0,M O 0 0]):=⟨_,rfl⟩;have hp:jd (E b).tojo 39 h1=U (pO h1.Q 0,C):=by rw[e2];exact jk b h1
 have q2:=lT e2;have a2:a_ h C:=by rw[e2];exact a1.push' _
 have g1:C.A h.Q=U (S Y 1 p.cells):=by rw[e2,N.F,if_neg iA,e1,N.F,if_pos rfl]
 have gO:C.A h1.Q=U (S Y 1 [I X 0,M O 0 0]):=by rw[e2,N.F,if_pos rfl]
 have pl:iy C h.Q 0 33=U (.agg ⟨p.cells⟩):=nZ g1 (by rw[Pt.len];omega) (by rw[Pt.len];omega);have d2:=d.R a2;have X2:=X_.R a2;obtain⟨y,ey⟩:∃ y,y=(oG x.l p).getD nM:=⟨_,rfl⟩;obtain⟨fo,ef⟩:∃ f,f=(oG x.l p).isSome:=⟨_,rfl⟩;rw[<- ey,<- ef]at hk;obtain⟨_,_,k1,hb,j1,j2⟩:=yG b d2 (fun r h'=>r=.ret x.v/\h'=C) ⟨rfl,rfl⟩;rw[j1,j2]at k1;rw[j2]at hb;obtain⟨_,P,k2,hy,j3,a3⟩:=Utn b X2.s iA p (fun r h'=>r=.ret (.tuple #[.agg ⟨y.dcells⟩,.bool fo])/\a_ C h') (fun h' a=>⟨by rw[ey,ef],a⟩);rw[j3]at k2;obtain⟨h4,e4⟩:∃ h4,h4=P.push (S Y 1 nM.dcells):=⟨_,rfl⟩;have hA:jd (E b).tojo 82 P=U (pO P.Q 0,h4):=by rw[e4];exact N5 b P
 have g4:h4.A P.Q=U (S Y 1 nM.dcells):=by rw[e4,N.F,if_pos rfl]
 have l4:=N.D g4;obtain⟨h5,e5⟩:∃ h5,h5=h4.set P.Q (U (S Y 1 y.dcells)):=⟨_,rfl⟩;have hu:iN h4 P.Q 0 y.dcells=U h5:=by
  rw[e5,jQ g4 (by rw[LC.dlen,LC.dlen];omega),cZ,bX,bG (by rw[LC.dlen,LC.dlen];omega),bS]
 have g5:h5.A P.Q=U (S Y 1 y.dcells):=by rw[e5,gY l4,if_pos rfl]
 have hr:a_ P h5:=by rw[e5,e4];exact(a_.push _ _).set _ (ai _) (by grind)
 have T:=a3.trans hr;have Y_:=(Ulh X_ p).R (a2.trans T);rw[<- ey]at Y_;obtain⟨v1,v2,v3⟩:=KW g5;obtain⟨_,h6,k3,ho,j,rfl,o6,a6⟩:=Bh b Y_.s (by have:=Y_.l;omega) (fun r h' => ∃ v',r=.ret v'/\OB h' h5.Q v' y.c.script/\a_ h5 h') (fun v' h' o a=>⟨v',rfl,o,a⟩);obtain⟨w1,w2,w3⟩:=KW (a6.A g5);have hl:h6.A h1.Q=U (S Y 1 [I X 0,M O 0 0]):=a6.A (T.A gO);have lO:=N.D hl;obtain⟨h7,e7⟩:∃ h7,h7=h6.set h1.Q (U (S Y 1 [I X y.c.value,j])):=⟨_,rfl⟩;have M':iN h6 h1.Q 0 [I X y.c.value,j]=U h7:=by rw[e7,jQ hl jA];rfl
 have g7:h7.A h1.Q=U (S Y 1 [I X y.c.value,j]):=by rw[e7,gY lO,if_pos rfl]
 have n3:h1.Q≠P.Q:=iA
 have x3:Zq h7 P.Q 35=U (I X y.c.made):=by
  unfold Zq at w3 ⊢;rw[e7,gY lO,if_neg n3];exact w3
 have hB:iy h7 h1.Q 0 2=U (.agg ⟨[I X y.c.value,j]⟩):=by rw[V9 g7 jA];rfl
 have bd:jP (E b).tojo 39 [(0,I X y.c.value),(1,j)]=U (.agg ⟨[I X y.c.value,j]⟩):=by
  rcases o6 with⟨rfl,_⟩ | ⟨_,_,_,_,rfl,_⟩ <;> kernel_rfl
 have hx:L y.dcells=36:=y.dlen;have hn:pc [⟨42,[pO D 0],C,x.v,C,Y⟩,⟨90,[x.v,.agg ⟨p.cells⟩],C,.tuple #[.agg ⟨y.dcells⟩,.bool fo],P,Y⟩] 90 [x.v,.agg ⟨p.cells⟩] C=U ⟨90,[x.v,.agg ⟨p.cells⟩],C,.tuple #[.agg ⟨y.dcells⟩,.bool fo],P,Y⟩:=by
  rw[qy kA];exact Yo _ _ _ _ _ _ _
 simp[jk,bx,hp,-jk];refine jf [⟨42,[pO D 0],C,x.v,C,Y⟩,⟨90,[x.v,.agg ⟨p.cells⟩],C,.tuple #[.agg ⟨y.dcells⟩,.bool fo],P,Y⟩] ?_ YB.1 (by simp[YB.2,Yy2,jk,pl,hn,hA,hx,hu];first | exact⟨rfl,rfl⟩ | rfl) ?_ ?_
 ·exact tu ⟨k1,hb,fun _ _ _=>rfl⟩ ⟨k2,hy,fun _=>a3.2⟩
 ·simp[P1,jk]
 simp[jk];refine jf [⟨28,[y.c.sv],h5,j,h6,J⟩] ?_ U2.1 (by simp[U2.2,Y0k,Ypi,jk,v1,v2,v3,w3,bd,M'];first | exact⟨rfl,rfl⟩ | rfl) ?_ ?_
 ·exact nK ⟨k3,ho,fun h=>by cases h⟩
 ·simp[Kg,jk,v1,v2,v3,w1,w2,w3,x3,yS]
 simp[jk,rc,hB];have n5:=T.1;refine hk j h7 ((o6.keep fun c hc _ => ?_).low iA) ?_
 ·rw[e7,gY lO,if_neg fun e=>by have:=(o6.from hc).1;omega]
 ·rw[e7];exact((a2.trans T).trans a6).set _ iA lO
end
end
def U0h{h:N}{n0:Nat}{v:V}{xs:List Int}(o:OB h n0 v xs):∃ a n c,v=.slice a n c:=by
 rcases o with⟨rfl,_⟩ | ⟨_,_,_,_,rfl,_⟩ <;> exact⟨_,_,_,rfl⟩
def Utf(b:Nat)(i:Nat)(z:Int)(a:Option Addr)(n c:Nat)(j:List Int):jP (E b).tojo 82 [(0,.agg ⟨(pn i).cells⟩),(1,.agg ⟨[I X z,.slice a n c]⟩)]=U (.agg ⟨(⟨pn i,⟨z,.slice a n c,j,0⟩,0⟩:LC).dcells⟩):=kR
def U3p(b:Nat)(z:Int)(a:Option Addr)(n c:Nat):jP (E b).tojo 39 [(0,I X z),(1,.slice a n c)]=U (.agg ⟨[I X z,.slice a n c]⟩):=kR
def V4g(b:Nat){h:N}{z n:Nat}{v:V}{xs:List V}(s:Sl h z v n xs):jP (E b).tojo 84 [(0,v)]=U (.agg ⟨[v]⟩):=by
 rcases s with⟨c,rfl,_⟩ | ⟨j,o,c,ow,C,pre,post,rfl,_⟩ <;> kernel_rfl
def U4j(b η B n c:Nat):jP (E b).tojo 87 [(0,pO η 0),(1,M (U ⟨B,0,O⟩) n c)]=U (.agg ⟨[pO η 0,M (U ⟨B,0,O⟩) n c]⟩):=kR
def O4(n:Nat)(x:jE):Prop:=∀ s ∈ x.vs,∀ c,J7 s=U c->n<=c
def U3k(n:Nat):O4 n ⟨M O 0 0,[]⟩:=fun s hs c j=>by
 simp[jE.vs]at hs;subst hs;cases j
def Wb0(h:N):jK h ⟨M O 0 0,[]⟩:=⟨Sl.nil,jA,jA⟩
def RnI(h:N)(ov:V)(η:Nat)(outs:List bN)(k:Nat)(s:St):Prop:=∃ (t:Tr V) (g:N) (x:jE) (i:Nat),s=⟨⟨36,t⟩,[],g⟩/\t.A 0=U ov/\t.A 1=U (pO η 0)/\t.A 5=U x.v/\t.A 6=U (I X (i:Int))/\i<=L outs/\k=L outs-i /\
 jK g x/\O4 h.Q x/\a_ h g/\iE x.l=zt ((outs.map bN.p).take i)/\iR x.l/\L x.l<=i
section
attribute [local simp] Q4m Xj5 Ug XK Kl BO Jy V0 J0 Z8 J8 Wh Qzc
def U5j(b:Nat){h:N}{ov:V}{η:Nat}{outs:List bN}(so:jg h ov outs)(hv:∀ o ∈ outs,0<=o.value/\o.value<=1125899906842624)(hA:∀ o ∈ outs,L o.script < 1000000)(hn:L outs<=1000)
  (K:KP) (hk:∀ D pv x h',jr h' D η pv [x]->iE x.l=zt (outs.map bN.p)->iR x.l->L x.l<=L outs->a_ h h'->h.Q<=D->(∀ c,J7 pv=U c->h.Q<=c)->O4 h.Q x->K (.ret (pO D 0)) h') :
  FK b 9 [ov,pO η 0] h K:=by
 refine ip b (Ug b) Vo6 rfl ?_;have len:∀ hx,iC (E b).tojo 22 ov hx=U (I X (L outs:Int)):=fun hx=>iT (kD b) so.s;simp;refine iV (RnI h ov η outs) (L outs) ⟨_,h,⟨M O 0 0,[]⟩,0,rfl,jA,jA,jA,jA,iA,rfl,Wb0 h,U3k _,a_.refl _,rfl,List.Pairwise.nil,ai _⟩ ?_;rintro k s' ⟨t,g,x,i,rfl,t0,t1,t5,t6,hi,rfl,X_,nw,a,em,ri,lx⟩ _;by_cases h2:i < L outs
 rotate_left
 ·have P:¬ (i:Int) < (L outs:Int):=iA
  rw[aj (by grind)]at em;have hb:=oL (As b) (z:=1) zR iA iA (y:=.agg ⟨[x.v]⟩) rfl (ys:=[x.v]) rfl rfl (h:=g);obtain⟨j,e1⟩:∃ j,j=g.push (S Y 1 [x.v]):=⟨_,rfl⟩;rw[<- e1]at hb;have q1:=lT e1;obtain⟨C,e2⟩:∃ C,C=j.push (S Y 1 [pO η 0,M (U ⟨g.Q,0,O⟩) 1 1]):=⟨_,rfl⟩;have bx:=kE e2;have T:=jG e1;have a2:=jG e2;have gp:C.A g.Q=U (S Y 1 [x.v]):=a2.A (by rw[e1,N.F,if_pos rfl]);have bc:=V4g b X_.s;simp[t0,t1,t5,t6,len,h2,P,bc,hb,U4j,bx];have lt:=X_.lt;refine hk j.Q (M (U ⟨g.Q,0,O⟩) 1 1) x C ⟨by rw[e2,N.F,if_pos rfl],ij.new (bw _) gp rfl (by simp[iJ]) (.inr rfl),?_,fun y hy => ?_,fun y hy s hs c hc => ?_,jA⟩ em ri iA (a.trans (T.trans a2)) (by grind) (fun c hc => ?_) nw
  ·simp[J7];omega
  ·obtain rfl:y=x:=by grind
   exact X_.R (T.trans a2)
  ·obtain rfl:y=x:=by grind
   have:=lt s hs c hc;refine⟨iA,fun e => ?_⟩;simp[J7]at e;omega
  ·simp[J7]at hc
   grind
 have P:(i:Int) < (L outs:Int):=iA
 have w1:=wS (i:=i) iA;obtain⟨o,ho⟩:∃ o,outs[i]? = U o:=⟨_,ac h2⟩;have hl:=ae ho;have h3:=so.R a;have O_:=h3.a o hl;obtain⟨bk,off, -,x1, -,c0,c1⟩:=qO (b:=b) (kD b) mR h3.s ho;obtain⟨_,j,k1,hB,M',rfl,o1,T⟩:=Bh b O_.s (by grind) (fun r h' => ∃ v',r=.ret v'/\OB h' g.Q v' o.script/\a_ g h') (fun v' h' o a=>⟨v',rfl,o,a⟩);obtain⟨sa,sn,sc,rfl⟩:=U0h o1;obtain⟨c,ec⟩:∃ c:LC,c=⟨pn i,⟨o.value,.slice sa sn sc,o.script,0⟩,0⟩:=⟨_,rfl⟩;have bc:=Utf b i o.value sa sn sc o.script;rw[<- ec]at bc;obtain⟨_,C,k2,h4,v2,rfl,o2,a2⟩:=Uwk b (X_.s.R T) iA c (fun r h' => ∃ v',r=.ret v'/\ij h' j.Q 36 v' (L (rE x.l c)) (qr (rE x.l c))/\a_ j h') (fun v' h' o a=>⟨v',rfl,o,a⟩);have hu:pc [⟨28,[o.sv],g,.slice sa sn sc,j,J⟩,⟨32,[x.v,.agg ⟨c.dcells⟩],j,v2,C,J⟩] 32 [x.v,.agg ⟨c.dcells⟩] j=U ⟨32,[x.v,.agg ⟨c.dcells⟩],j,v2,C,J⟩:=by
  rw[qy kA];exact Yo _ _ _ _ _ _ _
 have hr:∀ g',a_ g g'->Zq g' bk off=U (I X o.value):=fun g' q=>by
  unfold Zq at c0 ⊢;split at c0
  next cc hc=>rw[q.A hc];exact c0
  ·cases c0
 simp[t0,t1,t5,t6,len,h2,P];refine jf [⟨28,[o.sv],g,.slice sa sn sc,j,J⟩,⟨32,[x.v,.agg ⟨c.dcells⟩],j,v2,C,J⟩] ?_ TT.1 (by simp[TT.2,Jhf,Jht,t0,t5,t6,x1,c0,c1,Umy,U3p,bc,hu];first | exact⟨rfl,rfl⟩ | rfl) ?_ ?_
 ·exact tu ⟨k1,hB,fun h=>by cases h⟩ ⟨k2,h4,fun h=>by cases h⟩
 ·simp[JO,x1,c0,c1,hr j T,hr C (T.trans a2),yS]
 simp[t6,w1];have n1:=a.1;have n2:=T.1;have hp:jb C c.c:=by rw[ec];exact⟨o1.sl.R a2,O_.b,hA o hl,hv o hl⟩
 refine⟨L outs-(i+1),iA,_,C,⟨v2,rE x.l c⟩,i+1,rfl,by simp[t0],by simp[t1],jA,jA,iA,rfl,⟨o2.sl,by have:=NI x.l c;grind,fun y hy => ?_⟩,fun s hs q hq => ?_,a.trans (T.trans a2),?_,J7b ri c,by have:=NI x.l c;grind⟩
 ·rcases KV hy with rfl | hy
  ·exact hp
  ·exact((X_.a y hy).R T).R a2
 ·rcases ar.1 hs with rfl | hs
  ·have:=(o2.from hq).1;omega
  ·obtain⟨y,hy,rfl⟩:=am.1 hs;rcases KV hy with rfl | hy
   ·rw[ec]at hq;have:=(o1.from hq).1;omega
   ·exact nw _ (aR _ (am.2 ⟨y,hy,rfl⟩)) q hq
 ·rw[Unl,em,ec];have : (outs.map bN.p).take (i+1)=(outs.map bN.p).take i ++ [o.p]:=by rw[aT,b7,ho];rfl
  rw[this,Umq,df,bo,dN iA];rfl
end
structure pP (h:N) (η:Nat) (seed:List Nat):Prop where
 g:∃ z ow v,h.A η=U (.cells ow z [v])/\SN h v seed
 sl:L seed < 100000000
 bs:∀ x ∈ seed,x < 256
def pP.R{h h':N}{η:Nat}{seed:List Nat}(n:pP h η seed)(a:a_ h h'):pP h' η seed:=by
 obtain⟨⟨z,ow,v,g,s⟩,sl,bs⟩:=n;exact⟨⟨z,ow,v,a.A g,s.R a⟩,sl,bs⟩
def Uqo(b:Nat)(ν:Nat){l:List V}(j:L l=32)(lk:Int):jP (E b).tojo 165 [(0,pO ν 0),(1,.agg ⟨l⟩),(2,I X lk)]=U (.agg ⟨pO ν 0::l ++ [I X lk]⟩):=by
 rw[<- Vqy b ν j lk]
 kernel_rfl
structure VrT (t:Tr V) (D B:Nat) (v:V):Prop where
 t0:t.A 0=U (pO D 0)
 t1:t.A 1=U v
 t5:t.A 5=U (pO B 0)
def Vr1(h:N)(D B:Nat)(v:V)(a:jv)(m:kP)(ins:List g_)(k:Nat)(s:St):Prop:=∃ (t:Tr V) (g:N) (i:Nat) (j:Int),s=⟨⟨94,t⟩,[],g⟩/\VrT t D B v/\t.A 9=U (I X j)/\t.A 10=U (I X (i:Int))/\i<=L ins/\k=L ins-i/\a_ h g/\0<=j/\j<=(i:Int)*1125899906842624 /\
 u_ a m (ins.map g_.p) 0=u_ a m ((ins.map g_.p).drop i) j
def Vr2(h:N)(B:Nat)(C:Int)(outs:List bN)(k:Nat)(s:St):Prop:=∃ (t:Tr V) (j:Nat),s=⟨⟨94,t⟩,[],h⟩/\t.A 5=U (pO B 0)/\t.A 9=U (I X C)/\t.A 13=U (I X (j7 ((outs.map bN.p).take j)))/\t.A 14=U (I X (j:Int))/\j<=L outs/\k=L outs-j
def OO:∀ {l:List jx},(∀ o ∈ l,1<=o.value)->0<=j7 l
 | [],_=>by simp[j7]
 | o::l,j=>by
  have h1:=j o jA;have P:=OO (l:=l) fun q C=>j q (by simp[C]);have e:j7 (o::l)=o.value+j7 l:=by simp[j7]
  omega
section
variable(b:Nat){h:N}{D η:Nat}{pv:V}{ps:List jE}{x x0:jE}{seed:List Nat}{iv ov:V}{ins:List g_}{outs:List bN}{lock:Int}
section
attribute [local simp] We Qb4 Zo Uf Js Jg Ux V0 Yc Zh J4 tY Jt ph Ku Mo PL J0 Z8 Wc U1 Q4c Mp Ks Vs Jy Jc uK 
def V7h(d:jr h D η pv (ps ++ [x0]))(X_:jK h x)(N_:pP h η seed)(hks:L (jI seed 32 1)=1024)(si:Ins h iv ins)(so:jg h ov outs)(hp:∀ x ∈ ins,mq x.pt)(K:KP)
  (hk:∀ h',a_ h h'->K (.ret (.tuple #[I X (oC (jI seed 32 1) hks (iE x.l) (L ps:Int) (iX ins outs lock)).1,I X (oC (jI seed 32 1) hks (iE x.l) (L ps:Int) (iX ins outs lock)).2])) h') :
  FK b 41 [pO D 0,x.v,.agg ⟨iz iv ov lock⟩] h K:=by
 refine ip b (Zo b) Yih rfl ?_;have c2:=d.n;rw[aJ,bI,d5]at c2;have gB:=X_.n;obtain⟨h0,e0⟩:∃ h0,h0=h.push (S Y 1 (iz iv ov lock)):=⟨_,rfl⟩;have bx:=kE e0;have a0:=jG e0;have g0:h0.A h.Q=U (S Y 1 (iz iv ov lock)):=by rw[e0,N.F,if_pos rfl]
 have jR:∀ hx,iC (E b).tojo 45 iv hx=U (I X (L ins:Int)):=fun hx=>iT (kK b) si.s;have hn:∀ hx,iC (E b).tojo 22 ov hx=U (I X (L outs:Int)):=fun hx=>iT (kD b) so.s;have c0:∀ {hx:N},a_ h0 hx->Zq hx h.Q 0=U iv/\Zq hx h.Q 1=U ov/\Zq hx h.Q 2=U (I X lock)/\iy hx h.Q 0 3=U (.agg ⟨iz iv ov lock⟩):=fun a=>by
  have g:=a.A g0;exact⟨by rw[Z2 g];rfl,by rw[Z2 g];rfl,by rw[Z2 g];rfl,by rw[V9 g (by simp[iz])];rfl⟩
 simp[bx,(c0 (a_.refl h0)).2.2.2];refine Uf4 b (si.R a0) (so.R a0) _ fun h1 a1 => ?_;have c1:=a0.trans a1;obtain⟨T,eT⟩:∃ T,T=iX ins outs lock:=⟨_,rfl⟩;rw[<- eT]at hk ⊢;by_cases hc:pB T=0
 rotate_left
 ·have vE:oC (jI seed 32 1) hks (iE x.l) (L ps:Int) T=(0,pB T):=by unfold oC;grind
  rw[vE]at hk;simp[hc]
  grind
 have tk:=zX hc;have o1:L ins<=8:=by have:=tk.insN.2;rw[eT]at this;simpa[iX]using this
 have lv:L outs<=8:=by have:=tk.outsN.2;rw[eT]at this;simpa[iX]using this
 have vE:oC (jI seed 32 1) hks (iE x.l) (L ps:Int) T=if(L ps:Int)+1 < lock then(0,18)else match u_ (ER (jI seed 32 1) hks T) (iE x.l) (ins.map g_.p) 0 with
   | .error e=>(0,e)
   | .ok s=>if s-j7 (outs.map bN.p) < 0 then(0,19)else(s-j7 (outs.map bN.p),0):=by
  unfold oC;rw[if_pos hc,eT];rfl
 rw[vE]at hk;have d1:=d.R c1;obtain⟨_,_,q2,n2,j1,j2⟩:=Et b d1 (fun r h'=>r=.ret (I X (L ps:Int))/\h'=h1) ⟨rfl,rfl⟩;rw[j1,j2]at q2;rw[j2]at n2;have r2:IntKind.i64.wrap ((L ps:Int)+1)=(L ps:Int)+1:=Jr iA iA;have k1:=c0 a1;simp[hc];refine jf [⟨57,[pO D 0],h1,I X (L ps:Int),h1,Y⟩] ?_ Y'.1 (by simp[Y'.2,Ybb,k1.2.2.1,r2];first | exact⟨rfl,rfl⟩ | rfl) ?_ ?_
 ·exact nK ⟨q2,n2,fun _ c hc=>rfl⟩
 ·simp[QC,k1.2.2.1]
 by_cases hz:(L ps:Int)+1 < lock
 ·rw[if_pos hz]at hk;simp[hz]
  grind
 rw[if_neg hz]at hk;obtain⟨aa,hu⟩:∃ aa,aa=ER (jI seed 32 1) hks T:=⟨_,rfl⟩;rw[<- hu]at hk;obtain⟨dg,hdg⟩:∃ dg,dg=mS tD T:=⟨_,rfl⟩;have dv:L (dg.map dk)=32:=by rw[bo,hdg,tI]
 obtain⟨e,he⟩:∃ e:iu,e=⟨pO η 0,dg.map dk,lock,dv⟩:=⟨_,rfl⟩;have ec:e.cells=pO η 0::dg.map dk ++ [I X lock]:=by rw[he];rfl
 have be:jP (E b).tojo 165 [(0,pO η 0),(1,.agg ⟨dg.map dk⟩),(2,I X lock)]=U (.agg ⟨e.cells⟩):=by rw[ec];exact Uqo b η dv lock
 have wo:∀ {g:N},a_ h g->Fr g e seed aa:=fun {g} a=>by
  obtain⟨z,ow,v,g1,s1⟩:=(N_.R a).g;exact⟨⟨η,z,ow,v,by rw[he],g1,s1⟩,by rw[he,hu];exact congrArg (List.map dk) hdg,by rw[he,hu,eT];rfl,by rw[hu];rfl,N_.sl,N_.bs,by rw[hu];exact Ubj _ _⟩
 simp[hz];refine iV (Vr1 h1 D h.Q x.v aa (iE x.l) ins) (L ins) ⟨_,h1,0,0,rfl,⟨jA,jA,jA⟩,jA,jA,iA,rfl,a_.refl _,iA,iA,rfl⟩ ?_;rintro k s' ⟨t,g,i,P,rfl,⟨t0,t1,t5⟩,t9,t10,hi,rfl,a4,f0,f1,C⟩ _;have hb:=c1.trans a4;have k4:=c0 (a1.trans a4);by_cases es:i < L ins
 ·have hB:(i:Int) < (L ins:Int):=iA
  have hw:=wS (i:=i) iA;obtain⟨y,hy⟩:∃ y,ins[i]? = U y:=⟨_,ac es⟩;have r1:=ae hy;obtain⟨bk,off, -,x1,x2,x3⟩:=qF (b:=b) (kK b) nI (si.s.R hb) hy;have xp:iy g bk off 33=U (.agg ⟨y.pt.cells⟩):=by
   have:=Ik x2 (a:=0) (z:=33) iA;rw[bR,ba,B5]at this;exact this
  simp[t0,t1,t5,t9,t10,k4.1,jR,es,hB,x1,xp];refine Utn b (X_.s.R hb) iA y.pt _ fun g1 a5 => ?_;have p1:=Usp (a:=aa) (m:=iE x.l) (l:=ins.map g_.p) (i:=i) (x:=y.p) (by grind) P;rw[p1]at C;have em:iE x.l y.p.pt=(oG x.l y.pt).map fun c=>c.c.c:=by
   show(jw x.l y.pt).map LV.c=_;rw[<- KQ,dT];rfl
  rw[em]at C;obtain⟨fo,aB⟩:∃ f,f=oG x.l y.pt:=⟨_,rfl⟩;have F:=Ulh (X_.R (hb.trans a5)) y.pt;rw[<- aB]at C F ⊢;obtain⟨c,q1⟩:∃ c,c=fo.getD nM:=⟨_,rfl⟩;rw[<- q1]at F ⊢;obtain⟨g2,e2⟩:∃ g2,g2=g1.push (S Y 1 nM.dcells):=⟨_,rfl⟩;have gA:jd (E b).tojo 82 g1=U (pO g1.Q 0,g2):=by rw[e2];exact N5 b g1
  have h5:g2.A g1.Q=U (S Y 1 nM.dcells):=by rw[e2,N.F,if_pos rfl]
  have l2:=N.D h5;obtain⟨g3,e3⟩:∃ g3,g3=g2.set g1.Q (U (S Y 1 c.dcells)):=⟨_,rfl⟩;have eB:iN g2 g1.Q 0 c.dcells=U g3:=by
   rw[e3,jQ h5 (by rw[LC.dlen,LC.dlen];omega),cZ,bX,bG (by rw[LC.dlen,LC.dlen];omega),bS]
  have eA:g3.A g1.Q=U (S Y 1 c.dcells):=by rw[e3,gY l2,if_pos rfl]
  have hm:a_ g1 g3:=by rw[e3,e2];exact(a_.push _ _).set _ (ai _) (by grind)
  have a3:=c.dlen;have a2:=a5.trans hm;simp[gA,a3,eB];cases ht:fo with
  | none =>
   rw[ht]at C;simp only[cQ]at C;rw[C]at hk;simp;exact hk g3 (hb.trans a2)
  | some c' =>
   rw[ht]at C q1;obtain rfl:c=c':=q1;simp only[aQ]at C;have h3:=hb.trans a2;have F3:=F.R hm;have k3:=c0 ((a1.trans a4).trans a2);obtain⟨v1,v2,v3⟩:=KW eA;have y1:=(si.a y r1).R h3;obtain⟨hD,p2, -,s2, -,m1⟩:=qF (b:=b) (kK b) nI (si.s.R h3) hy;have yw:=(m1 33 iA).trans (V7v y);have cD:=(d.R h3).c0;obtain⟨_,g4,q3,n3,j3,hA⟩:=Uo7 b (si.R h3) (so.R h3) hp (fun r h'=>r=.ret (.agg ⟨(mS tD (iX ins outs lock)).map dk⟩)/\a_ g3 h') (fun h' a=>⟨rfl,a⟩);rw[j3,<- eT,<- hdg]at q3;have k5:=c0 (((a1.trans a4).trans a2).trans hA);have wt:=tk.wit y.p (by rw[eT];exact am.2 ⟨y,r1,rfl⟩);have wl:L y.its<=16:=by have:=wt.1;simpa[g_.p]using this
   obtain⟨_,g5,q4,n4,j4,t4⟩:=U45 b (F3.s.R hA) F3.b F3.l (y1.w.R hA) iA (y1.i.R hA) (fun p hp=>cY (wt.2 p.2 (by simp only[g_.p];grind)) kA) (wo (h3.trans hA)) (fun r h'=>r=.ret (I X (mw aa c.c.script (y.its.map (·.2))))/\a_ g4 h') (fun h' a=>⟨rfl,a⟩);rw[j4]at q4;obtain⟨rv,hC⟩:∃ r,r=mw aa c.c.script (y.its.map (·.2)):=⟨_,rfl⟩;rw[<- hC]at q4;have er:mw aa c.c.c.script y.p.wit=rv:=by rw[hC];rfl
   rw[er]at C;have lk:pc [⟨92,[.agg ⟨iz iv ov lock⟩],g3,.agg ⟨dg.map dk⟩,g4,Y⟩,⟨91,[c.c.sv,y.wv,.agg ⟨e.cells⟩],g4,I X rv,g5,Y⟩] 91 [c.c.sv,y.wv,.agg ⟨e.cells⟩] g4=U ⟨91,[c.c.sv,y.wv,.agg ⟨e.cells⟩],g4,I X rv,g5,Y⟩:=by
    rw[qy kA];exact Yo _ _ _ _ _ _ _
   simp;refine jf [⟨92,[.agg ⟨iz iv ov lock⟩],g3,.agg ⟨dg.map dk⟩,g4,Y⟩,⟨91,[c.c.sv,y.wv,.agg ⟨e.cells⟩],g4,I X rv,g5,Y⟩] ?_ VW.1 (by simp[VW.2,X5i,X45,t0,t5,t10,ju,v2,k3.1,k3.2.2.1,k3.2.2.2,s2,yw,cD,k5.2.2.1,be,lk];first | exact⟨rfl,rfl⟩ | rfl) ?_ ?_
   ·exact tu ⟨q3,n3,fun _=>hA.2⟩ ⟨q4,n4,fun _=>t4.2⟩
   ·simp only[Yb,Y0,Kr,ku,Ab.runT,Nat.testBit,Jn,Yk,Yh,Ym,loadAt,Wa,Yo,jm,Qg,iD,Ab.g0,gv,gs,Q8,Qd,Qw,iH,kH,lr,Qh,Tr.H,St.put,Tm.put,flat,iS,Y5,Qm,Qp,Qn,Qo,Qk,Ql,Qj,Qq,Y6,Qi,Q7,Q9,Qr,Q0,Qa,d8]
   have hg:=hA.trans t4;have p3:=h3.trans hg;by_cases hr:rv=0
   ·rw[if_pos hr]at C;obtain⟨ha, -, -⟩:=KW (hg.A eA);have hv:=F3.v;obtain⟨h4,ef⟩:∃ f,f=P+c.c.value:=⟨_,rfl⟩;have hf:IntKind.i64.wrap (P+c.c.value)=h4:=by rw[ef];exact Jr iA iA
    simp[hr,t9,t10,ha,hf,hw];refine⟨L ins-(i+1),iA,_,g5,i+1,h4,rfl,⟨by simp[t0],by simp[t1],by simp[t5]⟩,jA,jA,iA,rfl,(a4.trans a2).trans hg,iA,iA,?_⟩;rw[C,ef];rfl
   ·rw[if_neg hr]at C;rw[C]at hk;simp[hr]
    grind
 have hB:¬ (i:Int) < (L ins:Int):=iA
 rw[ck (by grind)]at C;have C:u_ aa (iE x.l) (ins.map g_.p) 0=.ok P:=C;rw[C]at hk;have tv:qI (outs.map bN.p) 1125899906842624=Y:=by have:=tk.vals;rw[eT]at this;exact this
 have o2:=Nz tv iA;have aA:∀ o ∈ outs.map bN.p,1<=o.value/\o.value<=1125899906842624:=AR tv iA;simp[t5,t10,k4.1,jR,es,hB];refine iV (Vr2 g h.Q P outs) (L outs) ⟨_,0,rfl,by simp[t5],by simp[t9],by simp[j7],jA,iA,rfl⟩ ?_;clear t0 t1 t5 t9 t10;rintro k s' ⟨t,j,rfl,t5,t9,t13,t14,hj,rfl⟩ _;by_cases v':j < L outs
 ·have hl:(j:Int) < (L outs:Int):=iA
  have hw:=wS (i:=j) iA;obtain⟨o,ho⟩:∃ o,outs[j]? = U o:=⟨_,ac v'⟩;obtain⟨bk,off, -,x1, -,x3, -⟩:=qO (b:=b) (kD b) mR (so.s.R hb) ho;have e1:(outs.map bN.p).take (j+1)=(outs.map bN.p).take j ++ [o.p]:=by rw[aT,b7,ho];rfl
  have h6:j7 ((outs.map bN.p).take (j+1))=j7 ((outs.map bN.p).take j)+o.value:=by rw[e1,Nw];simp[j7,bN.p]
  have M1:=OO (l:=(outs.map bN.p).take (j+1)) fun q hq=>(aA q (cO hq)).1;have g':=OO (l:=(outs.map bN.p).drop (j+1)) fun q hq=>(aA q (d6 hq)).1;have re:j7 (outs.map bN.p)=j7 ((outs.map bN.p).take (j+1))+j7 ((outs.map bN.p).drop (j+1)):=by rw[<- Nw,bz]
  obtain⟨z,ez⟩:∃ z,z=j7 ((outs.map bN.p).take (j+1)):=⟨_,rfl⟩;have hf:IntKind.i64.wrap (j7 ((outs.map bN.p).take j)+o.value)=z:=by rw[<- h6,<- ez];exact Jr iA iA
  simp[t5,t9,t13,t14,k4.2.1,hn,v',hl,x1,x3,hf,hw];exact⟨L outs-(j+1),iA,_,j+1,rfl,by simp[t5],by simp[t9],by simp[ez],jA,iA,rfl⟩
 ·have hl:¬ (j:Int) < (L outs:Int):=iA
  rw[aj (by grind)]at t13;have hk:=hk g hb;have w1:IntKind.i64.wrap (P-j7 (outs.map bN.p))=P-j7 (outs.map bN.p):=Jr iA iA;by_cases M':P-j7 (outs.map bN.p) < 0
  ·have h2:P < j7 (outs.map bN.p):=iA
   simp only[M',if_true]at hk;simp[t5,t9,t13,t14,k4.2.1,hn,v',hl,h2];exact hk
  ·have h2:¬ P < j7 (outs.map bN.p):=iA
   simp only[M',if_false]at hk;simp[t5,t9,t13,t14,k4.2.1,hn,v',hl,h2,w1];exact hk
end
end
section
variable(b:Nat){h:N}{D η:Nat}{pv:V}{ps:List jE}{x:jE}{seed:List Nat}{iv ov:V}{ins:List g_}{outs:List bN}{lock:Int}
section
attribute [local simp] Uf
def Uwq(d:jr h D η pv (ps ++ [x]))(N_:pP h η seed)(hks:L (jI seed 32 1)=1024)(si:Ins h iv ins)(so:jg h ov outs)(hp:∀ x ∈ ins,mq x.pt)(K:KP)
  (hk:∀ h',a_ h h'->K (.ret (.tuple #[I X (oC (jI seed 32 1) hks (iE x.l) (L ps:Int) (iX ins outs lock)).1,I X (oC (jI seed 32 1) hks (iE x.l) (L ps:Int) (iX ins outs lock)).2])) h') :
  FK b 16 [pO D 0,.agg ⟨iz iv ov lock⟩] h K:=by
 refine ip b (Z9 b) Ynf rfl ?_;obtain⟨h0,e0⟩:∃ h0,h0=h.push (S Y 1 (iz iv ov lock)):=⟨_,rfl⟩;have bx:=kE e0;have C:=jG e0;have g0:h0.A h.Q=U (S Y 1 (iz iv ov lock)):=by rw[e0,N.F,if_pos rfl]
 have ld:iy h0 h.Q 0 3=U (.agg ⟨iz iv ov lock⟩):=by rw[V9 g0 (by simp[iz])];rfl
 have T:=d.R C;obtain⟨j,ev⟩:∃ v,v=oC (jI seed 32 1) hks (iE x.l) (L ps:Int) (iX ins outs lock):=⟨_,rfl⟩;rw[<- ev]at hk;obtain⟨_,_,k1,P,j1,j2⟩:=yG b T (fun r h'=>r=.ret x.v/\h'=h0) ⟨rfl,rfl⟩;rw[j1,j2]at k1;rw[j2]at P;obtain⟨_,h1,k2,hc,j3,a1⟩:=V7h b T (T.at' x jA) (N_.R C) hks (si.R C) (so.R C) hp (lock:=lock) (fun r h'=>r=.ret (.tuple #[I X j.1,I X j.2])/\a_ h0 h') (fun h' a=>⟨by rw[ev],a⟩);rw[j3]at k2;have lk:pc [⟨42,[pO D 0],h0,x.v,h0,Y⟩,⟨41,[pO D 0,x.v,.agg ⟨iz iv ov lock⟩],h0,.tuple #[I X j.1,I X j.2],h1,Y⟩] 41 [pO D 0,x.v,.agg ⟨iz iv ov lock⟩] h0=U ⟨41,[pO D 0,x.v,.agg ⟨iz iv ov lock⟩],h0,.tuple #[I X j.1,I X j.2],h1,Y⟩:=by
  rw[qy kA];exact Yo _ _ _ _ _ _ _
 simp[FG,KG,Z9,KM,Zp,Zo,bx];refine jf [⟨42,[pO D 0],h0,x.v,h0,Y⟩,⟨41,[pO D 0,x.v,.agg ⟨iz iv ov lock⟩],h0,.tuple #[I X j.1,I X j.2],h1,Y⟩] ?_ ZG.1 (by simp[ZG.2,Ygg,Ydj,FG,KG,Z9,KM,Zp,Zo,ld,lk];first | exact⟨rfl,rfl⟩ | rfl) ?_ ?_
 ·exact tu ⟨k1,P,fun _ _ _=>rfl⟩ ⟨k2,hc,fun _=>a1.2⟩
 ·simp[Kp,FG,KG,Z9,KM,Zp,Zo]
 simp[FG,KG,Z9,KM,Zp,Zo];exact hk h1 (C.trans a1)
def U90(si:Ins h iv ins)(so:jg h ov outs)(hp:∀ x ∈ ins,mq x.pt)(K:KP)
  (hk:∀ h',a_ h h'->K (.ret (.agg ⟨(mS tA (iX ins outs lock)).map dk⟩)) h'):FK b 93 [.agg ⟨iz iv ov lock⟩] h K:=by
 refine ip b (FR b) Vuz rfl ?_;obtain⟨j,eA,aA,gA⟩:=kQ h ((iz iv ov lock));have nA:=lT eA;have bx:=kE eA;obtain⟨hB,eB,aB,gB⟩:=kQ j jn;have hc:jd (E b).tojo 62 j=U (pO j.Q 0,hB):=by rw[eB];exact Jx b j
 have C:=aA.trans aB;have h2:iy hB h.Q 0 3=U (.agg ⟨iz iv ov lock⟩):=by rw[V9 (aB.A gA) (by simp[iz])];rfl
 simp[Ly,J7w,FR,Jx,CA,JT,Vw,bx,-Jx,hc,h2];refine Uep b (l:=tA) rfl (by simp[tA]) kA (si.R C) (so.R C) hp _ fun h1 a1 => ?_;obtain⟨P,T⟩:∃ P,P=mS tA (iX ins outs lock):=⟨_,rfl⟩;have tl:L P=32:=by rw[T];exact tI _ _
 rw[<- T]at hk ⊢;have g3:=a1.A gB;have l3:=N.D g3;have hl:iN h1 j.Q 0 (P.map dk)=U (h1.set j.Q (U (S Y 1 (P.map dk)))):=by
  rw[jQ g3 (by simp[jn,tl])];congr 4;simp[jn,tl]
 have hx:iy (h1.set j.Q (U (S Y 1 (P.map dk)))) j.Q 0 32=U (.agg ⟨P.map dk⟩):=by
  rw[V9 (by rw[gY l3,if_pos rfl]) (by simp[tl]),ba,aj (by simp[tl])]
 simp[Ly,J7w,FR,Jx,CA,JT,Vw,mZ,tl,hl,hx];exact hk _ ((C.trans a1).set _ iA l3)
end
end
def Uzt(b:Nat)(p:Pt)(z m:Int)(a:Option Addr)(n c:Nat)(sc:List Int):jP (E b).tojo 82 [(0,.agg ⟨p.cells⟩),(1,.agg ⟨[I X z,.slice a n c]⟩),(2,I X m)]=U (.agg ⟨(⟨p,⟨z,.slice a n c,sc,m⟩,0⟩:LC).dcells⟩):=by
 have e:jP (E b).tojo 82 [(0,.agg ⟨p.cells⟩),(1,.agg ⟨[I X z,.slice a n c]⟩),(2,I X m)]=(oQ (iD [(0,33),(33,2),(35,1)]) nM.dcells [(0,.agg ⟨p.cells⟩),(1,.agg ⟨[I X z,.slice a n c]⟩),(2,I X m)]).map fun c => .agg c.toArray:=kR
 have j:L p.cells=33:=p.len;have tk:∀ l:List V,(p.cells++l).take 33=p.cells:=fun l=>by grind
 have hc:(Value.agg ⟨p.cells⟩).cells.toList=p.cells:=rfl;have hs:(Value.agg ⟨p.cells⟩).cells.size=33:=j;have C:∀ x y z:V,L (p.cells ++ [x,y,z])=36:=fun _ _ _=>by simp[j]
 have P:(mg (.agg ⟨p.cells⟩) && (Value.agg ⟨p.cells⟩).cells.size == 33 && Nat.ble (0+33) (L nM.dcells))=Y:=by rw[hs,nM.dlen];rfl
 have s0:kZ nM.dcells 0 p.cells=U (p.cells ++ [I X 0,M O 0 0,I X 0]):=by
  rw[q_ (by simp_all),j];rfl
 have T:(mg (.agg ⟨[I X z,.slice a n c]⟩) && (Value.agg ⟨[I X z,.slice a n c]⟩).cells.size == 2 && Nat.ble (33+2) (L (p.cells ++ [I X 0,M O 0 0,I X 0]:List V)))=Y:=by rw[C];rfl
 have c1:(Value.agg ⟨[I X z,.slice a n c]⟩).cells.toList=[I X z,.slice a n c]:=rfl;have dr:∀ x y z:V,∀ k,(p.cells ++ [x,y,z]).drop (33+k)=[x,y,z].drop k:=fun x y z k=>by rw[<- j,fE];simp
 have s1:kZ (p.cells ++ [I X 0,M O 0 0,I X 0]) 33 [I X z,.slice a n c]=U (p.cells ++ [I X z,.slice a n c,I X 0]):=by
  rw[q_ (by grind),tk,dr];simp
 have b2:(mg (I X m) && (I X m).cells.size == 1 && Nat.ble (35+1) (L (p.cells ++ [I X z,.slice a n c,I X 0]:List V)))=Y:=by rw[C];rfl
 have c2:(I X m).cells.toList=[I X m]:=rfl;have s2:kZ (p.cells ++ [I X z,.slice a n c,I X 0]) 35 [I X m]=U (p.cells ++ [I X z,.slice a n c,I X m]):=by
  have t2:(p.cells ++ [I X z,.slice a n c,I X 0]:List V).take 35=p.cells ++ [I X z,.slice a n c]:=by
   grind
  rw[q_ (by grind),t2,bG (by grind)];simp
 rw[e];simp only[oQ,iD,P,T,b2,if_true,hc,c1,c2,s0,s1,s2];rfl
def mn(n:Nat)(x j:jE):Prop:=∀ s ∈ j.vs,s ∈ x.vs ∨ ∀ c,J7 s=U c->n<=c
structure Bv (t:Tr V) (D B:Nat) (tv v:V) (i:Nat):Prop where
 t0:t.A 0=U (pO D 0)
 t1:t.A 1=U tv
 t5:t.A 5=U v
 t6:t.A 6=U (I X (i:Int))
 t7:t.A 7=U (pO B 0)
def Ra1(h:N)(D:Nat)(tv:V)(x:jE)(ks:List Nat)(hks:L ks=1024)(j:Int)(l:List iY)(k:Nat)(s:St):Prop:=∃ (t:Tr V) (g:N) (y:jE) (i:Nat),s=⟨⟨86,t⟩,[],g⟩/\t.A 0=U (pO D 0)/\t.A 1=U tv/\t.A 5=U y.v/\t.A 6=U (I X (i:Int))/\i<=L l/\k=L l-i /\
 a_ h g/\jK g y/\mn h.Q x y/\iR y.l/\L y.l<=L x.l+8*i/\uz ks hks j (iE x.l) (l.map iY.p)=uz ks hks j (iE y.l) ((l.map iY.p).drop i)
def Ra2(h0:N)(D B:Nat)(tv:V)(i:Nat)(x:jE)(pts:List Pt)(k:Nat)(s:St):Prop:=∃ (t:Tr V) (g:N) (y:jE) (j:Nat),s=⟨⟨86,t⟩,[],g⟩/\Bv t D B tv y.v i/\t.A 10=U (I X (j:Int))/\j<=L pts/\k=L pts-j /\
 a_ h0 g/\jK g y/\mn h0.Q x y/\iR y.l/\L y.l<=L x.l/\iE y.l=x8 (iE x.l) (pts.take j)
def Ra3(n0:Nat)(h0:N)(D B:Nat)(tv:V)(i:Nat)(x:jE)(id:List Nat)(C:L id=32)(made:Int)(outs:List jx)(k:Nat)(s:St):Prop:=∃ (t:Tr V) (g:N) (y:jE) (j:Nat),s=⟨⟨86,t⟩,[],g⟩/\Bv t D B tv y.v i/\t.A 11=U (I X (j:Int))/\j<=L outs/\k=L outs-j /\
 a_ h0 g/\jK g y/\mn n0 x y/\iR y.l/\L y.l<=L x.l+j/\iE y.l=ww id C made (iE x.l) (outs.take j)
def mn.refl(n:Nat)(x:jE):mn n x x:=fun s hs => .inl hs
def mn.trans{n m:Nat}{x y z:jE}(a:mn n x y)(c:mn m y z)(h:n<=m):mn n x z:=fun s hs=>by
 rcases c s hs with q | q
 ·exact a s q
 grind
def Wc7{n:Nat}{x:jE}{v:V}{p:Pt}(hv:∀ c,J7 v=U c->n<=c):mn n x ⟨v,pk x.l p⟩:=fun s hs=>by
 rcases ar.1 hs with rfl | hs
 ·grind
 ·obtain⟨y,j,rfl⟩:=am.1 hs;exact .inl (aR _ (am.2 ⟨y,(dA.1 j).1,rfl⟩))
def U3q{n:Nat}{x:jE}{v:V}{c:LC}(hv:∀ d,J7 v=U d->n<=d)(C:∀ d,J7 c.c.sv=U d->n<=d):mn n x ⟨v,rE x.l c⟩:=fun s hs=>by
 rcases ar.1 hs with rfl | hs
 ·grind
 ·obtain⟨y,j,rfl⟩:=am.1 hs;rcases KV j with rfl | j
  ·grind
  ·exact .inl (aR _ (am.2 ⟨y,j,rfl⟩))
section
variable(b:Nat){h:N}{D η:Nat}{pv:V}{ps:List jE}{x:jE}{seed:List Nat}{tv:V}{l:List iY}
section
attribute [local simp] U6 Qa6 Ys lN Uk Zp BO Uf Wb jX Bz Zo Jg U5 J4 tY Jt ph V4 Vq U3 Jc uK FR rc Yc Wh Vf FL EE lN
def Ux9(d0:jr h D η pv (ps ++ [x])){t:Tr V}{g:N}{B i:Nat}{y:jE}{iv ov:V}{ins:List g_}{lock:Int}(a:a_ h g)(T:Bv t D B tv y.v i)(Y_:jK g y)(r:iR y.l)(gB:g.A B=U (S Y 1 (iz iv ov lock)))(si:Ins g iv ins)(hl:L ins<=8)
  (K:Exit->St->Prop) (hk:∀ t' g' y',Bv t' D B tv y'.v i->a_ g g'->jK g' y'->mn g.Q y y'->iR y'.l->L y'.l<=L y.l->iE y'.l=x8 (iE y.l) (ins.map (·.pt))->K .normal ⟨⟨86,t'⟩,[],g'⟩) :
  iO (E b) (pL Tryz.prog (E b).G) (D0 b) O Ms ⟨⟨86,t⟩,[],g⟩ K:=by
 obtain⟨t0,t1,t5,t6,t7⟩:=T;have jR:∀ hx,iC (E b).tojo 45 iv hx=U (I X (L ins:Int)):=fun hx=>iT (kK b) si.s;simp;refine iV (Ra2 g D B tv i y (ins.map (·.pt))) (L ins) ⟨_,g,y,0,rfl,⟨by simp[t0],by simp[t1],by simp[t5],by simp[t6],by simp[t7]⟩,jA,iA,jA,a_.refl _,Y_,mn.refl _ _,r,ai _,rfl⟩ ?_;clear t0 t1 t5 t6 t7;rintro k s' ⟨t,g1,z,j,rfl,⟨t0,t1,t5,t6,t7⟩,t10,hj,rfl,a1,Z,vs,rz,lz,em⟩ _;rw[bo]at hj;have h2:=a1.A gB;have c0:Zq g1 B 0=U iv:=by rw[Z2 h2];rfl
 have hr:=Z.n;by_cases P:j < L ins
 ·have C:(j:Int) < (L ins:Int):=iA
  have hw:=wS (i:=j) iA;obtain⟨q,hq⟩:∃ q,ins[j]? = U q:=⟨_,ac P⟩;obtain⟨bk,off, -,x1,x2, -⟩:=qF (b:=b) (kK b) nI (si.s.R a1) hq;have xp:iy g1 bk off 33=U (.agg ⟨q.pt.cells⟩):=by
   have:=Ik x2 (a:=0) (z:=33) iA;rw[bR,ba,B5]at this;exact this
  simp[t0,t1,t5,t6,t7,t10,c0,jR,P,C,x1,xp];refine Vq0 b Z.s iA q.pt _ fun v' g2 o2 a2 => ?_;simp[t10,hw];have hb:=U8f z.l q.pt;have e:(ins.map (·.pt)).take (j+1)=(ins.map (·.pt)).take j ++ [q.pt]:=by rw[aT,b7,hq];rfl
  exact⟨L ins-(j+1),iA,_,g2,⟨v',pk z.l q.pt⟩,j+1,rfl,⟨by simp[t0],by simp[t1],jA,by simp[t6],by simp[t7]⟩,jA,by grind,jA,a1.trans a2,
   ⟨o2.sl,by grind,fun c hc=>(Z.a c (dA.1 hc).1).R a2⟩,vs.trans (Wc7 fun c hc=>(o2.from hc).1) a1.1,Uah rz _,by grind,by rw[e,Un3,<- em];exact U9v _ _⟩
 ·have C:¬ (j:Int) < (L ins:Int):=iA
  rw[aj (by grind)]at em;simp[t0,t1,t5,t6,t7,t10,c0,jR,P,C];exact hk _ g1 z ⟨by simp[t0],by simp[t1],by simp[t5],by simp[t6],by simp[t7]⟩ a1 Z vs rz lz em
def U0l{h:N}{z n:Nat}{v:V}{xs:List V}(s:Sl h z v n xs):∃ a k c,v=.slice a k c:=by
 rcases s with⟨c,rfl,_⟩ | ⟨j,o,c,ow,C,pre,post,rfl,_⟩ <;> exact⟨_,_,_,rfl⟩
def Upc(d0:jr h D η pv (ps ++ [x])){t:Tr V}{g:N}{B i:Nat}{y:jE}{iv ov:V}{ins:List g_}{outs:List bN}{lock:Int}(a:a_ h g)(T:Bv t D B tv y.v i)(Y_:jK g y)(r:iR y.l)(gB:g.A B=U (S Y 1 (iz iv ov lock)))(si:Ins g iv ins)(so:jg g ov outs)(hp:∀ x ∈ ins,mq x.pt)
  (hv:∀ o ∈ outs,0<=o.value/\o.value<=1125899906842624) (hg:∀ o ∈ outs,L o.script < 1000000) (hl:L outs<=8) (hy:L y.l<=40000) (M':∀ o ∈ outs,∀ c,J7 o.sv=U c->h.Q<=c)
  (K:Exit->St->Prop) (hk:∀ t' g' P,Bv t' D B tv P.v i->a_ g g'->jK g' P->mn h.Q y P->iR P.l->L P.l<=L y.l+L outs->iE P.l=ww (mS tA (iX ins outs lock)) (tI _ _) ((L ps:Int)+1) (iE y.l) (outs.map bN.p)->K .normal ⟨⟨86,t'⟩,[],g'⟩) :
  iO (E b) (pL Tryz.prog (E b).G) (D0 b) O Mu ⟨⟨86,t⟩,[],g⟩ K:=by
 obtain⟨t0,t1,t5,t6,t7⟩:=T;have hz:=d0.n;rw[aJ,bI,d5]at hz;have jR:∀ hx,iC (E b).tojo 22 ov hx=U (I X (L outs:Int)):=fun hx=>iT (kD b) so.s;obtain⟨id,hB⟩:∃ id,id=mS tA (iX ins outs lock):=⟨_,rfl⟩;have h2:L id=32:=by rw[hB];exact tI _ _
 have hk:∀ t' g' P,Bv t' D B tv P.v i->a_ g g'->jK g' P->mn h.Q y P->iR P.l->L P.l<=L y.l+L outs->iE P.l=ww id h2 ((L ps:Int)+1) (iE y.l) (outs.map bN.p)->K .normal ⟨⟨86,t'⟩,[],g'⟩:=by
  grind
 simp;refine iV (Ra3 h.Q g D B tv i y id h2 ((L ps:Int)+1) (outs.map bN.p)) (L outs) ⟨_,g,y,0,rfl,⟨by simp[t0],by simp[t1],by simp[t5],by simp[t6],by simp[t7]⟩,jA,iA,jA,a_.refl _,Y_,mn.refl _ _,r,ai _,rfl⟩ ?_;clear t0 t1 t5 t6 t7;rintro k s' ⟨t,g1,z,j,rfl,⟨t0,t1,t5,t6,t7⟩,hb,hj,rfl,a1,Z,vs,rz,lz,em⟩ _;rw[bo]at hj;have h4:=a1.A gB;have c1:∀ {hx},a_ g1 hx->Zq hx B 1=U ov/\iy hx B 0 3=U (.agg ⟨iz iv ov lock⟩):=fun {hx} q=>⟨by rw[Z2 (q.A h4)];rfl,by rw[V9 (q.A h4) (by simp[iz])];rfl⟩;have hm:=Z.n;obtain⟨k1,k2⟩:=c1 (a_.refl g1);by_cases hr:j < L outs
 ·have hc:(j:Int) < (L outs:Int):=iA
  have hw:=wS (i:=j) iA;obtain⟨o,ho⟩:∃ o,outs[j]? = U o:=⟨_,ac hr⟩;have h3:=ae ho;have O_:=(so.a o h3).R a1;obtain⟨sa,sn,sc,hn⟩:=U0l O_.s;obtain⟨_,C,q2,n2,j2,a2⟩:=U90 b (si.R a1) (so.R a1) hp (lock:=lock) (fun r h'=>r=.ret (.agg ⟨id.map dk⟩)/\a_ g1 h') (fun h' a=>⟨by rw[hB],a⟩);rw[j2]at q2;obtain⟨k3,k4⟩:=c1 a2;obtain⟨_,_,q3,n3,j3,j4⟩:=Et b (d0.R ((a.trans a1).trans a2)) (fun r h'=>r=.ret (I X (L ps:Int))/\h'=C) ⟨rfl,rfl⟩;rw[j3,j4]at q3;rw[j4]at n3;obtain⟨m,e1⟩:∃ m:Int,m=(L ps:Int)+1:=⟨_,rfl⟩;have q1:IntKind.i64.wrap ((L ps:Int)+1)=m:=by rw[e1];exact Jr iA iA
  obtain⟨p,ep⟩:∃ p:Pt,p=⟨id,(j:Int),h2⟩:=⟨_,rfl⟩;have bp:jP (E b).tojo 64 [(0,.agg ⟨id.map dk⟩),(1,I X (j:Int))]=U (.agg ⟨p.cells⟩):=by rw[ep];exact V99 b h2 (j:Int)
  obtain⟨c,ec⟩:∃ c:LC,c=⟨p,⟨o.value,.slice sa sn sc,o.script,m⟩,0⟩:=⟨_,rfl⟩;have bc:=Uzt b p o.value m sa sn sc o.script;rw[<- ec]at bc;obtain⟨_,g3,q4,n4,v3,rfl,o3,a3⟩:=Uwk b (Z.s.R a2) iA c (fun r h' => ∃ v',r=.ret v'/\ij h' C.Q 36 v' (L (rE z.l c)) (qr (rE z.l c))/\a_ C h') (fun v' h' o a=>⟨v',rfl,o,a⟩);obtain⟨bk,off, -,x1,xa, -⟩:=qO (b:=b) (kD b) mR ((so.s.R a1).R a2) ho;have xa:iy C bk off 2=U (.agg ⟨[I X o.value,.slice sa sn sc]⟩):=by rw[xa,bN.cells,hn]
  obtain⟨L_,eL⟩:∃ L_:List KE,L_=[⟨93,[.agg ⟨iz iv ov lock⟩],g1,.agg ⟨id.map dk⟩,C,Y⟩,⟨57,[pO D 0],C,I X (L ps:Int),C,Y⟩,⟨32,[z.v,.agg ⟨c.dcells⟩],C,v3,g3,J⟩]:=⟨_,rfl⟩;have es:pc L_ 93 [.agg ⟨iz iv ov lock⟩] g1=U ⟨93,[.agg ⟨iz iv ov lock⟩],g1,.agg ⟨id.map dk⟩,C,Y⟩:=by rw[eL];exact Yo _ _ _ _ _ _ _
  have s1:pc L_ 57 [pO D 0] C=U ⟨57,[pO D 0],C,I X (L ps:Int),C,Y⟩:=by rw[eL,qy kA];exact Yo _ _ _ _ _ _ _
  have re:pc L_ 32 [z.v,.agg ⟨c.dcells⟩] C=U ⟨32,[z.v,.agg ⟨c.dcells⟩],C,v3,g3,J⟩:=by rw[eL,qy kA,qy kA];exact Yo _ _ _ _ _ _ _
  have hA:=a2.trans a3;obtain⟨k5,k6⟩:=c1 hA;have hf:iy g3 bk off 2=U (.agg ⟨[I X o.value,.slice sa sn sc]⟩):=by
   unfold iy at xa ⊢;split at xa
   next cc e2=>rw[a3.A e2];exact xa
   ·cases xa
  simp[t0,t1,t5,t6,t7,hb,k1,jR,hr,hc];refine jf L_ ?_ VX.1 (by simp[VX.2,Yad,X43,X4p,t0,t5,t7,hb,k1,k2,k3,k4,es,s1,re,bp,x1,xa,q1,bc];first | exact⟨rfl,rfl⟩ | rfl) ?_ ?_
  ·rw[eL];simp only[ar,ct,or_false];rintro e (rfl | rfl | rfl)
   ·exact⟨q2,n2,fun _=>a2.2⟩
   ·exact⟨q3,n3,fun _ _ _=>rfl⟩
   ·exact⟨q4,n4,fun h=>by cases h⟩
  ·simp[F7,k1,k2,k3,k4,k5,k6,x1,xa,hf]
  simp[hb,hw];have he:=NI z.l c;have e:(outs.map bN.p).take (j+1)=(outs.map bN.p).take j ++ [o.p]:=by rw[aT,b7,ho];rfl
  have lt:L ((outs.map bN.p).take j)=j:=by grind
  have hu:jb g3 c.c:=by rw[ec];exact⟨by rw[<- hn];exact(O_.s.R a2).R a3,O_.b,hg o h3,hv o h3⟩
  have n1:=a.1;have t4:=a1.1;have hC:=a2.1;refine⟨L outs-(j+1),iA,_,g3,⟨v3,rE z.l c⟩,j+1,rfl,⟨by simp[t0],by simp[t1],jA,by simp[t6],by simp[t7]⟩,jA,by grind,jA,a1.trans hA,
   ⟨o3.sl,by grind,fun q hq => ?_⟩,vs.trans (U3q (fun d hd=>by have:=(o3.from hd).1;omega) (fun d hd=>by grind)) (ai _),J7b rz _,by grind,?_⟩
  ·rcases KV hq with rfl | hq
   ·exact hu
   ·exact((Z.a q hq).R a2).R a3
  ·rw[e,Uae,<- em,lt];show iE (rE z.l c)=_;rw[Unl,ec,ep,e1];rfl
 ·have hc:¬ (j:Int) < (L outs:Int):=iA
  rw[aj (by grind)]at em;simp[t0,t1,t5,t6,t7,hb,k1,jR,hr,hc];exact hk _ g1 z ⟨by simp[t0],by simp[t1],by simp[t5],by simp[t6],by simp[t7]⟩ a1 Z vs rz iA em
end
end
def RSt(D:Nat)(pv:V)(h h':N):Prop:=h.Q<=h'.Q/\∀ c,c < h.Q->c≠D->J7 pv≠U c->h'.A c=h.A c
def ZR{A B:List g_}(e:A.map g_.p=B.map g_.p):A.map (·.pt)=B.map (·.pt):=by
 have:=congrArg (List.map qP.pt) e;simpa[bL,dH,g_.p]using this
section
variable(b:Nat){h:N}{D η:Nat}{pv:V}{ps:List jE}{x:jE}{seed:List Nat}{tv:V}{l:List iY}
section
attribute [local simp] U6 Qa6 Ys lN Uk Zp BO Uf Wb Bz Zo Jg U5 J4 tY Jt ph V4 U3 Jc uK FR rc Yc Wh FL EE lN
def Usa(d:jr h D η pv (ps ++ [x]))(c0:L ps < 900)(N_:pP h η seed)(hks:L (jI seed 32 1)=1024)(T:ji h tv l)(r:iR x.l)(hx:L x.l<=30000)(K:KP)
  (h4:∀ m',sS (jI seed 32 1) hks (L ps:Int) (iE x.l) (l.map iY.p)=.ok m'->∀ h' hr x',jr h' D η hr (ps ++ [x] ++ [x'])->iE x'.l=m'->iR x'.l->L x'.l<=L x.l+8*L l->RSt D pv h h'->mn h.Q x x'->(∀ c,J7 hr=U c->J7 pv=U c∨h.Q<=c)->K (.ret (I X 0)) h')
  (hB:∀ e,sS (jI seed 32 1) hks (L ps:Int) (iE x.l) (l.map iY.p)=.error e->∀ h',a_ h h'->K (.ret (I X e)) h') :
  FK b 44 [pO D 0,tv] h K:=by
 refine ip b (Ys b) Ynz rfl ?_;have len:∀ hx,iC (E b).tojo 40 tv hx=U (I X (L l:Int)):=fun hx=>iT (rt b) T.s;have r2:=T.n;have ha:=d.n;by_cases hf:16 < L l
 ·have h3:(16:Int) < (L l:Int):=iA
  simp[jX,Vq,Vf,len,hf,h3];exact hB 3 (by unfold sS;grind) h (a_.refl _)
 have h3:¬ (16:Int) < (L l:Int):=iA
 have aE:sS (jI seed 32 1) hks (L ps:Int) (iE x.l) (l.map iY.p)=uz (jI seed 32 1) hks (L ps:Int) (iE x.l) (l.map iY.p):=by unfold sS;grind
 rw[aE]at h4 hB;simp[jX,Vq,Vf,len,hf,h3];refine yG b d _ ?_;simp[jX,Vq,Vf];refine iV (Ra1 h D tv x (jI seed 32 1) hks (L ps:Int) l) (L l) ⟨_,h,x,0,rfl,jA,jA,jA,jA,iA,rfl,a_.refl _,d.at' x jA,mn.refl _ _,r,iA,rfl⟩ ?_;rintro k s' ⟨t,g,y,i,rfl,t0,t1,t5,t6,hi,rfl,a,Y_,vs,ry,ly,hy⟩ _;have dg:=d.R a;by_cases v':i < L l
 rotate_left
 ·have hp:¬ (i:Int) < (L l:Int):=iA
  have ei:i=L l:=iA
  rw[ck (by grind)]at hy;have h4:=h4 (iE y.l) hy;have c1:=dg.c1;have o1:mV pv=Y:=by rcases d.ow with⟨rfl,_⟩ | ⟨_,_,_,_,rfl,_⟩ <;> rfl
  have bc:=V4g b Y_.s;have hb:=oL (As b) (z:=1) zR iA iA (y:=.agg ⟨[y.v]⟩) rfl (ys:=[y.v]) rfl rfl (h:=g);obtain⟨hr,g1,k1,k2,k3,k4⟩:=vy (As b) (z:=1) zR iA dg.ow (bw _) (ys:=[y.v]) rfl (by rw[V90];omega) iA;have re:g1.A D=U (S Y 1 [pO η 0,pv]):=by rw[k3.2 D (N.D dg.gD) d.nd];exact dg.gD
  have lD:=N.D re;have t9:=N.D dg.gD;have s2:=N.D d.gD;obtain⟨g2,e2⟩:∃ g2,g2=g1.set D (U (S Y 1 [pO η 0,hr])):=⟨_,rfl⟩;have o2:mV hr=Y:=by rcases k2 with⟨rfl,_⟩ | ⟨_,_,_,_,rfl,_⟩ <;> rfl
  have st:j9 (E b).tojo 85 (pO D 1) hr g1=U g2:=(U97 b g1 D 1 hr o2).trans (by rw[e2];exact nS re jA);have sm:∀ c,c < g.Q->c≠D->J7 pv≠U c->g2.A c=g.A c:=fun c C h1 h2=>by rw[e2,gY lD,if_neg (Ne.symm h1),k3.2 c C h2]
  have nx:g2.Q=g1.Q:=by rw[e2];rfl
  have eB:=a.1;have hj:=k3.1;have q3:∀ c,J7 hr=U c->c≠D:=fun c C e=>by
   rcases k4 c C with q | q
   ·exact d.nd (by rw[q,e])
   ·omega
  have m1:∀ z ∈ ps ++ [x],∀ s ∈ z.vs,∀ c,J7 s=U c->c < h.Q/\c≠D/\J7 pv≠U c:=fun z hz s hs c C=>⟨(d.at' z hz).lt s hs c C,d.off z hz s hs c C⟩;have bx:∀ s ∈ y.vs,∀ c,J7 s=U c->c < g.Q/\c≠D/\J7 pv≠U c:=fun s hs c C=>by
   refine⟨Y_.lt s hs c C,?_⟩;rcases vs s hs with q | q
   ·grind
   ·have:=q c C;refine⟨iA,fun e => ?_⟩;have:=(d.ow.from e).2;omega
  simp[jX,Vq,Vf,t0,t1,t5,t6,len,v',hp,ju,c1,bc,hb,k1,st];refine h4 g2 hr y ⟨by rw[e2,gY lD,if_pos rfl],?_,fun e=>q3 D e rfl,fun z hz => ?_,fun z hz s hs c C => ?_,by grind⟩ rfl ry iA ⟨iA,fun c C h1 h2=>by rw[sm c iA h1 h2,a.2 c C]⟩ vs (fun c C=>(k4 c C).imp id fun q=>by omega)
  ·have e:(ps ++ [x] ++ [y]).map jE.v=(ps ++ [x]).map jE.v ++ [y.v]:=jA
   rw[e,aJ];exact k2.keep fun c C _=>by rw[e2,gY lD,if_neg fun e=>q3 c C e.symm]
  ·rcases ah.1 hz with hz | hz
   ·exact(dg.at' z hz).keep fun s hs c C hl=>by
     grind
   ·obtain rfl:z=y:=by grind
    exact Y_.keep fun s hs c C hl=>by
     grind
  grind
 have hp:(i:Int) < (L l:Int):=iA
 have hw:=wS (i:=i) iA;obtain⟨z,hz⟩:∃ z,l[i]? = U z:=⟨_,ac v'⟩;have q4:=ae hz;have Z:=(T.a z q4).R a;obtain⟨bk,off,x1,x2⟩:=wI (b:=b) (rt b) ru (T.s.R a) hz;have x2:iy g bk off 3=U (.agg ⟨iz z.iv z.ov z.lock⟩):=x2;simp[jX,Vq,Vf,t0,t1,t5,t6,len,v',hp,x1,x2];refine SI b Z.i Z.o _ fun hg q1 hk j g1 R e1 e2 _ => ?_;have a1:=R.i.a;have pE:iX hk j z.lock=z.p:=U2t e1 e2;have he:∀ q ∈ hk,mq q.pt:=fun q hq=>by
  have : q.pt ∈ hk.map (·.pt):=am.2 ⟨q,hq,rfl⟩;rw[ZR e1]at this;obtain⟨w,gA,e3⟩:=am.1 this;rw[<- e3];exact Z.p w gA
 obtain⟨hA,g2,hm,h6,es,gB,a2,n2⟩:=tJ b (zb b) (l:=iz hg q1 z.lock) (by rw[ru];rfl) (by kernel_rfl) g1;have I2:=(R.i.ins R.ni).R a2;have O2:=(R.o.outs R.no).R a2;have hu:=(a.trans a1).trans a2;have aB:iy g2 g1.Q 0 3=U (.agg ⟨iz hg q1 z.lock⟩):=by rw[V9 gB (by simp[iz])];rfl
 have l3:L (iz hg q1 z.lock)=3:=rfl;simp[jX,Vq,Vf,-jX,hm,l3,h6,es,t0,t5,aB];refine V7h b (d.R hu) ((Y_.R a1).R a2) (N_.R hu) hks I2 O2 he _ fun g3 a3 => ?_;rw[pE];obtain⟨vr,q2⟩:∃ vr,vr=oC (jI seed 32 1) hks (iE y.l) (L ps:Int) z.p:=⟨_,rfl⟩;have t4:(l.map iY.p).drop i=z.p::(l.map iY.p).drop (i+1):=by
  rw[bh (by grind)]
  grind
 rw[t4,uz,<- q2]at hy;rw[<- q2];have M':=hu.trans a3;by_cases hn:vr.2=0
 rotate_left
 ·rw[if_neg hn]at hy;simp[jX,Vq,Vf,hn]
  grind
 rw[if_pos hn]at hy;have C:pB z.p=0:=Uf5 (by rw[<- q2];exact hn);have tk:=zX C;have ht:L hk<=8:=by
  have:=congrArg List.length e1;have q:=tk.insN.2;simp[iY.p,iX]at this q;omega
 have aA:L j<=8:=by
  have:=congrArg List.length e2;have q:=tk.outsN.2;simp[iY.p,iX]at this q;omega
 have po:∀ o ∈ j,o.p ∈ z.p.outs:=fun o ho=>by
  have : o.p ∈ j.map bN.p:=am.2 ⟨o,ho,rfl⟩;rw[e2]at this;exact this
 have dv:∀ o ∈ j,0<=o.value/\o.value<=1125899906842624:=fun o ho=>by
  have:=AR tk.vals iA o.p (po o ho);have e:o.p.value=o.value:=rfl;omega
 have r1:∀ o ∈ j,L o.script < 1000000:=fun o ho=>cY (tk.script o.p (po o ho)) kA;have far:=R.far;have p2:=a.1;simp[jX,Vq,Vf,hn,-Vq,-Vf];refine Ux9 b d (B:=g1.Q) (y:=y) (tv:=tv) (i:=i) (ins:=hk) (lock:=z.lock) M' ⟨by simp[t0],by simp[t1],by simp[t5],by simp[t6],jA⟩ (((Y_.R a1).R a2).R a3) ry (a3.A gB) (I2.R a3) ht _ fun t' g4 y2 T2 a4 Y2 e0 p1 p3 hC => ?_;simp[jX,Vq,Vf,-Vf];have s1:=M'.trans a4;refine Upc b d (B:=g1.Q) (y:=y2) (tv:=tv) (i:=i) (ins:=hk) (outs:=j) (lock:=z.lock) s1 T2 Y2 p1 (a4.A (a3.A gB)) ((I2.R a3).R a4) ((O2.R a3).R a4) he dv r1 aA iA (fun o ho c C=>by have:=far.d o ho c C;omega) _ fun t3 g5 y3 T3 a5 Y3 w1 c2 hD h5 => ?_;obtain⟨u0,u1,u5,u6,u7⟩:=T3;simp[jX,Vq,Vf,u6,hw];have eA:=M'.1;refine⟨L l-(i+1),iA,_,g5,y3,i+1,rfl,by simp[u0],by simp[u1],by simp[u5],jA,iA,rfl,s1.trans a5,Y3,(vs.trans e0 eA).trans w1 (ai _),c2,iA,?_⟩;rw[hy,h5,hC,e2,ZR e1];have ep:z.p.ins.map (·.pt)=z.ins.map (·.pt):=by show(z.ins.map g_.p).map (·.pt)=_;rw[bL];rfl
 unfold vF;rw[ep];have q:∀ (P:mL) (_:P=z.p) k m,ww (mS tA P) (tI _ _) k m (z.outs.map bN.p)=ww (mS tA z.p) (tI _ _) k m z.p.outs:=by rintro _ rfl k m;rfl
 rw[q _ pE]
end
end
end Go.Proofs.YtmgonkaadhbnpaaGreatDoor
end
