import Derived.Test.YtmgonkaadhbnpaaGreatDoorBlA
import Derived.Test.YtmgonkaadhbnpaaGreatDoorTxA
import Derived.Test.YtmgonkaadhbnpaaGreatDoorScB
set_option linter.all false
set_option maxHeartbeats 4000000
open List renaming length→L
open Option renaming some→U,none→O
open Bool renaming true→Y,false→J
open Go renaming Value→V
open Go.Value renaming int→I,slice→M
open Go.IntKind renaming i64→X
open Go.Ab.Blk renaming cells→S
noncomputable section
namespace Go.Proofs.YtmgonkaadhbnpaaGreatDoor
open Go Go.Ab
set_option maxRecDepth 100000
variable{es:List MapEntry}{clk:Nat}{ω:Nat}(b:Nat){h:N}{h1:N}{lb:Nat}{z:Nat}{n:Nat}{h':N}{h2:N}{n0:Nat}
def U1v{P:Program}{j:f_ P}{C:iP}{x:Operand}{isS:Bool}{d:Option Tmp}{s:St}{K:Exit->St->Prop}{it:V}(hit:iH j.G s.t x=U it)(hc:C.die=Y)(hx:r8 it isS s.h ≠ [])(T:∀ y ∈ r8 it isS s.h,K .normal (s.put d y.1 y.2)):Ck j C x isS d s K:=by
 unfold Ck
 grind
def KY(seen:List Nat):∀ (es:List MapEntry) (e:MapEntry),e ∈ qX seen es↔e ∈ es/\e.born ∉ seen
 | [],e=>by simp[qX]
 | x::es,e=>by
  have ih:=KY seen es e;unfold qX;rw[Uls]
  grind
def Uvw{n:Nat}:∀ {l:List MapEntry},(∀ e ∈ l,e.born < n)->vT n l=l/\wT n l=[]
 | [],_=>⟨rfl,rfl⟩
 | e::l,h=>by
  obtain⟨h1,h2⟩:=Uvw (l:=l) fun x j=>h x (by simp[j]);have : Nat.blt e.born n=Y:=by simp_all
  unfold vT wT
  grind
structure o_ (es:List MapEntry) (clk:Nat):Prop where
 lt:∀ e ∈ es,e.born < clk
 nd:(es.map (·.born)).Nodup
def V91:∀ {l:List MapEntry},(l.map (·.born)).Nodup->∀ {e:MapEntry},e ∈ l->B8 e.born l=U e
 | [],_,_,h=>by cases h
 | x::l,nd,e,h=>by
  rw[aH,dz]at nd;unfold B8;by_cases j:x.born=e.born
  ·rw[show Nat.beq x.born e.born=Y by simp_all]
   grind
  ·rw[show Nat.beq x.born e.born=J by rw[bM];simp_all];rcases ar.1 h with rfl | h
   ·omega
   ·exact V91 nd.2 h
def Um4{r mb clk:Nat}{es:List MapEntry}{j:List Nat}(B:o_ es clk)(hr:h.A r=U (.obj (.mapIter (U mb) clk ⟨j⟩ clk)))(hm:h.A mb=U (.map ⟨es⟩ clk)) :
  r8 (pO r 0) J h ≠ []/\∀ y ∈ r8 (pO r 0) J h,((∀ e ∈ es,e.born ∈ j)/\y=(.tuple #[.bool J],h)) ∨
   ∃ e ∈ es,e.born ∉ j/\y=(.tuple #[.bool Y,e.key,e.val],h.set r (U (.obj (.mapIter (U mb) clk ⟨j ++ [e.born]⟩ clk)))):=by
 have hb:CF es j clk=J:=by
  unfold CF;split
  ·rfl
  ·rfl
  ·rename_i h1 h2;cases es with
   | nil=>grind
   | cons p l =>
    have : Nat.ble clk p.born=J:=by
     rw[bM];intro q;have:=B.lt p jA;have:=gz q;omega
    simp only[Bi,this]
 have hl:∀ e ∈ qX j es,e.born < clk:=fun e P=>B.lt e ((KY _ _ _).1 P).1;obtain⟨o1,o2⟩:=Uvw hl;have hn:r8 (pO r 0) J h=(tG es clk j).map (DK r mb clk ⟨j⟩ clk h):=by
  simp only[r8,hr,hm,hb]
 have hc:tG es clk j=match qX j es with | []=>[O] | e::l=>(e::l).map U:=by
  unfold tG EW
  grind
 rw[hn,hc];cases T:qX j es with
 | nil =>
  refine⟨jA,fun y C => .inl ⟨fun e P => ?_,?_⟩⟩
  ·apply cE;intro hn;have:=(KY j _ _).2 ⟨P,hn⟩
   grind
  ·simpa[DK]using C
 | cons e l =>
  refine⟨jA,fun y C => ?_⟩;simp only[bL]at C;obtain⟨x,hx,rfl⟩:=am.1 C;rw[<- T]at hx;obtain⟨h1,h2⟩:=(KY _ _ _).1 hx;exact .inr ⟨x,h1,h2,by simp[DK]⟩
def V7i{r mb clk:Nat}{es:List MapEntry}{j:List Nat}{e:MapEntry}(B:o_ es clk)(hr:h.A r=U (.obj (.mapIter (U mb) clk ⟨j ++ [e.born]⟩ clk)))(T:h.A mb=U (.map ⟨es⟩ clk))(C:e ∈ es) :
  CG (pO r 0) h=U (.tuple #[e.key,e.val]):=by
 have P:∀ (l:List Nat) (x:Nat),E4 (l ++ [x])=U x:=by
  intro l x;induction l with
  | nil=>rfl
  | cons a l ih =>
   cases l with
   | nil=>rfl
   | cons c l=>exact ih
 simp only[CG,hr,P,T,show Nat.beq clk clk=Y by simp,V91 B.nd C]
def o_.push(B:o_ es clk)(k v:V):o_ (es ++ [⟨k,v,clk⟩]) (clk+1):=by
 refine⟨fun e j => ?_,?_⟩
 ·rcases ah.1 j with q | q
  ·have:=B.lt e q;omega
  grind
 ·rw[bF,dZ];refine⟨B.nd,jA,fun x C y P e => ?_⟩;obtain⟨z,T,rfl⟩:=am.1 C;simp at P;have:=B.lt z T;omega
def o_.erase(B:o_ es clk)(i:Nat):o_ (es.eraseIdx i) clk :=
 ⟨fun e j=>B.lt e (List.mem_of_mem_eraseIdx j),List.Nodup.sublist (List.Sublist.map _ (List.eraseIdx_sublist es i)) B.nd⟩
structure IE where
 key:Int
 val:V
 born:Nat
def IE.e(x:IE):MapEntry:=⟨I X x.key,x.val,x.born⟩
structure PC where
 value:Int
 script:List Int
 made:Int
abbrev kP:=Pt->Option PC
def mO(m:kP)(p:Pt)(c:Option PC):kP:=fun q=>if q=p then c else m q
def U6t{m:kP}{p q:Pt}{c:Option PC}(h:q≠p):mO m p c q=m q:=if_neg h
def Uxj(m:kP)(p:Pt)(c d:Option PC):mO (mO m p c) p d=mO m p d:=by
 funext q;unfold mO
 grind
def U3x(m:kP)(p:Pt):mO m p (m p)=m:=by
 funext q;unfold mO
 grind
structure LV where
 value:Int
 sv:V
 script:List Int
 made:Int
def LV.c(x:LV):PC:=⟨x.value,x.script,x.made⟩
def LV.cells(x:LV):List V:=[I X x.value,x.sv,I X x.made]
def LV.v(x:LV):V:=.agg ⟨x.cells⟩
structure LC where
 key:Pt
 c:LV
 born:Nat
def LC.pe(x:LC):PE:=⟨x.key,x.c.v,x.born⟩
def kN(l:List LC):List PE:=l.map LC.pe
def Uw7(l:List LC):L (kN l)=L l:=by simp[kN]
def Uu5(l:List LC):(kN l).map (·.key)=l.map (·.key):=by rw[kN,bL];rfl
def jw:List LC->Pt->Option LV
 | [],_=>O
 | x::l,p=>if p=x.key then U x.c else jw l p
def iE(l:List LC):kP:=fun p=>(jw l p).map LV.c
def OG(p:Pt):∀ (l:List LC) (j:Nat),(oH p (kN l) j).map (·.2)=(jw l p).map LV.v
 | [],_=>rfl
 | x::l,j=>by
  show(if p=x.key then U (j,x.c.v)else oH p (kN l) (j+1)).map (·.2)=(if p=x.key then U x.c else jw l p).map LV.v;by_cases h:p=x.key
  ·grind
  ·rw[if_neg h,if_neg h,OG p l (j+1)]
def DO{p:Pt}{l:List LC}:oH p (kN l) 0=O↔jw l p=O:=by
 have:=OG p l 0;cases j:oH p (kN l) 0 with
 | none=>rw[j]at this;cases C:jw l p with
  | none=>simp
  | some x=>grind
 | some q=>grind
def CI{p:Pt}{x:LV}:∀ {l:List LC},jw l p=U x->∃ y ∈ l,y.key=p/\y.c=x
 | [],h=>by cases h
 | y::l,h=>by
  unfold jw at h;by_cases j:p=y.key
  ·grind
  ·rw[if_neg j]at h;obtain⟨z,C,q⟩:=CI h
   grind
def Lp{p:Pt}{l:List LC}:jw l p≠O↔p ∈ l.map (·.key):=by
 constructor
 ·intro h;cases C:jw l p with
  | none=>grind
  | some x =>
   obtain⟨y,j,rfl, -⟩:=CI C
   grind
 ·intro h e;obtain⟨y,j,rfl⟩:=am.1 h;exact Sh.1 (DO.2 e) y.pe (am.2 ⟨y,j,rfl⟩) rfl
def sj(p:Pt)(x:LV):List LC->List LC
 | []=>[]
 | y::l=>if p=y.key then {y with c:=x}::l else y::sj p x l
def Vpx(p:Pt)(x:LV):∀ l:List LC,wU p x.v (kN l)=kN (sj p x l)
 | []=>rfl
 | y::l=>by
  show(if p=y.key then({y.pe with val:=x.v}:PE)::kN l else y.pe::wU p x.v (kN l))=kN (if p=y.key then {y with c:=x}::l else y::sj p x l);by_cases h:p=y.key
  ·rw[if_pos h,if_pos h];rfl
  ·rw[if_neg h,if_neg h,Vpx p x l];rfl
def KT(p:Pt)(x:LV):∀ l:List LC,(sj p x l).map (·.key)=l.map (·.key)
 | []=>rfl
 | y::l=>by
  unfold sj;by_cases h:p=y.key
  ·grind
  ·rw[if_neg h,aH,aH,KT p x l]
def V9e(p:Pt)(x:LV):∀ l:List LC,(sj p x l).map (·.born)=l.map (·.born)
 | []=>rfl
 | y::l=>by
  unfold sj;by_cases h:p=y.key
  ·grind
  ·rw[if_neg h,aH,aH,V9e p x l]
def NL{p:Pt}{x:LV}:∀ {l:List LC} {z:LC},z ∈ sj p x l->z ∈ l∨z.c=x
 | [],_,h=>by cases h
 | y::l,z,h=>by
  unfold sj at h;by_cases j:p=y.key
  ·grind
  ·rw[if_neg j]at h;rcases ar.1 h with rfl | h
   ·simp
   ·exact(NL h).imp (fun q=>by simp[q]) id
def Uwr{p:Pt}{x:LV}:∀ {l:List LC},jw l p≠O->∀ q,jw (sj p x l) q=if q=p then U x else jw l q
 | [],h,_=>absurd rfl h
 | y::l,h,q=>by
  unfold sj;by_cases j:p=y.key
  ·rw[if_pos j];show(if q=y.key then U x else jw l q)=_;by_cases C:q=p
   ·grind
   ·rw[if_neg C,if_neg (fun e=>C (by rw[e,j])),jw,if_neg (fun e=>C (by rw[e,j]))]
  ·rw[if_neg j];rw[jw,if_neg j]at h;show(if q=y.key then U y.c else jw (sj p x l) q)=_;rw[Uwr h q,jw]
   grind
def U2m{p:Pt}{x:LV}{k:Nat}:∀ {l:List LC},jw l p=O->∀ q,jw (l ++ [⟨p,x,k⟩]) q=if q=p then U x else jw l q
 | [],_,q=>rfl
 | y::l,h,q=>by
  rw[jw]at h;by_cases j:p=y.key
  ·grind
  ·rw[if_neg j]at h;show(if q=y.key then U y.c else jw (l ++ [⟨p,x,k⟩]) q)=_;rw[U2m h q,jw]
   grind
def wx(p:Pt):List LC->List LC
 | []=>[]
 | y::l=>if p=y.key then l else y::wx p l
def RV{p:Pt}:∀ {l:List LC},jw l p=O->wx p l=l
 | [],_=>rfl
 | y::l,h=>by
  rw[jw]at h;by_cases j:p=y.key
  ·grind
  ·rw[if_neg j]at h;rw[wx,if_neg j,RV h]
def Li{p:Pt}:∀ {l:List LC} {j i:Nat} {v:V},oH p (kN l) j=U (i,v)->l.eraseIdx (i-j)=wx p l
 | [],_,_,_,h=>by cases h
 | y::l,j,i,v,h=>by
  have h':(if p=y.key then U (j,y.c.v)else oH p (kN l) (j+1))=U (i,v):=h;rw[wx];by_cases C:p=y.key
  ·simp_all
  ·rw[if_neg C]at h' ⊢;obtain⟨_,_,P,_⟩:=Em h';rw[show i-j=(i-(j+1))+1 by omega,List.eraseIdx_cons_succ,Li h']
def Cl(p:Pt):∀ l:List LC,(wx p l).Sublist l
 | []=>by simp[wx]
 | y::l=>by
  rw[wx];by_cases h:p=y.key
  ·grind
  ·rw[if_neg h];exact(Cl p l).cons_cons _
def Um9{p:Pt}:∀ {l:List LC},(l.map (·.key)).Nodup->∀ q,jw (wx p l) q=if q=p then O else jw l q
 | [],_,q=>by simp[wx,jw]
 | y::l,nd,q=>by
  rw[aH,dz]at nd;rw[wx];by_cases j:p=y.key
  ·rw[if_pos j];by_cases C:q=p
   ·rw[if_pos C];cases P:jw l q with
    | none=>rfl
    | some x =>
     refine absurd (Lp.1 (by grind:jw l q≠O)) ?_
     grind
   ·rw[if_neg C,jw,if_neg (fun e=>C (by rw[e,j]))]
  ·rw[if_neg j,jw,Um9 nd.2 q,jw]
   grind
structure jb (h:N) (x:LV):Prop where
 s:SB h x.sv x.script
 b:Bytes x.script
 l:L x.script < 1000000
 v:0<=x.value/\x.value<=1125899906842624
def jb.R{x:LV}(a:jb h x)(o:a_ h h'):jb h' x:=⟨a.s.R o,a.b,a.l,a.v⟩
structure jY (h:N) (mb clk:Nat) (ls:List LC):Prop where
 gm:h.A mb=U (.map ⟨(kN ls).map PE.e⟩ clk)
 B:o_ ((kN ls).map PE.e) clk
 hs:∀ x ∈ ls,jb h x.c
 nd:(ls.map (·.key)).Nodup
 kb:∀ x ∈ ls,mq x.key
def jY.R{mb clk:Nat}{ls:List LC}(w:jY h mb clk ls)(a:a_ h h'):jY h' mb clk ls :=
 ⟨a.A w.gm,w.B,fun x j=>(w.hs x j).R a,w.nd,w.kb⟩
def xX{c:Nat}{v:V}{xs:List V}(s:Sl h z v n xs)(j:J7 v=U c):∃ ow z' l,h.A c=U (.cells ow z' l):=by
 rcases s with⟨_,rfl,_,rfl,rfl⟩ | ⟨C,o,_,ow,z',pre,post,rfl,P,_⟩
 ·cases j
 ·cases j
  grind
def Sl.setMap{mb clk:Nat}{v:V}{xs:List V}{es:Array MapEntry}(s:Sl h z v n xs)(gm:h.A mb=U (.map es clk))(x:Option Blk):Sl (h.set mb x) z v n xs:=s.keep fun c j _=>by
 rw[gY (N.D gm),if_neg fun e => ?_];obtain⟨_,_,_,g⟩:=xX s j
 grind
def jb.setMap{mb clk:Nat}{y:LV}{es:Array MapEntry}(a:jb h y)(gm:h.A mb=U (.map es clk))(x:Option Blk):jb (h.set mb x) y:=⟨Sl.setMap a.s gm x,a.b,a.l,a.v⟩
def UV{mb clk c z:Nat}{ow:Bool}{l:List V}{es:Array MapEntry}(g:h.A c=U (.cells ow z l))(gm:h.A mb=U (.map es clk))(x:Option Blk):(h.set mb x).A c=U (.cells ow z l):=by
 rw[gY (N.D gm),if_neg fun e=>by grind];exact g
def BZ:JH.desc=.map 64 73:=kR
def Wbj:JF.zero=.agg ⟨[I X 0,M O 0 0,I X 0]⟩:=kR
def Oc{mb clk:Nat}{ls:List LC}(w:jY h mb clk ls)(p:Pt) :
  qN (E b).tojo 67 (.map (U mb)) (.agg ⟨p.cells⟩) Y h=U (match jw ls p with | some x => .tuple #[.agg ⟨x.cells⟩,.bool Y] | none => .tuple #[.agg ⟨[I X 0,M O 0 0,I X 0]⟩,.bool J]):=by
 have lk:=(U82 (b:=b) (Am b) BZ w.gm (CS b) p).2;have j:=OG p ls 0;rw[lk];cases C:oH p (kN ls) 0 with
 | none =>
  rw[DO.1 C,Wbj]
 | some q =>
  rw[C]at j;cases P:jw ls p with
  | none=>grind
  | some x =>
   rw[P]at j;have : q.2=x.v:=cP j;simp only[this];rfl
def Pa{mb clk:Nat}{ls:List LC}(w:jY h mb clk ls){p:Pt}(hp:mq p){x:LV}(hx:jb h x) :
  ∃ j clk' h',ta (E b).tojo 67 (.map (U mb)) (.agg ⟨p.cells⟩) (.agg ⟨x.cells⟩) h=U h'/\h'=h.set mb (U (.map ⟨(kN j).map PE.e⟩ clk'))/\jY h' mb clk' j/\iE j=mO (iE ls) p (U x.c)/\L j<=L ls+1/\∀ y ∈ j,y ∈ ls∨y.c=x:=by
 cases P:oH p (kN ls) 0 with
 | none =>
  have ha:=DO.1 P;have up:=Uvl (b:=b) (Am b) BZ w.gm P (.agg ⟨x.cells⟩);have T:kN ls ++ [(⟨p,.agg ⟨x.cells⟩,clk⟩:PE)]=kN (ls ++ [⟨p,x,clk⟩]):=by simp[kN,LC.pe,LV.v]
  rw[T]at up;refine⟨ls ++ [⟨p,x,clk⟩],clk+1,_,up,rfl,⟨by rw[gY (N.D w.gm),if_pos rfl],?_,fun z C => ?_,?_,fun z C => ?_⟩,?_,jA,fun y hy => ?_⟩
  ·rw[<- T];have:=w.B.push (.agg ⟨p.cells⟩) (.agg ⟨x.cells⟩);simpa[PE.e]using this
  ·rcases ah.1 C with q | q
   ·exact(w.hs z q).setMap w.gm _
   ·rw[bb.1 q];exact hx.setMap w.gm _
  ·rw[bF,dZ];refine⟨w.nd,jA,fun a h1 c h2 e => ?_⟩;simp at h2;subst e h2;exact absurd ha (Lp.2 h1)
  ·rcases ah.1 C with q | q
   ·exact w.kb z q
   grind
  ·funext q;unfold iE mO;rw[U2m ha q]
   grind
  grind
 | some q =>
  obtain⟨i,v⟩:=q;have ha:jw ls p≠O:=fun e=>by rw[DO.2 e]at P;cases P
  have up:=Ua7 (b:=b) (Am b) BZ w.gm P (.agg ⟨x.cells⟩);have T:wU p (.agg ⟨x.cells⟩) (kN ls)=kN (sj p x ls):=Vpx p x ls;rw[T]at up;refine⟨sj p x ls,clk,_,up,rfl,⟨by rw[gY (N.D w.gm),if_pos rfl],?_,fun z C => ?_,by rw[KT];exact w.nd,fun z C => ?_⟩,?_,by have:=congrArg List.length (KT p x ls);grind,fun y hy=>NL hy⟩
  ·have e2:((kN (sj p x ls)).map PE.e).map (·.born)=((kN ls).map PE.e).map (·.born):=by
    have : ∀ l:List LC,((kN l).map PE.e).map (·.born)=l.map (·.born):=fun l=>by simp[kN,PE.e,LC.pe]
    rw[this,this,V9e]
   exact⟨fun e he=>by
    have : e.born ∈ ((kN (sj p x ls)).map PE.e).map (·.born):=am.2 ⟨e,he,rfl⟩;rw[e2]at this;obtain⟨e',hc,eb⟩:=am.1 this;rw[<- eb];exact w.B.lt e' hc,by rw[e2];exact w.B.nd⟩
  ·rcases NL C with q | q
   ·exact(w.hs z q).setMap w.gm _
   ·rw[q];exact hx.setMap w.gm _
  ·have : z.key ∈ (sj p x ls).map (·.key):=am.2 ⟨z,C,rfl⟩;rw[KT]at this;obtain⟨y,hy,ey⟩:=am.1 this;rw[<- ey];exact w.kb y hy
  ·funext q;unfold iE mO;rw[Uwr ha q]
   grind
def U9e{mb clk:Nat}{ls:List LC}(w:jY h mb clk ls)(p:Pt) :
  ∃ j h',yJ (E b).tojo 67 (.map (U mb)) (.agg ⟨p.cells⟩) h=U (.tuple #[],h')/\h'=h.set mb (U (.map ⟨(kN j).map PE.e⟩ clk))/\jY h' mb clk j/\iE j=mO (iE ls) p O/\L j<=L ls/\∀ y ∈ j,y ∈ ls:=by
 have hq:=In p (kN ls);refine⟨wx p ls,_,?_,rfl,⟨by rw[gY (N.D w.gm),if_pos rfl],?_,fun z P=>(w.hs z ((Cl p ls).subset P)).setMap w.gm _,w.nd.sublist ((Cl p ls).map _),fun z P=>w.kb z ((Cl p ls).subset P)⟩,?_,(Cl p ls).length_le,fun y hy=>(Cl p ls).subset hy⟩
 ·simp only[yJ,Am,BZ,xA,w.gm,hq];cases C:oH p (kN ls) 0 with
  | none=>simp[RV (DO.1 C)]
  | some q =>
   obtain⟨i,v⟩:=q;have e:=Li C;rw[dG]at e;simp only[Array.eraseIdxIfInBounds];congr 4;by_cases hi:i < L ((kN ls).map PE.e)
   ·rw[dif_pos iA];rw[<- e];simp[kN];have T:∀ (l:List LC) (i:Nat),(l.map (PE.e ∘ LC.pe)).eraseIdx i=(l.eraseIdx i).map (PE.e ∘ LC.pe):=by
     intro l;induction l with
     | nil=>simp
     | cons y l ih=>intro i;cases i with
      | zero=>rfl
      | succ i=>simp[ih]
    grind
   ·rw[dif_neg iA,<- e,List.eraseIdx_of_length_le (by simp[kN]at hi;omega)]
 ·unfold iE at *;cases C:oH p (kN ls) 0 with
  | none=>rw[RV (DO.1 C)];exact w.B
  | some q =>
   obtain⟨i,v⟩:=q;have e:=Li C;rw[dG]at e;rw[<- e];have:=w.B.erase i;have T:∀ (l:List LC) (i:Nat),((kN l).map PE.e).eraseIdx i=(kN (l.eraseIdx i)).map PE.e:=by
    intro l;induction l with
    | nil=>intro i;simp[kN]
    | cons y l ih=>intro i;cases i with
     | zero=>rfl
     | succ i=>simpa[kN]using ih i
   grind
 ·funext q;unfold iE mO;rw[Um9 w.nd q]
  grind
def GL(z:Int){v:V}{h:N}{n:Nat}{xs:List V}(s:Sl h 1 v n xs):jP (E b).tojo 39 [(0,I X z),(1,v)]=U (.agg ⟨[I X z,v]⟩):=by
 rcases s with⟨c,rfl,_⟩ | ⟨j,o,c,ow,C,pre,post,rfl,_⟩
 ·kernel_rfl
 ·kernel_rfl
attribute [local simp] Qw p6 p7 X0 p_ p9 p5 qd qc Q6 Qt Yg Y6 jm Qg iD Ab.g0 gv gs Q8 Qd iH kH lr Qh Tr.H St.put Tm.put flat iS Y5 Qm Qp Qn Qo Qk Ql Qj Qq Qi Q7 Q9 pZ pX pW pY qn qk qj qf qg qi qq Qz.putAll Qr Q0 Qa Wa ku Yk Jn Yo Nat.testBit Y0 loadAt Ab.runT jk Ym Yb Yh lG
section
attribute [local simp] FW
def U8k{sv:V}{xs:List Int}(s:SB h sv xs)(hl:L xs < 1000000)(K:KP)(C:∀ P h',OB h' h.Q P xs->a_ h h'->K (.ret P) h'):FK b 65 [sv] h K:=by
 by_cases j:J7 sv=O
 ·rcases s with⟨c,rfl,q1,q2,q3⟩ | ⟨_,_,_,_,_,_,_,rfl,_⟩
  ·refine ip b (FW b) UH rfl ?_;have T:oM (E b).tojo .eql 31 (M O 0 c) (M O 0 0)=U (.bool Y):=by simp[oM,wG,rX,(j' b).d]
   simp[LX,Tn,qB,q2,T];refine C _ h ?_ (a_.refl _);have : xs=[]:=by grind
   subst this;exact ij.nil
  ·simp[J7]at j
 ·exact Vpy b s j iA K C
def Nx{v:Int}{sv:V}{script:List Int}(s:SB h sv script)(hl:L script < 1000000)(K:KP)(hk:∀ hb h',OB h' h.Q hb script->a_ h h'->K (.ret (.agg ⟨[I X v,hb]⟩)) h'):FK b 29 [.agg ⟨[I X v,sv]⟩] h K:=by
 refine ip b (Wm b) Z99 rfl ?_;obtain⟨C,eA⟩:∃ C,C=h.push (S Y 1 [I X v,sv]):=⟨_,rfl⟩;have bx:=kE eA;have aA:=jG eA;have gA:C.A h.Q=U (S Y 1 [I X v,sv]):=by rw[eA,N.F,if_pos rfl]
 simp[Gn,Hw,Wm,jk,Jy,V0,J0,Z8,qL,bx];obtain⟨hB,eB,aB,gB⟩:=kQ C [I X 0,M O 0 0];rw[<- eB];obtain⟨_,h3,g3,n3,j,rfl,o3,a3⟩:=U8k b (s.R (aA.trans aB)) hl (fun r h' => ∃ v',r=.ret v'/\OB h' hB.Q v' script/\a_ hB h') (fun v' h' o a=>⟨v',rfl,o,a⟩);have c0:Zq hB h.Q 0=U (I X v):=by rw[Z2 (aB.A gA)];rfl
 have c1:Zq hB h.Q 1=U sv:=by rw[Z2 (aB.A gA)];rfl
 have hx:=a3.A gB;have l3:=N.D hx;obtain⟨P,e4⟩:∃ P,P=h3.set C.Q (U (S Y 1 [I X v,j])):=⟨_,rfl⟩;have hp:j9 (E b).tojo 39 (pO C.Q 0) (.agg ⟨[I X v,j]⟩) h3=U P:=by
  rw[qA (l:=[I X v,j]) (xC b) (by rw[mR];rfl),e4];exact jQ hx jA
 have g4:P.A C.Q=U (S Y 1 [I X v,j]):=by rw[e4,gY l3,if_pos rfl]
 have k4:∀ c,c≠C.Q->P.A c=h3.A c:=fun c T=>by rw[e4,gY l3,if_neg (Ne.symm T)]
 have hr:iy P C.Q 0 2=U (.agg ⟨[I X v,j]⟩):=by rw[V9 g4 jA];rfl
 refine jf [⟨65,[sv],hB,j,h3,Y⟩] ?_ Tv.1 (by simp[Tv.2,Z7j,Z2v,Gn,Hw,Wm,Jy,V0,J0,Z8,qL,c0,c1,GL b v o3.sl,hp];first | exact⟨rfl,rfl⟩ | rfl) ?_ ?_
 ·exact nK ⟨g3,n3,fun _ c T=>a3.2 c T⟩
 ·simp[Kb,Gn,Hw,Wm,Jy,V0,J0,Z8,qL,c0,yS]
 simp[Gn,Hw,Wm,jk,Jy,V0,J0,Z8,qL,rc,hr];have nA:=lT eA;have nB:=lT eB;refine hk j P ((o3.keep fun c T _=>k4 c fun e=>by have:=(o3.from T).1;omega).low iA) ⟨by rw[e4];have:=a3.1;show h.Q<=h3.Q;omega,fun c T=>by rw[k4 c iA,a3.2 c iA,aB.2 c iA,aA.2 c T]⟩
end
structure BK where
 p:Pt
 c:Option LV
def py:Option LV->List V
 | some x=>x.cells
 | none=>[I X 0,M O 0 0,I X 0]
def jz(h:N)(v:V)(k:BK):Prop:=mq k.p/\(∀ x,k.c=U x->jb h x)/\∃ P j C,v=.func (.func 142) #[] #[pO P 0,pO j 0,pO C 0] /\
 h.A P=U (S Y 1 [.bool k.c.isSome])/\h.A j=U (S Y 1 (py k.c))/\h.A C=U (S Y 1 k.p.cells)
def jz.R{v:V}{k:BK}(a:jz h v k)(o:a_ h h'):jz h' v k:=by
 obtain⟨q1,q2,P,j,C,e,T,g2,g3⟩:=a;exact⟨q1,fun x hx=>(q2 x hx).R o,P,j,C,e,o.A T,o.A g2,o.A g3⟩
section
attribute [local simp] Qtn Q3p Rc uJ tT ph vx OV vp
def Usy{mb z clk:Nat}{nt un:V}{ls:List LC}(gl:h.A lb=U (S Y z [nt,.map (U mb),un]))(w:jY h mb clk ls){p:Pt}(hp:mq p)(K:KP)(hk:∀ v' h',jz h' v' ⟨p,jw ls p⟩->a_ h h'->K (.ret v') h'):FK b 100 [pO lb 0,.agg ⟨p.cells⟩] h K:=by
 refine ip b (Rc b) Yji rfl ?_;obtain⟨j,eA⟩:∃ j,j=h.push (S Y 1 p.cells):=⟨_,rfl⟩;have bx:nP (.agg ⟨p.cells⟩) h=U (pO h.Q 0,j):=by rw[eA];exact tB (by rw[p.len];omega)
 have aA:=jG eA;have gA:j.A h.Q=U (S Y 1 p.cells):=by rw[eA,N.F,if_pos rfl]
 have wA:=w.R aA;have cl:Zq j lb 1=U (.map (U mb)):=by rw[Z2 (aA.A gl)];rfl
 have kp:iy j h.Q 0 33=U (.agg ⟨p.cells⟩):=nZ gA (by rw[Pt.len];omega) (by rw[Pt.len];omega);obtain⟨o,ho⟩:∃ o,o=jw ls p:=⟨_,rfl⟩;rw[<- ho]at hk;have lk:qN (E b).tojo 67 (.map (U mb)) (.agg ⟨p.cells⟩) Y j=U (.tuple #[.agg ⟨py o⟩,.bool o.isSome]):=by
  rw[Oc b wA p,<- ho];cases o <;> rfl
 have lc:L (py o)=3:=by cases o <;> rfl
 obtain⟨C,eC,aC,gC⟩:=kQ j [I X 0,M O 0 0,I X 0];have hb:jd (E b).tojo 73 j=U (pO j.Q 0,C):=by rw[eC];exact vx b j
 obtain⟨hD,eD,aD,gD⟩:=kQ C [.bool J];have hr:jd (E b).tojo 4 C=U (pO C.Q 0,hD):=by rw[eD];exact OV b C
 have nA:=lT eA;have nC:=lT eC;have lD:=N.D (aD.A gC);obtain⟨T,eE⟩:∃ T,T=hD.set j.Q (U (S Y 1 (py o))):=⟨_,rfl⟩;have hn:j9 (E b).tojo 73 (pO j.Q 0) (.agg ⟨py o⟩) hD=U T:=by
  rw[qA (l:=py o) (CS b) (by rw[DY];exact lc),eE,jQ (aD.A gC) (by simp[lc])];simp[lc]
 have h3:T.A j.Q=U (S Y 1 (py o)):=by rw[eE,gY lD,if_pos rfl]
 have hl:T.A C.Q=U (S Y 1 [.bool J]):=by rw[eE,gY lD,if_neg iA];exact gD
 have lE:=N.D hl;obtain⟨P,eF⟩:∃ P,P=T.set C.Q (U (S Y 1 [.bool o.isSome])):=⟨_,rfl⟩;have a2:iN T C.Q 0 [.bool o.isSome]=U P:=by rw[eF,jQ hl jA];rfl
 have e1:P.A C.Q=U (S Y 1 [.bool o.isSome]):=by rw[eF,gY lE,if_pos rfl]
 have hB:P.A j.Q=U (S Y 1 (py o)):=by rw[eF,gY lE,if_neg iA];exact h3
 have kF:∀ c,c < j.Q->P.A c=j.A c:=fun c hc=>by rw[eF,gY lE,if_neg iA,eE,gY lD,if_neg iA,aD.2 c iA,aC.2 c hc]
 have aF:a_ j P:=⟨by rw[eF,eE,eD];show j.Q<=C.Q+1;omega,kF⟩;simp[bx];refine jf [] jA ZB.1 (by simp[ZB.2,X86,X9u,ju,cl,kp,lk,-vx,-OV,hb,hr,hn,a2];first | exact⟨rfl,rfl⟩ | rfl) ?_ ?_
 ·simp[Kn]
 simp;refine hk _ P ⟨hp,fun x hx => ?_,_,_,_,rfl,e1,hB,aF.A gA⟩ (aA.trans aF);have hx:jw ls p=U x:=by grind
 obtain⟨y,hy, -,rfl⟩:=CI hx;exact(w.hs y hy).R (aA.trans aF)
end
def kW.R(a:kW ω h h1)(b:a_ h1 h2):kW ω h h2:=⟨ao a.1 b.1,fun c C j=>by rw[b.2 c (aq C a.1),a.2 c C j]⟩
def kW.of(a:a_ h h1):kW ω h h1:=⟨a.1,fun c j _=>a.2 c j⟩
def kW.trans(a:kW ω h h1)(b:kW ω h1 h2):kW ω h h2:=⟨ao a.1 b.1,fun c C j=>by rw[b.2 c (aq C a.1) j,a.2 c C j]⟩
def kW.set{ω:Nat}(a:kW ω h h1)(x:Option Blk)(P:ω < h1.Q):kW ω h (h1.set ω x):=⟨a.1,fun c C j=>by rw[gY P,if_neg (Ne.symm j),a.2 c C j]⟩
def kW.A{mb clk c z:Nat}{ow:Bool}{l:List V}{es:Array MapEntry}(a:kW mb h h')(g:h.A c=U (.cells ow z l))(gm:h.A mb=U (.map es clk)):h'.A c=U (.cells ow z l):=by
 rw[a.2 c (N.D g) fun e=>by grind];exact g
section
variable{h h':N}{mb clk:Nat}{es:Array MapEntry}(gm:h.A mb=U (.map es clk))(a:kW mb h h')
include gm a
theorem Sl.but{z n:Nat}{v:V}{xs:List V}(s:Sl h z v n xs):Sl h' z v n xs:=s.keep fun c j C=>a.2 c C fun e=>by
 obtain⟨_,_,_,g⟩:=xX s j
 grind
theorem jb.but{x:LV}(l:jb h x):jb h' x:=⟨Sl.but gm a l.s,l.b,l.l,l.v⟩
theorem ma.but{x:g_}(l:ma h x):ma h' x:=⟨Sl.but gm a l.w,fun p j=>⟨Sl.but gm a (l.i p j).1,(l.i p j).2⟩,l.n,l.l⟩
theorem mh.but{x:bN}(l:mh h x):mh h' x:=⟨Sl.but gm a l.s,l.b,l.l⟩
theorem Ins.but{v:V}{l:List g_}(s:Ins h v l):Ins h' v l:=⟨Sl.but gm a s.s,s.n,fun x j=>ma.but gm a (s.a x j)⟩
theorem jg.but{v:V}{l:List bN}(s:jg h v l):jg h' v l:=⟨Sl.but gm a s.s,s.n,fun x j=>mh.but gm a (s.a x j)⟩
theorem Laid.but(j:Ab.LaidIn h laidAll):Ab.LaidIn h' laidAll:=fun y C=>a.A (j y C) gm
theorem jz.but{v:V}{k:BK}(l:jz h v k):jz h' v k:=by
 obtain⟨q1,q2,P,j,C,e,T,g2,g3⟩:=l;exact⟨q1,fun x hx=>jb.but gm a (q2 x hx),P,j,C,e,a.A T gm,a.A g2 gm,a.A g3 gm⟩
end
def j0(l:List LC):List V:=l.map (·.c.sv)
def ny(l:List BK):List V:=l.filterMap fun k=>k.c.map (·.sv)
def sG(v:V)(l:List V):Prop:=∀ s ∈ l,∀ c,J7 s=U c->J7 v≠U c
def sG.nil{l:List V}:sG (M O 0 0) l:=fun _ _ _ _ e=>by cases e
def sG.sub{v:V}{l m:List V}(a:sG v l)(h:∀ s ∈ m,s ∈ l):sG v m:=fun s hs=>a s (h s hs)
def Ni(l m:List BK):ny (l++m)=ny l++ny m:=by simp[ny]
def Iw(h:N)(v:V):Prop:=∀ c,J7 v=U c->∃ P f C cs j,h.A c=U (S Y P (.func f C cs::j))
section
variable{h h':N}{v:V}(fb:Iw h v)(kp:∀ c,c < h.Q->J7 v≠U c->h'.A c=h.A c)
include kp
theorem jb.off{x:LV}(l:jb h x)(o:∀ c,J7 x.sv=U c->J7 v≠U c):jb h' x:=⟨l.s.keep fun c j C=>kp c C (o c j),l.b,l.l,l.v⟩
include fb
theorem GP{c z:Nat}{l:List V}(g:h.A c=U (S Y z l))(T:∀ x ∈ l.head?,∀ f j cs,x ≠ .func f j cs):h'.A c=U (S Y z l):=by
 rw[kp c (N.D g) fun e => ?_]
 ·exact g
 ·obtain⟨z',f,j,cs,C,P⟩:=fb c e
  grind
theorem Uz6{mb clk:Nat}{es:Array MapEntry}(g:h.A mb=U (.map es clk)):h'.A mb=U (.map es clk):=by
 rw[kp mb (N.D g) fun e => ?_]
 ·exact g
 ·obtain⟨T,f,C,cs,j,P⟩:=fb mb e
  grind
theorem jz.off{C:V}{k:BK}(l:jz h C k)(o:∀ x,k.c=U x->∀ c,J7 x.sv=U c->J7 v≠U c):jz h' C k:=by
 obtain⟨q1,q2,bT,T,bP,e,g1,g2,g3⟩:=l;refine⟨q1,fun x j=>jb.off kp (q2 x j) (o x j),bT,T,bP,e,GP fb kp g1 fun x j => ?_,GP fb kp g2 fun x j => ?_,GP fb kp g3 fun x j => ?_⟩
 ·grind
 ·cases P:k.c with
  | none=>rw[P]at j;simp[py]at j;grind
  | some y=>rw[P]at j;simp[py,LV.cells]at j;grind
 ·intro f ag cs e;obtain⟨kk,zz,e2⟩:=BT k.p x (cG j)
  grind
theorem jY.off{mb clk:Nat}{ls:List LC}(w:jY h mb clk ls)(o:sG v (j0 ls)):jY h' mb clk ls :=
 ⟨Uz6 fb kp w.gm,w.B,fun x j=>jb.off kp (w.hs x j) (o _ (am.2 ⟨x,j,rfl⟩)),w.nd,w.kb⟩
end
def iF(h:N)(n0:Nat)(v:V)(l:List BK):Prop:=∃ vals:List V,ij h n0 1 v (L l) vals/\L vals=L l/\(∀ (i:Nat) (x:V) (k:BK),vals[i]? = U x->l[i]? = U k->jz h x k)/\(l=[]->v=M O 0 0)
def iF.nil:iF h n0 (M O 0 0) []:=⟨[],ij.nil,rfl,fun i x k j=>by simp at j,fun _=>rfl⟩
def iF.from{v:V}{l:List BK}(r:iF h n0 v l){c:Nat}(j:J7 v=U c):n0<=c/\c < h.Q:=by
 obtain⟨vals,o, -⟩:=r;exact o.from j
def iF.func{v:V}{l:List BK}(r:iF h n0 v l):Iw h v:=by
 intro c j;obtain⟨vals,o,T,P,he⟩:=r;rcases o with⟨rfl,_,_⟩ | ⟨bk,cc,z',C,rfl,h1,h2,h3,h4,h5,h6⟩
 ·cases j
 ·cases j
  match l,vals,T with
  | [],[],_=>grind
  | k::l,x::vals,_ =>
   obtain⟨-, -,bT,bC,bP,e, -⟩:=P 0 x k rfl rfl
   grind
def iF.R{v:V}{l:List BK}(r:iF h n0 v l)(a:a_ h h'):iF h' n0 v l:=by
 obtain⟨vals,o,hl,j,P⟩:=r;exact⟨vals,o.keep fun c _ C=>a.2 c C,hl,fun i x k hx T=>(j i x k hx T).R a,P⟩
def iF.low{n1:Nat}{v:V}{l:List BK}(r:iF h n0 v l)(T:n1<=n0):iF h n1 v l:=by
 obtain⟨vals,o,P,j,C⟩:=r;exact⟨vals,o.low T,P,j,C⟩
def iF.but{mb clk:Nat}{v:V}{l:List BK}{es:Array MapEntry}(r:iF h n0 v l)(gm:h.A mb=U (.map es clk))(a:kW mb h h'):iF h' n0 v l:=by
 obtain⟨vals,o,hl,j,P⟩:=r;refine⟨vals,o.keep fun c j C=>a.2 c C fun e => ?_,hl,fun i x k hx T=>jz.but gm a (j i x k hx T),P⟩;obtain⟨_,_,_,g⟩:=xX o.sl j
 grind
def iF.app{v:V}{l:List BK}(r:iF h n0 v l)(off:sG v (ny l)){fv:V}{k:BK}(a:jz h fv k)(P:∀ x,k.c=U x->∀ c,J7 x.sv=U c->J7 v≠U c)(h0:n0<=h.Q)(hn:L l < 1000000) :
  ∃ T h',kU (E b).tojo 112 112 v (M (U ⟨h.Q,0,O⟩) 1 1) (h.push (S Y 1 [fv]))=U (T,h')/\iF h' n0 T (l ++ [k])/\iM v h h'/\∀ c,J7 T=U c->J7 v=U c∨h.Q<=c:=by
 have fb:=r.func;obtain⟨vals,o,hl,hb,he⟩:=r;obtain⟨T,h',k1,k2,k3,k4⟩:=vy (Ar b) (z:=1) A9 iA o h0 (ys:=[fv]) rfl (by rw[Vpt];omega) iA;refine⟨T,h',k1,⟨vals ++ [fv],by grind,by simp[hl],fun i x kk C j => ?_,fun e=>by simp at e⟩,k3,k4⟩;by_cases hi:i < L l
 ·rw[aN iA]at C;rw[aN hi]at j;refine jz.off fb k3.2 (hb i x kk C j) fun y hy=>off _ ?_;exact bO.2 ⟨kk,ae j,by grind⟩
 ·rw[aL iA]at C j;rw[hl]at C;have : i-L l=0:=by
   grind
  rw[this]at C j;simp at C j;subst C j;exact jz.off fb k3.2 a P
def U81(h:N){j:V}{k:BK}(a:jz h j k)(h1:N):V6 (E b).tojo 112 1 [(0,j)] h1=U (M (U ⟨h1.Q,0,O⟩) 1 1,h1.push (S Y 1 [j])):=by
 obtain⟨-, -,T,C,P,rfl, -⟩:=a;exact oL (Ar b) (z:=1) A9 iA iA rfl rfl rfl
def rU(l:List BK)(m:kP):kP:=l.foldr (fun k m=>mO m k.p (k.c.map LV.c)) m
def Ud5(l l2:List BK)(m:kP):rU (l++l2) m=rU l (rU l2 m):=by simp[rU]
def Ust(k:BK)(m:kP):rU [k] m=mO m k.p (k.c.map LV.c):=rfl
def tA:List Nat:=[116,120]
section
def Wco(laid:Ab.LaidIn h laidAll){iv ov:V}{ins:List g_}{outs:List bN}{lock:Int}(si:Ins h iv ins)(so:jg h ov outs)(hp:∀ x ∈ ins,mq x.pt)(K:KP)(hk:∀ h',a_ h h'->K (.ret (.agg ⟨(mS tA (iX ins outs lock)).map dk⟩)) h'):FK b 101 [.agg ⟨iz iv ov lock⟩] h K:=by
 refine ip b (KF b) Uoi rfl ?_;obtain⟨C,eA,aA,gA⟩:=kQ h ((iz iv ov lock));have nA:=lT eA;have bx:=kE eA;obtain⟨hB,eB,aB,gB⟩:=kQ C jn;have hc:jd (E b).tojo 62 C=U (pO C.Q 0,hB):=by rw[eB];exact Jx b C
 have j:=aA.trans aB;have hl:iy hB h.Q 0 3=U (.agg ⟨iz iv ov lock⟩):=by rw[V9 (aB.A gA) (by simp[iz])];rfl
 simp[RU,Unv,KF,Jx,CA,Uf,Gr,Vw,bx,-Jx,hc,hl];refine Um6 b (l:=tA) (Laid.R laid j) rfl (by simp[tA]) (si.R j) (so.R j) hp _ fun h1 a1 => ?_;obtain⟨P,T⟩:∃ P,P=mS tA (iX ins outs lock):=⟨_,rfl⟩;have tl:L P=32:=by rw[T];exact tI _ _
 rw[<- T]at hk ⊢;have g3:=a1.A gB;have l3:=N.D g3;have hb:iN h1 C.Q 0 (P.map dk)=U (h1.set C.Q (U (S Y 1 (P.map dk)))):=by
  rw[jQ g3 (by simp[jn,tl])];congr 4;simp[jn,tl]
 have hx:iy (h1.set C.Q (U (S Y 1 (P.map dk)))) C.Q 0 32=U (.agg ⟨P.map dk⟩):=by
  rw[V9 (by rw[gY l3,if_pos rfl]) (by simp[tl]),ba,aj (by simp[tl])]
 simp[RU,Unv,KF,Jx,CA,Uf,Gr,Vw,mZ,tl,hb,hx];exact hk _ ((j.trans a1).set _ iA l3)
def Ss{nu:Nat}{nt mv un:V}(gl:h.A lb=U (S Y z [nt,mv,un]))(j:∀ T,iC (E b).tojo 68 un T=U (I X (nu:Int)))(K:KP)(P:K (.ret (I X (nu:Int))) h) :
  FK b 38 [pO lb 0] h K:=by
 refine ip b (Yj b) Yaq rfl ?_;have C:Zq h lb 2=U un:=by rw[Z2 gl];rfl
 simp[XC,Ynh,Yj,mW,A_,AT,ju,C,j];exact P
end
def tJ{t:TypeId}{r:ir}(he:(E b).tojo.ty.A t=U r){l:List V}(hl:L l=r.size)(hz:L r.zero.cells.toList=r.size)(h:N):∃ j C,jd (E b).tojo t h=U (pO h.Q 0,j)/\j9 (E b).tojo t (pO h.Q 0) (.agg ⟨l⟩) j=U C/\iN j h.Q 0 l=U C/\C.A h.Q=U (S Y 1 l)/\a_ h C/\C.Q=h.Q+1:=by
 obtain⟨j,P⟩:∃ j,j=h.push (S Y 1 r.zero.cells.toList):=⟨_,rfl⟩;have T:j.A h.Q=U (S Y 1 r.zero.cells.toList):=by rw[P,N.F,if_pos rfl]
 have lA:=N.D T;have st:iN j h.Q 0 l=U (j.set h.Q (U (S Y 1 l))):=by
  rw[jQ T iA]
  grind
 refine⟨j,j.set h.Q (U (S Y 1 l)),by rw[P];simp only[jd,he],by rw[qA he hl];exact st,st,by rw[gY lA,if_pos rfl],?_,by rw[P];rfl⟩;rw[P];exact(a_.push _ _).set _ (ai _) (by grind)
structure jN (h h':N) (mb clk':Nat) (ls ls':List LC) (m':kP) (v':V) (bks:List BK) (N_ M_:Nat):Prop where
 row:iF h' h.Q v' bks
 co:jY h' mb clk' ls'
 mp:iE ls'=m'
 back:rU bks m'=iE ls
 bt:kW mb h h'
 off:sG v' (j0 ls'++ny bks)
 new:∀ s ∈ j0 ls'++ny bks,s ∈ j0 ls ∨ ∀ c,J7 s=U c->h.Q<=c
 len:L ls'<=L ls+N_
 bl:L bks<=M_
def jN.R{mb clk' P M_:Nat}{ls C:List LC}{T:kP}{v':V}{j:List BK}(D:jN h h' mb clk' ls C T v' j P M_)(a:a_ h' h2):jN h h2 mb clk' ls C T v' j P M_ :=
 ⟨D.row.R a,D.co.R a,D.mp,D.back,D.bt.R a,D.off,D.new,D.len,D.bl⟩
def jN.nil{mb clk:Nat}{ls:List LC}(w:jY h mb clk ls):jN h h mb clk ls ls (iE ls) (M O 0 0) [] 0 0 :=
 ⟨iF.nil,w,rfl,rfl,kW.of (a_.refl _),sG.nil,fun s hs => .inl (by simpa[ny]using hs),ai _,ai _⟩
def E0{x:LV}(a:jb h x){c:Nat}(j:J7 x.sv=U c):c < h.Q:=by
 obtain⟨_,_,_,g⟩:=xX a.s j;exact N.D g
def iF.lv{v:V}{l:List BK}(r:iF h n0 v l){k:BK}(C:k ∈ l){x:LV}(P:k.c=U x):jb h x:=by
 obtain⟨vals,o,hl,j,T⟩:=r;obtain⟨i,hi,e⟩:=fp C;exact(j i (vals[i]' iA) k (ac iA) (by grind)).2.1 x P
def IW{mb clk:Nat}{v:V}{l:List BK}{ls:List LC}(r:iF h n0 v l)(w:jY h mb clk ls){s:V}(hs:s ∈ j0 ls++ny l){c:Nat}(C:J7 s=U c):c < h.Q:=by
 rcases ah.1 hs with q | q
 ·obtain⟨x,T,rfl⟩:=am.1 q;exact E0 (w.hs x T) C
 ·obtain⟨k,P,e⟩:=bO.1 q;cases j:k.c with
  | none=>grind
  | some x =>
   rw[j]at e;cases e;exact E0 (r.lv P j) C
def jN.step{mb clk N_ M_:Nat}{ls j:List LC}{m1:kP}{bv:V}{C:List BK}(D:jN h h1 mb clk ls j m1 bv C N_ M_)(hM:M_ < 1000000){fv:V}{p:Pt}(a:jz h1 fv ⟨p,jw j p⟩) :
  ∃ v' h2,kU (E b).tojo 112 112 bv (M (U ⟨h1.Q,0,O⟩) 1 1) (h1.push (S Y 1 [fv]))=U (v',h2)/\iM bv h1 h2/\Iw h1 bv/\jY h2 mb clk j/\kW mb h h2 /\
   ∀ (h3 h4:N) (P:List LC) (hk:Nat) (c:Option PC) (N':Nat) (x:Option LV),a_ h2 h3->(∃ y,h4=h3.set mb y)->jY h4 mb hk P->iE P=mO (iE j) p c->(∀ y ∈ P,y ∈ j∨U y.c=x)->(∀ y,x=U y->∀ c,J7 y.sv=U c->h2.Q<=c)->L P<=L ls+N' ->
    jN h h4 mb hk ls P (mO m1 p c) v' (C ++ [⟨p,jw j p⟩]) N' (M_+1):=by
 have fb:=D.row.func;have M':∀ x,jw j p=U x->x.sv ∈ j0 j:=fun x hx=>by
  obtain⟨y,hy, -,rfl⟩:=CI hx;exact am.2 ⟨y,hy,rfl⟩
 obtain⟨v',h2,k1,k2,k3,k4⟩:=D.row.app b (D.off.sub fun s hs=>by simp[hs]) a (fun x hx=>D.off x.sv (ah.2 (.inl (M' x hx)))) D.bt.1 (cY D.bl hM);have hn:=jY.off fb k3.2 D.co (D.off.sub fun s hs=>by simp[hs]);have hA:kW mb h h2:=⟨ao D.bt.1 k3.1,fun c hc hq=>by
  rw[k3.2 c (aq hc D.bt.1) fun e=>by have:=(D.row.from e).1;omega,D.bt.2 c hc hq]⟩
 refine⟨v',h2,k1,k3,fb,hn,hA,?_⟩;rintro h3 h4 P hk c N' x hp ⟨y,rfl⟩ e2 em hB hb ho;have a2:=(hn.R hp).gm;have hu:=N.D a2;have hl:∀ s ∈ ny (C ++ [⟨p,jw j p⟩]),s ∈ j0 j++ny C:=fun s hs=>by
  rw[Ni]at hs;rcases ah.1 hs with q | q
  ·grind
  ·refine ah.2 (.inl ?_);cases ha:jw j p with
   | none=>rw[ha]at q;simp[ny]at q
   | some z =>
    rw[ha]at q;simp[ny]at q
    grind
 have hr:∀ s ∈ j0 P,s ∈ j0 j ∨ ∃ z,x=U z/\s=z.sv:=fun s hs=>by
  obtain⟨z,hz,rfl⟩:=am.1 hs;rcases hB z hz with q | q
  ·exact .inl (am.2 ⟨z,q,rfl⟩)
  grind
 have T:sG v' (j0 j++ny C):=fun s hs d hd e=>by
  rcases k4 d e with q | q
  ·exact D.off s hs d hd q
  ·have:=IW D.row D.co hs hd;omega
 have e1:iF (h3.set mb y) h.Q v' (C ++ [⟨p,jw j p⟩]):=(k2.R hp).but a2 ((kW.of (a_.refl _)).set _ hu);refine⟨e1,e2,by rw[em,D.mp],?_,(hA.R hp).set _ hu,fun s hs d hd e => ?_,fun s hs => ?_,ho,by rw[aJ];have:=D.bl;simp;omega⟩
 ·rw[Ud5,Ust];show rU C (mO (mO m1 p c) p ((jw j p).map LV.c))=_;have : (jw j p).map LV.c=m1 p:=by rw[<- D.mp];rfl
  rw[this,Uxj,U3x,D.back]
 ·rcases ah.1 hs with q | q
  ·rcases hr s q with r | ⟨z,r1,rfl⟩
   ·exact T s (ah.2 (.inl r)) d hd e
   ·have h5:=hb z r1 d hd;have:=(k2.from e).2;omega
  ·exact T s (hl s q) d hd e
 ·rcases ah.1 hs with q | q
  ·rcases hr s q with r | ⟨z,r1,rfl⟩
   ·exact D.new s (ah.2 (.inl r))
   ·exact .inr fun d hd=>ao hA.1 (hb z r1 d hd)
  ·exact D.new s (hl s q)
def V99{j:List Nat}(hs:L j=32)(z:Int):jP (E b).tojo 64 [(0,.agg ⟨j.map dk⟩),(1,I X z)]=U (.agg ⟨j.map dk ++ [I X z]⟩):=by
 obtain⟨P,T,hc,hl,hx,hk⟩:∃ P T,uE.desc=.struct P/\uq (E b).tojo P.toList=U T/\iD T 0=U (0,32)/\iD T 1=U (32,1) :=
  ⟨(match uE.desc with | .struct P=>P | _ => #[]),(uq (E b).tojo (match uE.desc with | .struct P=>P | _ => #[]).toList).getD [],by kernel_rfl,by kernel_rfl,by kernel_rfl,by kernel_rfl⟩
 obtain⟨C,ez,hz,hb⟩:∃ C:List V,C=uE.zero.cells.toList/\L C=33/\C.drop 32=[I X 0]:=⟨_,rfl,by kernel_rfl,by kernel_rfl⟩;have sl:L (j.map dk)=32:=by simp[hs]
 have e2:(mg (.agg ⟨j.map dk⟩) && (Value.agg ⟨j.map dk⟩).cells.size == 32 && Nat.ble (0+32) (L C))=Y:=by
  have h1:(Value.agg ⟨j.map dk⟩).cells.size=32:=sl;rw[h1,hz];rfl
 have e3:kZ C 0 (Value.agg ⟨j.map dk⟩).cells.toList=U (j.map dk++C.drop 32):=by
  show kZ C 0 (j.map dk)=_;rw[q_ iA];simp[sl]
 have e4:(mg (I X z) && (I X z).cells.size == 1 && Nat.ble (32+1) (L (j.map dk ++ [(I X 0:V)])))=Y:=by
  rw[aJ,sl];rfl
 have e5:kZ (j.map dk ++ [(I X 0:V)]) 32 (I X z).cells.toList=U (j.map dk ++ [I X z]):=by
  show kZ _ 32 [I X z]=_;rw[q_ (by grind)]
  grind
 simp only[jP,xA,hc,hl,<- ez,oQ,hx,hk,e2,if_true,e3,hb,e4,e5,aQ]
def Utt(z w:Int){v:V}{h:N}{n0 n:Nat}{xs:List V}(s:ij h n0 1 v n xs):jP (E b).tojo 73 [(0,.agg ⟨[I X z,v]⟩),(1,I X w)]=U (.agg ⟨[I X z,v,I X w]⟩):=by
 rcases s.sl with⟨c,rfl,_⟩ | ⟨j,o,c,ow,C,pre,post,rfl,_⟩
 ·kernel_rfl
 ·kernel_rfl
def x8(m:kP)(l:List Pt):kP:=l.foldl (fun m p=>mO m p O) m
def ww(id:List Nat)(j:L id=32)(made:Int)(m:kP)(l:List jx):kP:=l.zipIdx.foldl (fun m q=>mO m ⟨id,(q.2:Int),j⟩ (U ⟨q.1.value,q.1.script,made⟩)) m
def Un3(m:kP)(l:List Pt)(p:Pt):x8 m (l ++ [p])=mO (x8 m l) p O:=by simp[x8]
def Uae{id:List Nat}{j:L id=32}{made:Int}(m:kP)(l:List jx)(o:jx):ww id j made m (l ++ [o])=mO (ww id j made m l) ⟨id,(L l:Int),j⟩ (U ⟨o.value,o.script,made⟩):=by
 unfold ww
 grind
def vF(m:kP)(t:mL)(made:Int):kP:=ww (mS tA t) (tI _ _) made (x8 m (t.ins.map (·.pt))) t.outs
def Uq7(s l:List Nat):∀ n ∈ wV s l,n < 256:=fun n j=>BQ _ n j
def Ubj(s:List Nat)(t:mL):∀ n ∈ mS s t,n < 256:=by
 intro n j;unfold mS at j;split at j
 ·exact Uq7 _ _ n j
 grind
structure D1 (lb B:Nat) (iv:V) (n:Nat) (t:Tr V) (i:Nat) (bv:V):Prop where
 t0:t.A 0=U (pO lb 0)
 t3:t.A 3=U (pO B 0)
 t5:t.A 5=U bv
 t13:t.A 13=U iv
 t14:t.A 14=U (I X (n:Int))
 t15:t.A 15=U (I X (i:Int))
def DI1(lb mb clk B:Nat)(iv:V)(ins:List g_)(ls:List LC)(h:N)(k:Nat)(s:St):Prop:=∃ (t:Tr V) (h1:N) (i:Nat) (P:V) (C:List LC) (j:List BK),s=⟨⟨65,t⟩,[],h1⟩/\i<=L ins/\k=L ins-i/\D1 lb B iv (L ins) t i P/\jN h h1 mb clk ls C (x8 (iE ls) ((ins.take i).map (·.pt))) P j 0 i
structure D2 (lb I_:Nat) (ov:V) (n:Nat) (t:Tr V) (i:Nat) (bv:V):Prop where
 t0:t.A 0=U (pO lb 0)
 t5:t.A 5=U bv
 t8:t.A 8=U (pO I_ 0)
 t36:t.A 36=U ov
 t37:t.A 37=U (I X (n:Int))
 t38:t.A 38=U (I X (i:Int))
def DI2(lb mb T:Nat)(ov:V)(id:List Nat)(C:L id=32)(made:Int)(outs:List bN)(m0:kP)(M_:Nat)(ls:List LC)(h:N)(k:Nat)(s:St):Prop:=∃ (t:Tr V) (h1:N) (i clk:Nat) (bv:V) (P:List LC) (j:List BK),s=⟨⟨65,t⟩,[],h1⟩/\i<=L outs/\k=L outs-i/\D2 lb T ov (L outs) t i bv/\jN h h1 mb clk ls P (ww id C made m0 ((outs.take i).map bN.p)) bv j i (M_+i)/\h1.A T=U (S Y 1 (id.map dk))
section
attribute [local simp] Qcj Qek Rh J4 tY Bx yx zI Jt ph Rc uJ tT Uf KF Vw Jc uK rc qL mZ zS Wm Yj
def Wcs{mb z clk nu:Nat}{nt un:V}{ls:List LC}(laid:Ab.LaidIn h laidAll)(gl:h.A lb=U (S Y z [nt,.map (U mb),un]))(tl:∀ C,iC (E b).tojo 68 un C=U (I X (nu:Int)))(dt:nu < 1000000)(w:jY h mb clk ls){iv ov:V}{ins:List g_}{outs:List bN}{lock:Int}(si:Ins h iv ins)(so:jg h ov outs)(hp:∀ x ∈ ins,mq x.pt)(hv:∀ o ∈ outs,0<=o.value/\o.value<=1125899906842624)(w1:∀ o ∈ outs,L o.script < 1000000)(hK:L ins<=100)(m3:L outs<=100)(K:KP)(hk:∀ v' h' y1 clk' q2,jN h h' mb clk' ls y1 (vF (iE ls) (iX ins outs lock) ((nu:Int)+1)) v' q2 (L outs) (L ins+L outs)->K (.ret v') h'):gr Tryz.prog (E b).G 53 [pO lb 0,.agg ⟨iz iv ov lock⟩] h K:=by
 refine mf (E b) (lQ _ _) (Uc b) (Jh b) iI (Ui b) (Rh b) Lu.1 Lu.2.1 Lu.2.2 rfl ?_;obtain⟨h0,e0⟩:∃ h0,h0=h.push (S Y 1 (iz iv ov lock)):=⟨_,rfl⟩;have bx:=kE e0;have a0:=jG e0;have g0:h0.A h.Q=U (S Y 1 (iz iv ov lock)):=by rw[e0,N.F,if_pos rfl]
 have n0:=lT e0;have w0:=w.R a0;have hz:=a0.A gl;have jR:∀ C,iC (E b).tojo 45 iv C=U (I X (L ins:Int)):=fun C=>iT (kK b) si.s;have hf:∀ C,iC (E b).tojo 22 ov C=U (I X (L outs:Int)):=fun C=>iT (kD b) so.s;have c0:∀ {C:N},C.A h.Q=U (S Y 1 (iz iv ov lock))->Zq C h.Q 0=U iv/\Zq C h.Q 1=U ov/\iy C h.Q 0 3=U (.agg ⟨iz iv ov lock⟩):=fun g=>⟨by rw[Z2 g];rfl,by rw[Z2 g];rfl,by rw[V9 g (by simp[iz])];rfl⟩;simp[lG,Jx,jk,n_,bx,(c0 g0).1,jR];refine iV (DI1 lb mb clk h.Q iv ins ls h0) (L ins) ⟨_,h0,0,M O 0 0,ls,[],rfl,iA,rfl,⟨jA,jA,jA,jA,jA,jA⟩,jN.nil w0⟩ ?_;rintro k s' ⟨t,h1,i,bv,eB,q2,rfl,hi,rfl,⟨t0,t3,t5,t13,t14,t15⟩,D⟩ -;have M2:=D.bt.A hz w0.gm;have s2:=Ins.but w0.gm D.bt (si.R a0);by_cases c2:i < L ins
 ·have hn:(i:Int) < (L ins:Int):=iA
  have hw:=wS (i:=i) iA;obtain⟨x,C⟩:∃ x,ins[i]? = U x:=⟨_,ac c2⟩;obtain⟨bk,off, -,x1,x2, -⟩:=qF (b:=b) (kK b) nI s2.s C;obtain⟨hA,h2,ho,a1,T,g2,a2,n2⟩:=tJ b (yZ b) (l:=x.cells) (by rw[g_.len,nI]) (by kernel_rfl) h1;have p2:∀ {C:N},C.A h1.Q=U (S Y 1 x.cells)->iy C h1.Q 0 33=U (.agg ⟨x.pt.cells⟩):=fun g=>by rw[V9 g (by rw[g_.len];omega),ba,B5]
  have zz:=hp x (ae C);simp[lG,Jx,jk,n_,t0,t3,t5,t13,t14,t15,c2,hn,x1,x2,-lG,ho,a1,T,p2 g2];have D2:=D.R a2;refine(Usy b (a2.A M2) D2.co zz _ fun fv h3 ht a3 => ?_).ok;have D3:=D2.R a3;obtain⟨v4,h4,a4,b4,b1,f1,o1,q3⟩:=D3.step b iA ht;have g4:h4.A h1.Q=U (S Y 1 x.cells):=by
   rw[b4.2 _ (N.D (a3.A g2)) fun e=>by have:=(D.row.from e).2;omega];exact a3.A g2
  have re:=o1.A hz w0.gm;have lv:Zq h4 lb 1=U (.map (U mb)):=by rw[Z2 re];rfl
  obtain⟨t9,h5,e4,e5,o2,f2,c3,he⟩:=U9e b f1 x.pt;simp[lG,Jx,jk,n_,t0,t3,t5,t13,t14,t15,U81 b h3 ht,a4];refine jf [] jA YE.1 (by simp[YE.2,Yxd,Jx,n_,ju,t0,lv,p2 g4,e4];first | exact⟨rfl,rfl⟩ | rfl) ?_ ?_
  ·simp[PW,Jx,n_]
  simp[lG,Jx,jk,n_,t0,t3,t5,t13,t14,t15,hw];have D5:=q3 h4 h5 t9 clk O 0 O (a_.refl _) ⟨_,e5⟩ o2 f2 (fun y hy => .inl (he y hy)) (fun y e=>by cases e) (by have:=D.len;omega);have tk:(ins.take (i+1)).map (·.pt)=(ins.take i).map (·.pt) ++ [x.pt]:=by rw[aT,C];simp
  refine⟨L ins-(i+1),iA,_,h5,i+1,v4,t9,q2 ++ [⟨x.pt,jw eB x.pt⟩],rfl,iA,rfl,⟨by simp[t0],by simp[t3],jA,by simp[t13],by simp[t14],jA⟩,?_⟩;rw[tk,Un3];exact D5
 ·have hn:¬ (i:Int) < (L ins:Int):=iA
  have : i=L ins:=iA
  subst this;rw[bH]at D;have g1:=D.bt.A g0 w0.gm;have r3:=jg.but w0.gm D.bt (so.R a0);have sx:=Laid.but w0.gm D.bt (Laid.R laid a0);simp[lG,Jx,jk,n_,t0,t3,t5,t13,t14,t15,(c0 g1).1,(c0 g1).2.1,(c0 g1).2.2];refine(Wco b sx s2 r3 hp _ fun h2 a2 => ?_).ok;obtain⟨dg,hl⟩:∃ dg,dg=mS tA (iX ins outs lock):=⟨_,rfl⟩;have P:L dg=32:=by rw[hl];exact tI _ _
  have gB:∀ n ∈ dg,n < 256:=by rw[hl];exact Ubj _ _
  rw[<- hl];obtain⟨hA,h3,ho,a1,T,g3,a3,n3⟩:=tJ b (EQ b) (l:=dg.map dk) (by rw[bo,P,K7]) (by kernel_rfl) h2;have D3:=(D.R a2).R a3;have hL:=a3.A (a2.A g1);simp[lG,Jx,jk,n_,t0,t3,t5,t13,t14,t15,-Jx,ho,a1,T,P,(c0 hL).2.1,hf];refine iV (DI2 lb mb h2.Q ov dg P ((nu:Int)+1) outs (x8 (iE ls) (ins.map (·.pt))) (L ins) ls h0) (L outs) ⟨_,h3,0,clk,bv,eB,q2,rfl,iA,rfl,⟨by simp[t0],by simp[t5],jA,jA,jA,jA⟩,by simpa[ww]using D3,g3⟩ ?_;rintro k s' ⟨t,h4,j,hg,M1,ha,hB,rfl,hj,rfl,⟨t0,t5,t8,t36,t37,t38⟩,D4,g4⟩ -;have re:=D4.bt.A hz w0.gm;have m1:=jg.but w0.gm D4.bt (so.R a0);by_cases p1:j < L outs
  ·have e1:(j:Int) < (L outs:Int):=iA
   have hw:=wS (i:=j) iA;have m2:IntKind.i64.wrap ((nu:Int)+1)=(nu:Int)+1:=Jr iA iA;obtain⟨x,C⟩:∃ x,outs[j]? = U x:=⟨_,ac p1⟩;obtain⟨bk,off, -,x1,x2, -, -⟩:=qO (b:=b) (kD b) mR m1.s C;have sp:=m1.a x (ae C);have tg:=hv x (ae C);obtain⟨hA,h5,ho,a1,T,g5,a5,n5⟩:=tJ b (xC b) (l:=x.cells) (by rw[bN.len,mR]) (by kernel_rfl) h4;obtain⟨p,ep⟩:∃ p:Pt,p=⟨dg,(j:Int),P⟩:=⟨_,rfl⟩;have pb:mq p:=by rw[ep];exact gB
   have bp:jP (E b).tojo 64 [(0,.agg ⟨dg.map dk⟩),(1,I X (j:Int))]=U (.agg ⟨p.cells⟩):=by rw[ep];exact V99 b P (j:Int)
   obtain⟨hC,h6,p3,q5,c1,g6,a6,n6⟩:=tJ b (xA b) (l:=p.cells) (by rw[Pt.len,uY]) (by kernel_rfl) h5;have k4:iy h5 h2.Q 0 32=U (.agg ⟨dg.map dk⟩):=nZ (a5.A g4) (by simp[P]) (by simp[P]);have r2:∀ {C:N},C.A h5.Q=U (S Y 1 p.cells)->iy C h5.Q 0 33=U (.agg ⟨p.cells⟩):=fun g=>nZ g (by rw[Pt.len];omega) (by rw[Pt.len];omega);have mv:∀ {C:N},C.A h4.Q=U (S Y 1 x.cells)->iy C h4.Q 0 2=U (.agg ⟨x.cells⟩):=fun g=>nZ g (by rw[bN.len];omega) (by rw[bN.len];omega);simp[lG,Jx,jk,n_,t0,t5,t8,t36,t37,t38,p1,e1,x1,x2,-jk,-n_,ho,a1,T,k4,bp,p3,q5,c1,r2 g6];have D6:=(D4.R a5).R a6;have eA:=a5.trans a6;refine(Usy b (eA.A re) D6.co pb _ fun fv h7 aA a7 => ?_).ok;have D7:=D6.R a7;obtain⟨v8,h8,hD,b8,ev,gA,r1,q3⟩:=D7.step b iA aA;have hr:∀ {c:Nat} {l:List V},h4.Q<=c->h7.A c=U (S Y 1 l)->h8.A c=U (S Y 1 l):=fun hc g=>by
    rw[b8.2 _ (N.D g) fun e=>by have:=(D4.row.from e).2;omega];exact g
   have w2:=hr (ai _) (a7.A (a6.A g5));have m0:=hr (c:=h5.Q) iA (a7.A g6);have ch:h8.A h2.Q=U (S Y 1 (dg.map dk)):=GP ev b8.2 ((eA.trans a7).A g4) fun y hy f ag cs e=>by
    have:=cG hy;obtain⟨n, -,e2⟩:=am.1 this;rw[e]at e2;cases e2
   have q4:=r1.A hz w0.gm;have b2:=jg.but w0.gm r1 (so.R a0);have dv:Zq h8 lb 1=U (.map (U mb)):=by rw[Z2 q4];rfl
   obtain⟨_,h9,q9,n9,hm,rfl,o9,a9⟩:=Nx b (v:=x.value) (b2.a x (ae C)).s (w1 x (ae C)) (fun r h' => ∃ v',r=.ret (.agg ⟨[I X x.value,v']⟩)/\OB h' h8.Q v' x.script/\a_ h8 h') (fun v' h' o a=>⟨v',rfl,o,a⟩);have i1:=a9.A q4;obtain⟨_,o3,rs,eC,rfl,rfl⟩:=Ss b i1 tl (fun r h'=>r=.ret (I X (nu:Int))/\h9=h') ⟨rfl,rfl⟩;obtain⟨y,ey⟩:∃ y:LV,y=⟨x.value,hm,x.script,(nu:Int)+1⟩:=⟨_,rfl⟩;have ly:jb h9 y:=by rw[ey];exact⟨o9.sl,sp.b,w1 x (ae C),tg⟩
   obtain⟨hu,hb,aB,t4,e3,q1,s1,e',M'⟩:=Pa b (gA.R a9) pb ly;have g':jP (E b).tojo 73 [(0,.agg ⟨[I X x.value,hm]⟩),(1,I X ((nu:Int)+1))]=U (.agg ⟨y.cells⟩):=by rw[ey];exact Utt b x.value ((nu:Int)+1) o9
   have xc:x.cells=[I X x.value,x.sv]:=rfl;simp[lG,Jx,jk,n_,t0,t5,t8,t36,t37,t38,U81 b h7 aA,hD];refine jf [⟨29,[.agg ⟨[I X x.value,x.sv]⟩],h8,.agg ⟨[I X x.value,hm]⟩,h9,Y⟩,⟨38,[pO lb 0],h9,I X (nu:Int),h9,Y⟩] ?_ YS.1 (by simp[YS.2,Yqy,Yn6,Ydc,Jx,n_,ju,t0,dv,r2 m0,mv w2,xc,qy,m2,g',t4];first | exact⟨rfl,rfl⟩ | rfl) ?_ ?_
   ·exact tu ⟨q9,n9,fun _ c hc=>a9.2 c hc⟩ ⟨rs,eC,fun _ c hc=>rfl⟩
   ·simp[F5,Jx,n_,dv]
   simp[lG,Jx,jk,n_,t0,t5,t8,t36,t37,t38,hw];have aC:=q3 h9 aB hu hb (U y.c) (j+1) (U y) a9 ⟨_,e3⟩ q1 s1 (fun q hq=>(M' q hq).imp id fun e=>by rw[e]) (fun q e c hc=>by cases e;rw[ey]at hc;exact(o9.from hc).1) (by have:=D4.len;omega);have tk:(outs.take (j+1)).map bN.p=(outs.take j).map bN.p ++ [x.p]:=by rw[aT,C];simp
   have hF:L ((outs.take j).map bN.p)=j:=by grind
   refine⟨L outs-(j+1),iA,_,aB,j+1,hb,v8,hu,hB ++ [⟨p,jw ha p⟩],rfl,iA,rfl,⟨by simp[t0],jA,by simp[t8],by simp[t36],by simp[t37],jA⟩,?_,?_⟩
   ·rw[tk,Uae,hF];have : (⟨x.p.value,x.p.script,(nu:Int)+1⟩:PC)=y.c:=by rw[ey];rfl
    grind
   ·rw[e3];exact UV (a9.A ch) (gA.R a9).gm _
  ·have e1:¬ (j:Int) < (L outs:Int):=iA
   have : j=L outs:=iA
   subst this;rw[bH]at D4;simp[lG,Jx,jk,n_,t0,t5,t8,t36,t37,t38];have em:vF (iE ls) (iX ins outs lock) ((nu:Int)+1)=ww dg P ((nu:Int)+1) (x8 (iE ls) (ins.map (·.pt))) (outs.map bN.p):=by
    subst hl;unfold vF;rw[show(iX ins outs lock).ins.map (·.pt)=ins.map (·.pt)from Of ins];rfl
   refine hk M1 h4 ha hg hB ?_;rw[em];exact⟨D4.row.low a0.1,D4.co,D4.mp,D4.back,⟨ao a0.1 D4.bt.1,fun c hc u1=>by rw[D4.bt.2 c (aq hc a0.1) u1,a0.2 c hc]⟩,D4.off,fun s hs=>(D4.new s hs).imp id fun q c hc=>ao a0.1 (q c hc),D4.len,D4.bl⟩
end
section
variable{h h':N}{L_:Nat}{o:pV}(go:h.A L_=U (.obj o))(a:kW L_ h h')
include go a
theorem Gy{c z:Nat}{ow:Bool}{l:List V}(g:h.A c=U (.cells ow z l)):h'.A c=U (.cells ow z l):=by
 rw[a.2 c (N.D g) fun e=>by grind];exact g
theorem Sl.obj{z n:Nat}{v:V}{xs:List V}(s:Sl h z v n xs):Sl h' z v n xs:=s.keep fun c j C=>a.2 c C fun e=>by
 obtain⟨_,_,_,g⟩:=xX s j
 grind
theorem jb.obj{x:LV}(l:jb h x):jb h' x:=⟨Sl.obj go a l.s,l.b,l.l,l.v⟩
theorem jz.obj{v:V}{k:BK}(l:jz h v k):jz h' v k:=by
 obtain⟨q1,q2,P,j,C,e,T,g2,g3⟩:=l;exact⟨q1,fun x hx=>jb.obj go a (q2 x hx),P,j,C,e,Gy go a T,Gy go a g2,Gy go a g3⟩
theorem iF.obj{n0:Nat}{v:V}{l:List BK}(r:iF h n0 v l):iF h' n0 v l:=by
 obtain⟨vals,ow,hl,j,P⟩:=r;refine⟨vals,ow.keep fun c j C=>a.2 c C fun e => ?_,hl,fun i x k hx T=>jz.obj go a (j i x k hx T),P⟩;obtain⟨_,_,_,g⟩:=xX ow.sl j
 grind
theorem jY.obj{mb clk:Nat}{ls:List LC}(w:jY h mb clk ls):jY h' mb clk ls:=by
 refine⟨?_,w.B,fun x j=>jb.obj go a (w.hs x j),w.nd,w.kb⟩;rw[a.2 mb (N.D w.gm) fun e=>by have:=w.gm;grind];exact w.gm
end
section
def U0o{mb clk:Nat}{ls:List LC}(w:jY h mb clk ls){k:BK}(pb:mq k.p)(hl:∀ x,k.c=U x->jb h x){bT bC bP:Nat}(gT:h.A bT=U (S Y 1 [.bool k.c.isSome]))(gC:h.A bC=U (S Y 1 (py k.c)))(gP:h.A bP=U (S Y 1 k.p.cells))(K:KP)(hk:∀ h' j clk',(∃ y,h'=h.set mb y)->jY h' mb clk' j->iE j=mO (iE ls) k.p (k.c.map LV.c)->(∀ y ∈ j,y ∈ ls∨U y.c=k.c)->L j<=L ls+1->K (.ret (.tuple #[])) h') :
  gr Tryz.prog (E b).G 142 [.map (U mb),pO bT 0,pO bC 0,pO bP 0] h K:=by
 refine mf (E b) (lQ _ _) (Uc b) (Jh b) iI (Ui b) (KN b) LN.1 LN.2.1 LN.2.2 rfl ?_;have cT:Zq h bT 0=U (.bool k.c.isSome):=by rw[Z2 gT];rfl
 have lP:iy h bP 0 33=U (.agg ⟨k.p.cells⟩):=nZ gP (by rw[Pt.len];omega) (by rw[Pt.len];omega);cases hc:k.c with
 | none =>
  rw[hc]at cT;obtain⟨P,h2,dl,e2,C,em,le,mem⟩:=U9e b w k.p;simp[Rs,WT,KN,rk,ph,U8l,cT,lP,dl];exact hk h2 P clk ⟨_,e2⟩ C (by grind) (fun y hy => .inl (mem y hy)) iA
 | some x =>
  rw[hc]at cT gC;have lC:iy h bC 0 3=U (.agg ⟨x.cells⟩):=by rw[V9 gC (by simp[py,LV.cells])];rfl
  obtain⟨P,T,h2,up,e2,C,em,le,mem⟩:=Pa b w pb (hl x hc);simp[Rs,WT,KN,rk,ph,U8l,cT,lP,lC,up];exact hk h2 P T ⟨_,e2⟩ C (by grind) (fun y hy=>(mem y hy).imp id fun e=>by rw[e,hc]) le
def Ufr(h:N)(v:V)(hv:mg v=Y/\v.cells = #[v])(K:KP)(T:∀ h',h'.A h.Q=U (S Y 1 [v])->a_ h h'->h'.Q=h.Q+1->K (.ret (.func (.func 141) #[] #[pO h.Q 0])) h') :
  FK b 99 [v] h K:=by
 refine ip b (Vi b) Qlw rfl ?_;obtain⟨C,j⟩:∃ C,C=h.push (S Y 1 [v]):=⟨_,rfl⟩;have P:nP v h=U (pO h.Q 0,C):=by simp[nP,j,hv.1,hv.2]
 simp[Qez,Qmr,Vi,P];exact T C (by rw[j,N.F,if_pos rfl]) (by rw[j];exact a_.push _ _) (by rw[j];rfl)
end
def BWI(A l:Nat)(n:Nat)(C:Nat->N->Prop)(k:Nat)(s:St):Prop:=∃ (t:Tr V) (g:N) (j:Nat),s=⟨⟨19,t⟩,[],g⟩/\t.A 0=U (.func (.yield l) #[] #[])/\t.A 1=U (pO A 0)/\t.A 3=U (I X ((n:Int)-1-(j:Int)))/\j<=n/\k=n-j/\C j g
section
attribute [local simp] Vc Wn Jv J7r Uml
def bw1{l A:Nat}{v:V}{vals:List V}(h:N)(K:KP)(P:Nat->N->Prop)(hI:P 0 h)(hn:L vals < 1000000)(h1:∀ j g,P j g->g.A A=U (S Y 1 [v])/\Sl g 1 v (L vals) vals/\∃ st pe t ps an bd d,g.A l=U (.obj (.loop st pe t ps an bd d))/\∀ x y:V,u9 t.size ps.toList [x,y]=Y)(hr:∀ j g x (K:KP),P j g->j < L vals->vals[L vals-1-j]? = U x->(∀ T,P (j+1) T->g.Q<=T.Q->K (.ret (.bool Y)) T)->AP Tryz.prog (E b).G l [I X ((L vals:Int)-1-(j:Int)),x] g K)(hk:∀ g,P (L vals) g->K (.ret (.tuple #[])) g):gr Tryz.prog (E b).G 141 [.func (.yield l) #[] #[],pO A 0] h K:=by
 refine mf (E b) (lQ _ _) (Uc b) (Jh b) iI (Ui b) (Jv b) QE.1 QE.2.1 QE.2.2 rfl ?_;obtain⟨gA,s0, -⟩:=h1 _ _ hI;have cA:Zq h A 0=U v:=by rw[Z2 gA];rfl
 have len:∀ hx,iC (E b).tojo 112 v hx=U (I X (L vals:Int)):=fun hx=>iT (Ar b) s0;have w0:IntKind.i64.wrap ((L vals:Int)-1)=(L vals:Int)-1:=Jr iA iA;simp[cA,len,w0];refine iV (BWI A l (L vals) P) (L vals) ⟨_,h,0,rfl,jA,jA,jA,iA,rfl,hI⟩ ?_;rintro k s' ⟨t,g,j,rfl,t0,t1,t3,hj,rfl,hc⟩ -;obtain⟨gA,s1,st,pe,tl,ps,an,bd,d,q3,q4⟩:=h1 _ _ hc;have cA:Zq g A 0=U v:=by rw[Z2 gA];rfl
 obtain⟨z,hz⟩:∃ z:Int,z=(L vals:Int)-1-(j:Int):=⟨_,rfl⟩;rw[<- hz]at t3;by_cases hb:j < L vals
 ·have C:0<=z:=iA
  have hp:(z.toNat:Int)=z:=Int.toNat_of_nonneg C;have e1:z.toNat=L vals-1-j:=iA
  obtain⟨x,hx⟩:∃ x,vals[L vals-1-j]? = U x:=⟨_,ac iA⟩;obtain⟨bk,off,x0,x1,x2, -⟩:=mQ (Ar b) A9 s1 (k:=.i64) (i:=z) C iA;have x2:=x2 0 iA;rw[e1,cg,bR,bR,hx]at x2;have hw:IntKind.i64.wrap (z-1)=(L vals:Int)-1-((j+1:Nat):Int):=by rw[Jr iA iA];omega
  have q4:=q4 (I X z) x;simp[t0,t1,t3,cA,C,x1,x2,AL,q3,q4];have:=hr j g x;rw[<- hz]at this;refine this _ hc hb hx fun T hl h3 => ?_;simp[t0,t1,t3,hw];exact⟨L vals-(j+1),iA,_,T,j+1,rfl,by simp[t0],by simp[t1],jA,iA,rfl,hl⟩
 ·have C:¬ 0<=z:=iA
  have : j=L vals:=iA
  subst this;simp[t0,t1,t3,C]
  grind
end
def yC:Code:=ZK (xJ (Y1 52))
def yA:Code:=ZP (xJ (Y1 52))
def Uwt:xJ (Y1 52)=.rangeFunc (.tmp 7) #[8,9] yC yA:=kR
def Wcw:Up yC=XL:=kR
def Wbp:Up yA=Rw:=kR
structure TNI (hB:N) (TL:Tm) (mb:Nat) (ls:List LC) (bks:List BK) (j:Nat) (g:N):Prop where
 gd:g.A hB.Q=U (.obj .defs)
 gl:g.A (hB.Q+1)=U (.obj (.loop .ready O TL #[8,9] yC yA hB.Q))
 bt:kW mb hB g
 n:hB.Q+2<=g.Q
 co:∃ clk ls1,jY g mb clk ls1/\iE ls1=rU (bks.drop (L bks-j)) (iE ls)/\(∀ s ∈ j0 ls1,s ∈ j0 ls++ny bks)/\L ls1<=L ls+j
def Uwd(a:Option Addr)(n c:Nat):mg (.slice a n c)=Y/\(Value.slice a n c).cells = #[.slice a n c]:=⟨rfl,rfl⟩
def iF.slice{v:V}{l:List BK}(r:iF h n0 v l):mg v=Y/\v.cells = #[v]:=by
 obtain⟨vals,o, -⟩:=r;rcases o with⟨rfl,_⟩ | ⟨_,_,_,_,rfl,_⟩ <;> exact Uwd _ _ _
section
def Ux8{mb z clk n0:Nat}{nt un bv:V}{ls:List LC}{C:List BK}(gl:h.A lb=U (S Y z [nt,.map (U mb),un]))(w:jY h mb clk ls)(r:iF h n0 bv C)(hn:L C < 1000000)(K:KP)(hk:∀ h' h4 clk',jY h' mb clk' h4->iE h4=rU C (iE ls)->kW mb h h'->(∀ s ∈ j0 h4,s ∈ j0 ls++ny C)->L h4<=L ls+L C->K (.ret (.tuple #[])) h') :
  gr Tryz.prog (E b).G 52 [pO lb 0,bv] h K:=by
 refine mf (E b) (lQ _ _) (Uc b) (Jh b) iI (Ui b) (Dm b) LF.1 LF.2.1 LF.2.2 rfl ?_;obtain⟨hV,eV⟩:∃ hV,hV=h.push (S Y 1 [pO lb 0]):=⟨_,rfl⟩;have bx:nP (pO lb 0) h=U (pO h.Q 0,hV):=by rw[eV];rfl
 have aV:=jG eV;have gV:hV.A h.Q=U (S Y 1 [pO lb 0]):=by rw[eV,N.F,if_pos rfl]
 simp[KL,Mq,Dm,Vi,Rj,bx,Uwt];refine(Ufr b hV bv r.slice _ fun P gA aB nB => ?_).ok;simp[KL,Mq,Dm,Vi,Rj,Uwt];refine U25 (first:=#[]) (captured:=#[pO hV.Q 0]) jA (Jv b) ?_;generalize q3:Tm.mk 16 _=TL;have e2:TL.t.A 2=U (pO h.Q 0):=by rw[<- q3];simp
 have q2:TL.size=16:=by grind
 have e1:TL=⟨16,TL.t⟩:=by grind
 have T:=aV.trans aB;have wB:=w.R T;have rB:=r.R T;obtain⟨vals,o,hl,hb,he⟩:=rB;obtain⟨h0,e0⟩:∃ h0,h0=(P.push (.obj .defs)).push (.obj (.loop .ready O TL #[8,9] yC yA P.Q)):=⟨_,rfl⟩;have aA:h0.Q=P.Q+2:=by rw[e0];simp only[oJ]
 have a0:a_ P h0:=by rw[e0];exact(a_.push _ _).trans (a_.push _ _)
 rw[<- e0];refine bw1 b (l:=P.Q+1) (vals:=vals) h0 _ (TNI P TL mb ls C) ⟨?_,?_,kW.of a0,iA,clk,ls,wB.R a0,by simp[rU],fun s hs=>by simp[hs],iA⟩ iA (fun j g i=>⟨i.bt.A gA wB.gm,?_,_,_,_,_,_,_,_,i.gl,fun x y=>by rw[q2];rfl⟩) ?_ ?_
 ·rw[e0];simp (disch:=first | omega | (simp only[oJ,wO];done) | (simp only[oJ,wO];omega)) only[I8,JB,II,IG]
 ·rw[e0];simp (disch:=first | omega | (simp only[oJ,wO];done) | (simp only[oJ,wO];omega)) only[I8,JB,II,IG]
 ·have:=Sl.but wB.gm i.bt o.sl
  grind
 ·intro j g x K' i hj hx hK;obtain⟨hr,s1,h3,hA,a1,t4⟩:=i.co;obtain⟨k,q1⟩:∃ k,C[L C-1-j]? = U k:=⟨_,ac iA⟩;rw[hl]at hx;have bk:=jz.but wB.gm i.bt (hb _ x k hx q1);refine Usk (E b) (lQ _ _) (Uc b) (Jh b) iI i.gl (by rw[q2];rfl) Wcw Wbp ?_;have lL:=N.D i.gl;obtain⟨hC,eC⟩:∃ hC,hC=g.set (P.Q+1) (U (.obj (.loop .busy O TL #[8,9] yC yA P.Q))):=⟨_,rfl⟩;have kC:∀ c,c≠P.Q+1->hC.A c=g.A c:=fun c hc=>by rw[eC,gY lL,if_neg (Ne.symm hc)]
  have bC:kW (P.Q+1) g hC:=by rw[eC];exact(kW.of (a_.refl _)).set _ lL
  have s':hC.A (P.Q+1)=U (.obj (.loop .busy O TL #[8,9] yC yA P.Q)):=by rw[eC,gY lL,if_pos rfl]
  have nC:hC.Q=g.Q:=by rw[eC];rfl
  have hq:=jY.obj i.gl bC h3;have re:=jz.obj i.gl bC bk;have hf:hC.A h.Q=U (S Y 1 [pO lb 0]):=Gy i.gl bC (i.bt.A (aB.A gV) wB.gm);have a3:hC.A lb=U (S Y z [nt,.map (U mb),un]):=Gy i.gl bC (i.bt.A (T.A gl) wB.gm);have c2:Zq hC h.Q 0=U (pO lb 0):=by rw[Z2 hf];rfl
  have c1:Zq hC lb 1=U (.map (U mb)):=by rw[Z2 a3];rfl
  obtain⟨pb,x1,bT,ht,bP,rfl,gT,gC,gP⟩:=re;have hg:=i.gl;rw[e1]at eC hg ⊢;simp[XL,xz,Te,hg,<- eC];simp[Rw,Wbn,uJ,tT,KN,e2,c2,ju,c1];refine U0o b hq pb x1 gT gC gP _ fun h2 h5 hu hy M' hw v' x2 => ?_;obtain⟨y,rfl⟩:=hy;have lm:=N.D hq.gm;have eA:mb≠P.Q+1:=fun e=>by have:=hq.gm;grind
  have ho:(hC.set mb y).A (P.Q+1)=U (.obj (.loop .busy O TL #[8,9] yC yA P.Q)):=by rw[gY lm,if_neg eA];exact s'
  rw[e1]at ho;simp[Rw];refine Th (st:=.busy) (pe:=O) (t2:=⟨16,TL.t⟩) (ps2:=#[8,9]) (as2:=yC) (bd2:=yA) (d2:=P.Q) ho ?_;rw[<- e1];have l7:=N.D ho;obtain⟨h8,e8⟩:∃ h8,h8=(hC.set mb y).set (P.Q+1) (U (.obj (.loop .ready O TL #[8,9] yC yA P.Q))):=⟨_,rfl⟩;rw[<- e8];have b8:kW (P.Q+1) (hC.set mb y) h8:=by rw[e8];exact(kW.of (a_.refl _)).set _ l7
  have g2:=jY.obj ho b8 M';have n8:h8.Q=g.Q:=by rw[e8];exact nC
  have g3:mb≠P.Q:=fun e=>by have:=h3.gm;rw[e,i.gd]at this;cases this
  refine hK h8 ⟨?_,by rw[e8,gY l7,if_pos rfl],⟨iA,fun c hc a2 => ?_⟩,iA,hu,h5,g2,?_,fun s hs => ?_,iA⟩ iA
  ·rw[b8.2 _ iA iA,gY lm,if_neg g3,kC _ iA];exact i.gd
  ·have:=i.bt.1;rw[b8.2 c iA iA,gY lm,if_neg (Ne.symm a2),kC c iA,i.bt.2 c hc a2]
  ·have e3:C.drop (L C-(j+1))=k::C.drop (L C-j):=by
    have hm:L C-1-j < L C:=iA;rw[show L C-(j+1)=L C-1-j by omega,bh hm]
    grind
   rw[e3,hw,hA];rfl
  ·obtain⟨z,hz,rfl⟩:=am.1 hs;rcases v' z hz with q | q
   ·exact a1 _ (am.2 ⟨z,q,rfl⟩)
   ·exact ah.2 (.inr (bO.2 ⟨k,ae q1,by grind⟩))
 ·intro g i;refine Jry jA i.gl ?_;obtain⟨hr,s1,h3,hA,a1,t4⟩:=i.co;have lL:=N.D i.gl;obtain⟨g1,hp⟩:∃ g1,g1=g.set (P.Q+1) O:=⟨_,rfl⟩;have b1:kW (P.Q+1) g g1:=by rw[hp];exact(kW.of (a_.refl _)).set _ lL
  have gd:g1.A P.Q=U (.obj .defs):=by rw[hp,gY lL,if_neg iA];exact i.gd
  have n1:g1.Q=g.Q:=by rw[hp];rfl
  have lD:=N.D gd;rw[e1,<- hp];simp[KL,Mq,Dm,Vi,Rj,gd];have M':=jY.obj gd ((kW.of (a_.refl g1)).set O lD) (jY.obj i.gl b1 h3);rw[hl,dQ,ba]at hA;refine hk _ s1 hr M' hA ⟨by have:=T.1;have:=i.bt.1;show h.Q<=g1.Q;omega,fun c hc a2 => ?_⟩ a1 iA;have:=T.1;rw[gY lD,if_neg iA,b1.2 c iA iA,i.bt.2 c iA a2,T.2 c hc]
end
def Vqy(ν:Nat){l:List V}(j:L l=32)(lk:Int):jP (E b).tojo 100 [(0,pO ν 0),(1,.agg ⟨l⟩),(2,I X lk)]=U (.agg ⟨pO ν 0::l ++ [I X lk]⟩):=by
 have e:jP (E b).tojo 100 [(0,pO ν 0),(1,.agg ⟨l⟩),(2,I X lk)]=(oQ (iD [(0,1),(1,32),(33,1)]) (.pointer O::List.replicate 32 zU ++ [I X 0]) [(0,pO ν 0),(1,.agg ⟨l⟩),(2,I X lk)]).map fun c => .agg c.toArray:=by
  kernel_rfl
 rw[e];have hc:(Value.agg ⟨l⟩).cells.toList=l:=rfl;have hs:(Value.agg ⟨l⟩).cells.size=32:=j;have hz:L (pO ν 0::List.replicate 32 zU ++ [I X 0]:List V)=34:=jA
 have C:L (pO ν 0::l ++ [I X 0]:List V)=34:=by simp[j]
 have s0:kZ (.pointer O::List.replicate 32 zU ++ [I X 0]:List V) 0 [pO ν 0]=U (pO ν 0::List.replicate 32 zU ++ [I X 0]):=rfl;have s1:kZ (pO ν 0::List.replicate 32 zU ++ [I X 0]:List V) 1 l=U (pO ν 0::l ++ [I X 0]):=by
  rw[q_ iA,j];rfl
 have s2:kZ (pO ν 0::l ++ [I X 0]:List V) 33 [I X lk]=U (pO ν 0::l ++ [I X lk]):=by
  rw[q_ (by grind),fK (by simp[j]),cJ,ck (by simp[j])];simp
 have P:(mg (.agg ⟨l⟩) && (Value.agg ⟨l⟩).cells.size == 32 && Nat.ble (1+32) (L (pO ν 0::List.replicate 32 zU ++ [I X 0]:List V)))=Y:=by
  rw[hs,hz];rfl
 have p0:(mg (pO ν 0) && (pO ν 0).cells.size == 1 && Nat.ble (0+1) (L (.pointer O::List.replicate 32 zU ++ [I X 0]:List V)))=Y:=rfl;have T:(mg (I X lk) && (I X lk).cells.size == 1 && Nat.ble (33+1) (L (pO ν 0::l ++ [I X 0]:List V)))=Y:=by
  rw[C];rfl
 have c0:(pO ν 0).cells.toList=[pO ν 0]:=rfl;have c2:(I X lk).cells.toList=[I X lk]:=rfl;simp only[oQ,iD,p0,P,T,if_true,hc,c0,c2,s0,s1,s2];rfl
def u_(a:jv)(m:kP):List qP->Int->Except Int Int
 | [],s => .ok s
 | x::l,s=>match m x.pt with
  | none => .error 17
  | some c=>if mw a c.script x.wit=0 then u_ a m l (s+c.value)else .error (mw a c.script x.wit)
def ER(ks:List Nat)(hks:L ks=1024)(t:mL):jv:=⟨ks,mS tD t,t.lock,hks,tI _ _⟩
def j7(l:List jx):Int:=(l.map (·.value)).sum
def oC(ks:List Nat)(hks:L ks=1024)(m:kP)(j:Int)(t:mL):Int × Int :=
 if pB t=0 then
  if j+1 < t.lock then(0,18)else
  match u_ (ER ks hks t) m t.ins 0 with
  | .error e=>(0,e)
  | .ok s=>if s-j7 t.outs < 0 then(0,19)else(s-j7 t.outs,0)
 else(0,pB t)
def Usp{a:jv}{m:kP}{l:List qP}{i:Nat}{x:qP}(j:l[i]? = U x)(s:Int):u_ a m (l.drop i) s=match m x.pt with
  | none => .error 17
  | some c=>if mw a c.script x.wit=0 then u_ a m (l.drop (i+1)) (s+c.value)else .error (mw a c.script x.wit):=by
 rw[bh (av.1 j).1,(av.1 j).2,u_]
def V7v(x:g_):x.cells[33]? = U x.wv:=by
 rw[g_.cells,aL (by rw[Pt.len];omega),Pt.len];rfl
def Nz:∀ {l:List jx} {j:Int},qI l j=Y->0<=j->0<=j7 l/\j7 l<=j
 | [],j,_,h=>by simp[j7];exact h
 | o::l,j,h,h0=>by
  unfold qI at h;split at h
  ·cases h
  ·rename_i C;have:=Nz h iA;have e:j7 (o::l)=o.value+j7 l:=by simp[j7]
   omega
structure V1 (lb B V_:Nat) (iv:V) (n:Nat) (t:Tr V) (i:Nat) (fee:Int):Prop where
 t0:t.A 0=U (pO lb 0)
 t3:t.A 3=U (pO B 0)
 t7:t.A 7=U (pO V_ 0)
 t8:t.A 8=U (I X fee)
 t37:t.A 37=U iv
 t38:t.A 38=U (I X (n:Int))
 t39:t.A 39=U (I X (i:Int))
def VI1(lb B C:Nat)(iv:V)(ins:List g_)(a:jv)(m:kP)(h:N)(k:Nat)(s:St):Prop:=∃ (t:Tr V) (h1:N) (i:Nat) (j:Int),s=⟨⟨86,t⟩,[],h1⟩/\i<=L ins/\k=L ins-i/\V1 lb B C iv (L ins) t i j/\a_ h h1/\0<=j/\j<=1125899906842624*(i:Int)/\u_ a m (ins.map g_.p) 0=u_ a m ((ins.map g_.p).drop i) j
def VI2(ov:V)(outs:List bN)(h:N)(j:Int)(k:Nat)(s:St):Prop:=∃ (t:Tr V) (h1:N) (i:Nat),s=⟨⟨86,t⟩,[],h1⟩/\i<=L outs/\k=L outs-i/\t.A 8=U (I X (j-j7 ((outs.map bN.p).take i)))/\t.A 72=U ov/\t.A 73=U (I X (L outs:Int))/\t.A 74=U (I X (i:Int))/\a_ h h1
def Urm{outs:List bN}{i:Nat}{x:bN}(j:outs[i]? = U x):j7 ((outs.map bN.p).take (i+1))=j7 ((outs.map bN.p).take i)+x.value:=by
 rw[aT,b7,j];simp[j7,bN.p]
def Nw(l m:List jx):j7 (l++m)=j7 l+j7 m:=by simp[j7]
section
attribute [local simp] Ve Us Xu Uf Kv Jg Ux V0 Yj Fw Dv Kt J4 tY yx zI uJ tT Jt ph vx PR J0 Z8 Wc U1 P9 Ul Jy Jc uK rc qL 
def Ee{mb z clk nu ν p2:Nat}{ow:Bool}{un:V}{ls:List LC}{ks:List Nat}(hks:L ks=1024)(laid:Ab.LaidIn h laidAll)(gl:h.A lb=U (S Y z [pO ν 0,.map (U mb),un]))(gν:h.A ν=U (.cells ow p2 (ks.map dk)))(hD:∀ P,iC (E b).tojo 68 un P=U (I X (nu:Int)))(hL:nu < 1000000)(w:jY h mb clk ls){iv ov:V}{ins:List g_}{outs:List bN}{lock:Int}(si:Ins h iv ins)(so:jg h ov outs)(hp:∀ x ∈ ins,mq x.pt)(K:KP)(hk:∀ h',a_ h h'->K (.ret (.tuple #[I X (oC ks hks (iE ls) (nu:Int) (iX ins outs lock)).1,I X (oC ks hks (iE ls) (nu:Int) (iX ins outs lock)).2])) h'):gr Tryz.prog (E b).G 15 [pO lb 0,.agg ⟨iz iv ov lock⟩] h K:=by
 refine mf (E b) (lQ _ _) (Uc b) (Jh b) iI (Ui b) (Xu b) LI.1 LI.2.1 LI.2.2 rfl ?_;obtain⟨h0,e0⟩:∃ h0,h0=h.push (S Y 1 (iz iv ov lock)):=⟨_,rfl⟩;have bx:=kE e0;have a0:=jG e0;have g0:h0.A h.Q=U (S Y 1 (iz iv ov lock)):=by rw[e0,N.F,if_pos rfl]
 have jR:∀ P,iC (E b).tojo 45 iv P=U (I X (L ins:Int)):=fun P=>iT (kK b) si.s;have ht:∀ P,iC (E b).tojo 22 ov P=U (I X (L outs:Int)):=fun P=>iT (kD b) so.s;have c0:∀ {P:N},P.A h.Q=U (S Y 1 (iz iv ov lock))->Zq P h.Q 0=U iv/\Zq P h.Q 1=U ov/\Zq P h.Q 2=U (I X lock)/\iy P h.Q 0 3=U (.agg ⟨iz iv ov lock⟩):=fun g=>⟨by rw[Z2 g];rfl,by rw[Z2 g];rfl,by rw[Z2 g];rfl,by rw[V9 g (by simp[iz])];rfl⟩;simp[lG,jk,bx,(c0 g0).2.2.2];refine(Ule b (si.R a0) (so.R a0) _ fun h1 a1 => ?_).ok;have q1:=a0.trans a1;by_cases hc:pB (iX ins outs lock)=0
 ·have g1:=a1.A g0;have e3:=q1.A gl;obtain⟨_,e4,q2,n2,rfl,rfl⟩:=Ss b e3 hD (fun r h'=>r=.ret (I X (nu:Int))/\h1=h') ⟨rfl,rfl⟩;have gB:IntKind.i64.wrap ((nu:Int)+1)=(nu:Int)+1:=Jr iA iA;have vE:oC ks hks (iE ls) (nu:Int) (iX ins outs lock)=if(nu:Int)+1 < lock then(0,18)else match u_ (ER ks hks (iX ins outs lock)) (iE ls) (ins.map g_.p) 0 with
    | .error e=>(0,e)
    | .ok s=>if s-j7 (outs.map bN.p) < 0 then(0,19)else(s-j7 (outs.map bN.p),0):=by
   unfold oC;rw[if_pos hc];rfl
  rw[vE]at hk;simp[lG,jk,hc,(c0 g1).1];refine jf [⟨38,[pO lb 0],h1,I X (nu:Int),h1,Y⟩] ?_ VR.1 (by simp[VR.2,X8x,(c0 g1).2.2.1,gB];first | exact⟨rfl,rfl⟩ | rfl) ?_ ?_
  ·exact nK ⟨q2,n2,fun _ c hc=>rfl⟩
  ·simp[QI,(c0 g1).2.2.1]
  by_cases re:(nu:Int)+1 < lock
  ·rw[if_pos re]at hk;simp[lG,jk,re]
   grind
  ·rw[if_neg re]at hk;simp[lG,jk,re];have o1:=Laid.R laid q1;obtain⟨_,h2,q3,n3,rfl,a2⟩:=V67 b o1 ((si.R a0).R a1) ((so.R a0).R a1) hp (fun r h'=>r=.ret (.agg ⟨(mS tD (iX ins outs lock)).map dk⟩)/\a_ h1 h') (fun h' a=>⟨rfl,a⟩);obtain⟨dg,hdg⟩:∃ dg,dg=mS tD (iX ins outs lock):=⟨_,rfl⟩;have r2:L (dg.map dk)=32:=by rw[bo,hdg,tI]
   rw[<- hdg]at q3;obtain⟨e,he⟩:∃ e:iu,e=⟨pO ν 0,dg.map dk,lock,r2⟩:=⟨_,rfl⟩;have ec:e.cells=pO ν 0::dg.map dk ++ [I X lock]:=by rw[he];rfl
   have be:jP (E b).tojo 100 [(0,pO ν 0),(1,.agg ⟨dg.map dk⟩),(2,I X lock)]=U (.agg ⟨e.cells⟩):=by rw[ec];exact Vqy b ν r2 lock
   obtain⟨hA,h3,M',hg,hl,g3,a3,M2⟩:=tJ b (Use b) (l:=e.cells) (by rw[iu.len,J7x]) (by kernel_rfl) h2;have lE:=iu.len e;have v':Zq h1 lb 0=U (pO ν 0):=by rw[Z2 e3];rfl
   have g2:=a2.A g1;refine jf [⟨39,[.agg ⟨iz iv ov lock⟩],h1,.agg ⟨dg.map dk⟩,h2,Y⟩] ?_ VT.1 (by simp[VT.2,X5o,ju,v',(c0 g1).2.2.1,(c0 g1).2.2.2,(c0 g2).2.2.1,be,M',hg,hl,lE];first | exact⟨rfl,rfl⟩ | rfl) ?_ ?_
   ·exact nK ⟨q3,n3,fun _ c hc=>a2.2 c hc⟩
   ·simp[QH,v',(c0 g1).2.2.1,(c0 g1).2.2.2,(c0 g2).2.2.1]
   have e2:=(q1.trans a2).trans a3;have gA:=a3.A g2;have o2:=e2.A gl;obtain⟨aa,s1⟩:∃ aa,aa=ER ks hks (iX ins outs lock):=⟨_,rfl⟩;rw[<- s1]at hk;have w1:=Laid.R laid e2;have lv:Wo h3 e aa:=⟨Eo w1,fun c hc=>hc.elim,Uw9 w1,⟨ν,p2,ow,by rw[he],by rw[s1];exact e2.A gν,fun q=>q⟩,by rw[he,s1];exact congrArg (List.map dk) hdg,by rw[he,s1];rfl⟩;have w3:=w.R e2;simp[lG,jk,(c0 gA).1,jR];refine iV (VI1 lb h.Q h2.Q iv ins aa (iE ls) h3) (L ins) ⟨_,h3,0,0,rfl,iA,rfl,⟨jA,jA,jA,jA,jA,jA,jA⟩,a_.refl _,iA,iA,jA⟩ ?_;rintro k s' ⟨t,h4,i,T,rfl,hi,rfl,⟨t0,t3,t7,t8,t37,t38,t39⟩,a4,f0,f1,C⟩ -;have tk:=zX hc;have h8:L ins<=8:=by have:=tk.insN.2;simpa[iX]using this
   have hB:=e2.trans a4;have s2:=hB.A gl;have w4:=w.R hB;have t9:=a4.A g3;have lV:∀ {P:N},P.A h2.Q=U (S Y 1 e.cells)->iy P h2.Q 0 34=U (.agg ⟨e.cells⟩):=fun g=>nZ g iA iA;by_cases aB:i < L ins
   ·have e1:(i:Int) < (L ins:Int):=iA
    have hw:=wS (i:=i) iA;obtain⟨x,P⟩:∃ x,ins[i]? = U x:=⟨_,ac aB⟩;obtain⟨bk,off, -,x1,x2, -⟩:=qF (b:=b) (kK b) nI (si.s.R hB) P;have p3:=(si.a x (ae P)).R hB;obtain⟨hA,h5,M',hg,hl,g5,a5,n5⟩:=tJ b (yZ b) (l:=x.cells) (by rw[g_.len,nI]) (by kernel_rfl) h4;have M1:iy h5 h4.Q 0 33=U (.agg ⟨x.pt.cells⟩):=by rw[V9 g5 (by rw[g_.len];omega),ba,B5]
    obtain⟨o,ho⟩:∃ o,o=jw ls x.pt:=⟨_,rfl⟩;have w5:=w4.R a5;have lk:qN (E b).tojo 67 (.map (U mb)) (.agg ⟨x.pt.cells⟩) Y h5=U (.tuple #[.agg ⟨py o⟩,.bool o.isSome]):=by
     rw[Oc b w5 x.pt,<- ho];cases o <;> rfl
    have lc:L (py o)=3:=by cases o <;> rfl
    obtain⟨hC,h6,eB,g',aA,g6,a6,n6⟩:=tJ b (CS b) (l:=py o) (by rw[lc,DY]) (by kernel_rfl) h5;have ha:Zq h5 lb 1=U (.map (U mb)):=by rw[Z2 (a5.A s2)];rfl
    have m1:=Usp (a:=aa) (m:=iE ls) (l:=ins.map g_.p) (i:=i) (x:=x.p) (by grind) T;rw[m1]at C;have em:iE ls x.p.pt=o.map LV.c:=(by rw[ho];rfl);rw[em]at C;simp[lG,jk,t0,t3,t7,t8,t37,t38,t39,aB,e1,x1,x2,-lG,M',hg,hl];refine jf [] jA WF.1 (by simp[WF.2,Xyz,ju,t0,ha,M1,lk,-vx,eB,g',aA,lc];first | exact⟨rfl,rfl⟩ | rfl) ?_ ?_
    ·simp[QL]
    have hu:=a5.trans a6;cases o with
    | none =>
     simp only[cQ]at C;rw[C]at hk;simp[lG,jk,t0,t3,t7,t8,t37,t38,t39];exact hk h6 (hB.trans hu)
    | some y =>
     simp only[aQ]at C;obtain⟨q,hq, -,rfl⟩:=CI ho.symm;have hy:=(w4.hs q hq).R hu;have cs:Zq h6 h5.Q 1=U q.c.sv:=(by rw[Z2 g6];rfl);have cv:∀ {P:N},P.A h5.Q=U (S Y 1 (py (U q.c)))->Zq P h5.Q 0=U (I X q.c.value):=fun g=>by rw[Z2 g];rfl
     have cw:Zq h6 h4.Q 33=U x.wv:=(by rw[Z2 (a6.A g5),V7v]);simp[lG,jk,t0,t3,t7,t8,t37,t38,t39,cs,cw,lV (hu.A t9)];have hn:=p3.R hu;refine U9r b hy.s hy.b hn.w hn.n hn.i ((lv.R a4).R hu) _ fun h7 a7 => ?_;have dv:=hu.trans a7;have er:mw aa q.c.script (x.its.map (·.2))=mw aa q.c.c.script x.p.wit:=rfl;by_cases hr:mw aa q.c.script (x.its.map (·.2))=0
     ·rw[<- er,if_pos hr]at C;have hv:=hy.v;have eA:IntKind.i64.wrap (T+q.c.value)=T+q.c.value:=Jr iA iA;simp[lG,jk,t0,t3,t7,t8,t37,t38,t39,hr,cv (a7.A g6),eA,hw];exact⟨L ins-(i+1),iA,_,h7,i+1,T+q.c.value,rfl,iA,rfl,⟨by simp[t0],by simp[t3],by simp[t7],jA,by simp[t37],by simp[t38],jA⟩,a4.trans dv,iA,iA,C⟩
     ·rw[<- er,if_neg hr]at C;rw[C]at hk;simp[lG,jk,t0,t3,t7,t8,t37,t38,t39,hr];exact hk h7 (hB.trans dv)
   ·have e1:¬ (i:Int) < (L ins:Int):=iA
    have : i=L ins:=iA;subst this;rw[ck jA]at C;have C:u_ aa (iE ls) (ins.map g_.p) 0=.ok T:=C;rw[C]at hk;have g4:=a4.A gA;simp[lG,jk,t0,t3,t7,t8,t37,t38,t39,e1,(c0 g4).2.1,ht];have m0:=Nz tk.vals iA;have w2:L outs<=8:=(by have:=tk.outsN.2;simpa[iX]using this);refine iV (VI2 ov outs h4 T) (L outs) ⟨_,h4,0,rfl,iA,rfl,by simp[t8,j7],jA,jA,jA,a_.refl _⟩ ?_;rintro k s' ⟨t,h5,j,rfl,hj,rfl,t8,hf,c1,r1,a5⟩ -;by_cases q4:j < L outs
    ·have hz:(j:Int) < (L outs:Int):=iA
     have hw:=wS (i:=j) iA;obtain⟨x,P⟩:∃ x,outs[j]? = U x:=⟨_,ac q4⟩;obtain⟨bk,off, -,x1,x2, -, -⟩:=qO (b:=b) (kD b) mR (so.s.R (hB.trans a5)) P;obtain⟨hA,h6,M',hg,hl,g6,a6,n6⟩:=tJ b (xC b) (l:=x.cells) (by rw[bN.len,mR]) (by kernel_rfl) h5;have cv:Zq h6 h5.Q 0=U (I X x.value):=by rw[Z2 g6];rfl
     have c2:∀ o ∈ (iX ins outs lock).outs,1<=o.value/\o.value<=1125899906842624:=AR tk.vals iA;have ch:=Urm P;have p1:∀ l:List jx,(∀ o ∈ l,1<=o.value)->0<=j7 l:=by
      intro l;induction l with
      | nil=>intro _;simp[j7]
      | cons o l ih =>
       intro ho;have h1:=ho o jA;have h2:=ih fun q hq=>ho q (by simp[hq]);have e:j7 (o::l)=o.value+j7 l:=by simp[j7]
       omega
     have f2:=p1 ((outs.map bN.p).take (j+1)) fun o ho=>by
      exact(c2 o (cO ho)).1
     have ev:=p1 ((outs.map bN.p).drop (j+1)) fun o ho=>by
      exact(c2 o (d6 ho)).1
     have t4:j7 (iX ins outs lock).outs=j7 ((outs.map bN.p).take (j+1))+j7 ((outs.map bN.p).drop (j+1)):=by
      show j7 (outs.map bN.p)=_;rw[<- Nw,bz]
     have eA:IntKind.i64.wrap (T-j7 ((outs.map bN.p).take j)-x.value)=T-j7 ((outs.map bN.p).take (j+1)):=by
      rw[Jr iA iA];omega
     simp[lG,jk,t8,hf,c1,r1,q4,hz,x1,x2,-jk,M',hg,hl,cv,eA,hw];exact⟨L outs-(j+1),iA,_,h6,j+1,rfl,iA,rfl,jA,by simp[hf],by simp[c1],jA,a5.trans a6⟩
    ·have hz:¬ (j:Int) < (L outs:Int):=iA
     have : j=L outs:=iA;subst this;rw[aj jA]at t8;have hk:=hk h5 (hB.trans a5);by_cases hb:T-j7 (outs.map bN.p) < 0
     ·simp only[hb,if_true]at hk;simp[lG,jk,t8,hf,c1,r1,hb];exact hk
     ·simp only[hb,if_false]at hk;simp[lG,jk,t8,hf,c1,r1,hb];exact hk
 ·have hm:=hk h1 q1;unfold oC at hm;rw[if_neg hc]at hm;simp[lG,jk,hc];exact hm
end
end Go.Proofs.YtmgonkaadhbnpaaGreatDoor
end
