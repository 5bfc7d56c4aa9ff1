import Derived.Test.YtbhojjejgmfgmaaGreatDoorBlA
import Derived.Test.YtbhojjejgmfgmaaGreatDoorTxA
import Derived.Test.YtbhojjejgmfgmaaGreatDoorScB
set_option linter.all false
set_option maxHeartbeats 4000000
open List renaming length→L
open Option renaming some→U,none→O
open Bool renaming true→Y,false→J
open Go renaming Value→V
open Go.Value renaming int→I,slice→M
open Go.IntKind renaming i64→X
open Go.Ab.Blk renaming cells→S
noncomputable section
namespace Go.Proofs.YtbhojjejgmfgmaaGreatDoor
open Go Go.Ab
set_option maxRecDepth 100000
variable{es:List MapEntry}{clk:Nat}{ω:Nat}(b:Nat){h:N}{h1:N}{lb:Nat}{z:Nat}{n:Nat}{h':N}{h2:N}{n0:Nat}
def J9k{P:Program}{E1:d_ P}{C:iM}{x:Operand}{isS:Bool}{d:Option Tmp}{s:St}{K:Exit->St->Prop}{it:V}(hit:g_ E1.G s.t x=U it)(hx:C.die=Y)(hc:sm it isS s.h ≠ [])(T:∀ y ∈ sm it isS s.h,K .normal (s.put d y.1 y.2)):ED E1 C x isS d s K:=by
 unfold ED;rw[hit];exact .inr ⟨hx,hc,T⟩
def K_(seen:List Nat):∀ (es:List MapEntry) (e:MapEntry),e ∈ qj seen es↔e ∈ es/\e.born ∉ seen
 | [],e=>by simp[qj]
 | x::es,e=>by
  have ih:=K_ seen es e;unfold qj;rw[Ju1];cases C:seen.contains x.born with
  | true =>
   simp only;rw[ih];simp only[ao];constructor
   ·exact fun⟨h1,h2⟩=>⟨.inr h1,h2⟩
   ·rintro⟨rfl | h1,h2⟩
    ·simp at C;exact absurd C h2
    ·exact⟨h1,h2⟩
  | false =>
   simp only[ao];rw[ih];constructor
   ·rintro(rfl | ⟨h1,h2⟩)
    ·exact⟨.inl rfl,by simpa using C⟩
    ·exact⟨.inr h1,h2⟩
   ·rintro⟨rfl | h1,h2⟩
    ·exact .inl rfl
    ·exact .inr ⟨h1,h2⟩
def J42{n:Nat}:∀ {l:List MapEntry},(∀ e ∈ l,e.born < n)->we n l=l/\xM n l=[]
 | [],_=>⟨rfl,rfl⟩
 | e::l,h=>by
  obtain⟨h1,h2⟩:=J42 (l:=l) fun x C=>h x (by simp[C]);have : Nat.blt e.born n=Y:=by simpa using h e kA
  unfold we xM;rw[this];exact⟨by simp[h1],h2⟩
structure oT (es:List MapEntry) (clk:Nat):Prop where
 lt:∀ e ∈ es,e.born < clk
 nd:(es.map (·.born)).Nodup
def Jig:∀ {l:List MapEntry},(l.map (·.born)).Nodup->∀ {e:MapEntry},e ∈ l->Ec e.born l=U e
 | [],_,_,h=>by cases h
 | x::l,nd,e,h=>by
  rw[aK,cR]at nd;unfold Ec;by_cases C:x.born=e.born
  ·rw[show Nat.beq x.born e.born=Y by rw[C];simp];rcases ao.1 h with rfl | h
   ·rfl
   ·exact absurd (am.2 ⟨e,h,C.symm⟩) nd.1
  ·rw[show Nat.beq x.born e.born=J by rw[cm];intro q;exact C (aT q)];rcases ao.1 h with rfl | h
   ·exact absurd rfl C
   ·exact Jig nd.2 h
def Juo{r mb clk:Nat}{es:List MapEntry}{C:List Nat}(B:oT es clk)(hr:h.A r=U (.obj (.mapIter (U mb) clk ⟨C⟩ clk)))(hm:h.A mb=U (.map ⟨es⟩ clk)) :
  sm (pO r 0) J h ≠ []/\∀ y ∈ sm (pO r 0) J h,((∀ e ∈ es,e.born ∈ C)/\y=(.tuple #[.bool J],h)) ∨
   ∃ e ∈ es,e.born ∉ C/\y=(.tuple #[.bool Y,e.key,e.val],h.set r (U (.obj (.mapIter (U mb) clk ⟨C ++ [e.born]⟩ clk)))):=by
 have hb:DZ es C clk=J:=by
  unfold DZ;split
  ·rfl
  ·rfl
  ·rename_i h1 h2;cases es with
   | nil=>exact absurd rfl h2
   | cons p l =>
    have : Nat.ble clk p.born=J:=by
     rw[cm];intro q;have:=B.lt p kA;have:=dD q;omega
    simp only[Df,this]
 have hl:∀ e ∈ qj C es,e.born < clk:=fun e he=>B.lt e ((K_ _ _ _).1 he).1;obtain⟨o1,o2⟩:=J42 hl;have hn:sm (pO r 0) J h=(tu es clk C).map (DO r mb clk ⟨C⟩ clk h):=by
  simp only[sm,hr,hm,hb]
 have hc:tu es clk C=match qj C es with | []=>[O] | e::l=>(e::l).map U:=by
  unfold tu KO;rw[o1,o2];cases qj C es with
  | nil=>rfl
  | cons e l=>simp
 rw[hn,hc];cases P:qj C es with
 | nil =>
  refine⟨kA,fun y T => .inl ⟨fun e he => ?_,?_⟩⟩
  ·apply cU;intro hn;have:=(K_ C _ _).2 ⟨he,hn⟩;rw[P]at this;cases this
  ·simpa[DO]using T
 | cons e l =>
  refine⟨kA,fun y T => ?_⟩;simp only[cE]at T;obtain⟨x,hx,rfl⟩:=am.1 T;rw[<- P]at hx;obtain⟨h1,h2⟩:=(K_ _ _ _).1 hx;exact .inr ⟨x,h1,h2,by simp[DO]⟩
def Jh5{r mb clk:Nat}{es:List MapEntry}{C:List Nat}{e:MapEntry}(B:oT es clk)(hr:h.A r=U (.obj (.mapIter (U mb) clk ⟨C ++ [e.born]⟩ clk)))(T:h.A mb=U (.map ⟨es⟩ clk))(P:e ∈ es) :
  BN (pO r 0) h=U (.tuple #[e.key,e.val]):=by
 have hl:∀ (l:List Nat) (x:Nat),Ks (l ++ [x])=U x:=by
  intro l x;induction l with
  | nil=>rfl
  | cons a l ih =>
   cases l with
   | nil=>rfl
   | cons c l=>exact ih
 simp only[BN,hr,hl,T,show Nat.beq clk clk=Y by simp,Jig B.nd P]
def oT.push(B:oT es clk)(k v:V):oT (es ++ [⟨k,v,clk⟩]) (clk+1):=by
 refine⟨fun e C => ?_,?_⟩
 ·rcases ab.1 C with q | q
  ·have:=B.lt e q;omega
  ·simp at q;rw[q];show clk < clk+1;omega
 ·rw[bg,cG];refine⟨B.nd,kA,fun x P y T e => ?_⟩;obtain⟨z,hz,rfl⟩:=am.1 P;simp at T;have:=B.lt z hz;omega
def oT.erase(B:oT es clk)(i:Nat):oT (es.eraseIdx i) clk :=
 ⟨fun e C=>B.lt e (List.mem_of_mem_eraseIdx C),List.Nodup.sublist (List.Sublist.map _ (List.eraseIdx_sublist es i)) B.nd⟩
structure IE where
 key:Int
 val:V
 born:Nat
structure PC where
 value:Int
 script:List Int
 made:Int
abbrev iR:=Pt->Option PC
def kO(m:iR)(p:Pt)(c:Option PC):iR:=fun q=>if q=p then c else m q
def J5n(m:iR)(p:Pt)(c d:Option PC):kO (kO m p c) p d=kO m p d:=by
 funext q;unfold kO;by_cases h:q=p <;> simp[h]
def Vbd(m:iR)(p:Pt):kO m p (m p)=m:=by
 funext q;unfold kO;by_cases h:q=p <;> simp[h]
structure LV where
 value:Int
 sv:V
 script:List Int
 made:Int
def LV.c(x:LV):PC:=⟨x.value,x.script,x.made⟩
def LV.cells(x:LV):List V:=[I X x.value,x.sv,I X x.made]
def LV.v(x:LV):V:=.agg ⟨x.cells⟩
structure LC where
 key:Pt
 c:LV
 born:Nat
def LC.pe(x:LC):PE:=⟨x.key,x.c.v,x.born⟩
def km(l:List LC):List PE:=l.map LC.pe
def J4a(l:List LC):L (km l)=L l:=by simp[km]
def J1x(l:List LC):(km l).map (·.key)=l.map (·.key):=by rw[km,cE];rfl
def jG:List LC->Pt->Option LV
 | [],_=>O
 | x::l,p=>if p=x.key then U x.c else jG l p
def jx(l:List LC):iR:=fun p=>(jG l p).map LV.c
def ZM(p:Pt):∀ (l:List LC) (j:Nat),(nL p (km l) j).map (·.2)=(jG l p).map LV.v
 | [],_=>rfl
 | x::l,j=>by
  show(if p=x.key then U (j,x.c.v)else nL p (km l) (j+1)).map (·.2)=(if p=x.key then U x.c else jG l p).map LV.v;by_cases h:p=x.key
  ·rw[if_pos h,if_pos h];rfl
  ·rw[if_neg h,if_neg h,ZM p l (j+1)]
def DT{p:Pt}{l:List LC}:nL p (km l) 0=O↔jG l p=O:=by
 have:=ZM p l 0;cases P:nL p (km l) 0 with
 | none=>rw[P]at this;cases C:jG l p with
  | none=>simp
  | some x=>rw[C]at this;cases this
 | some q=>rw[P]at this;cases C:jG l p with
  | none=>rw[C]at this;cases this
  | some x=>simp
def KF{p:Pt}{x:LV}:∀ {l:List LC},jG l p=U x->∃ y ∈ l,y.key=p/\y.c=x
 | [],h=>by cases h
 | y::l,h=>by
  unfold jG at h;by_cases C:p=y.key
  ·rw[if_pos C]at h;cases h;exact⟨y,kA,C.symm,rfl⟩
  ·rw[if_neg C]at h;obtain⟨z,P,q⟩:=KF h;exact⟨z,by simp[P],q⟩
def Jkv:∀ {l:List LC},(l.map (·.key)).Nodup->∀ {y:LC},y ∈ l->jG l y.key=U y.c
 | [],_,_,h=>by cases h
 | z::l,nd,y,h=>by
  rw[aK,cR]at nd;unfold jG;rcases ao.1 h with rfl | h
  ·rw[if_pos rfl]
  ·rw[if_neg fun e=>nd.1 (am.2 ⟨y,h,e⟩)];exact Jkv nd.2 h
def ME{p:Pt}{l:List LC}:jG l p≠O↔p ∈ l.map (·.key):=by
 constructor
 ·intro h;cases P:jG l p with
  | none=>exact absurd P h
  | some x =>
   obtain⟨y,C,rfl, -⟩:=KF P;exact am.2 ⟨y,C,rfl⟩
 ·intro h e;obtain⟨y,C,rfl⟩:=am.1 h;exact PX.1 (DT.2 e) y.pe (am.2 ⟨y,C,rfl⟩) rfl
def su(p:Pt)(x:LV):List LC->List LC
 | []=>[]
 | y::l=>if p=y.key then {y with c:=x}::l else y::su p x l
def Z4m(p:Pt)(x:LV):∀ l:List LC,xN p x.v (km l)=km (su p x l)
 | []=>rfl
 | y::l=>by
  show(if p=y.key then({y.pe with val:=x.v}:PE)::km l else y.pe::xN p x.v (km l))=km (if p=y.key then {y with c:=x}::l else y::su p x l);by_cases h:p=y.key
  ·rw[if_pos h,if_pos h];rfl
  ·rw[if_neg h,if_neg h,Z4m p x l];rfl
def K5(p:Pt)(x:LV):∀ l:List LC,(su p x l).map (·.key)=l.map (·.key)
 | []=>rfl
 | y::l=>by
  unfold su;by_cases h:p=y.key
  ·rw[if_pos h];rfl
  ·rw[if_neg h,aK,aK,K5 p x l]
def Jir(p:Pt)(x:LV):∀ l:List LC,(su p x l).map (·.born)=l.map (·.born)
 | []=>rfl
 | y::l=>by
  unfold su;by_cases h:p=y.key
  ·rw[if_pos h];rfl
  ·rw[if_neg h,aK,aK,Jir p x l]
def Jct{p:Pt}{x:LV}:∀ {l:List LC} {z:LC},z ∈ su p x l->z ∈ l∨z.c=x
 | [],_,h=>by cases h
 | y::l,z,h=>by
  unfold su at h;by_cases C:p=y.key
  ·rw[if_pos C]at h;rcases ao.1 h with rfl | h
   ·exact .inr rfl
   ·exact .inl (by simp[h])
  ·rw[if_neg C]at h;rcases ao.1 h with rfl | h
   ·exact .inl kA
   ·exact(Jct h).imp (fun q=>by simp[q]) id
def J4w{p:Pt}{x:LV}:∀ {l:List LC},jG l p≠O->∀ q,jG (su p x l) q=if q=p then U x else jG l q
 | [],h,_=>absurd rfl h
 | y::l,h,q=>by
  unfold su;by_cases P:p=y.key
  ·rw[if_pos P];show(if q=y.key then U x else jG l q)=_;by_cases C:q=p
   ·rw[if_pos C,if_pos (by rw[C,P])]
   ·rw[if_neg C,if_neg (fun e=>C (by rw[e,P])),jG,if_neg (fun e=>C (by rw[e,P]))]
  ·rw[if_neg P];rw[jG,if_neg P]at h;show(if q=y.key then U y.c else jG (su p x l) q)=_;rw[J4w h q,jG];by_cases C:q=y.key
   ·rw[if_pos C,if_pos C,if_neg (fun e=>P (by rw[<- e,C]))]
   ·rw[if_neg C,if_neg C]
def J9y{p:Pt}{x:LV}{k:Nat}:∀ {l:List LC},jG l p=O->∀ q,jG (l ++ [⟨p,x,k⟩]) q=if q=p then U x else jG l q
 | [],_,q=>rfl
 | y::l,h,q=>by
  rw[jG]at h;by_cases P:p=y.key
  ·rw[if_pos P]at h;cases h
  ·rw[if_neg P]at h;show(if q=y.key then U y.c else jG (l ++ [⟨p,x,k⟩]) q)=_;rw[J9y h q,jG];by_cases C:q=y.key
   ·rw[if_pos C,if_pos C,if_neg (fun e=>P (by rw[<- e,C]))]
   ·rw[if_neg C,if_neg C]
def vC(p:Pt):List LC->List LC
 | []=>[]
 | y::l=>if p=y.key then l else y::vC p l
def PP{p:Pt}:∀ {l:List LC},jG l p=O->vC p l=l
 | [],_=>rfl
 | y::l,h=>by
  rw[jG]at h;by_cases C:p=y.key
  ·rw[if_pos C]at h;cases h
  ·rw[if_neg C]at h;rw[vC,if_neg C,PP h]
def Re{p:Pt}:∀ {l:List LC} {j i:Nat} {v:V},nL p (km l) j=U (i,v)->l.eraseIdx (i-j)=vC p l
 | [],_,_,_,h=>by cases h
 | y::l,j,i,v,h=>by
  have h':(if p=y.key then U (j,y.c.v)else nL p (km l) (j+1))=U (i,v):=h;rw[vC];by_cases C:p=y.key
  ·rw[if_pos C]at h' ⊢;cases h';rw[cO];rfl
  ·rw[if_neg C]at h' ⊢;obtain⟨_,_,P,_⟩:=H9 h';rw[show i-j=(i-(j+1))+1 by omega,List.eraseIdx_cons_succ,Re h']
def EE(p:Pt):∀ l:List LC,(vC p l).Sublist l
 | []=>by simp[vC]
 | y::l=>by
  rw[vC];by_cases h:p=y.key
  ·rw[if_pos h];exact List.sublist_cons_self _ _
  ·rw[if_neg h];exact(EE p l).cons_cons _
def Jus{p:Pt}:∀ {l:List LC},(l.map (·.key)).Nodup->∀ q,jG (vC p l) q=if q=p then O else jG l q
 | [],_,q=>by simp[vC,jG]
 | y::l,nd,q=>by
  rw[aK,cR]at nd;rw[vC];by_cases P:p=y.key
  ·rw[if_pos P];by_cases C:q=p
   ·rw[if_pos C];cases T:jG l q with
    | none=>rfl
    | some x =>
     refine absurd (ME.1 (by rw[T];simp:jG l q≠O)) ?_;rw[C,P];exact nd.1
   ·rw[if_neg C,jG,if_neg (fun e=>C (by rw[e,P]))]
  ·rw[if_neg P,jG,Jus nd.2 q,jG];by_cases C:q=y.key
   ·rw[if_pos C,if_pos C,if_neg (fun e=>P (by rw[<- e,C]))]
   ·rw[if_neg C,if_neg C]
structure i7 (h:N) (x:LV):Prop where
 s:SB h x.sv x.script
 b:Bytes x.script
 l:L x.script < 1000000
 v:0<=x.value/\x.value<=1125899906842624
def i7.R{x:LV}(a:i7 h x)(o:a_ h h'):i7 h' x:=⟨a.s.R o,a.b,a.l,a.v⟩
structure jX (h:N) (mb clk:Nat) (ls:List LC):Prop where
 gm:h.A mb=U (.map ⟨(km ls).map PE.e⟩ clk)
 B:oT ((km ls).map PE.e) clk
 hs:∀ x ∈ ls,i7 h x.c
 nd:(ls.map (·.key)).Nodup
 kb:∀ x ∈ ls,oR x.key
def jX.R{mb clk:Nat}{C:List LC}(w:jX h mb clk C)(a:a_ h h'):jX h' mb clk C :=
 ⟨a.A w.gm,w.B,fun x P=>(w.hs x P).R a,w.nd,w.kb⟩
def wO{c:Nat}{v:V}{xs:List V}(s:Sl h z v n xs)(C:Vn v=U c):∃ ow P l,h.A c=U (.cells ow P l):=by
 rcases s with⟨_,rfl,_,rfl,rfl⟩ | ⟨bk,o,_,ow,P,pre,post,rfl,T,_⟩
 ·cases C
 ·cases C;exact⟨_,_,_,T⟩
def Sl.setMap{mb clk:Nat}{v:V}{xs:List V}{es:Array MapEntry}(s:Sl h z v n xs)(gm:h.A mb=U (.map es clk))(x:Option Blk):Sl (h.set mb x) z v n xs:=s.keep fun c C _=>by
 rw[gY (N.D gm),if_neg fun e => ?_];obtain⟨_,_,_,g⟩:=wO s C;rw[<- e,gm]at g;cases g
def i7.setMap{mb clk:Nat}{y:LV}{es:Array MapEntry}(a:i7 h y)(gm:h.A mb=U (.map es clk))(x:Option Blk):i7 (h.set mb x) y:=⟨Sl.setMap a.s gm x,a.b,a.l,a.v⟩
def X22{mb clk c z:Nat}{ow:Bool}{l:List V}{es:Array MapEntry}(g:h.A c=U (.cells ow z l))(gm:h.A mb=U (.map es clk))(x:Option Blk):(h.set mb x).A c=U (.cells ow z l):=by
 rw[gY (N.D gm),if_neg fun e=>by rw[<- e,gm]at g;cases g];exact g
def DC:Nl.desc=.map 77 75:=kR
def Vj1:Nj.zero=.agg ⟨[I X 0,M O 0 0,I X 0]⟩:=kR
def J9u{mb clk:Nat}{P:List LC}(w:jX h mb clk P)(p:Pt) :
  mW (E b).toiS 69 (.map (U mb)) (.agg ⟨p.cells⟩) Y h=U (match jG P p with | some x => .tuple #[.agg ⟨x.cells⟩,.bool Y] | none => .tuple #[.agg ⟨[I X 0,M O 0 0,I X 0]⟩,.bool J]):=by
 have lk:=(Vfl (b:=b) (Bv b) DC w.gm (Kt b) p).2;have C:=ZM p P 0;rw[lk];cases hf:nL p (km P) 0 with
 | none =>
  rw[DT.1 hf,Vj1]
 | some q =>
  rw[hf]at C;cases T:jG P p with
  | none=>rw[T]at C;cases C
  | some x =>
   rw[T]at C;have : q.2=x.v:=bM C;simp only[this];rfl
def UF{mb clk:Nat}{C:List LC}(w:jX h mb clk C){p:Pt}(hp:oR p){x:LV}(hx:i7 h x) :
  ∃ P clk' h',pY (E b).toiS 69 (.map (U mb)) (.agg ⟨p.cells⟩) (.agg ⟨x.cells⟩) h=U h'/\h'=h.set mb (U (.map ⟨(km P).map PE.e⟩ clk'))/\jX h' mb clk' P/\jx P=kO (jx C) p (U x.c)/\L P<=L C+1/\∀ y ∈ P,y ∈ C∨y.c=x:=by
 cases hf:nL p (km C) 0 with
 | none =>
  have ha:=DT.1 hf;have up:=J3s (b:=b) (Bv b) DC w.gm hf (.agg ⟨x.cells⟩);have eL:km C ++ [(⟨p,.agg ⟨x.cells⟩,clk⟩:PE)]=km (C ++ [⟨p,x,clk⟩]):=by simp[km,LC.pe,LV.v]
  rw[eL]at up;refine⟨C ++ [⟨p,x,clk⟩],clk+1,_,up,rfl,⟨by rw[gY (N.D w.gm),if_pos rfl],?_,fun z T => ?_,?_,fun z T => ?_⟩,?_,kA,fun y hy => ?_⟩
  ·rw[<- eL];have:=w.B.push (.agg ⟨p.cells⟩) (.agg ⟨x.cells⟩);simpa[PE.e]using this
  ·rcases ab.1 T with q | q
   ·exact(w.hs z q).setMap w.gm _
   ·rw[aU.1 q];exact hx.setMap w.gm _
  ·rw[bg,cG];refine⟨w.nd,kA,fun a h1 c h2 e => ?_⟩;simp at h2;subst e h2;exact absurd ha (ME.2 h1)
  ·rcases ab.1 T with q | q
   ·exact w.kb z q
   ·rw[aU.1 q];exact hp
  ·funext q;unfold jx kO;rw[J9y ha q];by_cases e:q=p <;> simp[e]
  ·rcases ab.1 hy with q | q
   ·exact .inl q
   ·rw[aU.1 q];exact .inr rfl
 | some q =>
  obtain⟨i,v⟩:=q;have ha:jG C p≠O:=fun e=>by rw[DT.2 e]at hf;cases hf
  have up:=Jja (b:=b) (Bv b) DC w.gm hf (.agg ⟨x.cells⟩);have eL:xN p (.agg ⟨x.cells⟩) (km C)=km (su p x C):=Z4m p x C;rw[eL]at up;refine⟨su p x C,clk,_,up,rfl,⟨by rw[gY (N.D w.gm),if_pos rfl],?_,fun z T => ?_,by rw[K5];exact w.nd,fun z T => ?_⟩,?_,by have:=congrArg List.length (K5 p x C);simp at this;omega,fun y hy=>Jct hy⟩
  ·have e2:((km (su p x C)).map PE.e).map (·.born)=((km C).map PE.e).map (·.born):=by
    have : ∀ l:List LC,((km l).map PE.e).map (·.born)=l.map (·.born):=fun l=>by simp[km,PE.e,LC.pe]
    rw[this,this,Jir]
   exact⟨fun e he=>by
    have : e.born ∈ ((km (su p x C)).map PE.e).map (·.born):=am.2 ⟨e,he,rfl⟩;rw[e2]at this;obtain⟨e',hc,eb⟩:=am.1 this;rw[<- eb];exact w.B.lt e' hc,by rw[e2];exact w.B.nd⟩
  ·rcases Jct T with q | q
   ·exact(w.hs z q).setMap w.gm _
   ·rw[q];exact hx.setMap w.gm _
  ·have : z.key ∈ (su p x C).map (·.key):=am.2 ⟨z,T,rfl⟩;rw[K5]at this;obtain⟨y,hy,ey⟩:=am.1 this;rw[<- ey];exact w.kb y hy
  ·funext q;unfold jx kO;rw[J4w ha q];by_cases e:q=p <;> simp[e]
def Vgr{mb clk:Nat}{C:List LC}(w:jX h mb clk C)(p:Pt) :
  ∃ P h',zg (E b).toiS 69 (.map (U mb)) (.agg ⟨p.cells⟩) h=U (.tuple #[],h')/\h'=h.set mb (U (.map ⟨(km P).map PE.e⟩ clk))/\jX h' mb clk P/\jx P=kO (jx C) p O/\L P<=L C/\∀ y ∈ P,y ∈ C:=by
 have hq:=Lm p (km C);refine⟨vC p C,_,?_,rfl,⟨by rw[gY (N.D w.gm),if_pos rfl],?_,fun z hz=>(w.hs z ((EE p C).subset hz)).setMap w.gm _,w.nd.sublist ((EE p C).map _),fun z hz=>w.kb z ((EE p C).subset hz)⟩,?_,(EE p C).length_le,fun y hy=>(EE p C).subset hy⟩
 ·simp only[zg,Bv,DC,yd,w.gm,hq];cases T:nL p (km C) 0 with
  | none=>simp[PP (DT.1 T)]
  | some q =>
   obtain⟨i,v⟩:=q;have e:=Re T;rw[dc]at e;simp only[Array.eraseIdxIfInBounds];congr 4;by_cases hi:i < L ((km C).map PE.e)
   ·rw[dif_pos (by simpa using hi)];rw[<- e];simp[km];have e3:∀ (l:List LC) (i:Nat),(l.map (PE.e ∘ LC.pe)).eraseIdx i=(l.eraseIdx i).map (PE.e ∘ LC.pe):=by
     intro l;induction l with
     | nil=>intro i;simp
     | cons y l ih=>intro i;cases i with
      | zero=>rfl
      | succ i=>simp[ih]
    exact e3 C i
   ·rw[dif_neg (by simpa using hi),<- e,List.eraseIdx_of_length_le (by simp[km]at hi;omega)]
 ·unfold jx at *;cases T:nL p (km C) 0 with
  | none=>rw[PP (DT.1 T)];exact w.B
  | some q =>
   obtain⟨i,v⟩:=q;have e:=Re T;rw[dc]at e;rw[<- e];have:=w.B.erase i;have e3:∀ (l:List LC) (i:Nat),((km l).map PE.e).eraseIdx i=(km (l.eraseIdx i)).map PE.e:=by
    intro l;induction l with
    | nil=>intro i;simp[km]
    | cons y l ih=>intro i;cases i with
     | zero=>rfl
     | succ i=>simpa[km]using ih i
   rw[e3]at this;exact this
 ·funext q;unfold jx kO;rw[Jus w.nd q];by_cases e:q=p <;> simp[e]
def Jyb(z:Int){v:V}{h:N}{n:Nat}{xs:List V}(s:Sl h 1 v n xs):lK (E b).toiS 68 [(0,I X z),(1,v)]=U (.agg ⟨[I X z,v]⟩):=by
 rcases s with⟨c,rfl,_⟩ | ⟨C,o,c,ow,P,pre,post,rfl,_⟩
 ·kernel_rfl
 ·kernel_rfl
attribute [local simp] Xd qS qT Xu qV qU qR qX qW Q6 Qv Zk Z6 iN Qg gS Ab.g0 gv gs Q7 Qd g_ kH kU Qh Tr.H St.put Tm.put flat i5 Xa Yx Qm Qp Qn Qo Qk Ql Qj Qq Qi Q9 Q8 qQ qO qN qP ri rh rc qY qZ q_ rj Xs.putAll Qr Q0 Qb Qa jV Zj Zo kT mX U9 J0 J4 Nat.testBit loadAt Ab.runT Je Ym uM 
section
attribute [local simp] JT
def Vg1{sv:V}{xs:List Int}(s:SB h sv xs)(hl:L xs < 1000000)(K:KP)(P:∀ T h',OB h' h.Q T xs->a_ h h'->K (.ret T) h'):FK b 53 [sv] h K:=by
 by_cases C:Vn sv=O
 ·rcases s with⟨c,rfl,q1,q2,q3⟩ | ⟨_,_,_,_,_,_,_,rfl,_⟩
  ·refine iI b (JT b) Ydg rfl ?_;have e0:kh (E b).toiS .eql 28 (M O 0 c) (M O 0 0)=U (.bool Y):=by simp[kh,pp,qC,(ma b).d]
   simp[Sc,Yvg,Ye7,q2,e0];refine P _ h ?_ (a_.refl _);have : xs=[]:=by simpa using q3
   subst this;exact ig.nil
  ·simp[Vn]at C
 ·exact Z4n b s C jA K P
def Juh{v:Int}{sv:V}{script:List Int}(s:SB h sv script)(hl:L script < 1000000)(K:KP)(hk:∀ hr h',OB h' h.Q hr script->a_ h h'->K (.ret (.agg ⟨[I X v,hr]⟩)) h'):FK b 29 [.agg ⟨[I X v,sv]⟩] h K:=by
 refine iI b (C5 b) Y9q rfl ?_;obtain⟨P,eA⟩:∃ P,P=h.push (S Y 1 [I X v,sv]):=⟨_,rfl⟩;have bx:=sN eA;have aA:=jt eA;have gA:P.A h.Q=U (S Y 1 [I X v,sv]):=by rw[eA,N.F,if_pos rfl]
 simp[IJ,Mr,C5,jV,vZ,kQ,tK,U7,ve,bx];obtain⟨hB,eB,aB,gB⟩:=oL P [I X 0,M O 0 0];rw[<- eB];obtain⟨_,h3,g3,n3,C,rfl,o3,a3⟩:=Vg1 b (s.R (aA.trans aB)) hl (fun r h' => ∃ v',r=.ret v'/\OB h' hB.Q v' script/\a_ hB h') (fun v' h' o a=>⟨v',rfl,o,a⟩);have c0:Jr hB h.Q 0=U (I X v):=by rw[Zy (aB.A gA)];rfl
 have c1:Jr hB h.Q 1=U sv:=by rw[Zy (aB.A gA)];rfl
 have hx:=a3.A gB;have l3:=N.D hx;obtain⟨T,e4⟩:∃ T,T=h3.set P.Q (U (S Y 1 [I X v,C])):=⟨_,rfl⟩;have Av:j0 (E b).toiS 68 (pO P.Q 0) (.agg ⟨[I X v,C]⟩) h3=U T:=by
  rw[uU (l:=[I X v,C]) (y_ b) (by rw[qF];rfl),e4];exact kI hx kA
 have g4:T.A P.Q=U (S Y 1 [I X v,C]):=by rw[e4,gY l3,if_pos rfl]
 have k4:∀ c,c≠P.Q->T.A c=h3.A c:=fun c hc=>by rw[e4,gY l3,if_neg (Ne.symm hc)]
 have hb:iz T P.Q 0 2=U (.agg ⟨[I X v,C]⟩):=by rw[Uh g4 kA];rfl
 refine ju [⟨53,[sv],hB,C,h3,Y⟩] ?_ Yp9 Yu4 Yo5 (by simp[Yzv,Y8c,Y3r,IJ,Mr,C5,vZ,kQ,tK,U7,ve,c0,c1,Jyb b v o3.sl,Av];first | exact⟨rfl,rfl⟩ | rfl) ?_ ?_
 ·exact pS ⟨g3,n3,fun _ c hc=>a3.2 c hc⟩
 ·simp[zW,IJ,Mr,C5,vZ,kQ,tK,U7,ve,c0]
 simp[IJ,Mr,C5,jV,vZ,kQ,tK,U7,ve,tF,hb];have nA:=nQ eA;have nB:=nQ eB;refine hk C T ((o3.keep fun c hc _=>k4 c fun e=>by have:=(o3.from hc).1;omega).low jA) ⟨by rw[e4];have:=a3.1;show h.Q<=h3.Q;omega,fun c hc=>by rw[k4 c jA,a3.2 c jA,aB.2 c jA,aA.2 c hc]⟩
end
structure BK where
 p:Pt
 c:Option LV
def pZ:Option LV->List V
 | some x=>x.cells
 | none=>[I X 0,M O 0 0,I X 0]
def jb(h:N)(v:V)(k:BK):Prop:=oR k.p/\(∀ x,k.c=U x->i7 h x)/\∃ T C P,v=.func (.func 111) #[] #[pO T 0,pO C 0,pO P 0] /\
 h.A T=U (S Y 1 [.bool k.c.isSome])/\h.A C=U (S Y 1 (pZ k.c))/\h.A P=U (S Y 1 k.p.cells)
def jb.R{v:V}{k:BK}(a:jb h v k)(o:a_ h h'):jb h' v k:=by
 obtain⟨q1,q2,T,C,P,e,g1,g2,g3⟩:=a;exact⟨q1,fun x hx=>(q2 x hx).R o,T,C,P,e,o.A g1,o.A g2,o.A g3⟩
section
attribute [local simp] Qnt Qwt W7 v_ vh yF yO TH vV
def J0w{mb z clk:Nat}{nt un:V}{ls:List LC}(gl:h.A lb=U (S Y z [nt,.map (U mb),un]))(w:jX h mb clk ls){p:Pt}(hp:oR p)(K:KP)(hk:∀ v' h',jb h' v' ⟨p,jG ls p⟩->a_ h h'->K (.ret v') h'):FK b 69 [pO lb 0,.agg ⟨p.cells⟩] h K:=by
 refine iI b (W7 b) X7d rfl ?_;obtain⟨C,eA⟩:∃ C,C=h.push (S Y 1 p.cells):=⟨_,rfl⟩;have bx:jP (.agg ⟨p.cells⟩) h=U (pO h.Q 0,C):=by rw[eA];exact pk (by rw[p.len];omega)
 have aA:=jt eA;have gA:C.A h.Q=U (S Y 1 p.cells):=by rw[eA,N.F,if_pos rfl]
 have wA:=w.R aA;have cl:Jr C lb 1=U (.map (U mb)):=by rw[Zy (aA.A gl)];rfl
 have kp:iz C h.Q 0 33=U (.agg ⟨p.cells⟩):=oJ gA (by rw[Pt.len];omega) (by rw[Pt.len];omega);obtain⟨o,ho⟩:∃ o,o=jG ls p:=⟨_,rfl⟩;rw[<- ho]at hk;have lk:mW (E b).toiS 69 (.map (U mb)) (.agg ⟨p.cells⟩) Y C=U (.tuple #[.agg ⟨pZ o⟩,.bool o.isSome]):=by
  rw[J9u b wA p,<- ho];cases o <;> rfl
 have lc:L (pZ o)=3:=by cases o <;> rfl
 obtain⟨P,eC,aC,gC⟩:=oL C [I X 0,M O 0 0,I X 0];have hb:jh (E b).toiS 75 C=U (pO C.Q 0,P):=by rw[eC];exact yO b C
 obtain⟨hD,eD,aD,gD⟩:=oL P [.bool J];have h3:jh (E b).toiS 4 P=U (pO P.Q 0,hD):=by rw[eD];exact TH b P
 have nA:=nQ eA;have nC:=nQ eC;have lD:=N.D (aD.A gC);obtain⟨hE,eE⟩:∃ hE,hE=hD.set C.Q (U (S Y 1 (pZ o))):=⟨_,rfl⟩;have hg:j0 (E b).toiS 75 (pO C.Q 0) (.agg ⟨pZ o⟩) hD=U hE:=by
  rw[uU (l:=pZ o) (Kt b) (by rw[LX];exact lc),eE,kI (aD.A gC) (by simp[lc])];simp[lc]
 have Z':hE.A C.Q=U (S Y 1 (pZ o)):=by rw[eE,gY lD,if_pos rfl]
 have hr:hE.A P.Q=U (S Y 1 [.bool J]):=by rw[eE,gY lD,if_neg jA];exact gD
 have lE:=N.D hr;obtain⟨T,eF⟩:∃ T,T=hE.set P.Q (U (S Y 1 [.bool o.isSome])):=⟨_,rfl⟩;have e1:Wp hE P.Q 0 [.bool o.isSome]=U T:=by rw[eF,kI hr kA];rfl
 have e2:T.A P.Q=U (S Y 1 [.bool o.isSome]):=by rw[eF,gY lE,if_pos rfl]
 have hq:T.A C.Q=U (S Y 1 (pZ o)):=by rw[eF,gY lE,if_neg jA];exact Z'
 have kF:∀ c,c < C.Q->T.A c=C.A c:=fun c hc=>by rw[eF,gY lE,if_neg jA,eE,gY lD,if_neg jA,aD.2 c jA,aC.2 c hc]
 have aF:a_ C T:=⟨by rw[eF,eE,eD];show C.Q<=P.Q+1;omega,kF⟩;simp[bx];refine ju [] kA Xsf Xur Xtk (by simp[X0q,Xyp,X02,jg,cl,kp,lk,-yO,-TH,hb,h3,hg,e1];first | exact⟨rfl,rfl⟩ | rfl) ?_ ?_
 ·simp[Ac]
 simp;refine hk _ T ⟨hp,fun x hx => ?_,_,_,_,rfl,e2,hq,aF.A gA⟩ (aA.trans aF);have hx:jG ls p=U x:=by rw[<- ho];exact hx
 obtain⟨y,hy, -,rfl⟩:=KF hx;exact(w.hs y hy).R (aA.trans aF)
end
def kN(ω:Nat)(h h':N):Prop:=h.Q<=h'.Q/\∀ c,c < h.Q->c≠ω->h'.A c=h.A c
def kN.R(a:kN ω h h1)(b:a_ h1 h2):kN ω h h2:=⟨ak a.1 b.1,fun c P C=>by rw[b.2 c (aw P a.1),a.2 c P C]⟩
def kN.of(a:a_ h h1):kN ω h h1:=⟨a.1,fun c C _=>a.2 c C⟩
def kN.trans(a:kN ω h h1)(b:kN ω h1 h2):kN ω h h2:=⟨ak a.1 b.1,fun c P C=>by rw[b.2 c (aw P a.1) C,a.2 c P C]⟩
def kN.set{ω:Nat}(a:kN ω h h1)(x:Option Blk)(hl:ω < h1.Q):kN ω h (h1.set ω x):=⟨a.1,fun c P C=>by rw[gY hl,if_neg (Ne.symm C),a.2 c P C]⟩
def kN.A{mb clk c z:Nat}{ow:Bool}{l:List V}{es:Array MapEntry}(a:kN mb h h')(g:h.A c=U (.cells ow z l))(gm:h.A mb=U (.map es clk)):h'.A c=U (.cells ow z l):=by
 rw[a.2 c (N.D g) fun e=>by rw[e,gm]at g;cases g];exact g
section
variable{h h':N}{mb clk:Nat}{es:Array MapEntry}(gm:h.A mb=U (.map es clk))(a:kN mb h h')
include gm a
theorem Sl.but{z n:Nat}{v:V}{xs:List V}(s:Sl h z v n xs):Sl h' z v n xs:=s.keep fun c C P=>a.2 c P fun e=>by
 obtain⟨_,_,_,g⟩:=wO s C;rw[e,gm]at g;cases g
theorem i7.but{x:LV}(l:i7 h x):i7 h' x:=⟨Sl.but gm a l.s,l.b,l.l,l.v⟩
theorem lw.but{x:ik}(l:lw h x):lw h' x:=⟨Sl.but gm a l.w,fun p C=>⟨Sl.but gm a (l.i p C).1,(l.i p C).2⟩,l.n,l.l⟩
theorem mi.but{x:fm}(l:mi h x):mi h' x:=⟨Sl.but gm a l.s,l.b,l.l⟩
theorem Ins.but{v:V}{l:List ik}(s:Ins h v l):Ins h' v l:=⟨Sl.but gm a s.s,s.n,fun x C=>lw.but gm a (s.a x C)⟩
theorem jC.but{v:V}{l:List fm}(s:jC h v l):jC h' v l:=⟨Sl.but gm a s.s,s.n,fun x C=>mi.but gm a (s.a x C)⟩
theorem Laid.but(hl:Ab.LaidIn h laidAll):Ab.LaidIn h' laidAll:=fun y C=>a.A (hl y C) gm
theorem jb.but{v:V}{k:BK}(l:jb h v k):jb h' v k:=by
 obtain⟨q1,q2,T,C,P,e,g1,g2,g3⟩:=l;exact⟨q1,fun x hx=>i7.but gm a (q2 x hx),T,C,P,e,a.A g1 gm,a.A g2 gm,a.A g3 gm⟩
end
def jU(l:List LC):List V:=l.map (·.c.sv)
def mU(l:List BK):List V:=l.filterMap fun k=>k.c.map (·.sv)
def sr(v:V)(l:List V):Prop:=∀ s ∈ l,∀ c,Vn s=U c->Vn v≠U c
def sr.nil{l:List V}:sr (M O 0 0) l:=fun _ _ _ _ e=>by cases e
def sr.sub{v:V}{l m:List V}(a:sr v l)(h:∀ s ∈ m,s ∈ l):sr v m:=fun s hs=>a s (h s hs)
def Jbi(l m:List BK):mU (l++m)=mU l++mU m:=by simp[mU]
def Oq(h:N)(v:V):Prop:=∀ c,Vn v=U c->∃ T f P cs C,h.A c=U (S Y T (.func f P cs::C))
section
variable{h h':N}{v:V}(fb:Oq h v)(kp:∀ c,c < h.Q->Vn v≠U c->h'.A c=h.A c)
include kp
theorem i7.off{x:LV}(l:i7 h x)(o:∀ c,Vn x.sv=U c->Vn v≠U c):i7 h' x:=⟨l.s.keep fun c C P=>kp c P (o c C),l.b,l.l,l.v⟩
include fb
theorem LD{c z:Nat}{l:List V}(g:h.A c=U (S Y z l))(hl:∀ x ∈ l.head?,∀ f C cs,x ≠ .func f C cs):h'.A c=U (S Y z l):=by
 rw[kp c (N.D g) fun e => ?_]
 ·exact g
 ·obtain⟨z',f,C,cs,T,P⟩:=fb c e;rw[g]at P;cases P;exact hl _ rfl _ _ _ rfl
theorem J6w{mb clk:Nat}{es:Array MapEntry}(g:h.A mb=U (.map es clk)):h'.A mb=U (.map es clk):=by
 rw[kp mb (N.D g) fun e => ?_]
 ·exact g
 ·obtain⟨z',f,T,cs,P,C⟩:=fb mb e;rw[g]at C;cases C
theorem jb.off{T:V}{k:BK}(l:jb h T k)(o:∀ x,k.c=U x->∀ c,Vn x.sv=U c->Vn v≠U c):jb h' T k:=by
 obtain⟨q1,q2,bT,bC,bP,e,g1,g2,g3⟩:=l;refine⟨q1,fun x C=>i7.off kp (q2 x C) (o x C),bT,bC,bP,e,LD fb kp g1 fun x C => ?_,LD fb kp g2 fun x C => ?_,LD fb kp g3 fun x C => ?_⟩
 ·simp at C;subst C;simp
 ·cases hk:k.c with
  | none=>rw[hk]at C;simp[pZ]at C;subst C;simp
  | some y=>rw[hk]at C;simp[pZ,LV.cells]at C;subst C;simp
 ·intro f ag cs e;obtain⟨kk,zz,P⟩:=D8 k.p x (List.mem_of_mem_head? C);rw[e]at P;cases P
theorem jX.off{mb clk:Nat}{C:List LC}(w:jX h mb clk C)(o:sr v (jU C)):jX h' mb clk C :=
 ⟨J6w fb kp w.gm,w.B,fun x P=>i7.off kp (w.hs x P) (o _ (am.2 ⟨x,P,rfl⟩)),w.nd,w.kb⟩
end
def iy(h:N)(n0:Nat)(v:V)(l:List BK):Prop:=∃ vals:List V,ig h n0 1 v (L l) vals/\L vals=L l/\(∀ (i:Nat) (x:V) (k:BK),vals[i]? = U x->l[i]? = U k->jb h x k)/\(l=[]->v=M O 0 0)
def iy.nil:iy h n0 (M O 0 0) []:=⟨[],ig.nil,rfl,fun i x k C=>by simp at C,fun _=>rfl⟩
def iy.from{v:V}{l:List BK}(r:iy h n0 v l){c:Nat}(C:Vn v=U c):n0<=c/\c < h.Q:=by
 obtain⟨vals,o, -⟩:=r;exact o.from C
def iy.func{v:V}{l:List BK}(r:iy h n0 v l):Oq h v:=by
 intro c C;obtain⟨vals,o,hl,T,he⟩:=r;rcases o with⟨rfl,_,_⟩ | ⟨bk,cc,z',P,rfl,h1,h2,h3,h4,h5,h6⟩
 ·cases C
 ·cases C
  match l,vals,hl with
  | [],[],_=>exact absurd (he rfl) kA
  | k::l,x::vals,_ =>
   obtain⟨-, -,bT,bC,bP,e, -⟩:=T 0 x k rfl rfl;subst e;exact⟨_,_,_,_,_,h2⟩
def iy.R{v:V}{l:List BK}(r:iy h n0 v l)(a:a_ h h'):iy h' n0 v l:=by
 obtain⟨vals,o,hl,C,T⟩:=r;exact⟨vals,o.keep fun c _ P=>a.2 c P,hl,fun i x k hx hk=>(C i x k hx hk).R a,T⟩
def iy.low{C:Nat}{v:V}{l:List BK}(r:iy h n0 v l)(hn:C<=n0):iy h C v l:=by
 obtain⟨vals,o,hl,P,T⟩:=r;exact⟨vals,o.low hn,hl,P,T⟩
def iy.but{mb clk:Nat}{v:V}{l:List BK}{es:Array MapEntry}(r:iy h n0 v l)(gm:h.A mb=U (.map es clk))(a:kN mb h h'):iy h' n0 v l:=by
 obtain⟨vals,o,hl,C,T⟩:=r;refine⟨vals,o.keep fun c C P=>a.2 c P fun e => ?_,hl,fun i x k hx hk=>jb.but gm a (C i x k hx hk),T⟩;obtain⟨_,_,_,g⟩:=wO o.sl C;rw[e,gm]at g;cases g
def iy.app{v:V}{l:List BK}(r:iy h n0 v l)(off:sr v (mU l)){fv:V}{k:BK}(a:jb h fv k)(T:∀ x,k.c=U x->∀ c,Vn x.sv=U c->Vn v≠U c)(h0:n0<=h.Q)(hn:L l < 1000000) :
  ∃ v' h',mR (E b).toiS 89 89 v (M (U ⟨h.Q,0,O⟩) 1 1) (h.push (S Y 1 [fv]))=U (v',h')/\iy h' n0 v' (l ++ [k])/\jj v h h'/\∀ c,Vn v'=U c->Vn v=U c∨h.Q<=c:=by
 have fb:=r.func;obtain⟨vals,o,hl,hb,he⟩:=r;obtain⟨v',h',k1,k2,k3,k4⟩:=Bu (Bb b) (z:=1) B_ jA o h0 (ys:=[fv]) rfl (by rw[Z4p];omega) jA;refine⟨v',h',k1,⟨vals ++ [fv],by rw[ah];exact k2,by simp[hl],fun i x kk C P => ?_,fun e=>by simp at e⟩,k3,k4⟩;by_cases hi:i < L l
 ·rw[List.getElem?_append_left jA]at C;rw[List.getElem?_append_left hi]at P;refine jb.off fb k3.2 (hb i x kk C P) fun y hy=>off _ ?_;exact ce.2 ⟨kk,List.mem_of_getElem? P,by rw[hy];rfl⟩
 ·rw[List.getElem?_append_right jA]at C P;rw[hl]at C;have : i-L l=0:=by
   have:=(List.getElem?_eq_some_iff.1 C).1;simpa using this
  rw[this]at C P;simp at C P;subst C P;exact jb.off fb k3.2 a T
def Vfj(h:N){C:V}{k:BK}(a:jb h C k)(h1:N):Wc (E b).toiS 89 1 [(0,C)] h1=U (M (U ⟨h1.Q,0,O⟩) 1 1,h1.push (S Y 1 [C])):=by
 obtain⟨-, -,bT,P,T,rfl, -⟩:=a;exact u7 (Bb b) (z:=1) B_ jA jA rfl rfl rfl
def tX(l:List BK)(m:iR):iR:=l.foldr (fun k m=>kO m k.p (k.c.map LV.c)) m
def Jm6(l l2:List BK)(m:iR):tX (l++l2) m=tX l (tX l2 m):=by simp[tX]
def J0q(k:BK)(m:iR):tX [k] m=kO m k.p (k.c.map LV.c):=rfl
def tc:List Nat:=[116,120]
section
def Vh2(laid:Ab.LaidIn h laidAll){iv ov:V}{ins:List ik}{outs:List fm}{lock:Int}(si:Ins h iv ins)(so:jC h ov outs)(hp:∀ x ∈ ins,oR x.pt)(K:KP)(hk:∀ h',a_ h h'->K (.ret (.agg ⟨(oI tc (jN ins outs lock)).map ax⟩)) h'):FK b 70 [.agg ⟨iT iv ov lock⟩] h K:=by
 refine iI b (I9 b) Jws rfl ?_;obtain⟨P,eA,aA,gA⟩:=oL h ((iT iv ov lock));have nA:=nQ eA;have bx:=sN eA;obtain⟨hB,eB,aB,gB⟩:=oL P js;have hc:jh (E b).toiS 39 P=U (pO P.Q 0,hB):=by rw[eB];exact Vj b P
 have C:=aA.trans aB;have hb:iz hB h.Q 0 3=U (.agg ⟨iT iv ov lock⟩):=by rw[Uh (aB.A gA) (by simp[iT])];rfl
 simp[PN,Jwc,I9,Vj,Z5p,rK,IK,Vy,bx,-Vj,hc,hb];refine Juq b (l:=tc) (Laid.R laid C) rfl (by simp[tc]) (si.R C) (so.R C) hp _ fun h1 a1 => ?_;obtain⟨T,hx⟩:∃ T,T=oI tc (jN ins outs lock):=⟨_,rfl⟩;have tl:L T=32:=by rw[hx];exact yx _ _
 rw[<- hx]at hk ⊢;have g3:=a1.A gB;have l3:=N.D g3;have qL:Wp h1 P.Q 0 (T.map ax)=U (h1.set P.Q (U (S Y 1 (T.map ax)))):=by
  rw[kI g3 (by simp[js,tl])];congr 4;simp[js,tl]
 have hr:iz (h1.set P.Q (U (S Y 1 (T.map ax)))) P.Q 0 32=U (.agg ⟨T.map ax⟩):=by
  rw[Uh (by rw[gY l3,if_pos rfl]) (by simp[tl]),bw,ai (by simp[tl])]
 simp[PN,Jwc,I9,Vj,Z5p,rK,IK,Vy,Ua,tl,qL,hr];exact hk _ ((C.trans a1).set _ jA l3)
def O8{nu:Nat}{nt mv un:V}(gl:h.A lb=U (S Y z [nt,mv,un]))(C:∀ hx,iP (E b).toiS 70 un hx=U (I X (nu:Int)))(K:KP)(T:K (.ret (I X (nu:Int))) h) :
  FK b 21 [pO lb 0] h K:=by
 refine iI b (Xr b) X0l rfl ?_;have P:Jr h lb 2=U un:=by rw[Zy gl];rfl
 simp[Xac,Ya8,Xr,X0i,H5,Hn,jg,P,C];exact T
end
def s6{t:TypeId}{r:ib}(he:(E b).toiS.ty.A t=U r){l:List V}(hl:L l=r.size)(hz:L r.zero.cells.toList=r.size)(h:N):∃ C T,jh (E b).toiS t h=U (pO h.Q 0,C)/\j0 (E b).toiS t (pO h.Q 0) (.agg ⟨l⟩) C=U T/\Wp C h.Q 0 l=U T/\T.A h.Q=U (S Y 1 l)/\a_ h T/\T.Q=h.Q+1:=by
 obtain⟨C,P⟩:∃ C,C=h.push (S Y 1 r.zero.cells.toList):=⟨_,rfl⟩;have gA:C.A h.Q=U (S Y 1 r.zero.cells.toList):=by rw[P,N.F,if_pos rfl]
 have lA:=N.D gA;have st:Wp C h.Q 0 l=U (C.set h.Q (U (S Y 1 l))):=by
  rw[kI gA jA];rw[cF jA];simp
 refine⟨C,C.set h.Q (U (S Y 1 l)),by rw[P];simp only[jh,he],by rw[uU he hl];exact st,st,by rw[gY lA,if_pos rfl],?_,by rw[P];rfl⟩;rw[P];exact(a_.push _ _).set _ (ac _) (by rw[<- P];exact lA)
structure je (h h':N) (mb clk':Nat) (ls ls':List LC) (m':iR) (v':V) (bks:List BK) (N_ M_:Nat):Prop where
 row:iy h' h.Q v' bks
 co:jX h' mb clk' ls'
 mp:jx ls'=m'
 back:tX bks m'=jx ls
 bt:kN mb h h'
 off:sr v' (jU ls'++mU bks)
 new:∀ s ∈ jU ls'++mU bks,s ∈ jU ls ∨ ∀ c,Vn s=U c->h.Q<=c
 len:L ls'<=L ls+N_
 bl:L bks<=M_
def je.R{mb clk' T M_:Nat}{ls P:List LC}{m':iR}{v':V}{C:List BK}(D:je h h' mb clk' ls P m' v' C T M_)(a:a_ h' h2):je h h2 mb clk' ls P m' v' C T M_ :=
 ⟨D.row.R a,D.co.R a,D.mp,D.back,D.bt.R a,D.off,D.new,D.len,D.bl⟩
def je.nil{mb clk:Nat}{C:List LC}(w:jX h mb clk C):je h h mb clk C C (jx C) (M O 0 0) [] 0 0 :=
 ⟨iy.nil,w,rfl,rfl,kN.of (a_.refl _),sr.nil,fun s hs => .inl (by simpa[mU]using hs),ac _,ac _⟩
def KS{x:LV}(a:i7 h x){c:Nat}(C:Vn x.sv=U c):c < h.Q:=by
 obtain⟨_,_,_,g⟩:=wO a.s C;exact N.D g
def iy.lv{v:V}{l:List BK}(r:iy h n0 v l){k:BK}(P:k ∈ l){x:LV}(T:k.c=U x):i7 h x:=by
 obtain⟨vals,o,hl,C,he⟩:=r;obtain⟨i,hi,e⟩:=dL P;exact(C i (vals[i]' jA) k (List.getElem?_eq_getElem jA) (by rw[List.getElem?_eq_getElem hi,e])).2.1 x T
def NX{mb clk:Nat}{v:V}{l:List BK}{T:List LC}(r:iy h n0 v l)(w:jX h mb clk T){s:V}(hs:s ∈ jU T++mU l){c:Nat}(P:Vn s=U c):c < h.Q:=by
 rcases ab.1 hs with q | q
 ·obtain⟨x,hx,rfl⟩:=am.1 q;exact KS (w.hs x hx) P
 ·obtain⟨k,hk,e⟩:=ce.1 q;cases C:k.c with
  | none=>rw[C]at e;cases e
  | some x =>
   rw[C]at e;cases e;exact KS (r.lv hk C) P
def je.step{mb clk N_ M_:Nat}{ls C:List LC}{m1:iR}{bv:V}{P:List BK}(D:je h h1 mb clk ls C m1 bv P N_ M_)(hM:M_ < 1000000){fv:V}{p:Pt}(a:jb h1 fv ⟨p,jG C p⟩) :
  ∃ v' h2,mR (E b).toiS 89 89 bv (M (U ⟨h1.Q,0,O⟩) 1 1) (h1.push (S Y 1 [fv]))=U (v',h2)/\jj bv h1 h2/\Oq h1 bv/\jX h2 mb clk C/\kN mb h h2 /\
   ∀ (h3 h4:N) (T:List LC) (hr:Nat) (c:Option PC) (N':Nat) (x:Option LV),a_ h2 h3->(∃ y,h4=h3.set mb y)->jX h4 mb hr T->jx T=kO (jx C) p c->(∀ y ∈ T,y ∈ C∨U y.c=x)->(∀ y,x=U y->∀ c,Vn y.sv=U c->h2.Q<=c)->L T<=L ls+N' ->
    je h h4 mb hr ls T (kO m1 p c) v' (P ++ [⟨p,jG C p⟩]) N' (M_+1):=by
 have fb:=D.row.func;have hB:∀ x,jG C p=U x->x.sv ∈ jU C:=fun x hx=>by
  obtain⟨y,hy, -,rfl⟩:=KF hx;exact am.2 ⟨y,hy,rfl⟩
 obtain⟨v',h2,k1,k2,k3,k4⟩:=D.row.app b (D.off.sub fun s hs=>by simp[hs]) a (fun x hx=>D.off x.sv (ab.2 (.inl (hB x hx)))) D.bt.1 (Nat.lt_of_le_of_lt D.bl hM);have s1:=jX.off fb k3.2 D.co (D.off.sub fun s hs=>by simp[hs]);have hq:kN mb h h2:=⟨ak D.bt.1 k3.1,fun c hc hf=>by
  rw[k3.2 c (aw hc D.bt.1) fun e=>by have:=(D.row.from e).1;omega,D.bt.2 c hc hf]⟩
 refine⟨v',h2,k1,k3,fb,s1,hq,?_⟩;rintro h3 h4 T hr c N' x Z' ⟨y,rfl⟩ q1 em hg hp e2;have hn:=(s1.R Z').gm;have q2:=N.D hn;have hb:∀ s ∈ mU (P ++ [⟨p,jG C p⟩]),s ∈ jU C++mU P:=fun s hs=>by
  rw[Jbi]at hs;rcases ab.1 hs with q | q
  ·exact ab.2 (.inr q)
  ·refine ab.2 (.inl ?_);cases ha:jG C p with
   | none=>rw[ha]at q;simp[mU]at q
   | some z =>
    rw[ha]at q;simp[mU]at q;rw[q];exact hB z ha
 have hA:∀ s ∈ jU T,s ∈ jU C ∨ ∃ z,x=U z/\s=z.sv:=fun s hs=>by
  obtain⟨z,hz,rfl⟩:=am.1 hs;rcases hg z hz with q | q
  ·exact .inl (am.2 ⟨z,q,rfl⟩)
  ·exact .inr ⟨z.c,q.symm,rfl⟩
 have hk:sr v' (jU C++mU P):=fun s hs d hd e=>by
  rcases k4 d e with q | q
  ·exact D.off s hs d hd q
  ·have:=NX D.row D.co hs hd;omega
 have e1:iy (h3.set mb y) h.Q v' (P ++ [⟨p,jG C p⟩]):=(k2.R Z').but hn ((kN.of (a_.refl _)).set _ q2);refine⟨e1,q1,by rw[em,D.mp],?_,(hq.R Z').set _ q2,fun s hs d hd e => ?_,fun s hs => ?_,e2,by rw[ah];have:=D.bl;simp;omega⟩
 ·rw[Jm6,J0q];show tX P (kO (kO m1 p c) p ((jG C p).map LV.c))=_;have : (jG C p).map LV.c=m1 p:=by rw[<- D.mp];rfl
  rw[this,J5n,Vbd,D.back]
 ·rcases ab.1 hs with q | q
  ·rcases hA s q with r | ⟨z,r1,rfl⟩
   ·exact hk s (ab.2 (.inl r)) d hd e
   ·have h5:=hp z r1 d hd;have:=(k2.from e).2;omega
  ·exact hk s (hb s q) d hd e
 ·rcases ab.1 hs with q | q
  ·rcases hA s q with r | ⟨z,r1,rfl⟩
   ·exact D.new s (ab.2 (.inl r))
   ·exact .inr fun d hd=>ak hq.1 (hp z r1 d hd)
  ·exact D.new s (hb s q)
def J1b{C:List Nat}(hs:L C=32)(z:Int):lK (E b).toiS 77 [(0,.agg ⟨C.map ax⟩),(1,I X z)]=U (.agg ⟨C.map ax ++ [I X z]⟩):=by
 obtain⟨T,pl,hx,hr,hc,hk⟩:∃ T pl,uu.desc=.struct T/\AO (E b).toiS T.toList=U pl/\gS pl 0=U (0,32)/\gS pl 1=U (32,1) :=
  ⟨(match uu.desc with | .struct T=>T | _ => #[]),(AO (E b).toiS (match uu.desc with | .struct T=>T | _ => #[]).toList).getD [],by kernel_rfl,by kernel_rfl,by kernel_rfl,by kernel_rfl⟩
 obtain⟨P,ez,hz,hb⟩:∃ P:List V,P=uu.zero.cells.toList/\L P=33/\P.drop 32=[I X 0]:=⟨_,rfl,by kernel_rfl,by kernel_rfl⟩;have sl:L (C.map ax)=32:=by simp[hs]
 have e2:(lN (.agg ⟨C.map ax⟩) && (Value.agg ⟨C.map ax⟩).cells.size == 32 && Nat.ble (0+32) (L P))=Y:=by
  have h1:(Value.agg ⟨C.map ax⟩).cells.size=32:=sl;rw[h1,hz];rfl
 have e3:mM P 0 (Value.agg ⟨C.map ax⟩).cells.toList=U (C.map ax++P.drop 32):=by
  show mM P 0 (C.map ax)=_;rw[vd (by rw[sl,hz];omega)];simp[sl]
 have e4:(lN (I X z) && (I X z).cells.size == 1 && Nat.ble (32+1) (L (C.map ax ++ [(I X 0:V)])))=Y:=by
  rw[ah,sl];rfl
 have e5:mM (C.map ax ++ [(I X 0:V)]) 32 (I X z).cells.toList=U (C.map ax ++ [I X z]):=by
  show mM _ 32 [I X z]=_;rw[vd (by rw[ah,sl];simp)];have e6:∀ r:List V,(C.map ax++r).take 32=C.map ax:=fun r=>by rw[<- sl,dR]
  have e7:(C.map ax ++ [(I X 0:V)]).drop (32+1)=[]:=bW (by rw[ah,sl];simp);simp only[e6,d8,e7,ct]
 simp only[lK,yd,hx,hr,<- ez,nr,hc,hk,e2,if_true,e3,hb,e4,e5,aL]
def J1j(z w:Int){v:V}{h:N}{n0 n:Nat}{xs:List V}(s:ig h n0 1 v n xs):lK (E b).toiS 75 [(0,.agg ⟨[I X z,v]⟩),(1,I X w)]=U (.agg ⟨[I X z,v,I X w]⟩):=by
 rcases s.sl with⟨c,rfl,_⟩ | ⟨C,o,c,ow,P,pre,post,rfl,_⟩
 ·kernel_rfl
 ·kernel_rfl
def uG(m:iR)(l:List Pt):iR:=l.foldl (fun m p=>kO m p O) m
def De(id:List Nat)(hid:L id=32)(made:Int)(m:iR)(l:List jB):iR:=l.zipIdx.foldl (fun m q=>kO m ⟨id,(q.2:Int),hid⟩ (U ⟨q.1.value,q.1.script,made⟩)) m
def J7v(m:iR)(l:List Pt)(p:Pt):uG m (l ++ [p])=kO (uG m l) p O:=by simp[uG]
def J25{id:List Nat}{hid:L id=32}{made:Int}(m:iR)(l:List jB)(o:jB):De id hid made m (l ++ [o])=kO (De id hid made m l) ⟨id,(L l:Int),hid⟩ (U ⟨o.value,o.script,made⟩):=by
 unfold De;rw[List.zipIdx_append,List.foldl_append];simp
def yW(m:iR)(t:k_)(made:Int):iR:=De (oI tc t) (yx _ _) made (uG m (t.ins.map (·.pt))) t.outs
def LA(s l:List Nat):∀ n ∈ xJ s l,n < 256:=fun n C=>J9l _ n C
def Jkj(s:List Nat)(t:k_):∀ n ∈ oI s t,n < 256:=by
 intro n C;unfold oI at C;split at C
 ·exact LA _ _ n C
 ·rw[dY C];omega
structure D1 (lb B:Nat) (iv:V) (n:Nat) (t:Tr V) (i:Nat) (bv:V):Prop where
 t0:t.A 0=U (pO lb 0)
 t3:t.A 3=U (pO B 0)
 t5:t.A 5=U bv
 t13:t.A 13=U iv
 t14:t.A 14=U (I X (n:Int))
 t15:t.A 15=U (I X (i:Int))
def DI1(lb mb clk B:Nat)(iv:V)(ins:List ik)(ls:List LC)(h:N)(k:Nat)(s:St):Prop:=∃ (t:Tr V) (h1:N) (i:Nat) (T:V) (P:List LC) (C:List BK),s=⟨⟨65,t⟩,[],h1⟩/\i<=L ins/\k=L ins-i/\D1 lb B iv (L ins) t i T/\je h h1 mb clk ls P (uG (jx ls) ((ins.take i).map (·.pt))) T C 0 i
structure D2 (lb I_:Nat) (ov:V) (n:Nat) (t:Tr V) (i:Nat) (bv:V):Prop where
 t0:t.A 0=U (pO lb 0)
 t5:t.A 5=U bv
 t8:t.A 8=U (pO I_ 0)
 t36:t.A 36=U ov
 t37:t.A 37=U (I X (n:Int))
 t38:t.A 38=U (I X (i:Int))
def DI2(lb mb T:Nat)(ov:V)(id:List Nat)(hid:L id=32)(made:Int)(outs:List fm)(m0:iR)(M_:Nat)(ls:List LC)(h:N)(k:Nat)(s:St):Prop:=∃ (t:Tr V) (h1:N) (i clk:Nat) (bv:V) (P:List LC) (C:List BK),s=⟨⟨65,t⟩,[],h1⟩/\i<=L outs/\k=L outs-i/\D2 lb T ov (L outs) t i bv/\je h h1 mb clk ls P (De id hid made m0 ((outs.take i).map fm.p)) bv C i (M_+i)/\h1.A T=U (S Y 1 (id.map ax))
section
attribute [local simp] Qap Qc4 Ut Ur Aa Qb9 zY NI yM yF W7 v_ vh rK I9 Vy Us z_ tF ve Ua C5 Xr
def Vkg{mb z clk nu:Nat}{nt un:V}{ls:List LC}(laid:Ab.LaidIn h laidAll)(gl:h.A lb=U (S Y z [nt,.map (U mb),un]))(hF:∀ C,iP (E b).toiS 70 un C=U (I X (nu:Int)))(m5:nu < 1000000)(w:jX h mb clk ls){iv ov:V}{ins:List ik}{outs:List fm}{lock:Int}(si:Ins h iv ins)(so:jC h ov outs)(hp:∀ x ∈ ins,oR x.pt)(hv:∀ o ∈ outs,0<=o.value/\o.value<=1125899906842624)(r3:L ins<=100)(t4:L outs<=100)(K:KP)(hk:∀ v' h' m4 clk' hf,je h h' mb clk' ls m4 (yW (jx ls) (jN ins outs lock) ((nu:Int)+1)) v' hf (L outs) (L ins+L outs)->K (.ret v') h'):fx Tryz.prog (E b).G 41 [pO lb 0,.agg ⟨iT iv ov lock⟩] h K:=by
 refine kW (E b) (kE _ _) (Wh b) (Vm b) ie (Ws b) (Ut b) QR.1 QR.2.1 QR.2.2 rfl ?_;obtain⟨h0,e0⟩:∃ h0,h0=h.push (S Y 1 (iT iv ov lock)):=⟨_,rfl⟩;have bx:=sN e0;have a0:=jt e0;have g0:h0.A h.Q=U (S Y 1 (iT iv ov lock)):=by rw[e0,N.F,if_pos rfl]
 have n0:=nQ e0;have w0:=w.R a0;have hz:=a0.A gl;have kP:∀ C,iP (E b).toiS 90 iv C=U (I X (L ins:Int)):=fun C=>ja (nT b) si.s;have m0:∀ C,iP (E b).toiS 31 ov C=U (I X (L outs:Int)):=fun C=>ja (nU b) so.s;have c0:∀ {C:N},C.A h.Q=U (S Y 1 (iT iv ov lock))->Jr C h.Q 0=U iv/\Jr C h.Q 1=U ov/\iz C h.Q 0 3=U (.agg ⟨iT iv ov lock⟩):=fun g=>⟨by rw[Zy g];rfl,by rw[Zy g];rfl,by rw[Uh g (by simp[iT])];rfl⟩;simp[Vj,jV,pc,bx,(c0 g0).1,kP];refine jE (DI1 lb mb clk h.Q iv ins ls h0) (L ins) ⟨_,h0,0,M O 0 0,ls,[],rfl,jA,rfl,⟨kA,kA,kA,kA,kA,kA⟩,je.nil w0⟩ ?_;rintro k s' ⟨t,h1,i,bv,pE,hf,rfl,hi,rfl,⟨t0,t3,t5,t13,t14,t15⟩,D⟩ -;have TL:=D.bt.A hz w0.gm;have p5:=Ins.but w0.gm D.bt (si.R a0);by_cases p4:i < L ins
 ·have hn:(i:Int) < (L ins:Int):=jA
  have hw:=wS (i:=i) jA;obtain⟨x,C⟩:∃ x,ins[i]? = U x:=⟨_,List.getElem?_eq_getElem p4⟩;obtain⟨bk,off, -,x1,x2, -⟩:=wI (b:=b) (nT b) rp p5.s C;obtain⟨hA,h2,hg,q1,T,g2,a2,n2⟩:=s6 b (AI b) (l:=x.cells) (by rw[ik.len,rp]) (by kernel_rfl) h1;have pD:∀ {C:N},C.A h1.Q=U (S Y 1 x.cells)->iz C h1.Q 0 33=U (.agg ⟨x.pt.cells⟩):=fun g=>by rw[Uh g (by rw[ik.len];omega),bw,K9]
  have x0:=hp x (List.mem_of_getElem? C);simp[Vj,jV,pc,t0,t3,t5,t13,t14,t15,p4,hn,x1,x2,hg,q1,T,pD g2];have D2:=D.R a2;refine(J0w b (a2.A TL) D2.co x0 _ fun fv h3 r1 a3 => ?_).ok;have D3:=D2.R a3;obtain⟨v4,h4,pF,b4,m7,ch,n1,ud⟩:=D3.step b jA r1;have g4:h4.A h1.Q=U (S Y 1 x.cells):=by
   rw[b4.2 _ (N.D (a3.A g2)) fun e=>by have:=(D.row.from e).2;omega];exact a3.A g2
  have a1:=n1.A hz w0.gm;have m2:Jr h4 lb 1=U (.map (U mb)):=by rw[Zy a1];rfl
  obtain⟨m1,h5,hV,e5,hR,eB,m6,p1⟩:=Vgr b ch x.pt;simp[Vj,jV,pc,t0,t3,t5,t13,t14,t15,Vfj b h3 r1,pF];refine ju [] kA Xyx X1t Xzw (by simp[X65,Yfi,Vj,pc,jg,t0,m2,pD g4,hV];first | exact⟨rfl,rfl⟩ | rfl) ?_ ?_
  ·simp[CG,Vj,pc]
  simp[Vj,jV,pc,t0,t3,t5,t13,t14,t15,hw];have D5:=ud h4 h5 m1 clk O 0 O (a_.refl _) ⟨_,e5⟩ hR eB (fun y hy => .inl (p1 y hy)) (fun y e=>by cases e) (by have:=D.len;omega);have tk:(ins.take (i+1)).map (·.pt)=(ins.take i).map (·.pt) ++ [x.pt]:=by rw[bH,C];simp
  refine⟨L ins-(i+1),jA,_,h5,i+1,v4,m1,hf ++ [⟨x.pt,jG pE x.pt⟩],rfl,jA,rfl,⟨by simp[t0],by simp[t3],kA,by simp[t13],by simp[t14],kA⟩,?_⟩;rw[tk,J7v];exact D5
 ·have hn:¬ (i:Int) < (L ins:Int):=jA
  have : i=L ins:=jA
  subst this;rw[bO]at D;have g1:=D.bt.A g0 w0.gm;have tl:=jC.but w0.gm D.bt (so.R a0);have m3:=Laid.but w0.gm D.bt (Laid.R laid a0);simp[Vj,jV,pc,t0,t3,t5,t13,t14,t15,(c0 g1).1,(c0 g1).2.1,(c0 g1).2.2];refine(Vh2 b m3 p5 tl hp _ fun h2 a2 => ?_).ok;obtain⟨dg,hr⟩:∃ dg,dg=oI tc (jN ins outs lock):=⟨_,rfl⟩;have P:L dg=32:=by rw[hr];exact yx _ _
  have cb:∀ n ∈ dg,n < 256:=by rw[hr];exact Jkj _ _
  rw[<- hr];obtain⟨hA,h3,hg,q1,T,g3,a3,n3⟩:=s6 b (ww b) (l:=dg.map ax) (by rw[aM,P,uE]) (by kernel_rfl) h2;have D3:=(D.R a2).R a3;have aB:=a3.A (a2.A g1);simp[Vj,jV,pc,t0,t3,t5,t13,t14,t15,-Vj,hg,q1,T,P,(c0 aB).2.1,m0];refine jE (DI2 lb mb h2.Q ov dg P ((nu:Int)+1) outs (uG (jx ls) (ins.map (·.pt))) (L ins) ls h0) (L outs) ⟨_,h3,0,clk,bv,pE,hf,rfl,jA,rfl,⟨by simp[t0],by simp[t5],kA,kA,kA,kA⟩,by simpa[De]using D3,g3⟩ ?_;rintro k s' ⟨t,h4,j,he,c2,pC,e1,rfl,hj,rfl,⟨t0,t5,t8,t36,t37,t38⟩,D4,g4⟩ -;have a1:=D4.bt.A hz w0.gm;have p6:=jC.but w0.gm D4.bt (so.R a0);by_cases r2:j < L outs
  ·have s1:(j:Int) < (L outs:Int):=jA
   have hw:=wS (i:=j) jA;have w1:IntKind.i64.wrap ((nu:Int)+1)=(nu:Int)+1:=jW jA jA;obtain⟨x,C⟩:∃ x,outs[j]? = U x:=⟨_,List.getElem?_eq_getElem r2⟩;obtain⟨bk,off, -,x1,x2, -, -⟩:=yp (b:=b) (nU b) qF p6.s C;have hu:=p6.a x (List.mem_of_getElem? C);have hD:=hv x (List.mem_of_getElem? C);obtain⟨hA,h5,hg,q1,T,g5,a5,n5⟩:=s6 b (y_ b) (l:=x.cells) (by rw[fm.len,qF]) (by kernel_rfl) h4;obtain⟨p,ep⟩:∃ p:Pt,p=⟨dg,(j:Int),P⟩:=⟨_,rfl⟩;have pb:oR p:=by rw[ep];exact cb
   have bp:lK (E b).toiS 77 [(0,.agg ⟨dg.map ax⟩),(1,I X (j:Int))]=U (.agg ⟨p.cells⟩):=by rw[ep];exact J1b b P (j:Int)
   obtain⟨hC,h6,p9,sx,q3,g6,a6,n6⟩:=s6 b (yd b) (l:=p.cells) (by rw[Pt.len,B8]) (by kernel_rfl) h5;have a4:iz h5 h2.Q 0 32=U (.agg ⟨dg.map ax⟩):=oJ (a5.A g4) (by simp[P]) (by simp[P]);have z':∀ {C:N},C.A h5.Q=U (S Y 1 p.cells)->iz C h5.Q 0 33=U (.agg ⟨p.cells⟩):=fun g=>oJ g (by rw[Pt.len];omega) (by rw[Pt.len];omega);have e4:∀ {C:N},C.A h4.Q=U (S Y 1 x.cells)->iz C h4.Q 0 2=U (.agg ⟨x.cells⟩):=fun g=>oJ g (by rw[fm.len];omega) (by rw[fm.len];omega);simp[Vj,jV,pc,t0,t5,t8,t36,t37,t38,r2,s1,x1,x2,-jV,-pc,hg,q1,T,a4,bp,p9,sx,q3,z' g6];have D6:=(D4.R a5).R a6;have eA:=a5.trans a6;refine(J0w b (eA.A a1) D6.co pb _ fun fv h7 ha a7 => ?_).ok;have D7:=D6.R a7;obtain⟨v8,h8,c1,b8,b1,aA,hL,ud⟩:=D7.step b jA ha;have Z':∀ {c:Nat} {l:List V},h4.Q<=c->h7.A c=U (S Y 1 l)->h8.A c=U (S Y 1 l):=fun hc g=>by
    rw[b8.2 _ (N.D g) fun e=>by have:=(D4.row.from e).2;omega];exact g
   have b2:=Z' (ac _) (a7.A (a6.A g5));have nb:=Z' (c:=h5.Q) (by have:=a5.1;omega) (a7.A g6);have e':h8.A h2.Q=U (S Y 1 (dg.map ax)):=LD b1 b8.2 ((eA.trans a7).A g4) fun y hy f ag cs e=>by
    have:=List.mem_of_mem_head? hy;obtain⟨n, -,e2⟩:=am.1 this;rw[e]at e2;cases e2
   have pB:=hL.A hz w0.gm;have u1:=jC.but w0.gm hL (so.R a0);have p3:Jr h8 lb 1=U (.map (U mb)):=by rw[Zy pB];rfl
   obtain⟨_,h9,q9,n9,ht,rfl,o9,a9⟩:=Juh b (v:=x.value) (u1.a x (List.mem_of_getElem? C)).s hu.l (fun r h' => ∃ v',r=.ret (.agg ⟨[I X x.value,v']⟩)/\OB h' h8.Q v' x.script/\a_ h8 h') (fun v' h' o a=>⟨v',rfl,o,a⟩);have f1:=a9.A pB;obtain⟨_,dv,dt,eC,rfl,rfl⟩:=O8 b f1 hF (fun r h'=>r=.ret (I X (nu:Int))/\h9=h') ⟨rfl,rfl⟩;obtain⟨y,ey⟩:∃ y:LV,y=⟨x.value,ht,x.script,(nu:Int)+1⟩:=⟨_,rfl⟩;have ly:i7 h9 y:=by rw[ey];exact⟨o9.sl,hu.b,hu.l,hD⟩
   obtain⟨hB,hb,e3,p2,q4,hm,re,er,q2⟩:=UF b (aA.R a9) pb ly;have s2:lK (E b).toiS 75 [(0,.agg ⟨[I X x.value,ht]⟩),(1,I X ((nu:Int)+1))]=U (.agg ⟨y.cells⟩):=by rw[ey];exact J1j b x.value ((nu:Int)+1) o9
   have xc:x.cells=[I X x.value,x.sv]:=rfl;simp[Vj,jV,pc,t0,t5,t8,t36,t37,t38,Vfj b h7 ha,c1];refine ju [⟨29,[.agg ⟨[I X x.value,x.sv]⟩],h8,.agg ⟨[I X x.value,ht]⟩,h9,Y⟩,⟨21,[pO lb 0],h9,I X (nu:Int),h9,Y⟩] ?_ Xv8 Xz3 Xup (by simp[X4y,Yct,Ya0,X2f,Vj,pc,jg,t0,p3,z' nb,e4 b2,xc,r_,w1,s2,p2];first | exact⟨rfl,rfl⟩ | rfl) ?_ ?_
   ·exact wm ⟨q9,n9,fun _ c hc=>a9.2 c hc⟩ ⟨dt,eC,fun _ c hc=>rfl⟩
   ·simp[xu,Vj,pc,p3]
   simp[Vj,jV,pc,t0,t5,t8,t36,t37,t38,hw];have p7:=ud h9 e3 hB hb (U y.c) (j+1) (U y) a9 ⟨_,q4⟩ hm re (fun q hq=>(q2 q hq).imp id fun e=>by rw[e]) (fun q e c hc=>by cases e;rw[ey]at hc;exact(o9.from hc).1) (by have:=D4.len;omega);have tk:(outs.take (j+1)).map fm.p=(outs.take j).map fm.p ++ [x.p]:=by rw[bH,C];simp
   have f2:L ((outs.take j).map fm.p)=j:=by rw[aM,bh];omega
   refine⟨L outs-(j+1),jA,_,e3,j+1,hb,v8,hB,e1 ++ [⟨p,jG pC p⟩],rfl,jA,rfl,⟨by simp[t0],kA,by simp[t8],by simp[t36],by simp[t37],kA⟩,?_,?_⟩
   ·rw[tk,J25,f2];have : (⟨x.p.value,x.p.script,(nu:Int)+1⟩:PC)=y.c:=by rw[ey];rfl
    rw[this,<- ep];exact p7
   ·rw[q4];exact X22 (a9.A e') (aA.R a9).gm _
  ·have s1:¬ (j:Int) < (L outs:Int):=jA
   have : j=L outs:=jA
   subst this;rw[bO]at D4;simp[Vj,jV,pc,t0,t5,t8,t36,t37,t38];have em:yW (jx ls) (jN ins outs lock) ((nu:Int)+1)=De dg P ((nu:Int)+1) (uG (jx ls) (ins.map (·.pt))) (outs.map fm.p):=by
    subst hr;unfold yW;rw[show(jN ins outs lock).ins.map (·.pt)=ins.map (·.pt)from J9o ins];rfl
   refine hk c2 h4 pC he e1 ?_;rw[em];exact⟨D4.row.low a0.1,D4.co,D4.mp,D4.back,⟨ak a0.1 D4.bt.1,fun c hc ev=>by rw[D4.bt.2 c (aw hc a0.1) ev,a0.2 c hc]⟩,D4.off,fun s hs=>(D4.new s hs).imp id fun q c hc=>ak a0.1 (q c hc),D4.len,D4.bl⟩
end
section
variable{h h':N}{L_:Nat}{o:oU}(go:h.A L_=U (.obj o))(a:kN L_ h h')
include go a
theorem He{c z:Nat}{ow:Bool}{l:List V}(g:h.A c=U (.cells ow z l)):h'.A c=U (.cells ow z l):=by
 rw[a.2 c (N.D g) fun e=>by rw[e,go]at g;cases g];exact g
theorem Sl.obj{z n:Nat}{v:V}{xs:List V}(s:Sl h z v n xs):Sl h' z v n xs:=s.keep fun c C P=>a.2 c P fun e=>by
 obtain⟨_,_,_,g⟩:=wO s C;rw[e,go]at g;cases g
theorem i7.obj{x:LV}(l:i7 h x):i7 h' x:=⟨Sl.obj go a l.s,l.b,l.l,l.v⟩
theorem jb.obj{v:V}{k:BK}(l:jb h v k):jb h' v k:=by
 obtain⟨q1,q2,T,C,P,e,g1,g2,g3⟩:=l;exact⟨q1,fun x hx=>i7.obj go a (q2 x hx),T,C,P,e,He go a g1,He go a g2,He go a g3⟩
theorem jX.obj{mb clk:Nat}{C:List LC}(w:jX h mb clk C):jX h' mb clk C:=by
 refine⟨?_,w.B,fun x P=>i7.obj go a (w.hs x P),w.nd,w.kb⟩;rw[a.2 mb (N.D w.gm) fun e=>by have:=w.gm;rw[e,go]at this;cases this];exact w.gm
end
section
def J8c{mb clk:Nat}{ls:List LC}(w:jX h mb clk ls){k:BK}(pb:oR k.p)(hl:∀ x,k.c=U x->i7 h x){bT bC bP:Nat}(gT:h.A bT=U (S Y 1 [.bool k.c.isSome]))(gC:h.A bC=U (S Y 1 (pZ k.c)))(gP:h.A bP=U (S Y 1 k.p.cells))(K:KP)(hk:∀ h' C clk',(∃ y,h'=h.set mb y)->jX h' mb clk' C->jx C=kO (jx ls) k.p (k.c.map LV.c)->(∀ y ∈ C,y ∈ ls∨U y.c=k.c)->L C<=L ls+1->K (.ret (.tuple #[])) h') :
  fx Tryz.prog (E b).G 111 [.map (U mb),pO bT 0,pO bC 0,pO bP 0] h K:=by
 refine kW (E b) (kE _ _) (Wh b) (Vm b) ie (Ws b) (Nz b) Ts.1 Ts.2.1 Ts.2.2 rfl ?_;have cT:Jr h bT 0=U (.bool k.c.isSome):=by rw[Zy gT];rfl
 have lP:iz h bP 0 33=U (.agg ⟨k.p.cells⟩):=oJ gP (by rw[Pt.len];omega) (by rw[Pt.len];omega);cases hc:k.c with
 | none =>
  rw[hc]at cT;obtain⟨T,h2,dl,e2,P,em,le,mem⟩:=Vgr b w k.p;simp[UU,Xex,Nz,tU,yF,Vf5,cT,lP,dl];exact hk h2 T clk ⟨_,e2⟩ P (by rw[em,hc];rfl) (fun y hy => .inl (mem y hy)) jA
 | some x =>
  rw[hc]at cT gC;have lC:iz h bC 0 3=U (.agg ⟨x.cells⟩):=by rw[Uh gC (by simp[pZ,LV.cells])];rfl
  obtain⟨T,hx,h2,up,e2,P,em,le,mem⟩:=UF b w pb (hl x hc);simp[UU,Xex,Nz,tU,yF,Vf5,cT,lP,lC,up];exact hk h2 T hx ⟨_,e2⟩ P (by rw[em,hc];rfl) (fun y hy=>(mem y hy).imp id fun e=>by rw[e,hc]) le
def Jok(h:N)(v:V)(hv:lN v=Y/\v.cells = #[v])(K:KP)(hk:∀ h',h'.A h.Q=U (S Y 1 [v])->a_ h h'->h'.Q=h.Q+1->K (.ret (.func (.func 110) #[] #[pO h.Q 0])) h') :
  FK b 68 [v] h K:=by
 refine iI b (Vw b) Qi6 rfl ?_;obtain⟨P,C⟩:∃ P,P=h.push (S Y 1 [v]):=⟨_,rfl⟩;have T:jP v h=U (pO h.Q 0,P):=by simp[jP,C,hv.1,hv.2]
 simp[Qc9,Qiv,Vw,T];exact hk P (by rw[C,N.F,if_pos rfl]) (by rw[C];exact a_.push _ _) (by rw[C];rfl)
end
def BWI(A l:Nat)(n:Nat)(C:Nat->N->Prop)(k:Nat)(s:St):Prop:=∃ (t:Tr V) (g:N) (j:Nat),s=⟨⟨19,t⟩,[],g⟩/\t.A 0=U (.func (.yield l) #[] #[])/\t.A 1=U (pO A 0)/\t.A 3=U (I X ((n:Int)-1-(j:Int)))/\j<=n/\k=n-j/\C j g
section
attribute [local simp] Vt Um Vg Jz2 Jwf
def bw1{l A:Nat}{v:V}{vals:List V}(h:N)(K:KP)(T:Nat->N->Prop)(hI:T 0 h)(hn:L vals < 1000000)(h1:∀ j g,T j g->g.A A=U (S Y 1 [v])/\Sl g 1 v (L vals) vals/\∃ st pe t ps an bd d,g.A l=U (.obj (.loop st pe t ps an bd d))/\∀ x y:V,qv t.size ps.toList [x,y]=Y)(hr:∀ j g x (K:KP),T j g->j < L vals->vals[L vals-1-j]? = U x->(∀ g',T (j+1) g'->g.Q<=g'.Q->K (.ret (.bool Y)) g')->zI Tryz.prog (E b).G l [I X ((L vals:Int)-1-(j:Int)),x] g K)(hk:∀ g,T (L vals) g->K (.ret (.tuple #[])) g):fx Tryz.prog (E b).G 110 [.func (.yield l) #[] #[],pO A 0] h K:=by
 refine kW (E b) (kE _ _) (Wh b) (Vm b) ie (Ws b) (Vg b) WI.1 WI.2.1 WI.2.2 rfl ?_;obtain⟨gA,s0, -⟩:=h1 _ _ hI;have cA:Jr h A 0=U v:=by rw[Zy gA];rfl
 have len:∀ hx,iP (E b).toiS 89 v hx=U (I X (L vals:Int)):=fun hx=>ja (Bb b) s0;have w0:IntKind.i64.wrap ((L vals:Int)-1)=(L vals:Int)-1:=jW jA jA;simp[cA,len,w0];refine jE (BWI A l (L vals) T) (L vals) ⟨_,h,0,rfl,kA,kA,kA,jA,rfl,hI⟩ ?_;rintro k s' ⟨t,g,j,rfl,t0,t1,t3,hj,rfl,P⟩ -;obtain⟨gA,s1,st,pe,tl,ps,an,bd,d,q3,q4⟩:=h1 _ _ P;have cA:Jr g A 0=U v:=by rw[Zy gA];rfl
 obtain⟨z,hz⟩:∃ z:Int,z=(L vals:Int)-1-(j:Int):=⟨_,rfl⟩;rw[<- hz]at t3;by_cases hb:j < L vals
 ·have C:0<=z:=jA
  have hp:(z.toNat:Int)=z:=dw C;have e1:z.toNat=L vals-1-j:=jA
  obtain⟨x,hx⟩:∃ x,vals[L vals-1-j]? = U x:=⟨_,List.getElem?_eq_getElem jA⟩;obtain⟨bk,off,x0,x1,x2, -⟩:=o_ (Bb b) B_ s1 (k:=.i64) (i:=z) C jA;have x2:=x2 0 jA;rw[e1,de,cz,cz,hx]at x2;have hw:IntKind.i64.wrap (z-1)=(L vals:Int)-1-((j+1:Nat):Int):=by rw[jW jA jA];omega
  have q4:=q4 (I X z) x;simp[t0,t1,t3,cA,C,x1,x2,u6,q3,q4];have:=hr j g x;rw[<- hz]at this;refine this _ P hb hx fun g' hc h3 => ?_;simp[t0,t1,t3,hw];exact⟨L vals-(j+1),jA,_,g',j+1,rfl,by simp[t0],by simp[t1],kA,jA,rfl,hc⟩
 ·have C:¬ 0<=z:=jA
  have : j=L vals:=jA
  subst this;simp[t0,t1,t3,C];exact hk g P
end
def y7:Code:=Cj (mf (Y6 40))
def yY:Code:=Cm (mf (Y6 40))
def J4z:mf (Y6 40)=.rangeFunc (.tmp 7) #[8,9] y7 yY:=kR
def Vkk:Uz y7=Q80:=kR
def Vj6:Uz yY=UX:=kR
structure TNI (hB:N) (TL:Tm) (mb:Nat) (ls:List LC) (bks:List BK) (j:Nat) (g:N):Prop where
 gd:g.A hB.Q=U (.obj .defs)
 gl:g.A (hB.Q+1)=U (.obj (.loop .ready O TL #[8,9] y7 yY hB.Q))
 bt:kN mb hB g
 n:hB.Q+2<=g.Q
 co:∃ clk ls1,jX g mb clk ls1/\jx ls1=tX (bks.drop (L bks-j)) (jx ls)/\(∀ s ∈ jU ls1,s ∈ jU ls++mU bks)/\L ls1<=L ls+j
def J4i(a:Option Addr)(n c:Nat):lN (.slice a n c)=Y/\(Value.slice a n c).cells = #[.slice a n c]:=⟨rfl,rfl⟩
def iy.slice{v:V}{l:List BK}(r:iy h n0 v l):lN v=Y/\v.cells = #[v]:=by
 obtain⟨vals,o, -⟩:=r;rcases o with⟨rfl,_⟩ | ⟨_,_,_,_,rfl,_⟩ <;> exact J4i _ _ _
section
def J5b{mb z clk n0:Nat}{nt un bv:V}{ls:List LC}{C:List BK}(gl:h.A lb=U (S Y z [nt,.map (U mb),un]))(w:jX h mb clk ls)(r:iy h n0 bv C)(hn:L C < 1000000)(K:KP)(hk:∀ h' q2 clk',jX h' mb clk' q2->jx q2=tX C (jx ls)->kN mb h h'->(∀ s ∈ jU q2,s ∈ jU ls++mU C)->L q2<=L ls+L C->K (.ret (.tuple #[])) h') :
  fx Tryz.prog (E b).G 40 [pO lb 0,bv] h K:=by
 refine kW (E b) (kE _ _) (Wh b) (Vm b) ie (Ws b) (GB b) Th.1 Th.2.1 Th.2.2 rfl ?_;obtain⟨hV,eV⟩:∃ hV,hV=h.push (S Y 1 [pO lb 0]):=⟨_,rfl⟩;have bx:jP (pO lb 0) h=U (pO h.Q 0,hV):=by rw[eV];rfl
 have aV:=jt eV;have gV:hV.A h.Q=U (S Y 1 [pO lb 0]):=by rw[eV,N.F,if_pos rfl]
 simp[Ny,XV,GB,Vw,YP,bx,J4z];refine(Jok b hV bv r.slice _ fun P gA aB nB => ?_).ok;simp[Ny,XV,GB,Vw,YP,J4z];refine BP (first:=#[]) (captured:=#[pO hV.Q 0]) kA (Vg b) ?_;generalize a2:Tm.mk 16 _=TL;have e2:TL.t.A 2=U (pO h.Q 0):=by rw[<- a2];simp
 have s':TL.size=16:=by rw[<- a2]
 have hg:TL=⟨16,TL.t⟩:=by rw[<- s']
 have hr:=aV.trans aB;have wB:=w.R hr;have rB:=r.R hr;obtain⟨vals,o,hl,hb,he⟩:=rB;obtain⟨h0,e0⟩:∃ h0,h0=(P.push (.obj .defs)).push (.obj (.loop .ready O TL #[8,9] y7 yY P.Q)):=⟨_,rfl⟩;have a3:h0.Q=P.Q+2:=by rw[e0];simp only[kn]
 have a0:a_ P h0:=by rw[e0];exact(a_.push _ _).trans (a_.push _ _)
 rw[<- e0];refine bw1 b (l:=P.Q+1) (vals:=vals) h0 _ (TNI P TL mb ls C) ⟨?_,?_,kN.of a0,jA,clk,ls,wB.R a0,by simp[tX],fun s hs=>by simp[hs],jA⟩ jA (fun j g i=>⟨i.bt.A gA wB.gm,?_,_,_,_,_,_,_,_,i.gl,fun x y=>by rw[s'];rfl⟩) ?_ ?_
 ·rw[e0];simp (disch:=first | omega | (simp only[kn,nJ];done) | (simp only[kn,nJ];omega)) only[tY,tZ,ua,t_]
 ·rw[e0];simp (disch:=first | omega | (simp only[kn,nJ];done) | (simp only[kn,nJ];omega)) only[tY,tZ,ua,t_]
 ·have:=Sl.but wB.gm i.bt o.sl;rw[<- hl]at this;exact this
 ·intro j g x K' i hj hx hK;obtain⟨h3,m0,hp,Z',re,v'⟩:=i.co;obtain⟨k,e1⟩:∃ k,C[L C-1-j]? = U k:=⟨_,List.getElem?_eq_getElem jA⟩;rw[hl]at hx;have bk:=jb.but wB.gm i.bt (hb _ x k hx e1);refine Lq (E b) (kE _ _) (Wh b) (Vm b) ie i.gl (by rw[s'];rfl) Vkk Vj6 ?_;have lL:=N.D i.gl;obtain⟨T,eC⟩:∃ T,T=g.set (P.Q+1) (U (.obj (.loop .busy O TL #[8,9] y7 yY P.Q))):=⟨_,rfl⟩;have kC:∀ c,c≠P.Q+1->T.A c=g.A c:=fun c hc=>by rw[eC,gY lL,if_neg (Ne.symm hc)]
  have bC:kN (P.Q+1) g T:=by rw[eC];exact(kN.of (a_.refl _)).set _ lL
  have a1:T.A (P.Q+1)=U (.obj (.loop .busy O TL #[8,9] y7 yY P.Q)):=by rw[eC,gY lL,if_pos rfl]
  have nC:T.Q=g.Q:=by rw[eC];rfl
  have hf:=jX.obj i.gl bC hp;have p1:=jb.obj i.gl bC bk;have ud:T.A h.Q=U (S Y 1 [pO lb 0]):=He i.gl bC (i.bt.A (aB.A gV) wB.gm);have ht:T.A lb=U (S Y z [nt,.map (U mb),un]):=He i.gl bC (i.bt.A (hr.A gl) wB.gm);have c2:Jr T h.Q 0=U (pO lb 0):=by rw[Zy ud];rfl
  have c1:Jr T lb 1=U (.map (U mb)):=by rw[Zy ht];rfl
  obtain⟨pb,p2,bT,g3,bP,rfl,gT,gC,gP⟩:=p1;have g2:=i.gl;rw[hg]at eC g2 ⊢;simp[Q80,qz,Co,g2,<- eC];simp[UX,rz,v_,vh,Nz,e2,c2,jg,c1];refine J8c b hf pb p2 gT gC gP _ fun h2 h5 h4 hy q1 hw hm ha => ?_;obtain⟨y,rfl⟩:=hy;have lm:=N.D hf.gm;have r1:mb≠P.Q+1:=fun e=>by have:=hf.gm;rw[e,a1]at this;cases this
  have hq:(T.set mb y).A (P.Q+1)=U (.obj (.loop .busy O TL #[8,9] y7 yY P.Q)):=by rw[gY lm,if_neg r1];exact a1
  rw[hg]at hq;simp[UX];refine Cr (st:=.busy) (pe:=O) (t2:=⟨16,TL.t⟩) (ps2:=#[8,9]) (as2:=y7) (bd2:=yY) (d2:=P.Q) hq ?_;rw[<- hg];have l7:=N.D hq;obtain⟨h8,e8⟩:∃ h8,h8=(T.set mb y).set (P.Q+1) (U (.obj (.loop .ready O TL #[8,9] y7 yY P.Q))):=⟨_,rfl⟩;rw[<- e8];have b8:kN (P.Q+1) (T.set mb y) h8:=by rw[e8];exact(kN.of (a_.refl _)).set _ l7
  have q3:=jX.obj hq b8 q1;have n8:h8.Q=g.Q:=by rw[e8];exact nC
  have eA:mb≠P.Q:=fun e=>by have:=hp.gm;rw[e,i.gd]at this;cases this
  refine hK h8 ⟨?_,by rw[e8,gY l7,if_pos rfl],⟨by rw[n8];exact i.bt.1,fun c hc s1 => ?_⟩,by rw[n8];exact i.n,h4,h5,q3,?_,fun s hs => ?_,jA⟩ (by rw[n8];exact ac _)
  ·rw[b8.2 _ (by show P.Q < T.Q;have:=i.n;omega) jA,gY lm,if_neg eA,kC _ jA];exact i.gd
  ·have:=i.bt.1;rw[b8.2 c (by show c < T.Q;omega) jA,gY lm,if_neg (Ne.symm s1),kC c jA,i.bt.2 c hc s1]
  ·have e3:C.drop (L C-(j+1))=k::C.drop (L C-j):=by
    have hu:L C-1-j < L C:=jA;rw[show L C-(j+1)=L C-1-j by omega,aS hu];rw[List.getElem?_eq_getElem hu]at e1;rw[bM e1,show L C-1-j+1=L C-j by omega]
   rw[e3,hw,Z'];rfl
  ·obtain⟨z,hz,rfl⟩:=am.1 hs;rcases hm z hz with q | q
   ·exact re _ (am.2 ⟨z,q,rfl⟩)
   ·exact ab.2 (.inr (ce.2 ⟨k,List.mem_of_getElem? e1,by rw[<- q];rfl⟩))
 ·intro g i;refine Ce kA i.gl ?_;obtain⟨h3,m0,hp,Z',re,v'⟩:=i.co;have lL:=N.D i.gl;obtain⟨g1,hA⟩:∃ g1,g1=g.set (P.Q+1) O:=⟨_,rfl⟩;have b1:kN (P.Q+1) g g1:=by rw[hA];exact(kN.of (a_.refl _)).set _ lL
  have gd:g1.A P.Q=U (.obj .defs):=by rw[hA,gY lL,if_neg jA];exact i.gd
  have n1:g1.Q=g.Q:=by rw[hA];rfl
  have lD:=N.D gd;rw[hg,<- hA];simp[Ny,XV,GB,Vw,YP,gd];have q1:=jX.obj gd ((kN.of (a_.refl g1)).set O lD) (jX.obj i.gl b1 hp);rw[hl,cO,bw]at Z';refine hk _ m0 h3 q1 Z' ⟨by have:=hr.1;have:=i.bt.1;show h.Q<=g1.Q;omega,fun c hc s1 => ?_⟩ re (by rw[<- hl];exact v');have:=hr.1;rw[gY lD,if_neg jA,b1.2 c (by have:=i.bt.1;omega) jA,i.bt.2 c jA s1,hr.2 c hc]
end
def Jyq(ν:Nat){l:List V}(hl:L l=32)(lk:Int):lK (E b).toiS 140 [(0,pO ν 0),(1,.agg ⟨l⟩),(2,I X lk)]=U (.agg ⟨pO ν 0::l ++ [I X lk]⟩):=by
 have e:lK (E b).toiS 140 [(0,pO ν 0),(1,.agg ⟨l⟩),(2,I X lk)]=(nr (gS [(0,1),(1,32),(33,1)]) (.pointer O::List.replicate 32 zU ++ [I X 0]) [(0,pO ν 0),(1,.agg ⟨l⟩),(2,I X lk)]).map fun c => .agg c.toArray:=by
  kernel_rfl
 rw[e];have hc:(Value.agg ⟨l⟩).cells.toList=l:=rfl;have hs:(Value.agg ⟨l⟩).cells.size=32:=hl;have P:L (pO ν 0::List.replicate 32 zU ++ [I X 0]:List V)=34:=kA
 have C:L (pO ν 0::l ++ [I X 0]:List V)=34:=by simp[hl]
 have s0:mM (.pointer O::List.replicate 32 zU ++ [I X 0]:List V) 0 [pO ν 0]=U (pO ν 0::List.replicate 32 zU ++ [I X 0]):=rfl;have s1:mM (pO ν 0::List.replicate 32 zU ++ [I X 0]:List V) 1 l=U (pO ν 0::l ++ [I X 0]):=by
  rw[vd (by rw[P,hl];omega),hl];rfl
 have s2:mM (pO ν 0::l ++ [I X 0]:List V) 33 [I X lk]=U (pO ν 0::l ++ [I X lk]):=by
  rw[vd (by rw[C];simp),List.take_left' (by simp[hl]),d8,cF (by simp[hl])];simp
 have T:(lN (.agg ⟨l⟩) && (Value.agg ⟨l⟩).cells.size == 32 && Nat.ble (1+32) (L (pO ν 0::List.replicate 32 zU ++ [I X 0]:List V)))=Y:=by
  rw[hs,P];rfl
 have p0:(lN (pO ν 0) && (pO ν 0).cells.size == 1 && Nat.ble (0+1) (L (.pointer O::List.replicate 32 zU ++ [I X 0]:List V)))=Y:=rfl;have b2:(lN (I X lk) && (I X lk).cells.size == 1 && Nat.ble (33+1) (L (pO ν 0::l ++ [I X 0]:List V)))=Y:=by
  rw[C];rfl
 have c0:(pO ν 0).cells.toList=[pO ν 0]:=rfl;have c2:(I X lk).cells.toList=[I X lk]:=rfl;simp only[nr,gS,p0,T,b2,if_true,hc,c0,c2,s0,s1,s2];rfl
def vu(a:jL)(m:iR):List pN->Int->Except Int Int
 | [],s => .ok s
 | x::l,s=>match m x.pt with
  | none => .error 17
  | some c=>if s_ a c.script x.wit=0 then vu a m l (s+c.value)else .error (s_ a c.script x.wit)
def TP(ks:List Nat)(hks:L ks=1024)(t:k_):jL:=⟨ks,oI Di t,t.lock,hks,yx _ _⟩
def lG(l:List jB):Int:=(l.map (·.value)).sum
def uk(ks:List Nat)(hks:L ks=1024)(m:iR)(C:Int)(t:k_):Int × Int :=
 if rn t=0 then
  if C+1 < t.lock then(0,18)else
  match vu (TP ks hks t) m t.ins 0 with
  | .error e=>(0,e)
  | .ok s=>if s-lG t.outs < 0 then(0,19)else(s-lG t.outs,0)
 else(0,rn t)
def Vbn{a:jL}{m:iR}{l:List pN}{i:Nat}{x:pN}(C:l[i]? = U x)(s:Int):vu a m (l.drop i) s=match m x.pt with
  | none => .error 17
  | some c=>if s_ a c.script x.wit=0 then vu a m (l.drop (i+1)) (s+c.value)else .error (s_ a c.script x.wit):=by
 rw[aS (List.getElem?_eq_some_iff.1 C).1,(List.getElem?_eq_some_iff.1 C).2,vu]
def J0n(x:ik):x.cells[33]? = U x.wv:=by
 rw[ik.cells,List.getElem?_append_right (by rw[Pt.len];omega),Pt.len];rfl
def Ju9:∀ {l:List jB} {C:Int},ue l C=Y->0<=C->0<=lG l/\lG l<=C
 | [],C,_,h=>by simp[lG];exact h
 | o::l,C,h,h0=>by
  unfold ue at h;split at h
  ·cases h
  ·rename_i P;have:=Ju9 h jA;have e:lG (o::l)=o.value+lG l:=by simp[lG]
   rw[e];omega
structure V1 (lb B V_:Nat) (iv:V) (n:Nat) (t:Tr V) (i:Nat) (fee:Int):Prop where
 t0:t.A 0=U (pO lb 0)
 t3:t.A 3=U (pO B 0)
 t7:t.A 7=U (pO V_ 0)
 t8:t.A 8=U (I X fee)
 t37:t.A 37=U iv
 t38:t.A 38=U (I X (n:Int))
 t39:t.A 39=U (I X (i:Int))
def VI1(lb B P:Nat)(iv:V)(ins:List ik)(a:jL)(m:iR)(h:N)(k:Nat)(s:St):Prop:=∃ (t:Tr V) (h1:N) (i:Nat) (C:Int),s=⟨⟨86,t⟩,[],h1⟩/\i<=L ins/\k=L ins-i/\V1 lb B P iv (L ins) t i C/\a_ h h1/\0<=C/\C<=1125899906842624*(i:Int)/\vu a m (ins.map ik.p) 0=vu a m ((ins.map ik.p).drop i) C
def VI2(ov:V)(outs:List fm)(h:N)(C:Int)(k:Nat)(s:St):Prop:=∃ (t:Tr V) (h1:N) (i:Nat),s=⟨⟨86,t⟩,[],h1⟩/\i<=L outs/\k=L outs-i/\t.A 8=U (I X (C-lG ((outs.map fm.p).take i)))/\t.A 72=U ov/\t.A 73=U (I X (L outs:Int))/\t.A 74=U (I X (i:Int))/\a_ h h1
def Jzf{outs:List fm}{i:Nat}{x:fm}(C:outs[i]? = U x):lG ((outs.map fm.p).take (i+1))=lG ((outs.map fm.p).take i)+x.value:=by
 rw[bH,List.getElem?_map,C];simp[lG,fm.p]
def J6u(l m:List jB):lG (l++m)=lG l+lG m:=by simp[lG]
section
attribute [local simp] Vu Ud Jz rK Vp Vd NN kQ Xr NA ID WS Ur Aa zY NI v_ vh yM yF yO Qsx tK U7 Wn ph WC Ub vZ Us z_ tF ve 
def J8t{mb z clk nu ν z':Nat}{ow:Bool}{un:V}{ls:List LC}{ks:List Nat}(hks:L ks=1024)(laid:Ab.LaidIn h laidAll)(gl:h.A lb=U (S Y z [pO ν 0,.map (U mb),un]))(gν:h.A ν=U (.cells ow z' (ks.map ax)))(p7:∀ P,iP (E b).toiS 70 un P=U (I X (nu:Int)))(hV:nu < 1000000)(w:jX h mb clk ls){iv ov:V}{ins:List ik}{outs:List fm}{lock:Int}(si:Ins h iv ins)(so:jC h ov outs)(hp:∀ x ∈ ins,oR x.pt)(K:KP)(hk:∀ h',a_ h h'->K (.ret (.tuple #[I X (uk ks hks (jx ls) (nu:Int) (jN ins outs lock)).1,I X (uk ks hks (jx ls) (nu:Int) (jN ins outs lock)).2])) h'):fx Tryz.prog (E b).G 39 [pO lb 0,.agg ⟨iT iv ov lock⟩] h K:=by
 refine kW (E b) (kE _ _) (Wh b) (Vm b) ie (Ws b) (Jz b) Tn.1 Tn.2.1 Tn.2.2 rfl ?_;obtain⟨h0,e0⟩:∃ h0,h0=h.push (S Y 1 (iT iv ov lock)):=⟨_,rfl⟩;have bx:=sN e0;have a0:=jt e0;have g0:h0.A h.Q=U (S Y 1 (iT iv ov lock)):=by rw[e0,N.F,if_pos rfl]
 have kP:∀ P,iP (E b).toiS 90 iv P=U (I X (L ins:Int)):=fun P=>ja (nT b) si.s;have p2:∀ P,iP (E b).toiS 31 ov P=U (I X (L outs:Int)):=fun P=>ja (nU b) so.s;have c0:∀ {P:N},P.A h.Q=U (S Y 1 (iT iv ov lock))->Jr P h.Q 0=U iv/\Jr P h.Q 1=U ov/\Jr P h.Q 2=U (I X lock)/\iz P h.Q 0 3=U (.agg ⟨iT iv ov lock⟩):=fun g=>⟨by rw[Zy g];rfl,by rw[Zy g];rfl,by rw[Zy g];rfl,by rw[Uh g (by simp[iT])];rfl⟩;simp[jV,bx,(c0 g0).2.2.2];refine(QG b (si.R a0) (so.R a0) _ fun h1 a1 => ?_).ok;have hn:=a0.trans a1;by_cases hc:rn (jN ins outs lock)=0
 ·have g1:=a1.A g0;have p3:=hn.A gl;obtain⟨_,s2,q2,n2,rfl,rfl⟩:=O8 b p3 p7 (fun r h'=>r=.ret (I X (nu:Int))/\h1=h') ⟨rfl,rfl⟩;have p9:IntKind.i64.wrap ((nu:Int)+1)=(nu:Int)+1:=jW jA jA;have vE:uk ks hks (jx ls) (nu:Int) (jN ins outs lock)=if(nu:Int)+1 < lock then(0,18)else match vu (TP ks hks (jN ins outs lock)) (jx ls) (ins.map ik.p) 0 with
    | .error e=>(0,e)
    | .ok s=>if s-lG (outs.map fm.p) < 0 then(0,19)else(s-lG (outs.map fm.p),0):=by
   unfold uk;rw[if_pos hc];rfl
  rw[vE]at hk;simp[jV,hc,(c0 g1).1];refine ju [⟨21,[pO lb 0],h1,I X (nu:Int),h1,Y⟩] ?_ Xp9 Xqt Xp0 (by simp[Xvv,Xz8,(c0 g1).2.2.1,p9];first | exact⟨rfl,rfl⟩ | rfl) ?_ ?_
  ·exact pS ⟨q2,n2,fun _ c hc=>rfl⟩
  ·simp[CS,(c0 g1).2.2.1]
  by_cases hu:(nu:Int)+1 < lock
  ·rw[if_pos hu]at hk;simp[jV,hu];exact hk h1 hn
  ·rw[if_neg hu]at hk;simp[jV,hu];have pF:=Laid.R laid hn;obtain⟨_,h2,q3,n3,rfl,a2⟩:=Jzy b pF ((si.R a0).R a1) ((so.R a0).R a1) hp (fun r h'=>r=.ret (.agg ⟨(oI Di (jN ins outs lock)).map ax⟩)/\a_ h1 h') (fun h' a=>⟨rfl,a⟩);obtain⟨dg,hdg⟩:∃ dg,dg=oI Di (jN ins outs lock):=⟨_,rfl⟩;have p4:L (dg.map ax)=32:=by rw[aM,hdg,yx]
   rw[<- hdg]at q3;obtain⟨e,he⟩:∃ e:iO,e=⟨pO ν 0,dg.map ax,lock,p4⟩:=⟨_,rfl⟩;have ec:e.cells=pO ν 0::dg.map ax ++ [I X lock]:=by rw[he];rfl
   have be:lK (E b).toiS 140 [(0,pO ν 0),(1,.agg ⟨dg.map ax⟩),(2,I X lock)]=U (.agg ⟨e.cells⟩):=by rw[ec];exact Jyq b ν p4 lock
   obtain⟨hA,h3,q1,hm,hb,g3,a3,b2⟩:=s6 b (J55 b) (l:=e.cells) (by rw[iO.len,Znw]) (by kernel_rfl) h2;have lE:=iO.len e;have hf:Jr h1 lb 0=U (pO ν 0):=by rw[Zy p3];rfl
   have g2:=a2.A g1;refine ju [⟨66,[.agg ⟨iT iv ov lock⟩],h1,.agg ⟨dg.map ax⟩,h2,Y⟩] ?_ Xog Xtd Xoy (by simp[Xvg,Xw6,jg,hf,(c0 g1).2.2.1,(c0 g1).2.2.2,(c0 g2).2.2.1,be,q1,hm,hb,lE];first | exact⟨rfl,rfl⟩ | rfl) ?_ ?_
   ·exact pS ⟨q3,n3,fun _ c hc=>a2.2 c hc⟩
   ·simp[CR,hf,(c0 g1).2.2.1,(c0 g1).2.2.2,(c0 g2).2.2.1]
   have hB:=(hn.trans a2).trans a3;have hL:=a3.A g2;have c2:=hB.A gl;obtain⟨aa,re⟩:∃ aa,aa=TP ks hks (jN ins outs lock):=⟨_,rfl⟩;rw[<- re]at hk;have r2:=Laid.R laid hB;have n1:Wo h3 e aa:=⟨LB r2,fun c hc=>hc.elim,J4e r2,⟨ν,z',ow,by rw[he],by rw[re];exact hB.A gν,fun q=>q⟩,by rw[he,re];exact congrArg (List.map ax) hdg,by rw[he,re];rfl⟩;have w3:=w.R hB;simp[jV,(c0 hL).1,kP];refine jE (VI1 lb h.Q h2.Q iv ins aa (jx ls) h3) (L ins) ⟨_,h3,0,0,rfl,jA,rfl,⟨kA,kA,kA,kA,kA,kA,kA⟩,a_.refl _,jA,jA,kA⟩ ?_;rintro k s' ⟨t,h4,i,T,rfl,hi,rfl,⟨t0,t3,t7,t8,t37,t38,t39⟩,a4,f0,f1,C⟩ -;have tk:=Hz hc;have m2:L ins<=8:=by have:=tk.insN.2;simpa[jN]using this
   have e2:=hB.trans a4;have m1:=e2.A gl;have w4:=w.R e2;have pC:=a4.A g3;have lV:∀ {P:N},P.A h2.Q=U (S Y 1 e.cells)->iz P h2.Q 0 34=U (.agg ⟨e.cells⟩):=fun g=>oJ g (by rw[iO.len];omega) (by rw[iO.len];omega);by_cases q4:i < L ins
   ·have hg:(i:Int) < (L ins:Int):=jA
    have hw:=wS (i:=i) jA;obtain⟨x,P⟩:∃ x,ins[i]? = U x:=⟨_,List.getElem?_eq_getElem q4⟩;obtain⟨bk,off, -,x1,x2, -⟩:=wI (b:=b) (nT b) rp (si.s.R e2) P;have p6:=(si.a x (List.mem_of_getElem? P)).R e2;obtain⟨hA,h5,q1,hm,hb,g5,a5,n5⟩:=s6 b (AI b) (l:=x.cells) (by rw[ik.len,rp]) (by kernel_rfl) h4;have c1:iz h5 h4.Q 0 33=U (.agg ⟨x.pt.cells⟩):=by rw[Uh g5 (by rw[ik.len];omega),bw,K9]
    obtain⟨o,ho⟩:∃ o,o=jG ls x.pt:=⟨_,rfl⟩;have w5:=w4.R a5;have lk:mW (E b).toiS 69 (.map (U mb)) (.agg ⟨x.pt.cells⟩) Y h5=U (.tuple #[.agg ⟨pZ o⟩,.bool o.isSome]):=by
     rw[J9u b w5 x.pt,<- ho];cases o <;> rfl
    have lc:L (pZ o)=3:=by cases o <;> rfl
    obtain⟨hC,h6,pD,cb,eA,g6,a6,n6⟩:=s6 b (Kt b) (l:=pZ o) (by rw[lc,LX]) (by kernel_rfl) h5;have pE:Jr h5 lb 1=U (.map (U mb)):=by rw[Zy (a5.A m1)];rfl
    have p5:=Vbn (a:=aa) (m:=jx ls) (l:=ins.map ik.p) (i:=i) (x:=x.p) (by rw[List.getElem?_map,P];rfl) T;rw[p5]at C;have em:jx ls x.p.pt=o.map LV.c:=(by rw[ho];rfl);rw[em]at C;simp[jV,t0,t3,t7,t8,t37,t38,t39,q4,hg,x1,x2,q1,hm,hb];refine ju [] kA Xlm Xp2 Xld (by simp[Xt2,Xpx,jg,t0,pE,c1,lk,-yO,pD,cb,eA,lc];first | exact⟨rfl,rfl⟩ | rfl) ?_ ?_
    ·simp[CU]
    have s1:=a5.trans a6;cases o with
    | none =>
     simp only[d9]at C;rw[C]at hk;simp[jV,t0,t3,t7,t8,t37,t38,t39];exact hk h6 (e2.trans s1)
    | some y =>
     simp only[aL]at C;obtain⟨q,hq, -,rfl⟩:=KF ho.symm;have hy:=(w4.hs q hq).R s1;have cs:Jr h6 h5.Q 1=U q.c.sv:=(by rw[Zy g6];rfl);have cv:∀ {P:N},P.A h5.Q=U (S Y 1 (pZ (U q.c)))->Jr P h5.Q 0=U (I X q.c.value):=fun g=>by rw[Zy g];rfl
     have cw:Jr h6 h4.Q 33=U x.wv:=(by rw[Zy (a6.A g5),J0n]);simp[jV,t0,t3,t7,t8,t37,t38,t39,cs,cw,lV (s1.A pC)];have e1:=p6.R s1;refine KC b hy.s hy.b e1.w e1.n e1.i ((n1.R a4).R s1) _ fun h7 a7 => ?_;have ha:=s1.trans a7;have er:s_ aa q.c.script (x.its.map (·.2))=s_ aa q.c.c.script x.p.wit:=rfl;by_cases hr:s_ aa q.c.script (x.its.map (·.2))=0
     ·rw[<- er,if_pos hr]at C;have hv:=hy.v;have ht:IntKind.i64.wrap (T+q.c.value)=T+q.c.value:=jW jA jA;simp[jV,t0,t3,t7,t8,t37,t38,t39,hr,cv (a7.A g6),ht,hw];exact⟨L ins-(i+1),jA,_,h7,i+1,T+q.c.value,rfl,jA,rfl,⟨by simp[t0],by simp[t3],by simp[t7],kA,by simp[t37],by simp[t38],kA⟩,a4.trans ha,jA,jA,C⟩
     ·rw[<- er,if_neg hr]at C;rw[C]at hk;simp[jV,t0,t3,t7,t8,t37,t38,t39,hr];exact hk h7 (e2.trans ha)
   ·have hg:¬ (i:Int) < (L ins:Int):=jA
    have : i=L ins:=jA;subst this;rw[cF kA]at C;have C:vu aa (jx ls) (ins.map ik.p) 0=.ok T:=C;rw[C]at hk;have g4:=a4.A hL;simp[jV,t0,t3,t7,t8,t37,t38,t39,hg,(c0 g4).2.1,p2];have b1:=Ju9 tk.vals jA;have eB:L outs<=8:=(by have:=tk.outsN.2;simpa[jN]using this);refine jE (VI2 ov outs h4 T) (L outs) ⟨_,h4,0,rfl,jA,rfl,by simp[t8,lG],kA,kA,kA,a_.refl _⟩ ?_;rintro k s' ⟨t,h5,j,rfl,hj,rfl,t8,v',m0,r1,a5⟩ -;by_cases aA:j < L outs
    ·have hz:(j:Int) < (L outs:Int):=jA
     have hw:=wS (i:=j) jA;obtain⟨x,P⟩:∃ x,outs[j]? = U x:=⟨_,List.getElem?_eq_getElem aA⟩;obtain⟨bk,off, -,x1,x2, -, -⟩:=yp (b:=b) (nU b) qF (so.s.R (e2.trans a5)) P;obtain⟨hA,h6,q1,hm,hb,g6,a6,n6⟩:=s6 b (y_ b) (l:=x.cells) (by rw[fm.len,qF]) (by kernel_rfl) h5;have cv:Jr h6 h5.Q 0=U (I X x.value):=by rw[Zy g6];rfl
     have e3:∀ o ∈ (jN ins outs lock).outs,1<=o.value/\o.value<=1125899906842624:=Ln tk.vals jA;have aB:=Jzf P;have pB:∀ l:List jB,(∀ o ∈ l,1<=o.value)->0<=lG l:=by
      intro l;induction l with
      | nil=>intro _;simp[lG]
      | cons o l ih =>
       intro ho;have h1:=ho o kA;have h2:=ih fun q hq=>ho q (by simp[hq]);have e:lG (o::l)=o.value+lG l:=by simp[lG]
       rw[e];omega
     have ch:=pB ((outs.map fm.p).take (j+1)) fun o ho=>by
      exact(e3 o (cI ho)).1
     have hR:=pB ((outs.map fm.p).drop (j+1)) fun o ho=>by
      exact(e3 o (dj ho)).1
     have ud:lG (jN ins outs lock).outs=lG ((outs.map fm.p).take (j+1))+lG ((outs.map fm.p).drop (j+1)):=by
      show lG (outs.map fm.p)=_;rw[<- J6u,bf]
     have ht:IntKind.i64.wrap (T-lG ((outs.map fm.p).take j)-x.value)=T-lG ((outs.map fm.p).take (j+1)):=by
      rw[jW jA jA];omega
     simp[jV,t8,v',m0,r1,aA,hz,x1,x2,-jV,q1,hm,hb,cv,ht,hw];exact⟨L outs-(j+1),jA,_,h6,j+1,rfl,jA,rfl,kA,by simp[v'],by simp[m0],kA,a5.trans a6⟩
    ·have hz:¬ (j:Int) < (L outs:Int):=jA
     have : j=L outs:=jA;subst this;rw[ai kA]at t8;have hk:=hk h5 (e2.trans a5);by_cases Z':T-lG (outs.map fm.p) < 0
     ·simp only[Z',if_true]at hk;simp[jV,t8,v',m0,r1,Z'];exact hk
     ·simp only[Z',if_false]at hk;simp[jV,t8,v',m0,r1,Z'];exact hk
 ·have p1:=hk h1 hn;unfold uk at p1;rw[if_neg hc]at p1;simp[jV,hc];exact p1
end
end Go.Proofs.YtbhojjejgmfgmaaGreatDoor
end
