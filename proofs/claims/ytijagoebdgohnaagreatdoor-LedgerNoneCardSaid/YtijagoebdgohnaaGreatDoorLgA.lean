import Derived.Test.YtijagoebdgohnaaGreatDoorBlA
import Derived.Test.YtijagoebdgohnaaGreatDoorTxA
import Derived.Test.YtijagoebdgohnaaGreatDoorScB
set_option linter.all false
noncomputable section
namespace Go.Proofs.YtijagoebdgohnaaGreatDoor
open Go Go.Ab
set_option maxRecDepth 100000
def Jea{P:Program}{E1:Env2 P}{C:CallP}{x:Operand}{isS:Bool}{d:Option Tmp}{s:St}{K:Exit->St->Prop}{it:Value}(hit:aev E1.G s.t x=some it)(hdie:C.die=true)(hne:Qvk it isS s.h ≠ [])(hall:∀ y ∈ Qvk it isS s.h,K .normal (s.put d y.1 y.2)):Xjx E1 C x isS d s K:=by
 unfold Xjx;rw[hit];exact .inr ⟨hdie,hne,hall⟩
def Yrd(seen:List Nat):∀ (es:List MapEntry) (e:MapEntry),e ∈ Xie seen es↔e ∈ es/\e.born ∉ seen
 | [],e=>by simp[Xie]
 | x::es,e=>by
  have ih:=Yrd seen es e;unfold Xie;rw[Zva];cases hc:seen.contains x.born with
  | true =>
   simp only;rw[ih];simp only[ax];constructor
   ·exact fun⟨h1,h2⟩=>⟨.inr h1,h2⟩
   ·rintro⟨rfl | h1,h2⟩
    ·simp at hc;exact absurd hc h2
    ·exact⟨h1,h2⟩
  | false =>
   simp only[ax];rw[ih];constructor
   ·rintro(rfl | ⟨h1,h2⟩)
    ·exact⟨.inl rfl,by simpa using hc⟩
    ·exact⟨.inr h1,h2⟩
   ·rintro⟨rfl | h1,h2⟩
    ·exact .inl rfl
    ·exact .inr ⟨h1,h2⟩
def Z4j{n:Nat}:∀ {l:List MapEntry},(∀ e ∈ l,e.born < n)->Zzy n l=l/\Z1y n l=[]
 | [],_=>⟨rfl,rfl⟩
 | e::l,h=>by
  obtain⟨h1,h2⟩:=Z4j (l:=l) fun x hx=>h x (by simp[hx]);have : Nat.blt e.born n=true:=by simpa using h e (by simp)
  unfold Zzy Z1y;rw[this];exact⟨by simp[h1],h2⟩
structure Born (es:List MapEntry) (clk:Nat):Prop where
 lt:∀ e ∈ es,e.born < clk
 nd:(es.map (·.born)).Nodup
def Zl6:∀ {l:List MapEntry},(l.map (·.born)).Nodup->∀ {e:MapEntry},e ∈ l->X1o e.born l=some e
 | [],_,_,h=>by cases h
 | x::l,nd,e,h=>by
  rw[aR,dH]at nd;unfold X1o;by_cases hx:x.born=e.born
  ·rw[show Nat.beq x.born e.born=true by rw[hx];simp];rcases ax.1 h with rfl | h
   ·rfl
   ·exact absurd (ao.2 ⟨e,h,hx.symm⟩) nd.1
  ·rw[show Nat.beq x.born e.born=false by rw[ce];intro q;exact hx (aY q)];rcases ax.1 h with rfl | h
   ·exact absurd rfl hx
   ·exact Zl6 nd.2 h
def Z77{h:Heap}{r mb clk:Nat}{es:List MapEntry}{vis:List Nat}(B:Born es clk)(hr:h.get r=some (.obj (.mapIter (some mb) clk ⟨vis⟩ clk)))(hm:h.get mb=some (.map ⟨es⟩ clk)) :
  Qvk (.pointer (some ⟨r,0,none⟩)) false h ≠ []/\∀ y ∈ Qvk (.pointer (some ⟨r,0,none⟩)) false h,((∀ e ∈ es,e.born ∈ vis)/\y=(.tuple #[.bool false],h)) ∨
   ∃ e ∈ es,e.born ∉ vis/\y=(.tuple #[.bool true,e.key,e.val],h.set r (some (.obj (.mapIter (some mb) clk ⟨vis ++ [e.born]⟩ clk)))):=by
 have hb:Y9a es vis clk=false:=by
  unfold Y9a;split
  ·rfl
  ·rfl
  ·rename_i h1 h2;cases es with
   | nil=>exact absurd rfl h2
   | cons p l =>
    have : Nat.ble clk p.born=false:=by
     rw[ce];intro q;have:=B.lt p (by simp);have:=d8 q;omega
    simp only[Ztn,this]
 have hl:∀ e ∈ Xie vis es,e.born < clk:=fun e he=>B.lt e ((Yrd _ _ _).1 he).1;obtain⟨o1,o2⟩:=Z4j hl;have hn:Qvk (.pointer (some ⟨r,0,none⟩)) false h=(X8o es clk vis).map (Yj0 r mb clk ⟨vis⟩ clk h):=by
  simp only[Qvk,hr,hm,hb]
 have hc:X8o es clk vis=match Xie vis es with | []=>[none] | e::l=>(e::l).map some:=by
  unfold X8o Z2x;rw[o1,o2];cases Xie vis es with
  | nil=>rfl
  | cons e l=>simp
 rw[hn,hc];cases hle:Xie vis es with
 | nil =>
  refine⟨by simp,fun y hy => .inl ⟨fun e he => ?_,?_⟩⟩
  ·apply cF;intro hn;have:=(Yrd vis _ _).2 ⟨he,hn⟩;rw[hle]at this;cases this
  ·simpa[Yj0]using hy
 | cons e l =>
  refine⟨by simp,fun y hy => ?_⟩;simp only[ca]at hy;obtain⟨x,hx,rfl⟩:=ao.1 hy;rw[<- hle]at hx;obtain⟨h1,h2⟩:=(Yrd _ _ _).1 hx;exact .inr ⟨x,h1,h2,by simp[Yj0]⟩
def Z0x{h:Heap}{r mb clk:Nat}{es:List MapEntry}{vis:List Nat}{e:MapEntry}(B:Born es clk)(hr:h.get r=some (.obj (.mapIter (some mb) clk ⟨vis ++ [e.born]⟩ clk)))(hm:h.get mb=some (.map ⟨es⟩ clk))(he:e ∈ es) :
  Y8z (.pointer (some ⟨r,0,none⟩)) h=some (.tuple #[e.key,e.val]):=by
 have hl:∀ (l:List Nat) (x:Nat),Z02 (l ++ [x])=some x:=by
  intro l x;induction l with
  | nil=>rfl
  | cons a l ih =>
   cases l with
   | nil=>rfl
   | cons c l=>exact ih
 simp only[Y8z,hr,hl,hm,show Nat.beq clk clk=true by simp,Zl6 B.nd he]
def Born.push{es:List MapEntry}{clk:Nat}(B:Born es clk)(k v:Value):Born (es ++ [⟨k,v,clk⟩]) (clk+1):=by
 refine⟨fun e he => ?_,?_⟩
 ·rcases ac.1 he with q | q
  ·have:=B.lt e q;omega
  ·simp at q;rw[q];show clk < clk+1;omega
 ·rw[bc,dM];refine⟨B.nd,by simp,fun x hx y hy e => ?_⟩;obtain⟨z,hz,rfl⟩:=ao.1 hx;simp at hy;have:=B.lt z hz;omega
def Born.erase{es:List MapEntry}{clk:Nat}(B:Born es clk)(i:Nat):Born (es.eraseIdx i) clk :=
 ⟨fun e he=>B.lt e (List.mem_of_mem_eraseIdx he),List.Nodup.sublist (List.Sublist.map _ (List.eraseIdx_sublist es i)) B.nd⟩
structure IE where
 key:Int
 val:Value
 born:Nat
def IE.e(x:IE):MapEntry:=⟨.int .i64 x.key,x.val,x.born⟩
structure PC where
 value:Int
 script:List Int
 made:Int
abbrev Qo1:=Pt->Option PC
def Yez(m:Qo1)(p:Pt)(c:Option PC):Qo1:=fun q=>if q=p then c else m q
def Yww(m:Qo1)(p:Pt)(c:Option PC):Yez m p c p=c:=if_pos rfl
def Zu7{m:Qo1}{p q:Pt}{c:Option PC}(h:q≠p):Yez m p c q=m q:=if_neg h
def Z5v(m:Qo1)(p:Pt)(c d:Option PC):Yez (Yez m p c) p d=Yez m p d:=by
 funext q;unfold Yez;by_cases h:q=p <;> simp[h]
def Jav(m:Qo1)(p:Pt):Yez m p (m p)=m:=by
 funext q;unfold Yez;by_cases h:q=p <;> simp[h]
structure LV where
 value:Int
 sv:Value
 script:List Int
 made:Int
def LV.c(x:LV):PC:=⟨x.value,x.script,x.made⟩
def LV.cells(x:LV):List Value:=[.int .i64 x.value,x.sv,.int .i64 x.made]
def LV.v(x:LV):Value:=.agg ⟨x.cells⟩
structure LC where
 key:Pt
 c:LV
 born:Nat
def LC.pe(x:LC):PE:=⟨x.key,x.c.v,x.born⟩
def Qq2(l:List LC):List PE:=l.map LC.pe
def Z4q(l:List LC):(Qq2 l).length=l.length:=by simp[Qq2]
def Z2l(l:List LC):(Qq2 l).map (·.key)=l.map (·.key):=by rw[Qq2,ca];rfl
def atL:List LC->Pt->Option LV
 | [],_=>none
 | x::l,p=>if p=x.key then some x.c else atL l p
def Qcv(l:List LC):Qo1:=fun p=>(atL l p).map LV.c
def Zsf(p:Pt):∀ (l:List LC) (j:Nat),(Q28 p (Qq2 l) j).map (·.2)=(atL l p).map LV.v
 | [],_=>rfl
 | x::l,j=>by
  show(if p=x.key then some (j,x.c.v)else Q28 p (Qq2 l) (j+1)).map (·.2)=(if p=x.key then some x.c else atL l p).map LV.v;by_cases h:p=x.key
  ·rw[if_pos h,if_pos h];rfl
  ·rw[if_neg h,if_neg h,Zsf p l (j+1)]
def Yhu{p:Pt}{l:List LC}:Q28 p (Qq2 l) 0=none↔atL l p=none:=by
 have:=Zsf p l 0;cases hf:Q28 p (Qq2 l) 0 with
 | none=>rw[hf]at this;cases ha:atL l p with
  | none=>simp
  | some x=>rw[ha]at this;cases this
 | some q=>rw[hf]at this;cases ha:atL l p with
  | none=>rw[ha]at this;cases this
  | some x=>simp
def Y8n{p:Pt}{x:LV}:∀ {l:List LC},atL l p=some x->∃ y ∈ l,y.key=p/\y.c=x
 | [],h=>by cases h
 | y::l,h=>by
  unfold atL at h;by_cases hk:p=y.key
  ·rw[if_pos hk]at h;cases h;exact⟨y,by simp,hk.symm,rfl⟩
  ·rw[if_neg hk]at h;obtain⟨z,hz,q⟩:=Y8n h;exact⟨z,by simp[hz],q⟩
def X98{p:Pt}{l:List LC}:atL l p≠none↔p ∈ l.map (·.key):=by
 constructor
 ·intro h;cases ha:atL l p with
  | none=>exact absurd ha h
  | some x =>
   obtain⟨y,hy,rfl, -⟩:=Y8n ha;exact ao.2 ⟨y,hy,rfl⟩
 ·intro h e;obtain⟨y,hy,rfl⟩:=ao.1 h;exact Yjf.1 (Yhu.2 e) y.pe (ao.2 ⟨y,hy,rfl⟩) rfl
def Zp8(p:Pt)(x:LV):List LC->List LC
 | []=>[]
 | y::l=>if p=y.key then {y with c:=x}::l else y::Zp8 p x l
def Y8x(p:Pt)(x:LV):∀ l:List LC,Z1l p x.v (Qq2 l)=Qq2 (Zp8 p x l)
 | []=>rfl
 | y::l=>by
  show(if p=y.key then({y.pe with val:=x.v}:PE)::Qq2 l else y.pe::Z1l p x.v (Qq2 l))=Qq2 (if p=y.key then {y with c:=x}::l else y::Zp8 p x l);by_cases h:p=y.key
  ·rw[if_pos h,if_pos h];rfl
  ·rw[if_neg h,if_neg h,Y8x p x l];rfl
def Yrn(p:Pt)(x:LV):∀ l:List LC,(Zp8 p x l).map (·.key)=l.map (·.key)
 | []=>rfl
 | y::l=>by
  unfold Zp8;by_cases h:p=y.key
  ·rw[if_pos h];rfl
  ·rw[if_neg h,aR,aR,Yrn p x l]
def Zlf(p:Pt)(x:LV):∀ l:List LC,(Zp8 p x l).map (·.born)=l.map (·.born)
 | []=>rfl
 | y::l=>by
  unfold Zp8;by_cases h:p=y.key
  ·rw[if_pos h];rfl
  ·rw[if_neg h,aR,aR,Zlf p x l]
def Zfj{p:Pt}{x:LV}:∀ {l:List LC} {z:LC},z ∈ Zp8 p x l->z ∈ l∨z.c=x
 | [],_,h=>by cases h
 | y::l,z,h=>by
  unfold Zp8 at h;by_cases hk:p=y.key
  ·rw[if_pos hk]at h;rcases ax.1 h with rfl | h
   ·exact .inr rfl
   ·exact .inl (by simp[h])
  ·rw[if_neg hk]at h;rcases ax.1 h with rfl | h
   ·exact .inl (by simp)
   ·exact(Zfj h).imp (fun q=>by simp[q]) id
def Z54{p:Pt}{x:LV}:∀ {l:List LC},atL l p≠none->∀ q,atL (Zp8 p x l) q=if q=p then some x else atL l q
 | [],h,_=>absurd rfl h
 | y::l,h,q=>by
  unfold Zp8;by_cases hk:p=y.key
  ·rw[if_pos hk];show(if q=y.key then some x else atL l q)=_;by_cases hq:q=p
   ·rw[if_pos hq,if_pos (by rw[hq,hk])]
   ·rw[if_neg hq,if_neg (fun e=>hq (by rw[e,hk])),atL,if_neg (fun e=>hq (by rw[e,hk]))]
  ·rw[if_neg hk];rw[atL,if_neg hk]at h;show(if q=y.key then some y.c else atL (Zp8 p x l) q)=_;rw[Z54 h q,atL];by_cases hq:q=y.key
   ·rw[if_pos hq,if_pos hq,if_neg (fun e=>hk (by rw[<- e,hq]))]
   ·rw[if_neg hq,if_neg hq]
def Z9t{p:Pt}{x:LV}{k:Nat}:∀ {l:List LC},atL l p=none->∀ q,atL (l ++ [⟨p,x,k⟩]) q=if q=p then some x else atL l q
 | [],_,q=>rfl
 | y::l,h,q=>by
  rw[atL]at h;by_cases hk:p=y.key
  ·rw[if_pos hk]at h;cases h
  ·rw[if_neg hk]at h;show(if q=y.key then some y.c else atL (l ++ [⟨p,x,k⟩]) q)=_;rw[Z9t h q,atL];by_cases hq:q=y.key
   ·rw[if_pos hq,if_pos hq,if_neg (fun e=>hk (by rw[<- e,hq]))]
   ·rw[if_neg hq,if_neg hq]
def Ypa(p:Pt):List LC->List LC
 | []=>[]
 | y::l=>if p=y.key then l else y::Ypa p l
def Ykc{p:Pt}:∀ {l:List LC},atL l p=none->Ypa p l=l
 | [],_=>rfl
 | y::l,h=>by
  rw[atL]at h;by_cases hk:p=y.key
  ·rw[if_pos hk]at h;cases h
  ·rw[if_neg hk]at h;rw[Ypa,if_neg hk,Ykc h]
def Ybd{p:Pt}:∀ {l:List LC} {j i:Nat} {v:Value},Q28 p (Qq2 l) j=some (i,v)->l.eraseIdx (i-j)=Ypa p l
 | [],_,_,_,h=>by cases h
 | y::l,j,i,v,h=>by
  have h':(if p=y.key then some (j,y.c.v)else Q28 p (Qq2 l) (j+1))=some (i,v):=h;rw[Ypa];by_cases hk:p=y.key
  ·rw[if_pos hk]at h' ⊢;cases h';rw[Nat.sub_self];rfl
  ·rw[if_neg hk]at h' ⊢;obtain⟨_,_,hle,_⟩:=Xlp h';rw[show i-j=(i-(j+1))+1 by omega,List.eraseIdx_cons_succ,Ybd h']
def Xj5(p:Pt):∀ l:List LC,(Ypa p l).Sublist l
 | []=>by simp[Ypa]
 | y::l=>by
  rw[Ypa];by_cases h:p=y.key
  ·rw[if_pos h];exact List.sublist_cons_self _ _
  ·rw[if_neg h];exact(Xj5 p l).cons_cons _
def Zvt{p:Pt}:∀ {l:List LC},(l.map (·.key)).Nodup->∀ q,atL (Ypa p l) q=if q=p then none else atL l q
 | [],_,q=>by simp[Ypa,atL]
 | y::l,nd,q=>by
  rw[aR,dH]at nd;rw[Ypa];by_cases hk:p=y.key
  ·rw[if_pos hk];by_cases hq:q=p
   ·rw[if_pos hq];cases ha:atL l q with
    | none=>rfl
    | some x =>
     refine absurd (X98.1 (by rw[ha];simp:atL l q≠none)) ?_;rw[hq,hk];exact nd.1
   ·rw[if_neg hq,atL,if_neg (fun e=>hq (by rw[e,hk]))]
  ·rw[if_neg hk,atL,Zvt nd.2 q,atL];by_cases hq:q=y.key
   ·rw[if_pos hq,if_pos hq,if_neg (fun e=>hk (by rw[<- e,hq]))]
   ·rw[if_neg hq,if_neg hq]
structure LvAt (h:Heap) (x:LV):Prop where
 s:SB h x.sv x.script
 b:Bytes x.script
 l:x.script.length < 1000000
 v:0<=x.value/\x.value<=1125899906842624
def LvAt.old{h h':Heap}{x:LV}(a:LvAt h x)(o:Old h h'):LvAt h' x:=⟨a.s.old o,a.b,a.l,a.v⟩
structure CoM (h:Heap) (mb clk:Nat) (ls:List LC):Prop where
 gm:h.get mb=some (.map ⟨(Qq2 ls).map PE.e⟩ clk)
 B:Born ((Qq2 ls).map PE.e) clk
 hs:∀ x ∈ ls,LvAt h x.c
 nd:(ls.map (·.key)).Nodup
 kb:∀ x ∈ ls,PtB x.key
def CoM.old{h h':Heap}{mb clk:Nat}{ls:List LC}(w:CoM h mb clk ls)(a:Old h h'):CoM h' mb clk ls :=
 ⟨a.get w.gm,w.B,fun x hx=>(w.hs x hx).old a,w.nd,w.kb⟩
def X9c{h:Heap}{z n c:Nat}{v:Value}{xs:List Value}(s:Sl h z v n xs)(hc:J6 v=some c):∃ ow z' l,h.get c=some (.cells ow z' l):=by
 rcases s with⟨_,rfl,_,rfl,rfl⟩ | ⟨bk,o,_,ow,z',pre,post,rfl,g1,_⟩
 ·cases hc
 ·cases hc;exact⟨_,_,_,g1⟩
def Sl.setMap{h:Heap}{z n mb clk:Nat}{v:Value}{xs:List Value}{es:Array MapEntry}(s:Sl h z v n xs)(gm:h.get mb=some (.map es clk))(x:Option Blk):Sl (h.set mb x) z v n xs:=s.keep fun c hb _=>by
 rw[gY (Heap.get_lt gm),if_neg fun e => ?_];obtain⟨_,_,_,g⟩:=X9c s hb;rw[<- e,gm]at g;cases g
def LvAt.setMap{h:Heap}{mb clk:Nat}{y:LV}{es:Array MapEntry}(a:LvAt h y)(gm:h.get mb=some (.map es clk))(x:Option Blk):LvAt (h.set mb x) y:=⟨Sl.setMap a.s gm x,a.b,a.l,a.v⟩
def Xju{h:Heap}{mb clk c z:Nat}{ow:Bool}{l:List Value}{es:Array MapEntry}(g:h.get c=some (.cells ow z l))(gm:h.get mb=some (.map es clk))(x:Option Blk):(h.set mb x).get c=some (.cells ow z l):=by
 rw[gY (Heap.get_lt gm),if_neg fun e=>by rw[<- e,gm]at g;cases g];exact g
def mdC:R79.desc=.map 53 84:=kR
def Ji7:R84.zero=.agg ⟨[.int .i64 0,.slice none 0 0,.int .i64 0]⟩:=kR
def Z1q(b:Nat){h:Heap}{mb clk:Nat}{ls:List LC}(w:CoM h mb clk ls)(p:Pt) :
  Qoh (E b).toEnv 79 (.map (some mb)) (.agg ⟨p.cells⟩) true h=some (match atL ls p with | some x => .tuple #[.agg ⟨x.cells⟩,.bool true] | none => .tuple #[.agg ⟨[.int .i64 0,.slice none 0 0,.int .i64 0]⟩,.bool false]):=by
 have lk:=(Jet (b:=b) (Zrc b) mdC w.gm (Zxu b) p).2;have fa:=Zsf p ls 0;rw[lk];cases hf:Q28 p (Qq2 ls) 0 with
 | none =>
  rw[Yhu.1 hf,Ji7]
 | some q =>
  rw[hf]at fa;cases ha:atL ls p with
  | none=>rw[ha]at fa;cases fa
  | some x =>
   rw[ha]at fa;have : q.2=x.v:=bE fa;simp only[this];rfl
def Jaf(b:Nat){h:Heap}{mb clk:Nat}{ls:List LC}(w:CoM h mb clk ls){p:Pt}(hp:PtB p){x:LV}(hx:LvAt h x) :
  ∃ ls' clk' h',Qgl (E b).toEnv 79 (.map (some mb)) (.agg ⟨p.cells⟩) (.agg ⟨x.cells⟩) h=some h'/\h'=h.set mb (some (.map ⟨(Qq2 ls').map PE.e⟩ clk'))/\CoM h' mb clk' ls'/\Qcv ls'=Yez (Qcv ls) p (some x.c)/\ls'.length<=ls.length+1/\∀ y ∈ ls',y ∈ ls∨y.c=x:=by
 cases hf:Q28 p (Qq2 ls) 0 with
 | none =>
  have ha:=Yhu.1 hf;have up:=Z47 (b:=b) (Zrc b) mdC w.gm hf (.agg ⟨x.cells⟩);have eL:Qq2 ls ++ [(⟨p,.agg ⟨x.cells⟩,clk⟩:PE)]=Qq2 (ls ++ [⟨p,x,clk⟩]):=by simp[Qq2,LC.pe,LV.v]
  rw[eL]at up;refine⟨ls ++ [⟨p,x,clk⟩],clk+1,_,up,rfl,⟨by rw[gY (Heap.get_lt w.gm),if_pos rfl],?_,fun z hz => ?_,?_,fun z hz => ?_⟩,?_,by simp,fun y hy => ?_⟩
  ·rw[<- eL];have:=w.B.push (.agg ⟨p.cells⟩) (.agg ⟨x.cells⟩);simpa[PE.e]using this
  ·rcases ac.1 hz with q | q
   ·exact(w.hs z q).setMap w.gm _
   ·rw[aw.1 q];exact hx.setMap w.gm _
  ·rw[bc,dM];refine⟨w.nd,by simp,fun a h1 c h2 e => ?_⟩;simp at h2;subst e h2;exact absurd ha (X98.2 h1)
  ·rcases ac.1 hz with q | q
   ·exact w.kb z q
   ·rw[aw.1 q];exact hp
  ·funext q;unfold Qcv Yez;rw[Z9t ha q];by_cases e:q=p <;> simp[e]
  ·rcases ac.1 hy with q | q
   ·exact .inl q
   ·rw[aw.1 q];exact .inr rfl
 | some q =>
  obtain⟨i,v⟩:=q;have ha:atL ls p≠none:=fun e=>by rw[Yhu.2 e]at hf;cases hf
  have up:=Zly (b:=b) (Zrc b) mdC w.gm hf (.agg ⟨x.cells⟩);have eL:Z1l p (.agg ⟨x.cells⟩) (Qq2 ls)=Qq2 (Zp8 p x ls):=Y8x p x ls;rw[eL]at up;refine⟨Zp8 p x ls,clk,_,up,rfl,⟨by rw[gY (Heap.get_lt w.gm),if_pos rfl],?_,fun z hz => ?_,by rw[Yrn];exact w.nd,fun z hz => ?_⟩,?_,by have:=congrArg List.length (Yrn p x ls);simp at this;omega,fun y hy=>Zfj hy⟩
  ·have e2:((Qq2 (Zp8 p x ls)).map PE.e).map (·.born)=((Qq2 ls).map PE.e).map (·.born):=by
    have : ∀ l:List LC,((Qq2 l).map PE.e).map (·.born)=l.map (·.born):=fun l=>by simp[Qq2,PE.e,LC.pe]
    rw[this,this,Zlf]
   exact⟨fun e he=>by
    have : e.born ∈ ((Qq2 (Zp8 p x ls)).map PE.e).map (·.born):=ao.2 ⟨e,he,rfl⟩;rw[e2]at this;obtain⟨e',he',eb⟩:=ao.1 this;rw[<- eb];exact w.B.lt e' he',by rw[e2];exact w.B.nd⟩
  ·rcases Zfj hz with q | q
   ·exact(w.hs z q).setMap w.gm _
   ·rw[q];exact hx.setMap w.gm _
  ·have : z.key ∈ (Zp8 p x ls).map (·.key):=ao.2 ⟨z,hz,rfl⟩;rw[Yrn]at this;obtain⟨y,hy,ey⟩:=ao.1 this;rw[<- ey];exact w.kb y hy
  ·funext q;unfold Qcv Yez;rw[Z54 ha q];by_cases e:q=p <;> simp[e]
def Jfr(b:Nat){h:Heap}{mb clk:Nat}{ls:List LC}(w:CoM h mb clk ls)(p:Pt) :
  ∃ ls' h',Xs7 (E b).toEnv 79 (.map (some mb)) (.agg ⟨p.cells⟩) h=some (.tuple #[],h')/\h'=h.set mb (some (.map ⟨(Qq2 ls').map PE.e⟩ clk))/\CoM h' mb clk ls'/\Qcv ls'=Yez (Qcv ls) p none/\ls'.length<=ls.length/\∀ y ∈ ls',y ∈ ls:=by
 have hq:=Zcy p (Qq2 ls);refine⟨Ypa p ls,_,?_,rfl,⟨by rw[gY (Heap.get_lt w.gm),if_pos rfl],?_,fun z hz=>(w.hs z ((Xj5 p ls).subset hz)).setMap w.gm _,w.nd.sublist ((Xj5 p ls).map _),fun z hz=>w.kb z ((Xj5 p ls).subset hz)⟩,?_,(Xj5 p ls).length_le,fun y hy=>(Xj5 p ls).subset hy⟩
 ·simp only[Xs7,Zrc,mdC,Ymv,w.gm,hq];cases hf:Q28 p (Qq2 ls) 0 with
  | none=>simp[Ykc (Yhu.1 hf)]
  | some q =>
   obtain⟨i,v⟩:=q;have e:=Ybd hf;rw[dq]at e;simp only[Array.eraseIdxIfInBounds];congr 4;by_cases hi:i < ((Qq2 ls).map PE.e).length
   ·rw[dif_pos (by simpa using hi)];rw[<- e];simp[Qq2];have e3:∀ (l:List LC) (i:Nat),(l.map (PE.e ∘ LC.pe)).eraseIdx i=(l.eraseIdx i).map (PE.e ∘ LC.pe):=by
     intro l;induction l with
     | nil=>intro i;simp
     | cons y l ih=>intro i;cases i with
      | zero=>rfl
      | succ i=>simp[ih]
    exact e3 ls i
   ·rw[dif_neg (by simpa using hi),<- e,List.eraseIdx_of_length_le (by simp[Qq2]at hi;omega)]
 ·unfold Qcv at *;cases hf:Q28 p (Qq2 ls) 0 with
  | none=>rw[Ykc (Yhu.1 hf)];exact w.B
  | some q =>
   obtain⟨i,v⟩:=q;have e:=Ybd hf;rw[dq]at e;rw[<- e];have:=w.B.erase i;have e3:∀ (l:List LC) (i:Nat),((Qq2 l).map PE.e).eraseIdx i=(Qq2 (l.eraseIdx i)).map PE.e:=by
    intro l;induction l with
    | nil=>intro i;simp[Qq2]
    | cons y l ih=>intro i;cases i with
     | zero=>rfl
     | succ i=>simpa[Qq2]using ih i
   rw[e3]at this;exact this
 ·funext q;unfold Qcv Yez;rw[Zvt w.nd q];by_cases e:q=p <;> simp[e]
def Q3z(b:Nat)(z:Int){v:Value}{h:Heap}{n:Nat}{xs:List Value}(s:Sl h 1 v n xs):Qm8 (E b).toEnv 60 [(0,.int .i64 z),(1,v)]=some (.agg ⟨[.int .i64 z,v]⟩):=by
 rcases s with⟨c,rfl,_⟩ | ⟨bk,o,c,ow,z',pre,post,rfl,_⟩
 ·kernel_rfl
 ·kernel_rfl
attribute [local simp] Xn kON kOC Xp kNN kNP kRR kRP kEN kER Q4 Xb Z5 Yk aop Qe nth Ab.g0 gv gs Qb Qa aev evs evO Qf Tr.get_put St.put Tm.put flat flatA Yj Qk Qn Ql Qm Qi Qj Qh Qr Qg Q5 Q6 kTN kTR kTX kTP kBN kBR kBX kBP kCS kCR kCE kAM Xo.putAll Qy Q9 Q3 Q0 Q8 Qc Qd Q1 Q2 Q7 Ya Wl Yx ldv Nat.testBit Z7 loadAt Ab.runT J1 W8 Zc Yr Vh Qo4
section
attribute [local simp] Qa9
def Jf8(b:Nat){h:Heap}{sv:Value}{xs:List Int}(s:SB h sv xs)(hl:xs.length < 1000000)(K:KP)(hk:∀ v' h',OB h' h.next v' xs->Old h h'->K (.ret v') h'):FK b 58 [sv] h K:=by
 by_cases hb:J6 sv=none
 ·rcases s with⟨c,rfl,q1,q2,q3⟩ | ⟨_,_,_,_,_,_,_,rfl,_⟩
  ·refine F3 b (Qa9 b) Xta rfl ?_;have e0:Y40 (E b).toEnv .eql 57 (.slice none 0 c) (.slice none 0 0)=some (.bool true):=by simp[Y40,aEq,Xwa,(T57 b).d]
   simp[Q6z,X71,Xt9,Xtz,q2,e0];refine hk _ h ?_ (Old.refl _);have : xs=[]:=by simpa using q3
   subst this;exact Own.nil
  ·simp[J6]at hb
 ·exact Y8y b s hb (by omega) K hk
def Zbs(b:Nat){h:Heap}{v:Int}{sv:Value}{script:List Int}(s:SB h sv script)(hl:script.length < 1000000)(K:KP)(hk:∀ sv' h',OB h' h.next sv' script->Old h h'->K (.ret (.agg ⟨[.int .i64 v,sv']⟩)) h'):FK b 36 [.agg ⟨[.int .i64 v,sv]⟩] h K:=by
 refine F3 b (Jm b) Yh4 rfl ?_;obtain⟨hA,eA⟩:∃ hA,hA=h.push (.cells true 1 [.int .i64 v,sv]):=⟨_,rfl⟩;have bx:=Q0e eA;have aA:=Qpm eA;have gA:hA.get h.next=some (.cells true 1 [.int .i64 v,sv]):=by rw[eA,Heap.get_push,if_pos rfl]
 simp[Qr6,Q1o,Jm,W8,V7,U2,Ve,J7,Qah,bx];obtain⟨hB,eB,aB,gB⟩:=Q5u hA [.int .i64 0,.slice none 0 0];rw[<- eB];obtain⟨_,h3,g3,n3,sv3,rfl,o3,a3⟩:=Jf8 b (s.old (aA.trans aB)) hl (fun r h' => ∃ v',r=.ret v'/\OB h' hB.next v' script/\Old hB h') (fun v' h' o a=>⟨v',rfl,o,a⟩);have c0:J3 hB h.next 0=some (.int .i64 v):=by rw[Za (aB.get gA)];rfl
 have c1:J3 hB h.next 1=some sv:=by rw[Za (aB.get gA)];rfl
 have gB3:=a3.get gB;have l3:=Heap.get_lt gB3;obtain⟨h4,e4⟩:∃ h4,h4=h3.set hA.next (some (.cells true 1 [.int .i64 v,sv3])):=⟨_,rfl⟩;have st4:Qbx (E b).toEnv 60 (.pointer (some ⟨hA.next,0,none⟩)) (.agg ⟨[.int .i64 v,sv3]⟩) h3=some h4:=by
  rw[Qxx (l:=[.int .i64 v,sv3]) (Yte b) (by rw[Qi0];rfl),e4];exact Ur gB3 (by simp)
 have g4:h4.get hA.next=some (.cells true 1 [.int .i64 v,sv3]):=by rw[e4,gY l3,if_pos rfl]
 have k4:∀ c,c≠hA.next->h4.get c=h3.get c:=fun c hc=>by rw[e4,gY l3,if_neg (Ne.symm hc)]
 have ag4:Qb9 h4 hA.next 0 2=some (.agg ⟨[.int .i64 v,sv3]⟩):=by rw[Vf g4 (by simp)];rfl
 refine Qg6 [⟨58,[sv],hB,sv3,h3,true⟩] ?_ X1e X5o X0t (by simp[Yai,Yg6,Yd8,Qr6,Q1o,Jm,V7,U2,Ve,J7,Qah,c0,c1,Q3z b v o3.sl,st4];first | exact⟨rfl,rfl⟩ | rfl) ?_ ?_
 ·exact zk1 ⟨g3,n3,fun _ c hc=>a3.2 c hc⟩
 ·simp[Qfy,Qr6,Q1o,Jm,V7,U2,Ve,J7,Qah,c0,Q5a]
 simp[Qr6,Q1o,Jm,W8,V7,U2,Ve,J7,Qah,Qfp,ag4];have nA:=Q8z eA;have nB:=Q8z eB;refine hk sv3 h4 ((o3.keep fun c hc _=>k4 c fun e=>by have:=(o3.from hc).1;omega).low (by omega)) ⟨by rw[e4];have:=a3.1;show h.next<=h3.next;omega,fun c hc=>by rw[k4 c (by omega),a3.2 c (by omega),aB.2 c (by omega),aA.2 c hc]⟩
end
structure BK where
 p:Pt
 c:Option LV
def Q08:Option LV->List Value
 | some x=>x.cells
 | none=>[.int .i64 0,.slice none 0 0,.int .i64 0]
def BkAt(h:Heap)(v:Value)(k:BK):Prop:=PtB k.p/\(∀ x,k.c=some x->LvAt h x)/\∃ bT bC bP,v=.func (.func 85) #[] #[.pointer (some ⟨bT,0,none⟩),.pointer (some ⟨bC,0,none⟩),.pointer (some ⟨bP,0,none⟩)] /\
 h.get bT=some (.cells true 1 [.bool k.c.isSome])/\h.get bC=some (.cells true 1 (Q08 k.c))/\h.get bP=some (.cells true 1 k.p.cells)
def BkAt.old{h h':Heap}{v:Value}{k:BK}(a:BkAt h v k)(o:Old h h'):BkAt h' v k:=by
 obtain⟨q1,q2,bT,bC,bP,e,g1,g2,g3⟩:=a;exact⟨q1,fun x hx=>(q2 x hx).old o,bT,bC,bP,e,o.get g1,o.get g2,o.get g3⟩
section
attribute [local simp] Qic Qpw Jy Ut Qgn W5 Qto Je2 Qmv
def Z1h(b:Nat){h:Heap}{lb mb z clk:Nat}{nt un:Value}{ls:List LC}(gl:h.get lb=some (.cells true z [nt,.map (some mb),un]))(w:CoM h mb clk ls){p:Pt}(hp:PtB p)(K:KP)
  (hk:∀ v' h',BkAt h' v' ⟨p,atL ls p⟩->Old h h'->K (.ret v') h'):FK b 52 [.pointer (some ⟨lb,0,none⟩),.agg ⟨p.cells⟩] h K:=by
 refine F3 b (Jy b) Xo0 rfl ?_;obtain⟨hA,eA⟩:∃ hA,hA=h.push (.cells true 1 p.cells):=⟨_,rfl⟩;have bx:=Q0e eA;have aA:=Qpm eA;have gA:hA.get h.next=some (.cells true 1 p.cells):=by rw[eA,Heap.get_push,if_pos rfl]
 have wA:=w.old aA;have cl:J3 hA lb 1=some (.map (some mb)):=by rw[Za (aA.get gl)];rfl
 have kp:Qb9 hA h.next 0 33=some (.agg ⟨p.cells⟩):=agW gA (by rw[Pt.len];omega) (by rw[Pt.len];omega);obtain⟨o,ho⟩:∃ o,o=atL ls p:=⟨_,rfl⟩;rw[<- ho]at hk;have lk:Qoh (E b).toEnv 79 (.map (some mb)) (.agg ⟨p.cells⟩) true hA=some (.tuple #[.agg ⟨Q08 o⟩,.bool o.isSome]):=by
  rw[Z1q b wA p,<- ho];cases o <;> rfl
 have lc:(Q08 o).length=3:=by cases o <;> rfl
 obtain⟨hC,eC,aC,gC⟩:=Q5u hA [.int .i64 0,.slice none 0 0,.int .i64 0];have alC:Qbd (E b).toEnv 84 hA=some (.pointer (some ⟨hA.next,0,none⟩),hC):=by rw[eC];exact Qto b hA
 obtain⟨hD,eD,aD,gD⟩:=Q5u hC [.bool false];have alD:Qbd (E b).toEnv 4 hC=some (.pointer (some ⟨hC.next,0,none⟩),hD):=by rw[eD];exact Je2 b hC
 have nA:=Q8z eA;have nC:=Q8z eC;have lD:=Heap.get_lt (aD.get gC);obtain⟨hE,eE⟩:∃ hE,hE=hD.set hA.next (some (.cells true 1 (Q08 o))):=⟨_,rfl⟩;have stE:Qbx (E b).toEnv 84 (.pointer (some ⟨hA.next,0,none⟩)) (.agg ⟨Q08 o⟩) hD=some hE:=by
  rw[Qxx (l:=Q08 o) (Zxu b) (by rw[Yci];exact lc),eE,Ur (aD.get gC) (by simp[lc])];simp[lc]
 have gE1:hE.get hA.next=some (.cells true 1 (Q08 o)):=by rw[eE,gY lD,if_pos rfl]
 have gE2:hE.get hC.next=some (.cells true 1 [.bool false]):=by rw[eE,gY lD,if_neg (by omega)];exact gD
 have lE:=Heap.get_lt gE2;obtain⟨hF,eF⟩:∃ hF,hF=hE.set hC.next (some (.cells true 1 [.bool o.isSome])):=⟨_,rfl⟩;have stF:Ul hE hC.next 0 [.bool o.isSome]=some hF:=by rw[eF,Ur gE2 (by simp)];rfl
 have gF2:hF.get hC.next=some (.cells true 1 [.bool o.isSome]):=by rw[eF,gY lE,if_pos rfl]
 have gF1:hF.get hA.next=some (.cells true 1 (Q08 o)):=by rw[eF,gY lE,if_neg (by omega)];exact gE1
 have kF:∀ c,c < hA.next->hF.get c=hA.get c:=fun c hc=>by rw[eF,gY lE,if_neg (by omega),eE,gY lD,if_neg (by omega),aD.2 c (by omega),aC.2 c hc]
 have aF:Old hA hF:=⟨by rw[eF,eE,eD];show hA.next<=hC.next+1;omega,kF⟩;simp[bx];refine Qg6 [] (by simp) Xca Xdz Xd5 (by simp[Xip,Xgw,Xi0,Qgt,cl,kp,lk,-Qto,-Je2,alC,alD,stE,stF];first | exact⟨rfl,rfl⟩ | rfl) ?_ ?_
 ·simp[Qaq]
 simp;refine hk _ hF ⟨hp,fun x hx => ?_,_,_,_,rfl,gF2,gF1,aF.get gA⟩ (aA.trans aF);have hx:atL ls p=some x:=by rw[<- ho];exact hx
 obtain⟨y,hy, -,rfl⟩:=Y8n hx;exact(w.hs y hy).old (aA.trans aF)
end
def But(ω:Nat)(h h':Heap):Prop:=h.next<=h'.next/\∀ c,c < h.next->c≠ω->h'.get c=h.get c
def But.old{ω:Nat}{h h1 h2:Heap}(a:But ω h h1)(b:Old h1 h2):But ω h h2:=⟨al a.1 b.1,fun c hc hne=>by rw[b.2 c (az hc a.1),a.2 c hc hne]⟩
def But.of{ω:Nat}{h h1:Heap}(a:Old h h1):But ω h h1:=⟨a.1,fun c hc _=>a.2 c hc⟩
def But.trans{ω:Nat}{h h1 h2:Heap}(a:But ω h h1)(b:But ω h1 h2):But ω h h2:=⟨al a.1 b.1,fun c hc hne=>by rw[b.2 c (az hc a.1) hne,a.2 c hc hne]⟩
def But.set{h h1:Heap}{ω:Nat}(a:But ω h h1)(x:Option Blk)(hl:ω < h1.next):But ω h (h1.set ω x):=⟨a.1,fun c hc hne=>by rw[gY hl,if_neg (Ne.symm hne),a.2 c hc hne]⟩
def But.get{h h':Heap}{mb clk c z:Nat}{ow:Bool}{l:List Value}{es:Array MapEntry}(a:But mb h h')(g:h.get c=some (.cells ow z l))(gm:h.get mb=some (.map es clk)):h'.get c=some (.cells ow z l):=by
 rw[a.2 c (Heap.get_lt g) fun e=>by rw[e,gm]at g;cases g];exact g
section
variable{h h':Heap}{mb clk:Nat}{es:Array MapEntry}(gm:h.get mb=some (.map es clk))(a:But mb h h')
include gm a
def Sl.but{z n:Nat}{v:Value}{xs:List Value}(s:Sl h z v n xs):Sl h' z v n xs:=s.keep fun c hb hc=>a.2 c hc fun e=>by
 obtain⟨_,_,_,g⟩:=X9c s hb;rw[e,gm]at g;cases g
def LvAt.but{x:LV}(l:LvAt h x):LvAt h' x:=⟨Sl.but gm a l.s,l.b,l.l,l.v⟩
def InAt.but{x:InV}(l:InAt h x):InAt h' x:=⟨Sl.but gm a l.w,fun p hp=>⟨Sl.but gm a (l.i p hp).1,(l.i p hp).2⟩,l.n,l.l⟩
def OutAt.but{x:OutV}(l:OutAt h x):OutAt h' x:=⟨Sl.but gm a l.s,l.b,l.l⟩
def Ins.but{v:Value}{l:List InV}(s:Ins h v l):Ins h' v l:=⟨Sl.but gm a s.s,s.n,fun x hx=>InAt.but gm a (s.a x hx)⟩
def Outs.but{v:Value}{l:List OutV}(s:Outs h v l):Outs h' v l:=⟨Sl.but gm a s.s,s.n,fun x hx=>OutAt.but gm a (s.a x hx)⟩
def Laid.but(hl:Ab.LaidIn h laidAll):Ab.LaidIn h' laidAll:=fun y hy=>a.get (hl y hy) gm
def BkAt.but{v:Value}{k:BK}(l:BkAt h v k):BkAt h' v k:=by
 obtain⟨q1,q2,bT,bC,bP,e,g1,g2,g3⟩:=l;exact⟨q1,fun x hx=>LvAt.but gm a (q2 x hx),bT,bC,bP,e,a.get g1 gm,a.get g2 gm,a.get g3 gm⟩
end
def Xuk(l:List LC):List Value:=l.map (·.c.sv)
def Yco(l:List BK):List Value:=l.filterMap fun k=>k.c.map (·.sv)
def Off(v:Value)(l:List Value):Prop:=∀ s ∈ l,∀ c,J6 s=some c->J6 v≠some c
def Off.nil{l:List Value}:Off (.slice none 0 0) l:=fun _ _ _ _ e=>by cases e
def Off.sub{v:Value}{l m:List Value}(a:Off v l)(h:∀ s ∈ m,s ∈ l):Off v m:=fun s hs=>a s (h s hs)
def Zeh(l m:List BK):Yco (l++m)=Yco l++Yco m:=by simp[Yco]
def Zh5(h:Heap)(v:Value):Prop:=∀ c,J6 v=some c->∃ z' f ag cs rest,h.get c=some (.cells true z' (.func f ag cs::rest))
section
variable{h h':Heap}{v:Value}(fb:Zh5 h v)(kp:∀ c,c < h.next->J6 v≠some c->h'.get c=h.get c)
include kp
def LvAt.off{x:LV}(l:LvAt h x)(o:∀ c,J6 x.sv=some c->J6 v≠some c):LvAt h' x:=⟨l.s.keep fun c hb hc=>kp c hc (o c hb),l.b,l.l,l.v⟩
include fb
def X1k{c z:Nat}{l:List Value}(g:h.get c=some (.cells true z l))(hl:∀ x ∈ l.head?,∀ f ag cs,x ≠ .func f ag cs):h'.get c=some (.cells true z l):=by
 rw[kp c (Heap.get_lt g) fun e => ?_]
 ·exact g
 ·obtain⟨z',f,ag,cs,rest,g2⟩:=fb c e;rw[g]at g2;cases g2;exact hl _ rfl _ _ _ rfl
def Z7c{mb clk:Nat}{es:Array MapEntry}(g:h.get mb=some (.map es clk)):h'.get mb=some (.map es clk):=by
 rw[kp mb (Heap.get_lt g) fun e => ?_]
 ·exact g
 ·obtain⟨z',f,ag,cs,rest,g2⟩:=fb mb e;rw[g]at g2;cases g2
def BkAt.off{fv:Value}{k:BK}(l:BkAt h fv k)(o:∀ x,k.c=some x->∀ c,J6 x.sv=some c->J6 v≠some c):BkAt h' fv k:=by
 obtain⟨q1,q2,bT,bC,bP,e,g1,g2,g3⟩:=l;refine⟨q1,fun x hx=>LvAt.off kp (q2 x hx) (o x hx),bT,bC,bP,e,X1k fb kp g1 fun x hx => ?_,X1k fb kp g2 fun x hx => ?_,X1k fb kp g3 fun x hx => ?_⟩
 ·simp at hx;subst hx;simp
 ·cases hk:k.c with
  | none=>rw[hk]at hx;simp[Q08]at hx;subst hx;simp
  | some y=>rw[hk]at hx;simp[Q08,LV.cells]at hx;subst hx;simp
 ·intro f ag cs e;obtain⟨kk,zz,e2⟩:=Zmf k.p x (cQ hx);rw[e]at e2;cases e2
def CoM.off{mb clk:Nat}{ls:List LC}(w:CoM h mb clk ls)(o:Off v (Xuk ls)):CoM h' mb clk ls :=
 ⟨Z7c fb kp w.gm,w.B,fun x hx=>LvAt.off kp (w.hs x hx) (o _ (ao.2 ⟨x,hx,rfl⟩)),w.nd,w.kb⟩
end
def BkRow(h:Heap)(n0:Nat)(v:Value)(l:List BK):Prop:=∃ vals:List Value,Own h n0 1 v l.length vals/\vals.length=l.length/\(∀ (i:Nat) (x:Value) (k:BK),vals[i]? = some x->l[i]? = some k->BkAt h x k)/\(l=[]->v=.slice none 0 0)
def BkRow.nil{h:Heap}{n0:Nat}:BkRow h n0 (.slice none 0 0) []:=⟨[],Own.nil,rfl,fun i x k hx=>by simp at hx,fun _=>rfl⟩
def BkRow.from{h:Heap}{n0:Nat}{v:Value}{l:List BK}(r:BkRow h n0 v l){c:Nat}(hc:J6 v=some c):n0<=c/\c < h.next:=by
 obtain⟨vals,o, -⟩:=r;exact o.from hc
def BkRow.func{h:Heap}{n0:Nat}{v:Value}{l:List BK}(r:BkRow h n0 v l):Zh5 h v:=by
 intro c hc;obtain⟨vals,o,hl,hb,he⟩:=r;rcases o with⟨rfl,_,_⟩ | ⟨bk,cc,z',rest,rfl,h1,h2,h3,h4,h5,h6⟩
 ·cases hc
 ·cases hc
  match l,vals,hl with
  | [],[],_=>exact absurd (he rfl) (by simp)
  | k::l,x::vals,_ =>
   obtain⟨-, -,bT,bC,bP,e, -⟩:=hb 0 x k rfl rfl;subst e;exact⟨_,_,_,_,_,h2⟩
def BkRow.old{h h':Heap}{n0:Nat}{v:Value}{l:List BK}(r:BkRow h n0 v l)(a:Old h h'):BkRow h' n0 v l:=by
 obtain⟨vals,o,hl,hb,he⟩:=r;exact⟨vals,o.keep fun c _ hc=>a.2 c hc,hl,fun i x k hx hk=>(hb i x k hx hk).old a,he⟩
def BkRow.low{h:Heap}{n0 n1:Nat}{v:Value}{l:List BK}(r:BkRow h n0 v l)(hn:n1<=n0):BkRow h n1 v l:=by
 obtain⟨vals,o,hl,hb,he⟩:=r;exact⟨vals,o.low hn,hl,hb,he⟩
def BkRow.but{h h':Heap}{n0 mb clk:Nat}{v:Value}{l:List BK}{es:Array MapEntry}(r:BkRow h n0 v l)(gm:h.get mb=some (.map es clk))(a:But mb h h'):BkRow h' n0 v l:=by
 obtain⟨vals,o,hl,hb,he⟩:=r;refine⟨vals,o.keep fun c hb hc=>a.2 c hc fun e => ?_,hl,fun i x k hx hk=>BkAt.but gm a (hb i x k hx hk),he⟩;obtain⟨_,_,_,g⟩:=X9c o.sl hb;rw[e,gm]at g;cases g
def BkRow.app(b:Nat){h:Heap}{n0:Nat}{v:Value}{l:List BK}(r:BkRow h n0 v l)(off:Off v (Yco l)){fv:Value}{k:BK}(a:BkAt h fv k)(offk:∀ x,k.c=some x->∀ c,J6 x.sv=some c->J6 v≠some c)(h0:n0<=h.next)(hn:l.length < 1000000) :
  ∃ v' h',Qem (E b).toEnv 73 73 v (.slice (some ⟨h.next,0,none⟩) 1 1) (h.push (.cells true 1 [fv]))=some (v',h')/\BkRow h' n0 v' (l ++ [k])/\Beyond v h h'/\∀ c,J6 v'=some c->J6 v=some c∨h.next<=c:=by
 have fb:=r.func;obtain⟨vals,o,hl,hb,he⟩:=r;obtain⟨v',h',k1,k2,k3,k4⟩:=Qq9 (T73 b) (z:=1) Q5z (by omega) o h0 (ys:=[fv]) rfl (by rw[Y9h];omega) (by omega);refine⟨v',h',k1,⟨vals ++ [fv],by rw[aj];exact k2,by simp[hl],fun i x kk hx hk => ?_,fun e=>by simp at e⟩,k3,k4⟩;by_cases hi:i < l.length
 ·rw[aM (by omega)]at hx;rw[aM hi]at hk;refine BkAt.off fb k3.2 (hb i x kk hx hk) fun y hy=>off _ ?_;exact cr.2 ⟨kk,ak hk,by rw[hy];rfl⟩
 ·rw[aS (by omega)]at hx hk;rw[hl]at hx;have : i-l.length=0:=by
   have:=(au.1 hx).1;simpa using this
  rw[this]at hx hk;simp at hx hk;subst hx hk;exact BkAt.off fb k3.2 a offk
def Jes(b:Nat)(h:Heap){fv:Value}{k:BK}(a:BkAt h fv k)(h1:Heap):Vj (E b).toEnv 73 1 [(0,fv)] h1=some (.slice (some ⟨h1.next,0,none⟩) 1 1,h1.push (.cells true 1 [fv])):=by
 obtain⟨-, -,bT,bC,bP,rfl, -⟩:=a;exact Q2h (T73 b) (z:=1) Q5z (by omega) (by omega) rfl rfl rfl
def Ypo(l:List BK)(m:Qo1):Qo1:=l.foldr (fun k m=>Yez m k.p (k.c.map LV.c)) m
def Zoh(l l2:List BK)(m:Qo1):Ypo (l++l2) m=Ypo l (Ypo l2 m):=by simp[Ypo]
def Z1a(k:BK)(m:Qo1):Ypo [k] m=Yez m k.p (k.c.map LV.c):=rfl
def idS:List Nat:=[116,120]
section
def Jjh(b:Nat){h:Heap}(laid:Ab.LaidIn h laidAll){iv ov:Value}{ins:List InV}{outs:List OutV}{lock:Int}(si:Ins h iv ins)(so:Outs h ov outs)(hp:∀ x ∈ ins,PtB x.pt)(K:KP)
  (hk:∀ h',Old h h'->K (.ret (.agg ⟨(dgF idS (ptx ins outs lock)).map u8v⟩)) h'):FK b 53 [.agg ⟨txC iv ov lock⟩] h K:=by
 refine F3 b (Qq6 b) Zxg rfl ?_;obtain⟨hA,eA,aA,gA⟩:=Q5u h ((txC iv ov lock));have nA:=Q8z eA;have bx:=Q0e eA;obtain⟨hB,eB,aB,gB⟩:=Q5u hA z32;have alB:Qbd (E b).toEnv 51 hA=some (.pointer (some ⟨hA.next,0,none⟩),hB):=by rw[eB];exact Vo b hA
 have aAB:=aA.trans aB;have ldt:Qb9 hB h.next 0 3=some (.agg ⟨txC iv ov lock⟩):=by rw[Vf (aB.get gA) (by simp[txC])];rfl
 simp[Ykm,Zx5,Qq6,Vo,Y9v,Vy,Qq1,Uf,bx,-Vo,alB,ldt];refine Zvr b (l:=idS) (Laid.old laid aAB) rfl (by simp[idS]) (si.old aAB) (so.old aAB) hp _ fun h1 a1 => ?_;obtain⟨dt,hdt⟩:∃ dt,dt=dgF idS (ptx ins outs lock):=⟨_,rfl⟩;have tl:dt.length=32:=by rw[hdt];exact Yb3 _ _
 rw[<- hdt]at hk ⊢;have g3:=a1.get gB;have l3:=Heap.get_lt g3;have st3:Ul h1 hA.next 0 (dt.map u8v)=some (h1.set hA.next (some (.cells true 1 (dt.map u8v)))):=by
  rw[Ur g3 (by simp[z32,tl])];congr 4;simp[z32,tl]
 have ld3:Qb9 (h1.set hA.next (some (.cells true 1 (dt.map u8v)))) hA.next 0 32=some (.agg ⟨dt.map u8v⟩):=by
  rw[Vf (by rw[gY l3,if_pos rfl]) (by simp[tl]),bX,aJ (by simp[tl])]
 simp[Ykm,Zx5,Qq6,Vo,Y9v,Vy,Qq1,Uf,Qiz,tl,st3,ld3];exact hk _ ((aAB.trans a1).set _ (by omega) l3)
def Yzo(b:Nat){h:Heap}{lb z nu:Nat}{nt mv un:Value}(gl:h.get lb=some (.cells true z [nt,mv,un]))(hun:∀ hx,Qne (E b).toEnv 78 un hx=some (.int .i64 (nu:Int)))(K:KP)(hk:K (.ret (.int .i64 (nu:Int))) h) :
  FK b 14 [.pointer (some ⟨lb,0,none⟩)] h K:=by
 refine F3 b (Xz b) Xij rfl ?_;have c2:J3 h lb 2=some un:=by rw[Za gl];rfl
 simp[Qyo,Xqj,Xz,Xif,Q3e,Yj6,Jjv,Qgt,c2,hun];exact hk
end
def Qxa(b:Nat){t:TypeId}{r:TyRec}(he:(E b).toEnv.ty.get t=some r){l:List Value}(hl:l.length=r.size)(hz:r.zero.cells.toList.length=r.size)(h:Heap):∃ hA hB,Qbd (E b).toEnv t h=some (.pointer (some ⟨h.next,0,none⟩),hA)/\Qbx (E b).toEnv t (.pointer (some ⟨h.next,0,none⟩)) (.agg ⟨l⟩) hA=some hB/\Ul hA h.next 0 l=some hB/\hB.get h.next=some (.cells true 1 l)/\Old h hB/\hB.next=h.next+1:=by
 obtain⟨hA,eA⟩:∃ hA,hA=h.push (.cells true 1 r.zero.cells.toList):=⟨_,rfl⟩;have gA:hA.get h.next=some (.cells true 1 r.zero.cells.toList):=by rw[eA,Heap.get_push,if_pos rfl]
 have lA:=Heap.get_lt gA;have st:Ul hA h.next 0 l=some (hA.set h.next (some (.cells true 1 l))):=by
  rw[Ur gA (by omega)];rw[cL (by omega)];simp
 refine⟨hA,hA.set h.next (some (.cells true 1 l)),by rw[eA];simp only[Qbd,he],by rw[Qxx he hl];exact st,st,by rw[gY lA,if_pos rfl],?_,by rw[eA];rfl⟩;rw[eA];exact(Old.push _ _).set _ (ae _) (by rw[<- eA];exact lA)
structure Did (h h':Heap) (mb clk':Nat) (ls ls':List LC) (m':Qo1) (v':Value) (bks:List BK) (N M:Nat):Prop where
 row:BkRow h' h.next v' bks
 co:CoM h' mb clk' ls'
 mp:Qcv ls'=m'
 back:Ypo bks m'=Qcv ls
 bt:But mb h h'
 off:Off v' (Xuk ls'++Yco bks)
 new:∀ s ∈ Xuk ls'++Yco bks,s ∈ Xuk ls ∨ ∀ c,J6 s=some c->h.next<=c
 len:ls'.length<=ls.length+N
 bl:bks.length<=M
def Did.old{h h' h2:Heap}{mb clk' N M:Nat}{ls ls':List LC}{m':Qo1}{v':Value}{bks:List BK}(D:Did h h' mb clk' ls ls' m' v' bks N M)(a:Old h' h2):Did h h2 mb clk' ls ls' m' v' bks N M :=
 ⟨D.row.old a,D.co.old a,D.mp,D.back,D.bt.old a,D.off,D.new,D.len,D.bl⟩
def Did.nil{h:Heap}{mb clk:Nat}{ls:List LC}(w:CoM h mb clk ls):Did h h mb clk ls ls (Qcv ls) (.slice none 0 0) [] 0 0 :=
 ⟨BkRow.nil,w,rfl,rfl,But.of (Old.refl _),Off.nil,fun s hs => .inl (by simpa[Yco]using hs),ae _,ae _⟩
def Zy0{h:Heap}{x:LV}(a:LvAt h x){c:Nat}(hc:J6 x.sv=some c):c < h.next:=by
 obtain⟨_,_,_,g⟩:=X9c a.s hc;exact Heap.get_lt g
def BkRow.lv{h:Heap}{n0:Nat}{v:Value}{l:List BK}(r:BkRow h n0 v l){k:BK}(hk:k ∈ l){x:LV}(hx:k.c=some x):LvAt h x:=by
 obtain⟨vals,o,hl,hb,he⟩:=r;obtain⟨i,hi,e⟩:=List.getElem_of_mem hk;exact(hb i (vals[i]'(by omega)) k (ab (by omega)) (by rw[ab hi,e])).2.1 x hx
def Zx7{h:Heap}{n0 mb clk:Nat}{v:Value}{l:List BK}{ls:List LC}(r:BkRow h n0 v l)(w:CoM h mb clk ls){s:Value}(hs:s ∈ Xuk ls++Yco l){c:Nat}(hc:J6 s=some c):c < h.next:=by
 rcases ac.1 hs with q | q
 ·obtain⟨x,hx,rfl⟩:=ao.1 q;exact Zy0 (w.hs x hx) hc
 ·obtain⟨k,hk,e⟩:=cr.1 q;cases hkc:k.c with
  | none=>rw[hkc]at e;cases e
  | some x =>
   rw[hkc]at e;cases e;exact Zy0 (r.lv hk hkc) hc
def Did.step(b:Nat){h h1:Heap}{mb clk N M:Nat}{ls ls1:List LC}{m1:Qo1}{bv:Value}{bks:List BK}(D:Did h h1 mb clk ls ls1 m1 bv bks N M)(hM:M < 1000000){fv:Value}{p:Pt}(a:BkAt h1 fv ⟨p,atL ls1 p⟩) :
  ∃ v' h2,Qem (E b).toEnv 73 73 bv (.slice (some ⟨h1.next,0,none⟩) 1 1) (h1.push (.cells true 1 [fv]))=some (v',h2)/\Beyond bv h1 h2/\Zh5 h1 bv/\CoM h2 mb clk ls1/\But mb h h2 /\
   ∀ (h3 h4:Heap) (ls2:List LC) (clk2:Nat) (c:Option PC) (N':Nat) (x:Option LV),Old h2 h3->(∃ y,h4=h3.set mb y)->CoM h4 mb clk2 ls2->Qcv ls2=Yez (Qcv ls1) p c->(∀ y ∈ ls2,y ∈ ls1∨some y.c=x)->(∀ y,x=some y->∀ c,J6 y.sv=some c->h2.next<=c)->ls2.length<=ls.length+N' ->
    Did h h4 mb clk2 ls ls2 (Yez m1 p c) v' (bks ++ [⟨p,atL ls1 p⟩]) N' (M+1):=by
 have fb:=D.row.func;have hat:∀ x,atL ls1 p=some x->x.sv ∈ Xuk ls1:=fun x hx=>by
  obtain⟨y,hy, -,rfl⟩:=Y8n hx;exact ao.2 ⟨y,hy,rfl⟩
 obtain⟨v',h2,k1,k2,k3,k4⟩:=D.row.app b (D.off.sub fun s hs=>by simp[hs]) a (fun x hx=>D.off x.sv (ac.2 (.inl (hat x hx)))) D.bt.1 (dK D.bl hM);have co2:=CoM.off fb k3.2 D.co (D.off.sub fun s hs=>by simp[hs]);have bt2:But mb h h2:=⟨al D.bt.1 k3.1,fun c hc hne=>by
  rw[k3.2 c (az hc D.bt.1) fun e=>by have:=(D.row.from e).1;omega,D.bt.2 c hc hne]⟩
 refine⟨v',h2,k1,k3,fb,co2,bt2,?_⟩;rintro h3 h4 ls2 clk2 c N' x a23 ⟨y,rfl⟩ co4 em hmem hnew hlen;have gm3:=(co2.old a23).gm;have lm3:=Heap.get_lt gm3;have esub:∀ s ∈ Yco (bks ++ [⟨p,atL ls1 p⟩]),s ∈ Xuk ls1++Yco bks:=fun s hs=>by
  rw[Zeh]at hs;rcases ac.1 hs with q | q
  ·exact ac.2 (.inr q)
  ·refine ac.2 (.inl ?_);cases ha:atL ls1 p with
   | none=>rw[ha]at q;simp[Yco]at q
   | some z =>
    rw[ha]at q;simp[Yco]at q;rw[q];exact hat z ha
 have lsub:∀ s ∈ Xuk ls2,s ∈ Xuk ls1 ∨ ∃ z,x=some z/\s=z.sv:=fun s hs=>by
  obtain⟨z,hz,rfl⟩:=ao.1 hs;rcases hmem z hz with q | q
  ·exact .inl (ao.2 ⟨z,q,rfl⟩)
  ·exact .inr ⟨z.c,q.symm,rfl⟩
 have offOld:Off v' (Xuk ls1++Yco bks):=fun s hs d hd e=>by
  rcases k4 d e with q | q
  ·exact D.off s hs d hd q
  ·have:=Zx7 D.row D.co hs hd;omega
 have row4:BkRow (h3.set mb y) h.next v' (bks ++ [⟨p,atL ls1 p⟩]):=(k2.old a23).but gm3 ((But.of (Old.refl _)).set _ lm3);refine⟨row4,co4,by rw[em,D.mp],?_,(bt2.old a23).set _ lm3,fun s hs d hd e => ?_,fun s hs => ?_,hlen,by rw[aj];have:=D.bl;simp;omega⟩
 ·rw[Zoh,Z1a];show Ypo bks (Yez (Yez m1 p c) p ((atL ls1 p).map LV.c))=_;have : (atL ls1 p).map LV.c=m1 p:=by rw[<- D.mp];rfl
  rw[this,Z5v,Jav,D.back]
 ·rcases ac.1 hs with q | q
  ·rcases lsub s q with r | ⟨z,r1,rfl⟩
   ·exact offOld s (ac.2 (.inl r)) d hd e
   ·have h5:=hnew z r1 d hd;have:=(k2.from e).2;omega
  ·exact offOld s (esub s q) d hd e
 ·rcases ac.1 hs with q | q
  ·rcases lsub s q with r | ⟨z,r1,rfl⟩
   ·exact D.new s (ac.2 (.inl r))
   ·exact .inr fun d hd=>al bt2.1 (hnew z r1 d hd)
  ·exact D.new s (esub s q)
def Z1z(b:Nat){sc:List Nat}(hs:sc.length=32)(z:Int):Qm8 (E b).toEnv 53 [(0,.agg ⟨sc.map u8v⟩),(1,.int .i64 z)]=some (.agg ⟨sc.map u8v ++ [.int .i64 z]⟩):=by
 obtain⟨fs,pl,hfs,hpl,hp0,hp1⟩:∃ fs pl,R53.desc=.struct fs/\Q17 (E b).toEnv fs.toList=some pl/\nth pl 0=some (0,32)/\nth pl 1=some (32,1) :=
  ⟨(match R53.desc with | .struct fs=>fs | _ => #[]),(Q17 (E b).toEnv (match R53.desc with | .struct fs=>fs | _ => #[]).toList).getD [],by kernel_rfl,by kernel_rfl,by kernel_rfl,by kernel_rfl⟩
 obtain⟨zz,ez,hz,hzd⟩:∃ zz:List Value,zz=R53.zero.cells.toList/\zz.length=33/\zz.drop 32=[.int .i64 0]:=⟨_,rfl,by kernel_rfl,by kernel_rfl⟩;have sl:(sc.map u8v).length=32:=by simp[hs]
 have e2:(Qh6 (.agg ⟨sc.map u8v⟩) && (Value.agg ⟨sc.map u8v⟩).cells.size == 32 && Nat.ble (0+32) zz.length)=true:=by
  have h1:(Value.agg ⟨sc.map u8v⟩).cells.size=32:=sl;rw[h1,hz];rfl
 have e3:Ql3 zz 0 (Value.agg ⟨sc.map u8v⟩).cells.toList=some (sc.map u8v++zz.drop 32):=by
  show Ql3 zz 0 (sc.map u8v)=_;rw[Qpt (by rw[sl,hz];omega)];simp[sl]
 have e4:(Qh6 (.int .i64 z) && (Value.int .i64 z).cells.size == 1 && Nat.ble (32+1) (sc.map u8v ++ [(.int .i64 0:Value)]).length)=true:=by
  rw[aj,sl];rfl
 have e5:Ql3 (sc.map u8v ++ [(.int .i64 0:Value)]) 32 (Value.int .i64 z).cells.toList=some (sc.map u8v ++ [.int .i64 z]):=by
  show Ql3 _ 32 [.int .i64 z]=_;rw[Qpt (by rw[aj,sl];simp)];have e6:∀ r:List Value,(sc.map u8v++r).take 32=sc.map u8v:=fun r=>by rw[<- sl,List.take_left]
  have e7:(sc.map u8v ++ [(.int .i64 0:Value)]).drop (32+1)=[]:=cz (by rw[aj,sl];simp);simp only[e6,bh,e7,dj]
 simp only[Qm8,Ymv,hfs,hpl,<- ez,Xqi,hp0,hp1,e2,if_true,e3,hzd,e4,e5,aK]
def Z28(b:Nat)(z w:Int){v:Value}{h:Heap}{n0 n:Nat}{xs:List Value}(s:Own h n0 1 v n xs):Qm8 (E b).toEnv 84 [(0,.agg ⟨[.int .i64 z,v]⟩),(1,.int .i64 w)]=some (.agg ⟨[.int .i64 z,v,.int .i64 w]⟩):=by
 rcases s.sl with⟨c,rfl,_⟩ | ⟨bk,o,c,ow,z',pre,post,rfl,_⟩
 ·kernel_rfl
 ·kernel_rfl
def Z4d(m:Qo1)(l:List Pt):Qo1:=l.foldl (fun m p=>Yez m p none) m
def Yzc(id:List Nat)(hid:id.length=32)(made:Int)(m:Qo1)(l:List POut):Qo1:=l.zipIdx.foldl (fun m q=>Yez m ⟨id,(q.2:Int),hid⟩ (some ⟨q.1.value,q.1.script,made⟩)) m
def Yre(m:Qo1)(l:List Pt)(p:Pt):Z4d m (l ++ [p])=Yez (Z4d m l) p none:=by simp[Z4d]
def Yep{id:List Nat}{hid:id.length=32}{made:Int}(m:Qo1)(l:List POut)(o:POut):Yzc id hid made m (l ++ [o])=Yez (Yzc id hid made m l) ⟨id,(l.length:Int),hid⟩ (some ⟨o.value,o.script,made⟩):=by
 unfold Yzc;rw[List.zipIdx_append,List.foldl_append];simp
def doM(m:Qo1)(t:PTx)(made:Int):Qo1:=Yzc (dgF idS t) (Yb3 _ _) made (Z4d m (t.ins.map (·.pt))) t.outs
def Zz2(s l:List Nat):∀ n ∈ Jen s l,n < 256:=fun n hn=>Z0b _ n hn
def Z3o(s:List Nat)(t:PTx):∀ n ∈ dgF s t,n < 256:=by
 intro n hn;unfold dgF at hn;split at hn
 ·exact Zz2 _ _ n hn
 ·rw[List.eq_of_mem_replicate hn];omega
structure D1 (lb B:Nat) (iv:Value) (n:Nat) (t:Tr Value) (i:Nat) (bv:Value):Prop where
 t0:t.get 0=some (.pointer (some ⟨lb,0,none⟩))
 t3:t.get 3=some (.pointer (some ⟨B,0,none⟩))
 t5:t.get 5=some bv
 t13:t.get 13=some iv
 t14:t.get 14=some (.int .i64 (n:Int))
 t15:t.get 15=some (.int .i64 (i:Int))
def DI1(lb mb clk B:Nat)(iv:Value)(ins:List InV)(ls:List LC)(h:Heap)(k:Nat)(s:St):Prop:=∃ (t:Tr Value) (h1:Heap) (i:Nat) (bv:Value) (ls1:List LC) (bks:List BK),s=⟨⟨65,t⟩,[],h1⟩/\i<=ins.length/\k=ins.length-i/\D1 lb B iv ins.length t i bv/\Did h h1 mb clk ls ls1 (Z4d (Qcv ls) ((ins.take i).map (·.pt))) bv bks 0 i
structure D2 (lb I:Nat) (ov:Value) (n:Nat) (t:Tr Value) (i:Nat) (bv:Value):Prop where
 t0:t.get 0=some (.pointer (some ⟨lb,0,none⟩))
 t5:t.get 5=some bv
 t8:t.get 8=some (.pointer (some ⟨I,0,none⟩))
 t36:t.get 36=some ov
 t37:t.get 37=some (.int .i64 (n:Int))
 t38:t.get 38=some (.int .i64 (i:Int))
def DI2(lb mb I:Nat)(ov:Value)(id:List Nat)(hid:id.length=32)(made:Int)(outs:List OutV)(m0:Qo1)(M:Nat)(ls:List LC)(h:Heap)(k:Nat)(s:St):Prop:=∃ (t:Tr Value) (h1:Heap) (i clk:Nat) (bv:Value) (ls1:List LC) (bks:List BK),s=⟨⟨65,t⟩,[],h1⟩/\i<=outs.length/\k=outs.length-i/\D2 lb I ov outs.length t i bv/\Did h h1 mb clk ls ls1 (Yzc id hid made m0 ((outs.take i).map OutV.p)) bv bks i (M+i)/\h1.get I=some (.cells true 1 (id.map u8v))
section
attribute [local simp] U0 Uw Jr Jb Qa2 W6 Xt Ud Qo0 Qqd V9 W5 Jy Ut Qgn Xv Vy Qq6 Uf Zf Qb7 Qbm Qfp Qah Qiz Jm Xz
set_option maxHeartbeats 2000000 in
def Jjk(b:Nat){h:Heap}{lb mb z clk nu:Nat}{nt un:Value}{ls:List LC}(laid:Ab.LaidIn h laidAll)(gl:h.get lb=some (.cells true z [nt,.map (some mb),un]))(hun:∀ hx,Qne (E b).toEnv 78 un hx=some (.int .i64 (nu:Int)))(hnu:nu < 1000000)
  (w:CoM h mb clk ls) {iv ov:Value} {ins:List InV} {outs:List OutV} {lock:Int} (si:Ins h iv ins) (so:Outs h ov outs) (hp:∀ x ∈ ins,PtB x.pt) (hv:∀ o ∈ outs,0<=o.value/\o.value<=1125899906842624) (hni:ins.length<=100) (hno:outs.length<=100)
  (K:KP) (hk:∀ v' h' ls' clk' bks,Did h h' mb clk' ls ls' (doM (Qcv ls) (ptx ins outs lock) ((nu:Int)+1)) v' bks outs.length (ins.length+outs.length)->K (.ret v') h'):CallOK Tryz.prog (E b).G 28 [.pointer (some ⟨lb,0,none⟩),.agg ⟨txC iv ov lock⟩] h K:=by
 refine Qkb (E b) (U7 _ _) (Ue b) (Ji b) mixed (Uk b) (Jr b) Xzi.1 Xzi.2.1 Xzi.2.2 rfl ?_;obtain⟨h0,e0⟩:∃ h0,h0=h.push (.cells true 1 (txC iv ov lock)):=⟨_,rfl⟩;have bx:=Q0e e0;have a0:=Qpm e0;have g0:h0.get h.next=some (.cells true 1 (txC iv ov lock)):=by rw[e0,Heap.get_push,if_pos rfl]
 have n0:=Q8z e0;have w0:=w.old a0;have gl0:=a0.get gl;have len1:∀ hx,Qne (E b).toEnv 30 iv hx=some (.int .i64 (ins.length:Int)):=fun hx=>Qbq (T30 b) si.s;have len2:∀ hx,Qne (E b).toEnv 27 ov hx=some (.int .i64 (outs.length:Int)):=fun hx=>Qbq (T27 b) so.s;have c0:∀ {hx:Heap},hx.get h.next=some (.cells true 1 (txC iv ov lock))->J3 hx h.next 0=some iv/\J3 hx h.next 1=some ov/\Qb9 hx h.next 0 3=some (.agg ⟨txC iv ov lock⟩):=fun g=>⟨by rw[Za g];rfl,by rw[Za g];rfl,by rw[Vf g (by simp[txC])];rfl⟩;simp[Qo4,Vo,W8,Qiy,bx,(c0 g0).1,len1];refine Qfs (DI1 lb mb clk h.next iv ins ls h0) ins.length ⟨_,h0,0,.slice none 0 0,ls,[],rfl,by omega,rfl,⟨by simp,by simp,by simp,by simp,by simp,by simp⟩,Did.nil w0⟩ ?_;rintro k s' ⟨t,h1,i,bv,ls1,bks,rfl,hi,rfl,⟨t0,t3,t5,t13,t14,t15⟩,D⟩ -;have gl1:=D.bt.get gl0 w0.gm;have si1:=Ins.but w0.gm D.bt (si.old a0);by_cases hlt:i < ins.length
 ·have hlt':(i:Int) < (ins.length:Int):=by omega
  have hw:=wS (i:=i) (by omega);obtain⟨x,hx⟩:∃ x,ins[i]? = some x:=⟨_,ab hlt⟩;obtain⟨bk,off, -,x1,x2, -⟩:=Yd2 (b:=b) (T30 b) Qma si1.s hx;obtain⟨hA,h2,alA,stA,stA',g2,a2,n2⟩:=Qxa b (Zb2 b) (l:=x.cells) (by rw[InV.len,Qma]) (by kernel_rfl) h1;have ldp:∀ {hx:Heap},hx.get h1.next=some (.cells true 1 x.cells)->Qb9 hx h1.next 0 33=some (.agg ⟨x.pt.cells⟩):=fun g=>by rw[Vf g (by rw[InV.len];omega),bX,Yrf]
  have hpx:=hp x (ak hx);simp[Qo4,Vo,W8,Qiy,t0,t3,t5,t13,t14,t15,hlt,hlt',x1,x2,-Qo4,alA,stA,stA',ldp g2];have D2:=D.old a2;refine(Z1h b (a2.get gl1) D2.co hpx _ fun fv h3 bk3 a3 => ?_).ok;have D3:=D2.old a3;obtain⟨v4,h4,ap4,b4,fb4,co4,bt4,stp⟩:=D3.step b (by omega) bk3;have g4:h4.get h1.next=some (.cells true 1 x.cells):=by
   rw[b4.2 _ (Heap.get_lt (a3.get g2)) fun e=>by have:=(D.row.from e).2;omega];exact a3.get g2
  have gl4:=bt4.get gl0 w0.gm;have cl4:J3 h4 lb 1=some (.map (some mb)):=by rw[Za gl4];rfl
  obtain⟨ls5,h5,dl5,e5,co5,em5,le5,mem5⟩:=Jfr b co4 x.pt;simp[Qo4,Vo,W8,Qiy,t0,t3,t5,t13,t14,t15,Jes b h3 bk3,ap4];refine Qg6 [] (by simp) Xh3 Xjn Xhv (by simp[Xn3,Xv0,Vo,Qiy,Qgt,t0,cl4,ldp g4,dl5];first | exact⟨rfl,rfl⟩ | rfl) ?_ ?_
  ·simp[Qfl,Vo,Qiy]
  simp[Qo4,Vo,W8,Qiy,t0,t3,t5,t13,t14,t15,hw];have D5:=stp h4 h5 ls5 clk none 0 none (Old.refl _) ⟨_,e5⟩ co5 em5 (fun y hy => .inl (mem5 y hy)) (fun y e=>by cases e) (by have:=D.len;omega);have tk:(ins.take (i+1)).map (·.pt)=(ins.take i).map (·.pt) ++ [x.pt]:=by rw[bn,hx];simp
  refine⟨ins.length-(i+1),by omega,_,h5,i+1,v4,ls5,bks ++ [⟨x.pt,atL ls1 x.pt⟩],rfl,by omega,rfl,⟨by simp[t0],by simp[t3],by simp,by simp[t13],by simp[t14],by simp⟩,?_⟩;rw[tk,Yre];exact D5
 ·have hlt':¬ (i:Int) < (ins.length:Int):=by omega
  have : i=ins.length:=by omega
  subst this;rw[bJ]at D;have g1:=D.bt.get g0 w0.gm;have so1:=Outs.but w0.gm D.bt (so.old a0);have la1:=Laid.but w0.gm D.bt (Laid.old laid a0);simp[Qo4,Vo,W8,Qiy,t0,t3,t5,t13,t14,t15,(c0 g1).1,(c0 g1).2.1,(c0 g1).2.2];refine(Jjh b la1 si1 so1 hp _ fun h2 a2 => ?_).ok;obtain⟨dg,hid0⟩:∃ dg,dg=dgF idS (ptx ins outs lock):=⟨_,rfl⟩;have hid:dg.length=32:=by rw[hid0];exact Yb3 _ _
  have bid:∀ n ∈ dg,n < 256:=by rw[hid0];exact Z3o _ _
  rw[<- hid0];obtain⟨hA,h3,alA,stA,stA',g3,a3,n3⟩:=Qxa b (Z1v b) (l:=dg.map u8v) (by rw[aT,hid,Yrg]) (by kernel_rfl) h2;have D3:=(D.old a2).old a3;have g13:=a3.get (a2.get g1);simp[Qo4,Vo,W8,Qiy,t0,t3,t5,t13,t14,t15,-Vo,alA,stA,stA',hid,(c0 g13).2.1,len2];refine Qfs (DI2 lb mb h2.next ov dg hid ((nu:Int)+1) outs (Z4d (Qcv ls) (ins.map (·.pt))) ins.length ls h0) outs.length ⟨_,h3,0,clk,bv,ls1,bks,rfl,by omega,rfl,⟨by simp[t0],by simp[t5],by simp,by simp,by simp,by simp⟩,by simpa[Yzc]using D3,g3⟩ ?_;rintro k s' ⟨t,h4,j,clk4,bv4,ls4,bks4,rfl,hj,rfl,⟨t0,t5,t8,t36,t37,t38⟩,D4,g4⟩ -;have gl4:=D4.bt.get gl0 w0.gm;have so4:=Outs.but w0.gm D4.bt (so.old a0);by_cases hjl:j < outs.length
  ·have hjl':(j:Int) < (outs.length:Int):=by omega
   have hw:=wS (i:=j) (by omega);have hwn:IntKind.i64.wrap ((nu:Int)+1)=(nu:Int)+1:=W3 (by omega) (by omega);obtain⟨x,hx⟩:∃ x,outs[j]? = some x:=⟨_,ab hjl⟩;obtain⟨bk,off, -,x1,x2, -, -⟩:=Xhg (b:=b) (T27 b) Qi0 so4.s hx;have hsx:=so4.a x (ak hx);have hvx:=hv x (ak hx);obtain⟨hA,h5,alA,stA,stA',g5,a5,n5⟩:=Qxa b (Yte b) (l:=x.cells) (by rw[OutV.len,Qi0]) (by kernel_rfl) h4;obtain⟨p,ep⟩:∃ p:Pt,p=⟨dg,(j:Int),hid⟩:=⟨_,rfl⟩;have pb:PtB p:=by rw[ep];exact bid
   have bp:Qm8 (E b).toEnv 53 [(0,.agg ⟨dg.map u8v⟩),(1,.int .i64 (j:Int))]=some (.agg ⟨p.cells⟩):=by rw[ep];exact Z1z b hid (j:Int)
   obtain⟨hC,h6,alC,stC,stC',g6,a6,n6⟩:=Qxa b (Ymv b) (l:=p.cells) (by rw[Pt.len,Qz1]) (by kernel_rfl) h5;have ldI:Qb9 h5 h2.next 0 32=some (.agg ⟨dg.map u8v⟩):=agW (a5.get g4) (by simp[hid]) (by simp[hid]);have ldP:∀ {hx:Heap},hx.get h5.next=some (.cells true 1 p.cells)->Qb9 hx h5.next 0 33=some (.agg ⟨p.cells⟩):=fun g=>agW g (by rw[Pt.len];omega) (by rw[Pt.len];omega);have ldO:∀ {hx:Heap},hx.get h4.next=some (.cells true 1 x.cells)->Qb9 hx h4.next 0 2=some (.agg ⟨x.cells⟩):=fun g=>agW g (by rw[OutV.len];omega) (by rw[OutV.len];omega);simp[Qo4,Vo,W8,Qiy,t0,t5,t8,t36,t37,t38,hjl,hjl',x1,x2,-W8,-Qiy,alA,stA,stA',ldI,bp,alC,stC,stC',ldP g6];have D6:=(D4.old a5).old a6;have a46:=a5.trans a6;refine(Z1h b (a46.get gl4) D6.co pb _ fun fv h7 bk7 a7 => ?_).ok;have D7:=D6.old a7;obtain⟨v8,h8,ap8,b8,fb8,co8,bt8,stp⟩:=D7.step b (by omega) bk7;have keep8:∀ {c:Nat} {l:List Value},h4.next<=c->h7.get c=some (.cells true 1 l)->h8.get c=some (.cells true 1 l):=fun hc g=>by
    rw[b8.2 _ (Heap.get_lt g) fun e=>by have:=(D4.row.from e).2;omega];exact g
   have g5':=keep8 (ae _) (a7.get (a6.get g5));have g6':=keep8 (c:=h5.next) (by have:=a5.1;omega) (a7.get g6);have gI8:h8.get h2.next=some (.cells true 1 (dg.map u8v)):=X1k fb8 b8.2 ((a46.trans a7).get g4) fun y hy f ag cs e=>by
    have:=cQ hy;obtain⟨n, -,e2⟩:=ao.1 this;rw[e]at e2;cases e2
   have gl8:=bt8.get gl0 w0.gm;have so8:=Outs.but w0.gm bt8 (so.old a0);have cl8:J3 h8 lb 1=some (.map (some mb)):=by rw[Za gl8];rfl
   obtain⟨_,h9,q9,n9,sv9,rfl,o9,a9⟩:=Zbs b (v:=x.value) (so8.a x (ak hx)).s hsx.l (fun r h' => ∃ v',r=.ret (.agg ⟨[.int .i64 x.value,v']⟩)/\OB h' h8.next v' x.script/\Old h8 h') (fun v' h' o a=>⟨v',rfl,o,a⟩);have gl9:=a9.get gl8;obtain⟨_,h10,q10,n10,rfl,rfl⟩:=Yzo b gl9 hun (fun r h'=>r=.ret (.int .i64 (nu:Int))/\h9=h') ⟨rfl,rfl⟩;obtain⟨y,ey⟩:∃ y:LV,y=⟨x.value,sv9,x.script,(nu:Int)+1⟩:=⟨_,rfl⟩;have ly:LvAt h9 y:=by rw[ey];exact⟨o9.sl,hsx.b,hsx.l,hvx⟩
   obtain⟨ls11,clk11,h11,up11,e11,co11,em11,le11,mem11⟩:=Jaf b (co8.old a9) pb ly;have by':Qm8 (E b).toEnv 84 [(0,.agg ⟨[.int .i64 x.value,sv9]⟩),(1,.int .i64 ((nu:Int)+1))]=some (.agg ⟨y.cells⟩):=by rw[ey];exact Z28 b x.value ((nu:Int)+1) o9
   have xc:x.cells=[.int .i64 x.value,x.sv]:=rfl;simp[Qo4,Vo,W8,Qiy,t0,t5,t8,t36,t37,t38,Jes b h7 bk7,ap8];refine Qg6 [⟨36,[.agg ⟨[.int .i64 x.value,x.sv]⟩],h8,.agg ⟨[.int .i64 x.value,sv9]⟩,h9,true⟩,⟨14,[.pointer (some ⟨lb,0,none⟩)],h9,.int .i64 (nu:Int),h9,true⟩] ?_ Xeb Xh7 Xdx (by simp[Xm2,Xso,Xqb,Xk9,Vo,Qiy,Qgt,t0,cl8,ldP g6',ldO g5',xc,Qok,hwn,by',up11];first | exact⟨rfl,rfl⟩ | rfl) ?_ ?_
   ·exact zk2 ⟨q9,n9,fun _ c hc=>a9.2 c hc⟩ ⟨q10,n10,fun _ c hc=>rfl⟩
   ·simp[Wa,Vo,Qiy,cl8]
   simp[Qo4,Vo,W8,Qiy,t0,t5,t8,t36,t37,t38,hw];have D11:=stp h9 h11 ls11 clk11 (some y.c) (j+1) (some y) a9 ⟨_,e11⟩ co11 em11 (fun q hq=>(mem11 q hq).imp id fun e=>by rw[e]) (fun q e c hc=>by cases e;rw[ey]at hc;exact(o9.from hc).1) (by have:=D4.len;omega);have tk:(outs.take (j+1)).map OutV.p=(outs.take j).map OutV.p ++ [x.p]:=by rw[bn,hx];simp
   have hlj:((outs.take j).map OutV.p).length=j:=by rw[aT,bG];omega
   refine⟨outs.length-(j+1),by omega,_,h11,j+1,clk11,v8,ls11,bks4 ++ [⟨p,atL ls4 p⟩],rfl,by omega,rfl,⟨by simp[t0],by simp,by simp[t8],by simp[t36],by simp[t37],by simp⟩,?_,?_⟩
   ·rw[tk,Yep,hlj];have : (⟨x.p.value,x.p.script,(nu:Int)+1⟩:PC)=y.c:=by rw[ey];rfl
    rw[this,<- ep];exact D11
   ·rw[e11];exact Xju (a9.get gI8) (co8.old a9).gm _
  ·have hjl':¬ (j:Int) < (outs.length:Int):=by omega
   have : j=outs.length:=by omega
   subst this;rw[bJ]at D4;simp[Qo4,Vo,W8,Qiy,t0,t5,t8,t36,t37,t38];have em:doM (Qcv ls) (ptx ins outs lock) ((nu:Int)+1)=Yzc dg hid ((nu:Int)+1) (Z4d (Qcv ls) (ins.map (·.pt))) (outs.map OutV.p):=by
    subst hid0;unfold doM;rw[show(ptx ins outs lock).ins.map (·.pt)=ins.map (·.pt)from Z9i ins];rfl
   refine hk bv4 h4 ls4 clk4 bks4 ?_;rw[em];exact⟨D4.row.low a0.1,D4.co,D4.mp,D4.back,⟨al a0.1 D4.bt.1,fun c hc hne=>by rw[D4.bt.2 c (az hc a0.1) hne,a0.2 c hc]⟩,D4.off,fun s hs=>(D4.new s hs).imp id fun q c hc=>al a0.1 (q c hc),D4.len,D4.bl⟩
end
section
variable{h h':Heap}{L:Nat}{o:AObj}(go:h.get L=some (.obj o))(a:But L h h')
include go a
def Yys{c z:Nat}{ow:Bool}{l:List Value}(g:h.get c=some (.cells ow z l)):h'.get c=some (.cells ow z l):=by
 rw[a.2 c (Heap.get_lt g) fun e=>by rw[e,go]at g;cases g];exact g
def Sl.obj{z n:Nat}{v:Value}{xs:List Value}(s:Sl h z v n xs):Sl h' z v n xs:=s.keep fun c hb hc=>a.2 c hc fun e=>by
 obtain⟨_,_,_,g⟩:=X9c s hb;rw[e,go]at g;cases g
def LvAt.obj{x:LV}(l:LvAt h x):LvAt h' x:=⟨Sl.obj go a l.s,l.b,l.l,l.v⟩
def BkAt.obj{v:Value}{k:BK}(l:BkAt h v k):BkAt h' v k:=by
 obtain⟨q1,q2,bT,bC,bP,e,g1,g2,g3⟩:=l;exact⟨q1,fun x hx=>LvAt.obj go a (q2 x hx),bT,bC,bP,e,Yys go a g1,Yys go a g2,Yys go a g3⟩
def CoM.obj{mb clk:Nat}{ls:List LC}(w:CoM h mb clk ls):CoM h' mb clk ls:=by
 refine⟨?_,w.B,fun x hx=>LvAt.obj go a (w.hs x hx),w.nd,w.kb⟩;rw[a.2 mb (Heap.get_lt w.gm) fun e=>by have:=w.gm;rw[e,go]at this;cases this];exact w.gm
end
section
def Z8j(b:Nat){h:Heap}{mb clk:Nat}{ls:List LC}(w:CoM h mb clk ls){k:BK}(pb:PtB k.p)(hl:∀ x,k.c=some x->LvAt h x){bT bC bP:Nat}(gT:h.get bT=some (.cells true 1 [.bool k.c.isSome]))(gC:h.get bC=some (.cells true 1 (Q08 k.c)))(gP:h.get bP=some (.cells true 1 k.p.cells))
  (K:KP) (hk:∀ h' ls' clk',(∃ y,h'=h.set mb y)->CoM h' mb clk' ls'->Qcv ls'=Yez (Qcv ls) k.p (k.c.map LV.c)->(∀ y ∈ ls',y ∈ ls∨some y.c=k.c)->ls'.length<=ls.length+1->K (.ret (.tuple #[])) h') :
  CallOK Tryz.prog (E b).G 85 [.map (some mb),.pointer (some ⟨bT,0,none⟩),.pointer (some ⟨bC,0,none⟩),.pointer (some ⟨bP,0,none⟩)] h K:=by
 refine Qkb (E b) (U7 _ _) (Ue b) (Ji b) mixed (Uk b) (Qn9 b) Xi5.1 Xi5.2.1 Xi5.2.2 rfl ?_;have cT:J3 h bT 0=some (.bool k.c.isSome):=by rw[Za gT];rfl
 have lP:Qb9 h bP 0 33=some (.agg ⟨k.p.cells⟩):=agW gP (by rw[Pt.len];omega) (by rw[Pt.len];omega);cases hc:k.c with
 | none =>
  rw[hc]at cT;obtain⟨ls2,h2,dl,e2,co2,em,le,mem⟩:=Jfr b w k.p;simp[Qqe,Q1u,Qn9,Xtw,W5,Jfp,cT,lP,dl];exact hk h2 ls2 clk ⟨_,e2⟩ co2 (by rw[em,hc];rfl) (fun y hy => .inl (mem y hy)) (by omega)
 | some x =>
  rw[hc]at cT gC;have lC:Qb9 h bC 0 3=some (.agg ⟨x.cells⟩):=by rw[Vf gC (by simp[Q08,LV.cells])];rfl
  obtain⟨ls2,clk2,h2,up,e2,co2,em,le,mem⟩:=Jaf b w pb (hl x hc);simp[Qqe,Q1u,Qn9,Xtw,W5,Jfp,cT,lP,lC,up];exact hk h2 ls2 clk2 ⟨_,e2⟩ co2 (by rw[em,hc];rfl) (fun y hy=>(mem y hy).imp id fun e=>by rw[e,hc]) le
def Zqj(b:Nat)(h:Heap)(v:Value)(hv:Qh6 v=true/\v.cells = #[v])(K:KP)(hk:∀ h',h'.get h.next=some (.cells true 1 [v])->Old h h'->h'.next=h.next+1->K (.ret (.func (.func 84) #[] #[.pointer (some ⟨h.next,0,none⟩)])) h') :
  FK b 51 [v] h K:=by
 refine F3 b (Zt b) Qdm rfl ?_;obtain⟨hA,eA⟩:∃ hA,hA=h.push (.cells true 1 [v]):=⟨_,rfl⟩;have bx:Zqi v h=some (.pointer (some ⟨h.next,0,none⟩),hA):=by simp[Zqi,eA,hv.1,hv.2]
 simp[W1,Qe7,Zt,bx];exact hk hA (by rw[eA,Heap.get_push,if_pos rfl]) (by rw[eA];exact Old.push _ _) (by rw[eA];rfl)
end
def BWI(A l:Nat)(n:Nat)(I:Nat->Heap->Prop)(k:Nat)(s:St):Prop:=∃ (t:Tr Value) (g:Heap) (j:Nat),s=⟨⟨19,t⟩,[],g⟩/\t.get 0=some (.func (.yield l) #[] #[])/\t.get 1=some (.pointer (some ⟨A,0,none⟩))/\t.get 3=some (.int .i64 ((n:Int)-1-(j:Int)))/\j<=n/\k=n-j/\I j g
section
attribute [local simp] Zn Jn Zb Z78 Z6a Jl Qro Zwy
def bw1(b:Nat){l A:Nat}{v:Value}{vals:List Value}(h:Heap)(K:KP)(I:Nat->Heap->Prop)(hI:I 0 h)(hn:vals.length < 1000000)
  (h1:∀ j g,I j g->g.get A=some (.cells true 1 [v])/\Sl g 1 v vals.length vals/\∃ st pe t ps an bd d,g.get l=some (.obj (.loop st pe t ps an bd d))/\∀ x y:Value,Zug t.size ps.toList [x,y]=true)
  (hr:∀ j g x (K:KP),I j g->j < vals.length->vals[vals.length-1-j]? = some x->(∀ g',I (j+1) g'->g.next<=g'.next->K (.ret (.bool true)) g')->Xrb Tryz.prog (E b).G l [.int .i64 ((vals.length:Int)-1-(j:Int)),x] g K)
  (hk:∀ g,I vals.length g->K (.ret (.tuple #[])) g):CallOK Tryz.prog (E b).G 84 [.func (.yield l) #[] #[],.pointer (some ⟨A,0,none⟩)] h K:=by
 refine Qkb (E b) (U7 _ _) (Ue b) (Ji b) mixed (Uk b) (Zb b) Qd6.1 Qd6.2.1 Qd6.2.2 rfl ?_;obtain⟨gA,s0, -⟩:=h1 _ _ hI;have cA:J3 h A 0=some v:=by rw[Za gA];rfl
 have len:∀ hx,Qne (E b).toEnv 73 v hx=some (.int .i64 (vals.length:Int)):=fun hx=>Qbq (T73 b) s0;have w0:IntKind.i64.wrap ((vals.length:Int)-1)=(vals.length:Int)-1:=W3 (by omega) (by omega);simp[cA,len,w0];refine Qfs (BWI A l vals.length I) vals.length ⟨_,h,0,rfl,by simp,by simp,by simp,by omega,rfl,hI⟩ ?_;rintro k s' ⟨t,g,j,rfl,t0,t1,t3,hj,rfl,hIg⟩ -;obtain⟨gA,s1,st,pe,tl,ps,an,bd,d,q3,q4⟩:=h1 _ _ hIg;have cA:J3 g A 0=some v:=by rw[Za gA];rfl
 obtain⟨z,hz⟩:∃ z:Int,z=(vals.length:Int)-1-(j:Int):=⟨_,rfl⟩;rw[<- hz]at t3;by_cases hlt:j < vals.length
 ·have hz0:0<=z:=by omega
  have hzn:(z.toNat:Int)=z:=di hz0;have e1:z.toNat=vals.length-1-j:=by omega
  obtain⟨x,hx⟩:∃ x,vals[vals.length-1-j]? = some x:=⟨_,ab (by omega)⟩;obtain⟨bk,off,x0,x1,x2, -⟩:=Xc9 (T73 b) Q5z s1 (k:=.i64) (i:=z) hz0 (by omega);have x2:=x2 0 (by omega);rw[e1,da,cg,cg,hx]at x2;have hw:IntKind.i64.wrap (z-1)=(vals.length:Int)-1-((j+1:Nat):Int):=by rw[W3 (by omega) (by omega)];omega
  have q4:=q4 (.int .i64 z) x;simp[t0,t1,t3,cA,hz0,x1,x2,Yda,q3,q4];have:=hr j g x;rw[<- hz]at this;refine this _ hIg hlt hx fun g' hI' hn' => ?_;simp[t0,t1,t3,hw];exact⟨vals.length-(j+1),by omega,_,g',j+1,rfl,by simp[t0],by simp[t1],by simp,by omega,rfl,hI'⟩
 ·have hz0:¬ 0<=z:=by omega
  have : j=vals.length:=by omega
  subst this;simp[t0,t1,t3,hz0];exact hk g hIg
end
def aTn:Code:=Jke (X7a (Y3 27))
def bTn:Code:=Jk7 (X7a (Y3 27))
def Z59:X7a (Y3 27)=.rangeFunc (.tmp 7) #[8,9] aTn bTn:=kR
def Jjm:U3 aTn=Qws:=kR
def Jic:U3 bTn=Qp5:=kR
structure TNI (hB:Heap) (TL:Tm) (mb:Nat) (ls:List LC) (bks:List BK) (j:Nat) (g:Heap):Prop where
 gd:g.get hB.next=some (.obj .defs)
 gl:g.get (hB.next+1)=some (.obj (.loop .ready none TL #[8,9] aTn bTn hB.next))
 bt:But mb hB g
 n:hB.next+2<=g.next
 co:∃ clk ls1,CoM g mb clk ls1/\Qcv ls1=Ypo (bks.drop (bks.length-j)) (Qcv ls)/\(∀ s ∈ Xuk ls1,s ∈ Xuk ls++Yco bks)/\ls1.length<=ls.length+j
def Z4w(a:Option Addr)(n c:Nat):Qh6 (.slice a n c)=true/\(Value.slice a n c).cells = #[.slice a n c]:=⟨rfl,rfl⟩
def BkRow.slice{h:Heap}{n0:Nat}{v:Value}{l:List BK}(r:BkRow h n0 v l):Qh6 v=true/\v.cells = #[v]:=by
 obtain⟨vals,o, -⟩:=r;rcases o with⟨rfl,_⟩ | ⟨_,_,_,_,rfl,_⟩ <;> exact Z4w _ _ _
section
set_option maxHeartbeats 1000000 in
def Jdx(b:Nat){h:Heap}{lb mb z clk n0:Nat}{nt un bv:Value}{ls:List LC}{bks:List BK}(gl:h.get lb=some (.cells true z [nt,.map (some mb),un]))(w:CoM h mb clk ls)(r:BkRow h n0 bv bks)(hn:bks.length < 1000000)
  (K:KP) (hk:∀ h' ls' clk',CoM h' mb clk' ls'->Qcv ls'=Ypo bks (Qcv ls)->But mb h h'->(∀ s ∈ Xuk ls',s ∈ Xuk ls++Yco bks)->ls'.length<=ls.length+bks.length->K (.ret (.tuple #[])) h') :
  CallOK Tryz.prog (E b).G 27 [.pointer (some ⟨lb,0,none⟩),bv] h K:=by
 refine Qkb (E b) (U7 _ _) (Ue b) (Ji b) mixed (Uk b) (W4 b) Xmh.1 Xmh.2.1 Xmh.2.2 rfl ?_;obtain⟨hV,eV⟩:∃ hV,hV=h.push (.cells true 1 [.pointer (some ⟨lb,0,none⟩)]):=⟨_,rfl⟩;have bx:Zqi (.pointer (some ⟨lb,0,none⟩)) h=some (.pointer (some ⟨h.next,0,none⟩),hV):=by rw[eV];rfl
 have aV:=Qpm eV;have gV:hV.get h.next=some (.cells true 1 [.pointer (some ⟨lb,0,none⟩)]):=by rw[eV,Heap.get_push,if_pos rfl]
 simp[Qnh,Qvj,W4,Zt,Qsq,bx,Z59];refine(Zqj b hV bv r.slice _ fun hB gA aB nB => ?_).ok;simp[Qnh,Qvj,W4,Zt,Qsq,Z59];refine Z9k (first:=#[]) (captured:=#[.pointer (some ⟨hV.next,0,none⟩)]) (by simp) (Zb b) ?_;generalize hTL:Tm.mk 16 _=TL;have e2:TL.t.get 2=some (.pointer (some ⟨h.next,0,none⟩)):=by rw[<- hTL];simp
 have es':TL.size=16:=by rw[<- hTL]
 have hTl:TL=⟨16,TL.t⟩:=by rw[<- es']
 have aVB:=aV.trans aB;have wB:=w.old aVB;have rB:=r.old aVB;obtain⟨vals,o,hl,hb,he⟩:=rB;obtain⟨h0,e0⟩:∃ h0,h0=(hB.push (.obj .defs)).push (.obj (.loop .ready none TL #[8,9] aTn bTn hB.next)):=⟨_,rfl⟩;have n0':h0.next=hB.next+2:=by rw[e0];simp only[Qgr]
 have a0:Old hB h0:=by rw[e0];exact(Old.push _ _).trans (Old.push _ _)
 rw[<- e0];refine bw1 b (l:=hB.next+1) (vals:=vals) h0 _ (TNI hB TL mb ls bks) ⟨?_,?_,But.of a0,by omega,clk,ls,wB.old a0,by simp[Ypo],fun s hs=>by simp[hs],by omega⟩ (by omega) (fun j g i=>⟨i.bt.get gA wB.gm,?_,_,_,_,_,_,_,_,i.gl,fun x y=>by rw[es'];rfl⟩) ?_ ?_
 ·rw[e0];simp (disch:=first | omega | (simp only[Qgr,Q4j];done) | (simp only[Qgr,Q4j];omega)) only[Z8f,Z87,Z7h,Z7r]
 ·rw[e0];simp (disch:=first | omega | (simp only[Qgr,Q4j];done) | (simp only[Qgr,Q4j];omega)) only[Z8f,Z87,Z7h,Z7r]
 ·have:=Sl.but wB.gm i.bt o.sl;rw[<- hl]at this;exact this
 ·intro j g x K' i hj hx hK;obtain⟨clk1,ls1,co1,em1,sv1,le1⟩:=i.co;obtain⟨k,hkk⟩:∃ k,bks[bks.length-1-j]? = some k:=⟨_,ab (by omega)⟩;rw[hl]at hx;have bk:=BkAt.but wB.gm i.bt (hb _ x k hx hkk);refine Z11 (E b) (U7 _ _) (Ue b) (Ji b) mixed i.gl (by rw[es'];rfl) Jjm Jic ?_;have lL:=Heap.get_lt i.gl;obtain⟨hC,eC⟩:∃ hC,hC=g.set (hB.next+1) (some (.obj (.loop .busy none TL #[8,9] aTn bTn hB.next))):=⟨_,rfl⟩;have kC:∀ c,c≠hB.next+1->hC.get c=g.get c:=fun c hc=>by rw[eC,gY lL,if_neg (Ne.symm hc)]
  have bC:But (hB.next+1) g hC:=by rw[eC];exact(But.of (Old.refl _)).set _ lL
  have gCL:hC.get (hB.next+1)=some (.obj (.loop .busy none TL #[8,9] aTn bTn hB.next)):=by rw[eC,gY lL,if_pos rfl]
  have nC:hC.next=g.next:=by rw[eC];rfl
  have coC:=CoM.obj i.gl bC co1;have bkC:=BkAt.obj i.gl bC bk;have gVC:hC.get h.next=some (.cells true 1 [.pointer (some ⟨lb,0,none⟩)]):=Yys i.gl bC (i.bt.get (aB.get gV) wB.gm);have glC:hC.get lb=some (.cells true z [nt,.map (some mb),un]):=Yys i.gl bC (i.bt.get (aVB.get gl) wB.gm);have c2:J3 hC h.next 0=some (.pointer (some ⟨lb,0,none⟩)):=by rw[Za gVC];rfl
  have c1:J3 hC lb 1=some (.map (some mb)):=by rw[Za glC];rfl
  obtain⟨pb,hlv,bT,bCc,bP,rfl,gT,gC,gP⟩:=bkC;have gL0:=i.gl;rw[hTl]at eC gL0 ⊢;simp[Qws,Ydg,X80,gL0,<- eC];simp[Qp5,Ji4,Ut,Qgn,Qn9,e2,c2,Qgt,c1];refine Z8j b coC pb hlv gT gC gP _ fun h2 ls2 clk2 hy co2 em2 mem2 le2 => ?_;obtain⟨y,rfl⟩:=hy;have lm:=Heap.get_lt coC.gm;have nLm:mb≠hB.next+1:=fun e=>by have:=coC.gm;rw[e,gCL]at this;cases this
  have g7L:(hC.set mb y).get (hB.next+1)=some (.obj (.loop .busy none TL #[8,9] aTn bTn hB.next)):=by rw[gY lm,if_neg nLm];exact gCL
  rw[hTl]at g7L;simp[Qp5];refine X78 (st:=.busy) (pe:=none) (t2:=⟨16,TL.t⟩) (ps2:=#[8,9]) (as2:=aTn) (bd2:=bTn) (d2:=hB.next) g7L ?_;rw[<- hTl];have l7:=Heap.get_lt g7L;obtain⟨h8,e8⟩:∃ h8,h8=(hC.set mb y).set (hB.next+1) (some (.obj (.loop .ready none TL #[8,9] aTn bTn hB.next))):=⟨_,rfl⟩;rw[<- e8];have b8:But (hB.next+1) (hC.set mb y) h8:=by rw[e8];exact(But.of (Old.refl _)).set _ l7
  have co8:=CoM.obj g7L b8 co2;have n8:h8.next=g.next:=by rw[e8];exact nC
  have nDm:mb≠hB.next:=fun e=>by have:=co1.gm;rw[e,i.gd]at this;cases this
  refine hK h8 ⟨?_,by rw[e8,gY l7,if_pos rfl],⟨by rw[n8];exact i.bt.1,fun c hc hne => ?_⟩,by rw[n8];exact i.n,clk2,ls2,co8,?_,fun s hs => ?_,by omega⟩ (by rw[n8];exact ae _)
  ·rw[b8.2 _ (by show hB.next < hC.next;have:=i.n;omega) (by omega),gY lm,if_neg nDm,kC _ (by omega)];exact i.gd
  ·have:=i.bt.1;rw[b8.2 c (by show c < hC.next;omega) (by omega),gY lm,if_neg (Ne.symm hne),kC c (by omega),i.bt.2 c hc hne]
  ·have e3:bks.drop (bks.length-(j+1))=k::bks.drop (bks.length-j):=by
    have hlt:bks.length-1-j < bks.length:=(by omega);rw[show bks.length-(j+1)=bks.length-1-j by omega,bF hlt];rw[ab hlt]at hkk;rw[bE hkk,show bks.length-1-j+1=bks.length-j by omega]
   rw[e3,em2,em1];rfl
  ·obtain⟨z,hz,rfl⟩:=ao.1 hs;rcases mem2 z hz with q | q
   ·exact sv1 _ (ao.2 ⟨z,q,rfl⟩)
   ·exact ac.2 (.inr (cr.2 ⟨k,ak hkk,by rw[<- q];rfl⟩))
 ·intro g i;refine Ys1 (by simp) i.gl ?_;obtain⟨clk1,ls1,co1,em1,sv1,le1⟩:=i.co;have lL:=Heap.get_lt i.gl;obtain⟨g1,eg1⟩:∃ g1,g1=g.set (hB.next+1) none:=⟨_,rfl⟩;have b1:But (hB.next+1) g g1:=by rw[eg1];exact(But.of (Old.refl _)).set _ lL
  have gd:g1.get hB.next=some (.obj .defs):=by rw[eg1,gY lL,if_neg (by omega)];exact i.gd
  have n1:g1.next=g.next:=by rw[eg1];rfl
  have lD:=Heap.get_lt gd;rw[hTl,<- eg1];simp[Qnh,Qvj,W4,Zt,Qsq,gd];have co2:=CoM.obj gd ((But.of (Old.refl g1)).set none lD) (CoM.obj i.gl b1 co1);rw[hl,Nat.sub_self,bX]at em1;refine hk _ ls1 clk1 co2 em1 ⟨by have:=aVB.1;have:=i.bt.1;show h.next<=g1.next;omega,fun c hc hne => ?_⟩ sv1 (by rw[<- hl];exact le1);have:=aVB.1;rw[gY lD,if_neg (by omega),b1.2 c (by have:=i.bt.1;omega) (by omega),i.bt.2 c (by omega) hne,aVB.2 c hc]
end
def Zzg(b:Nat)(ν:Nat){l:List Value}(hl:l.length=32)(lk:Int):Qm8 (E b).toEnv 107 [(0,.pointer (some ⟨ν,0,none⟩)),(1,.agg ⟨l⟩),(2,.int .i64 lk)]=some (.agg ⟨.pointer (some ⟨ν,0,none⟩)::l ++ [.int .i64 lk]⟩):=by
 have e:Qm8 (E b).toEnv 107 [(0,.pointer (some ⟨ν,0,none⟩)),(1,.agg ⟨l⟩),(2,.int .i64 lk)]=(Xqi (nth [(0,1),(1,32),(33,1)]) (.pointer none::List.replicate 32 zU ++ [.int .i64 0]) [(0,.pointer (some ⟨ν,0,none⟩)),(1,.agg ⟨l⟩),(2,.int .i64 lk)]).map fun c => .agg c.toArray:=by
  kernel_rfl
 rw[e];have hc:(Value.agg ⟨l⟩).cells.toList=l:=rfl;have hs:(Value.agg ⟨l⟩).cells.size=32:=hl;have hz:(.pointer (some ⟨ν,0,none⟩)::List.replicate 32 zU ++ [.int .i64 0]:List Value).length=34:=by simp
 have hz2:(.pointer (some ⟨ν,0,none⟩)::l ++ [.int .i64 0]:List Value).length=34:=by simp[hl]
 have s0:Ql3 (.pointer none::List.replicate 32 zU ++ [.int .i64 0]:List Value) 0 [.pointer (some ⟨ν,0,none⟩)]=some (.pointer (some ⟨ν,0,none⟩)::List.replicate 32 zU ++ [.int .i64 0]):=rfl;have s1:Ql3 (.pointer (some ⟨ν,0,none⟩)::List.replicate 32 zU ++ [.int .i64 0]:List Value) 1 l=some (.pointer (some ⟨ν,0,none⟩)::l ++ [.int .i64 0]):=by
  rw[Qpt (by rw[hz,hl];omega),hl];rfl
 have s2:Ql3 (.pointer (some ⟨ν,0,none⟩)::l ++ [.int .i64 0]:List Value) 33 [.int .i64 lk]=some (.pointer (some ⟨ν,0,none⟩)::l ++ [.int .i64 lk]):=by
  rw[Qpt (by rw[hz2];simp),List.take_left' (by simp[hl]),bh,cL (by simp[hl])];simp
 have b1:(Qh6 (.agg ⟨l⟩) && (Value.agg ⟨l⟩).cells.size == 32 && Nat.ble (1+32) (.pointer (some ⟨ν,0,none⟩)::List.replicate 32 zU ++ [.int .i64 0]:List Value).length)=true:=by
  rw[hs,hz];rfl
 have p0:(Qh6 (.pointer (some ⟨ν,0,none⟩)) && (Value.pointer (some ⟨ν,0,none⟩)).cells.size == 1 && Nat.ble (0+1) (.pointer none::List.replicate 32 zU ++ [.int .i64 0]:List Value).length)=true:=rfl;have b2:(Qh6 (.int .i64 lk) && (Value.int .i64 lk).cells.size == 1 && Nat.ble (33+1) (.pointer (some ⟨ν,0,none⟩)::l ++ [.int .i64 0]:List Value).length)=true:=by
  rw[hz2];rfl
 have c0:(Value.pointer (some ⟨ν,0,none⟩)).cells.toList=[.pointer (some ⟨ν,0,none⟩)]:=rfl;have c2:(Value.int .i64 lk).cells.toList=[.int .i64 lk]:=rfl;simp only[Xqi,nth,p0,b1,b2,if_true,hc,c0,c2,s0,s1,s2];rfl
def Zwp(a:Asks)(m:Qo1):List PIn->Int->Except Int Int
 | [],s => .ok s
 | x::l,s=>match m x.pt with
  | none => .error 17
  | some c=>if Y9f a c.script x.wit=0 then Zwp a m l (s+c.value)else .error (Y9f a c.script x.wit)
def Zfy(ks:List Nat)(hks:ks.length=1024)(t:PTx):Asks:=⟨ks,dgF X06 t,t.lock,hks,Yb3 _ _⟩
def Q1h(l:List POut):Int:=(l.map (·.value)).sum
def Qvp(ks:List Nat)(hks:ks.length=1024)(m:Qo1)(ht:Int)(t:PTx):Int × Int :=
 if Qu2 t=0 then
  if ht+1 < t.lock then(0,18)else
  match Zwp (Zfy ks hks t) m t.ins 0 with
  | .error e=>(0,e)
  | .ok s=>if s-Q1h t.outs < 0 then(0,19)else(s-Q1h t.outs,0)
 else(0,Qu2 t)
def Jb5{a:Asks}{m:Qo1}{l:List PIn}{i:Nat}{x:PIn}(hx:l[i]? = some x)(s:Int):Zwp a m (l.drop i) s=match m x.pt with
  | none => .error 17
  | some c=>if Y9f a c.script x.wit=0 then Zwp a m (l.drop (i+1)) (s+c.value)else .error (Y9f a c.script x.wit):=by
 rw[bF (au.1 hx).1,(au.1 hx).2,Zwp]
def Z17(x:InV):x.cells[33]? = some x.wv:=by
 rw[InV.cells,aS (by rw[Pt.len];omega),Pt.len];rfl
def Zvh:∀ {l:List POut} {lft:Int},X2c l lft=true->0<=lft->0<=Q1h l/\Q1h l<=lft
 | [],lft,_,h=>by simp[Q1h];exact h
 | o::l,lft,h,h0=>by
  unfold X2c at h;split at h
  ·cases h
  ·rename_i hc;have:=Zvh h (by omega);have e:Q1h (o::l)=o.value+Q1h l:=by simp[Q1h]
   rw[e];omega
structure V1 (lb B V:Nat) (iv:Value) (n:Nat) (t:Tr Value) (i:Nat) (fee:Int):Prop where
 t0:t.get 0=some (.pointer (some ⟨lb,0,none⟩))
 t3:t.get 3=some (.pointer (some ⟨B,0,none⟩))
 t7:t.get 7=some (.pointer (some ⟨V,0,none⟩))
 t8:t.get 8=some (.int .i64 fee)
 t37:t.get 37=some iv
 t38:t.get 38=some (.int .i64 (n:Int))
 t39:t.get 39=some (.int .i64 (i:Int))
def VI1(lb B V:Nat)(iv:Value)(ins:List InV)(a:Asks)(m:Qo1)(h:Heap)(k:Nat)(s:St):Prop:=∃ (t:Tr Value) (h1:Heap) (i:Nat) (fee:Int),s=⟨⟨86,t⟩,[],h1⟩/\i<=ins.length/\k=ins.length-i/\V1 lb B V iv ins.length t i fee/\Old h h1/\0<=fee/\fee<=1125899906842624*(i:Int)/\Zwp a m (ins.map InV.p) 0=Zwp a m ((ins.map InV.p).drop i) fee
def VI2(ov:Value)(outs:List OutV)(h:Heap)(s0:Int)(k:Nat)(s:St):Prop:=∃ (t:Tr Value) (h1:Heap) (i:Nat),s=⟨⟨86,t⟩,[],h1⟩/\i<=outs.length/\k=outs.length-i/\t.get 8=some (.int .i64 (s0-Q1h ((outs.map OutV.p).take i)))/\t.get 72=some ov/\t.get 73=some (.int .i64 (outs.length:Int))/\t.get 74=some (.int .i64 (i:Int))/\Old h h1
def Z04{outs:List OutV}{i:Nat}{x:OutV}(hx:outs[i]? = some x):Q1h ((outs.map OutV.p).take (i+1))=Q1h ((outs.map OutV.p).take i)+x.value:=by
 rw[bn,bf,hx];simp[Q1h,OutV.p]
def Z7a(l m:List POut):Q1h (l++m)=Q1h l+Q1h m:=by simp[Q1h]
section
attribute [local simp] Zq Jf Z6 Vy Jv Qf8 Qb5 U2 Xz Xv Zo Qmp Qrw Vi Qwx Jb Qa2 W6 Xt Qo0 Qqd Ut Qgn V9 W5 Qto Qk5 Ve J7 Qd4 Qh8 Qf6 Je V7 Zf Qb7 Qbm Qfp Qah Jl
set_option maxHeartbeats 4000000 in
def Z8u(b:Nat){h:Heap}{lb mb z clk nu ν zν:Nat}{ow:Bool}{un:Value}{ls:List LC}{ks:List Nat}(hks:ks.length=1024)(laid:Ab.LaidIn h laidAll)(gl:h.get lb=some (.cells true z [.pointer (some ⟨ν,0,none⟩),.map (some mb),un]))(gν:h.get ν=some (.cells ow zν (ks.map u8v)))
  (hun:∀ hx,Qne (E b).toEnv 78 un hx=some (.int .i64 (nu:Int))) (hnu:nu < 1000000) (w:CoM h mb clk ls) {iv ov:Value} {ins:List InV} {outs:List OutV} {lock:Int} (si:Ins h iv ins) (so:Outs h ov outs) (hp:∀ x ∈ ins,PtB x.pt)
  (K:KP) (hk:∀ h',Old h h'->K (.ret (.tuple #[.int .i64 (Qvp ks hks (Qcv ls) (nu:Int) (ptx ins outs lock)).1,.int .i64 (Qvp ks hks (Qcv ls) (nu:Int) (ptx ins outs lock)).2])) h'):CallOK Tryz.prog (E b).G 26 [.pointer (some ⟨lb,0,none⟩),.agg ⟨txC iv ov lock⟩] h K:=by
 refine Qkb (E b) (U7 _ _) (Ue b) (Ji b) mixed (Uk b) (Z6 b) Xjq.1 Xjq.2.1 Xjq.2.2 rfl ?_;obtain⟨h0,e0⟩:∃ h0,h0=h.push (.cells true 1 (txC iv ov lock)):=⟨_,rfl⟩;have bx:=Q0e e0;have a0:=Qpm e0;have g0:h0.get h.next=some (.cells true 1 (txC iv ov lock)):=by rw[e0,Heap.get_push,if_pos rfl]
 have len1:∀ hx,Qne (E b).toEnv 30 iv hx=some (.int .i64 (ins.length:Int)):=fun hx=>Qbq (T30 b) si.s;have len2:∀ hx,Qne (E b).toEnv 27 ov hx=some (.int .i64 (outs.length:Int)):=fun hx=>Qbq (T27 b) so.s;have c0:∀ {hx:Heap},hx.get h.next=some (.cells true 1 (txC iv ov lock))->J3 hx h.next 0=some iv/\J3 hx h.next 1=some ov/\J3 hx h.next 2=some (.int .i64 lock)/\Qb9 hx h.next 0 3=some (.agg ⟨txC iv ov lock⟩):=fun g=>⟨by rw[Za g];rfl,by rw[Za g];rfl,by rw[Za g];rfl,by rw[Vf g (by simp[txC])];rfl⟩;simp[Qo4,W8,bx,(c0 g0).2.2.2];refine(Zux b (si.old a0) (so.old a0) _ fun h1 a1 => ?_).ok;have a01:=a0.trans a1;by_cases hc:Qu2 (ptx ins outs lock)=0
 ·have g1:=a1.get g0;have gl1:=a01.get gl;obtain⟨_,h2',q2,n2,rfl,rfl⟩:=Yzo b gl1 hun (fun r h'=>r=.ret (.int .i64 (nu:Int))/\h1=h') ⟨rfl,rfl⟩;have hwn:IntKind.i64.wrap ((nu:Int)+1)=(nu:Int)+1:=W3 (by omega) (by omega);have vE:Qvp ks hks (Qcv ls) (nu:Int) (ptx ins outs lock)=if(nu:Int)+1 < lock then(0,18)else match Zwp (Zfy ks hks (ptx ins outs lock)) (Qcv ls) (ins.map InV.p) 0 with
    | .error e=>(0,e)
    | .ok s=>if s-Q1h (outs.map OutV.p) < 0 then(0,19)else(s-Q1h (outs.map OutV.p),0):=by
   unfold Qvp;rw[if_pos hc];rfl
  rw[vE]at hk;simp[Qo4,W8,hc,(c0 g1).1];refine Qg6 [⟨14,[.pointer (some ⟨lb,0,none⟩)],h1,.int .i64 (nu:Int),h1,true⟩] ?_ Xa2 Xb2 Q9v (by simp[Xes,Xhb,(c0 g1).2.2.1,hwn];first | exact⟨rfl,rfl⟩ | rfl) ?_ ?_
  ·exact zk1 ⟨q2,n2,fun _ c hc=>rfl⟩
  ·simp[Qcq,(c0 g1).2.2.1]
  by_cases hlk:(nu:Int)+1 < lock
  ·rw[if_pos hlk]at hk;simp[Qo4,W8,hlk];exact hk h1 a01
  ·rw[if_neg hlk]at hk;simp[Qo4,W8,hlk];have la1:=Laid.old laid a01;obtain⟨_,h2,q3,n3,rfl,a2⟩:=Zit b la1 ((si.old a0).old a1) ((so.old a0).old a1) hp (fun r h'=>r=.ret (.agg ⟨(dgF X06 (ptx ins outs lock)).map u8v⟩)/\Old h1 h') (fun h' a=>⟨rfl,a⟩);obtain⟨dg,hdg⟩:∃ dg,dg=dgF X06 (ptx ins outs lock):=⟨_,rfl⟩;have ldg:(dg.map u8v).length=32:=by rw[aT,hdg,Yb3]
   rw[<- hdg]at q3;obtain⟨e,he⟩:∃ e:Menv,e=⟨.pointer (some ⟨ν,0,none⟩),dg.map u8v,lock,ldg⟩:=⟨_,rfl⟩;have ec:e.cells=.pointer (some ⟨ν,0,none⟩)::dg.map u8v ++ [.int .i64 lock]:=by rw[he];rfl
   have be:Qm8 (E b).toEnv 107 [(0,.pointer (some ⟨ν,0,none⟩)),(1,.agg ⟨dg.map u8v⟩),(2,.int .i64 lock)]=some (.agg ⟨e.cells⟩):=by rw[ec];exact Zzg b ν ldg lock
   obtain⟨hA,h3,alA,stA,stA',g3,a3,n3'⟩:=Qxa b (Z23 b) (l:=e.cells) (by rw[Menv.len,Y06]) (by kernel_rfl) h2;have lE:=Menv.len e;have gl1c:J3 h1 lb 0=some (.pointer (some ⟨ν,0,none⟩)):=by rw[Za gl1];rfl
   have g2:=a2.get g1;refine Qg6 [⟨47,[.agg ⟨txC iv ov lock⟩],h1,.agg ⟨dg.map u8v⟩,h2,true⟩] ?_ Q9c Xd1 Q9r (by simp[Xeg,Xf5,Qgt,gl1c,(c0 g1).2.2.1,(c0 g1).2.2.2,(c0 g2).2.2.1,be,-Qwx,alA,stA,stA',lE];first | exact⟨rfl,rfl⟩ | rfl) ?_ ?_
   ·exact zk1 ⟨q3,n3,fun _ c hc=>a2.2 c hc⟩
   ·simp[Qct,gl1c,(c0 g1).2.2.1,(c0 g1).2.2.2,(c0 g2).2.2.1]
   have a03:=(a01.trans a2).trans a3;have g3':=a3.get g2;have gl3:=a03.get gl;obtain⟨aa,haa⟩:∃ aa,aa=Zfy ks hks (ptx ins outs lock):=⟨_,rfl⟩;rw[<- haa]at hk;have la3:=Laid.old laid a03;have wo3:Wo h3 e aa:=⟨Xku la3,fun c hc=>hc.elim,Z4s la3,⟨ν,zν,ow,by rw[he],by rw[haa];exact a03.get gν,fun q=>q⟩,by rw[he,haa];exact congrArg (List.map u8v) hdg,by rw[he,haa];rfl⟩;have w3:=w.old a03;simp[Qo4,W8,(c0 g3').1,len1];refine Qfs (VI1 lb h.next h2.next iv ins aa (Qcv ls) h3) ins.length ⟨_,h3,0,0,rfl,by omega,rfl,⟨by simp,by simp,by simp,by simp,by simp,by simp,by simp⟩,Old.refl _,by omega,by omega,by simp⟩ ?_;rintro k s' ⟨t,h4,i,fee,rfl,hi,rfl,⟨t0,t3,t7,t8,t37,t38,t39⟩,a4,f0,f1,hins⟩ -;have tk:=Ydw hc;have hl8:ins.length<=8:=by have:=tk.insN.2;simpa[ptx]using this
   have a04:=a03.trans a4;have gl4:=a04.get gl;have w4:=w.old a04;have gE4:=a4.get g3;have lV:∀ {hx:Heap},hx.get h2.next=some (.cells true 1 e.cells)->Qb9 hx h2.next 0 34=some (.agg ⟨e.cells⟩):=fun g=>agW g (by rw[Menv.len];omega) (by rw[Menv.len];omega);by_cases hlt:i < ins.length
   ·have hlt':(i:Int) < (ins.length:Int):=by omega
    have hw:=wS (i:=i) (by omega);obtain⟨x,hx⟩:∃ x,ins[i]? = some x:=⟨_,ab hlt⟩;obtain⟨bk,off, -,x1,x2, -⟩:=Yd2 (b:=b) (T30 b) Qma (si.s.old a04) hx;have hsx:=(si.a x (ak hx)).old a04;obtain⟨hA,h5,alA,stA,stA',g5,a5,n5⟩:=Qxa b (Zb2 b) (l:=x.cells) (by rw[InV.len,Qma]) (by kernel_rfl) h4;have ldp:Qb9 h5 h4.next 0 33=some (.agg ⟨x.pt.cells⟩):=by rw[Vf g5 (by rw[InV.len];omega),bX,Yrf]
    obtain⟨o,ho⟩:∃ o,o=atL ls x.pt:=⟨_,rfl⟩;have w5:=w4.old a5;have lk:Qoh (E b).toEnv 79 (.map (some mb)) (.agg ⟨x.pt.cells⟩) true h5=some (.tuple #[.agg ⟨Q08 o⟩,.bool o.isSome]):=by
     rw[Z1q b w5 x.pt,<- ho];cases o <;> rfl
    have lc:(Q08 o).length=3:=by cases o <;> rfl
    obtain⟨hC,h6,alC,stC,stC',g6,a6,n6⟩:=Qxa b (Zxu b) (l:=Q08 o) (by rw[lc,Yci]) (by kernel_rfl) h5;have cl5:J3 h5 lb 1=some (.map (some mb)):=by rw[Za (a5.get gl4)];rfl
    have hat:=Jb5 (a:=aa) (m:=Qcv ls) (l:=ins.map InV.p) (i:=i) (x:=x.p) (by rw[bf,hx];rfl) fee;rw[hat]at hins;have em:Qcv ls x.p.pt=o.map LV.c:=(by rw[ho];rfl);rw[em]at hins;simp[Qo4,W8,t0,t3,t7,t8,t37,t38,t39,hlt,hlt',x1,x2,-Qo4,alA,stA,stA'];refine Qg6 [] (by simp) Q6k Q9w Q6f (by simp[Xcr,Xai,Qgt,t0,cl5,ldp,lk,-Qto,alC,stC,stC',lc];first | exact⟨rfl,rfl⟩ | rfl) ?_ ?_
    ·simp[Qc3]
    have a46:=a5.trans a6;cases o with
    | none =>
     simp only[cU]at hins;rw[hins]at hk;simp[Qo4,W8,t0,t3,t7,t8,t37,t38,t39];exact hk h6 (a04.trans a46)
    | some y =>
     simp only[aK]at hins;obtain⟨q,hq, -,rfl⟩:=Y8n ho.symm;have hy:=(w4.hs q hq).old a46;have cs:J3 h6 h5.next 1=some q.c.sv:=(by rw[Za g6];rfl);have cv:∀ {hx:Heap},hx.get h5.next=some (.cells true 1 (Q08 (some q.c)))->J3 hx h5.next 0=some (.int .i64 q.c.value):=fun g=>by rw[Za g];rfl
     have cw:J3 h6 h4.next 33=some x.wv:=(by rw[Za (a6.get g5),Z17]);simp[Qo4,W8,t0,t3,t7,t8,t37,t38,t39,cs,cw,lV (a46.get gE4)];have hsx6:=hsx.old a46;refine Y9b b hy.s hy.b hsx6.w hsx6.n hsx6.i ((wo3.old a4).old a46) _ fun h7 a7 => ?_;have a47:=a46.trans a7;have er:Y9f aa q.c.script (x.its.map (·.2))=Y9f aa q.c.c.script x.p.wit:=rfl;by_cases hr:Y9f aa q.c.script (x.its.map (·.2))=0
     ·rw[<- er,if_pos hr]at hins;have hv:=hy.v;have hwf:IntKind.i64.wrap (fee+q.c.value)=fee+q.c.value:=W3 (by omega) (by omega);simp[Qo4,W8,t0,t3,t7,t8,t37,t38,t39,hr,cv (a7.get g6),hwf,hw];exact⟨ins.length-(i+1),by omega,_,h7,i+1,fee+q.c.value,rfl,by omega,rfl,⟨by simp[t0],by simp[t3],by simp[t7],by simp,by simp[t37],by simp[t38],by simp⟩,a4.trans a47,by omega,by omega,hins⟩
     ·rw[<- er,if_neg hr]at hins;rw[hins]at hk;simp[Qo4,W8,t0,t3,t7,t8,t37,t38,t39,hr];exact hk h7 (a04.trans a47)
   ·have hlt':¬ (i:Int) < (ins.length:Int):=by omega
    have : i=ins.length:=(by omega);subst this;rw[cL (by simp)]at hins;have hins:Zwp aa (Qcv ls) (ins.map InV.p) 0=.ok fee:=hins;rw[hins]at hk;have g4:=a4.get g3';simp[Qo4,W8,t0,t3,t7,t8,t37,t38,t39,hlt',(c0 g4).2.1,len2];have hov:=Zvh tk.vals (by omega);have ho8:outs.length<=8:=(by have:=tk.outsN.2;simpa[ptx]using this);refine Qfs (VI2 ov outs h4 fee) outs.length ⟨_,h4,0,rfl,by omega,rfl,by simp[t8,Q1h],by simp,by simp,by simp,Old.refl _⟩ ?_;rintro k s' ⟨t,h5,j,rfl,hj,rfl,t8,t72,t73,t74,a5⟩ -;by_cases hjl:j < outs.length
    ·have hjl':(j:Int) < (outs.length:Int):=by omega
     have hw:=wS (i:=j) (by omega);obtain⟨x,hx⟩:∃ x,outs[j]? = some x:=⟨_,ab hjl⟩;obtain⟨bk,off, -,x1,x2, -, -⟩:=Xhg (b:=b) (T27 b) Qi0 (so.s.old (a04.trans a5)) hx;obtain⟨hA,h6,alA,stA,stA',g6,a6,n6⟩:=Qxa b (Yte b) (l:=x.cells) (by rw[OutV.len,Qi0]) (by kernel_rfl) h5;have cv:J3 h6 h5.next 0=some (.int .i64 x.value):=by rw[Za g6];rfl
     have hvb:∀ o ∈ (ptx ins outs lock).outs,1<=o.value/\o.value<=1125899906842624:=Zcj tk.vals (by omega);have hst:=Z04 hx;have hnn:∀ l:List POut,(∀ o ∈ l,1<=o.value)->0<=Q1h l:=by
      intro l;induction l with
      | nil=>intro _;simp[Q1h]
      | cons o l ih =>
       intro ho;have h1:=ho o (by simp);have h2:=ih fun q hq=>ho q (by simp[hq]);have e:Q1h (o::l)=o.value+Q1h l:=by simp[Q1h]
       rw[e];omega
     have hn1:=hnn ((outs.map OutV.p).take (j+1)) fun o ho=>by
      exact(hvb o (dc ho)).1
     have hn2:=hnn ((outs.map OutV.p).drop (j+1)) fun o ho=>by
      exact(hvb o (List.mem_of_mem_drop ho)).1
     have hsplit:Q1h (ptx ins outs lock).outs=Q1h ((outs.map OutV.p).take (j+1))+Q1h ((outs.map OutV.p).drop (j+1)):=by
      show Q1h (outs.map OutV.p)=_;rw[<- Z7a,bA]
     have hwf:IntKind.i64.wrap (fee-Q1h ((outs.map OutV.p).take j)-x.value)=fee-Q1h ((outs.map OutV.p).take (j+1)):=by
      rw[W3 (by omega) (by omega)];omega
     simp[Qo4,W8,t8,t72,t73,t74,hjl,hjl',x1,x2,-W8,alA,stA,stA',cv,hwf,hw];exact⟨outs.length-(j+1),by omega,_,h6,j+1,rfl,by omega,rfl,by simp,by simp[t72],by simp[t73],by simp,a5.trans a6⟩
    ·have hjl':¬ (j:Int) < (outs.length:Int):=by omega
     have : j=outs.length:=(by omega);subst this;rw[aJ (by simp)]at t8;have hk:=hk h5 (a04.trans a5);by_cases hneg:fee-Q1h (outs.map OutV.p) < 0
     ·simp only[hneg,if_true]at hk;simp[Qo4,W8,t8,t72,t73,t74,hneg];exact hk
     ·simp only[hneg,if_false]at hk;simp[Qo4,W8,t8,t72,t73,t74,hneg];exact hk
 ·have hk':=hk h1 a01;unfold Qvp at hk';rw[if_neg hc]at hk';simp[Qo4,W8,hc];exact hk'
end
end Go.Proofs.YtijagoebdgohnaaGreatDoor
end
