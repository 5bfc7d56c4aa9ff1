import Derived.Test.YtijagoebdgohnaaGreatDoorBlA
import Derived.Test.YtijagoebdgohnaaGreatDoorTxA
import Derived.Test.YtijagoebdgohnaaGreatDoorScB
set_option linter.all false
noncomputable section
namespace Go.Proofs.YtijagoebdgohnaaGreatDoor
open Go Go.Ab
set_option maxRecDepth 100000
def Jcg{P:Program}{E1:Env2 P}{C:CallP}{x:Operand}{isS:Bool}{d:Option Tmp}{s:St}{K:Exit->St->Prop}{it:Value}(hit:aev E1.G s.t x=some it)(hdie:C.die=true)(hne:Qva it isS s.h ≠ [])(hall:∀ y ∈ Qva it isS s.h,K .normal (s.put d y.1 y.2)):Xjk E1 C x isS d s K:=by
 unfold Xjk;rw[hit];exact .inr ⟨hdie,hne,hall⟩
def Yqg(seen:List Nat):∀ (es:List MapEntry) (e:MapEntry),e ∈ Xi0 seen es↔e ∈ es/\e.born ∉ seen
 | [],e=>by simp[Xi0]
 | x::es,e=>by
  have ih:=Yqg seen es e;unfold Xi0;rw[Ztg];cases hc:seen.contains x.born with
  | true =>
   simp only;rw[ih];simp only[ax];constructor
   ·exact fun⟨h1,h2⟩=>⟨.inr h1,h2⟩
   ·rintro⟨rfl | h1,h2⟩
    ·simp at hc;exact absurd hc h2
    ·exact⟨h1,h2⟩
  | false =>
   simp only[ax];rw[ih];constructor
   ·rintro(rfl | ⟨h1,h2⟩)
    ·exact⟨.inl rfl,by simpa using hc⟩
    ·exact⟨.inr h1,h2⟩
   ·rintro⟨rfl | h1,h2⟩
    ·exact .inl rfl
    ·exact .inr ⟨h1,h2⟩
def Z2n{n:Nat}:∀ {l:List MapEntry},(∀ e ∈ l,e.born < n)->Zy1 n l=l/\Z04 n l=[]
 | [],_=>⟨rfl,rfl⟩
 | e::l,h=>by
  obtain⟨h1,h2⟩:=Z2n (l:=l) fun x hx=>h x (by simp[hx]);have : Nat.blt e.born n=true:=by simpa using h e (by simp)
  unfold Zy1 Z04;rw[this];exact⟨by simp[h1],h2⟩
structure Born (es:List MapEntry) (clk:Nat):Prop where
 lt:∀ e ∈ es,e.born < clk
 nd:(es.map (·.born)).Nodup
def Zj6:∀ {l:List MapEntry},(l.map (·.born)).Nodup->∀ {e:MapEntry},e ∈ l->X2r e.born l=some e
 | [],_,_,h=>by cases h
 | x::l,nd,e,h=>by
  rw[aR,dJ]at nd;unfold X2r;by_cases hx:x.born=e.born
  ·rw[show Nat.beq x.born e.born=true by rw[hx];simp];rcases ax.1 h with rfl | h
   ·rfl
   ·exact absurd (av.2 ⟨e,h,hx.symm⟩) nd.1
  ·rw[show Nat.beq x.born e.born=false by rw[cg];intro q;exact hx (aT q)];rcases ax.1 h with rfl | h
   ·exact absurd rfl hx
   ·exact Zj6 nd.2 h
def Z5d{h:Heap}{r mb clk:Nat}{es:List MapEntry}{vis:List Nat}(B:Born es clk)(hr:h.get r=some (.obj (.mapIter (some mb) clk ⟨vis⟩ clk)))(hm:h.get mb=some (.map ⟨es⟩ clk)) :
  Qva (.pointer (some ⟨r,0,none⟩)) false h ≠ []/\∀ y ∈ Qva (.pointer (some ⟨r,0,none⟩)) false h,((∀ e ∈ es,e.born ∈ vis)/\y=(.tuple #[.bool false],h)) ∨
   ∃ e ∈ es,e.born ∉ vis/\y=(.tuple #[.bool true,e.key,e.val],h.set r (some (.obj (.mapIter (some mb) clk ⟨vis ++ [e.born]⟩ clk)))):=by
 have hb:Y7n es vis clk=false:=by
  unfold Y7n;split
  ·rfl
  ·rfl
  ·rename_i h1 h2;cases es with
   | nil=>exact absurd rfl h2
   | cons p l =>
    have : Nat.ble clk p.born=false:=by
     rw[cg];intro q;have:=B.lt p (by simp);have:=d8 q;omega
    simp only[Zrs,this]
 have hl:∀ e ∈ Xi0 vis es,e.born < clk:=fun e he=>B.lt e ((Yqg _ _ _).1 he).1;obtain⟨o1,o2⟩:=Z2n hl;have hn:Qva (.pointer (some ⟨r,0,none⟩)) false h=(X8a es clk vis).map (Yi6 r mb clk ⟨vis⟩ clk h):=by
  simp only[Qva,hr,hm,hb]
 have hc:X8a es clk vis=match Xi0 vis es with | []=>[none] | e::l=>(e::l).map some:=by
  unfold X8a Z13;rw[o1,o2];cases Xi0 vis es with
  | nil=>rfl
  | cons e l=>simp
 rw[hn,hc];cases hle:Xi0 vis es with
 | nil =>
  refine⟨by simp,fun y hy => .inl ⟨fun e he => ?_,?_⟩⟩
  ·apply cG;intro hn;have:=(Yqg vis _ _).2 ⟨he,hn⟩;rw[hle]at this;cases this
  ·simpa[Yi6]using hy
 | cons e l =>
  refine⟨by simp,fun y hy => ?_⟩;simp only[ce]at hy;obtain⟨x,hx,rfl⟩:=av.1 hy;rw[<- hle]at hx;obtain⟨h1,h2⟩:=(Yqg _ _ _).1 hx;exact .inr ⟨x,h1,h2,by simp[Yi6]⟩
def Zz1{h:Heap}{r mb clk:Nat}{es:List MapEntry}{vis:List Nat}{e:MapEntry}(B:Born es clk)(hr:h.get r=some (.obj (.mapIter (some mb) clk ⟨vis ++ [e.born]⟩ clk)))(hm:h.get mb=some (.map ⟨es⟩ clk))(he:e ∈ es) :
  Y7b (.pointer (some ⟨r,0,none⟩)) h=some (.tuple #[e.key,e.val]):=by
 have hl:∀ (l:List Nat) (x:Nat),Zy5 (l ++ [x])=some x:=by
  intro l x;induction l with
  | nil=>rfl
  | cons a l ih =>
   cases l with
   | nil=>rfl
   | cons c l=>exact ih
 simp only[Y7b,hr,hl,hm,show Nat.beq clk clk=true by simp,Zj6 B.nd he]
def Born.push{es:List MapEntry}{clk:Nat}(B:Born es clk)(k v:Value):Born (es ++ [⟨k,v,clk⟩]) (clk+1):=by
 refine⟨fun e he => ?_,?_⟩
 ·rcases ac.1 he with q | q
  ·have:=B.lt e q;omega
  ·simp at q;rw[q];show clk < clk+1;omega
 ·rw[bw,dO];refine⟨B.nd,by simp,fun x hx y hy e => ?_⟩;obtain⟨z,hz,rfl⟩:=av.1 hx;simp at hy;have:=B.lt z hz;omega
def Born.erase{es:List MapEntry}{clk:Nat}(B:Born es clk)(i:Nat):Born (es.eraseIdx i) clk :=
 ⟨fun e he=>B.lt e (List.mem_of_mem_eraseIdx he),List.Nodup.sublist (List.Sublist.map _ (List.eraseIdx_sublist es i)) B.nd⟩
structure IE where
 key:Int
 val:Value
 born:Nat
def IE.e(x:IE):MapEntry:=⟨.int .i64 x.key,x.val,x.born⟩
structure PC where
 value:Int
 script:List Int
 made:Int
abbrev Qu8:=Pt->Option PC
def Ykh(m:Qu8)(p:Pt)(c:Option PC):Qu8:=fun q=>if q=p then c else m q
def Yvq(m:Qu8)(p:Pt)(c:Option PC):Ykh m p c p=c:=if_pos rfl
def Zsd{m:Qu8}{p q:Pt}{c:Option PC}(h:q≠p):Ykh m p c q=m q:=if_neg h
def Z42(m:Qu8)(p:Pt)(c d:Option PC):Ykh (Ykh m p c) p d=Ykh m p d:=by
 funext q;unfold Ykh;by_cases h:q=p <;> simp[h]
def Z91(m:Qu8)(p:Pt):Ykh m p (m p)=m:=by
 funext q;unfold Ykh;by_cases h:q=p <;> simp[h]
structure LV where
 value:Int
 sv:Value
 script:List Int
 made:Int
def LV.c(x:LV):PC:=⟨x.value,x.script,x.made⟩
def LV.cells(x:LV):List Value:=[.int .i64 x.value,x.sv,.int .i64 x.made]
def LV.v(x:LV):Value:=.agg ⟨x.cells⟩
structure LC where
 key:Pt
 c:LV
 born:Nat
def LC.pe(x:LC):PE:=⟨x.key,x.c.v,x.born⟩
def Qow(l:List LC):List PE:=l.map LC.pe
def Z2v(l:List LC):(Qow l).length=l.length:=by simp[Qow]
def Z0q(l:List LC):(Qow l).map (·.key)=l.map (·.key):=by rw[Qow,ce];rfl
def atL:List LC->Pt->Option LV
 | [],_=>none
 | x::l,p=>if p=x.key then some x.c else atL l p
def Qcd(l:List LC):Qu8:=fun p=>(atL l p).map LV.c
def Zql(p:Pt):∀ (l:List LC) (j:Nat),(Q1t p (Qow l) j).map (·.2)=(atL l p).map LV.v
 | [],_=>rfl
 | x::l,j=>by
  show(if p=x.key then some (j,x.c.v)else Q1t p (Qow l) (j+1)).map (·.2)=(if p=x.key then some x.c else atL l p).map LV.v;by_cases h:p=x.key
  ·rw[if_pos h,if_pos h];rfl
  ·rw[if_neg h,if_neg h,Zql p l (j+1)]
def Yh1{p:Pt}{l:List LC}:Q1t p (Qow l) 0=none↔atL l p=none:=by
 have:=Zql p l 0;cases hf:Q1t p (Qow l) 0 with
 | none=>rw[hf]at this;cases ha:atL l p with
  | none=>simp
  | some x=>rw[ha]at this;cases this
 | some q=>rw[hf]at this;cases ha:atL l p with
  | none=>rw[ha]at this;cases this
  | some x=>simp
def Y6z{p:Pt}{x:LV}:∀ {l:List LC},atL l p=some x->∃ y ∈ l,y.key=p/\y.c=x
 | [],h=>by cases h
 | y::l,h=>by
  unfold atL at h;by_cases hk:p=y.key
  ·rw[if_pos hk]at h;cases h;exact⟨y,by simp,hk.symm,rfl⟩
  ·rw[if_neg hk]at h;obtain⟨z,hz,q⟩:=Y6z h;exact⟨z,by simp[hz],q⟩
def X8p{p:Pt}{l:List LC}:atL l p≠none↔p ∈ l.map (·.key):=by
 constructor
 ·intro h;cases ha:atL l p with
  | none=>exact absurd ha h
  | some x =>
   obtain⟨y,hy,rfl, -⟩:=Y6z ha;exact av.2 ⟨y,hy,rfl⟩
 ·intro h e;obtain⟨y,hy,rfl⟩:=av.1 h;exact Yik.1 (Yh1.2 e) y.pe (av.2 ⟨y,hy,rfl⟩) rfl
def Zn9(p:Pt)(x:LV):List LC->List LC
 | []=>[]
 | y::l=>if p=y.key then {y with c:=x}::l else y::Zn9 p x l
def Y79(p:Pt)(x:LV):∀ l:List LC,Zzq p x.v (Qow l)=Qow (Zn9 p x l)
 | []=>rfl
 | y::l=>by
  show(if p=y.key then({y.pe with val:=x.v}:PE)::Qow l else y.pe::Zzq p x.v (Qow l))=Qow (if p=y.key then {y with c:=x}::l else y::Zn9 p x l);by_cases h:p=y.key
  ·rw[if_pos h,if_pos h];rfl
  ·rw[if_neg h,if_neg h,Y79 p x l];rfl
def Yqo(p:Pt)(x:LV):∀ l:List LC,(Zn9 p x l).map (·.key)=l.map (·.key)
 | []=>rfl
 | y::l=>by
  unfold Zn9;by_cases h:p=y.key
  ·rw[if_pos h];rfl
  ·rw[if_neg h,aR,aR,Yqo p x l]
def Zjg(p:Pt)(x:LV):∀ l:List LC,(Zn9 p x l).map (·.born)=l.map (·.born)
 | []=>rfl
 | y::l=>by
  unfold Zn9;by_cases h:p=y.key
  ·rw[if_pos h];rfl
  ·rw[if_neg h,aR,aR,Zjg p x l]
def Zdn{p:Pt}{x:LV}:∀ {l:List LC} {z:LC},z ∈ Zn9 p x l->z ∈ l∨z.c=x
 | [],_,h=>by cases h
 | y::l,z,h=>by
  unfold Zn9 at h;by_cases hk:p=y.key
  ·rw[if_pos hk]at h;rcases ax.1 h with rfl | h
   ·exact .inr rfl
   ·exact .inl (by simp[h])
  ·rw[if_neg hk]at h;rcases ax.1 h with rfl | h
   ·exact .inl (by simp)
   ·exact(Zdn h).imp (fun q=>by simp[q]) id
def Z39{p:Pt}{x:LV}:∀ {l:List LC},atL l p≠none->∀ q,atL (Zn9 p x l) q=if q=p then some x else atL l q
 | [],h,_=>absurd rfl h
 | y::l,h,q=>by
  unfold Zn9;by_cases hk:p=y.key
  ·rw[if_pos hk];show(if q=y.key then some x else atL l q)=_;by_cases hq:q=p
   ·rw[if_pos hq,if_pos (by rw[hq,hk])]
   ·rw[if_neg hq,if_neg (fun e=>hq (by rw[e,hk])),atL,if_neg (fun e=>hq (by rw[e,hk]))]
  ·rw[if_neg hk];rw[atL,if_neg hk]at h;show(if q=y.key then some y.c else atL (Zn9 p x l) q)=_;rw[Z39 h q,atL];by_cases hq:q=y.key
   ·rw[if_pos hq,if_pos hq,if_neg (fun e=>hk (by rw[<- e,hq]))]
   ·rw[if_neg hq,if_neg hq]
def Z7y{p:Pt}{x:LV}{k:Nat}:∀ {l:List LC},atL l p=none->∀ q,atL (l ++ [⟨p,x,k⟩]) q=if q=p then some x else atL l q
 | [],_,q=>rfl
 | y::l,h,q=>by
  rw[atL]at h;by_cases hk:p=y.key
  ·rw[if_pos hk]at h;cases h
  ·rw[if_neg hk]at h;show(if q=y.key then some y.c else atL (l ++ [⟨p,x,k⟩]) q)=_;rw[Z7y h q,atL];by_cases hq:q=y.key
   ·rw[if_pos hq,if_pos hq,if_neg (fun e=>hk (by rw[<- e,hq]))]
   ·rw[if_neg hq,if_neg hq]
def Yoe(p:Pt):List LC->List LC
 | []=>[]
 | y::l=>if p=y.key then l else y::Yoe p l
def Yjh{p:Pt}:∀ {l:List LC},atL l p=none->Yoe p l=l
 | [],_=>rfl
 | y::l,h=>by
  rw[atL]at h;by_cases hk:p=y.key
  ·rw[if_pos hk]at h;cases h
  ·rw[if_neg hk]at h;rw[Yoe,if_neg hk,Yjh h]
def Yap{p:Pt}:∀ {l:List LC} {j i:Nat} {v:Value},Q1t p (Qow l) j=some (i,v)->l.eraseIdx (i-j)=Yoe p l
 | [],_,_,_,h=>by cases h
 | y::l,j,i,v,h=>by
  have h':(if p=y.key then some (j,y.c.v)else Q1t p (Qow l) (j+1))=some (i,v):=h;rw[Yoe];by_cases hk:p=y.key
  ·rw[if_pos hk]at h' ⊢;cases h';rw[Nat.sub_self];rfl
  ·rw[if_neg hk]at h' ⊢;obtain⟨_,_,hle,_⟩:=Xl8 h';rw[show i-j=(i-(j+1))+1 by omega,List.eraseIdx_cons_succ,Yap h']
def Xis(p:Pt):∀ l:List LC,(Yoe p l).Sublist l
 | []=>by simp[Yoe]
 | y::l=>by
  rw[Yoe];by_cases h:p=y.key
  ·rw[if_pos h];exact List.sublist_cons_self _ _
  ·rw[if_neg h];exact(Xis p l).cons_cons _
def Zty{p:Pt}:∀ {l:List LC},(l.map (·.key)).Nodup->∀ q,atL (Yoe p l) q=if q=p then none else atL l q
 | [],_,q=>by simp[Yoe,atL]
 | y::l,nd,q=>by
  rw[aR,dJ]at nd;rw[Yoe];by_cases hk:p=y.key
  ·rw[if_pos hk];by_cases hq:q=p
   ·rw[if_pos hq];cases ha:atL l q with
    | none=>rfl
    | some x =>
     refine absurd (X8p.1 (by rw[ha];simp:atL l q≠none)) ?_;rw[hq,hk];exact nd.1
   ·rw[if_neg hq,atL,if_neg (fun e=>hq (by rw[e,hk]))]
  ·rw[if_neg hk,atL,Zty nd.2 q,atL];by_cases hq:q=y.key
   ·rw[if_pos hq,if_pos hq,if_neg (fun e=>hk (by rw[<- e,hq]))]
   ·rw[if_neg hq,if_neg hq]
structure LvAt (h:Heap) (x:LV):Prop where
 s:SB h x.sv x.script
 b:Bytes x.script
 l:x.script.length < 1000000
 v:0<=x.value/\x.value<=1125899906842624
def LvAt.old{h h':Heap}{x:LV}(a:LvAt h x)(o:Old h h'):LvAt h' x:=⟨a.s.old o,a.b,a.l,a.v⟩
structure CoM (h:Heap) (mb clk:Nat) (ls:List LC):Prop where
 gm:h.get mb=some (.map ⟨(Qow ls).map PE.e⟩ clk)
 B:Born ((Qow ls).map PE.e) clk
 hs:∀ x ∈ ls,LvAt h x.c
 nd:(ls.map (·.key)).Nodup
 kb:∀ x ∈ ls,PtB x.key
def CoM.old{h h':Heap}{mb clk:Nat}{ls:List LC}(w:CoM h mb clk ls)(a:Old h h'):CoM h' mb clk ls :=
 ⟨a.get w.gm,w.B,fun x hx=>(w.hs x hx).old a,w.nd,w.kb⟩
def Xzl{h:Heap}{z n c:Nat}{v:Value}{xs:List Value}(s:Sl h z v n xs)(hc:Jp v=some c):∃ ow z' l,h.get c=some (.cells ow z' l):=by
 rcases s with⟨_,rfl,_,rfl,rfl⟩ | ⟨bk,o,_,ow,z',pre,post,rfl,g1,_⟩
 ·cases hc
 ·cases hc;exact⟨_,_,_,g1⟩
def Sl.setMap{h:Heap}{z n mb clk:Nat}{v:Value}{xs:List Value}{es:Array MapEntry}(s:Sl h z v n xs)(gm:h.get mb=some (.map es clk))(x:Option Blk):Sl (h.set mb x) z v n xs:=s.keep fun c hb _=>by
 rw[Heap.get_set _ _ _ _ (Heap.get_lt gm),if_neg fun e => ?_];obtain⟨_,_,_,g⟩:=Xzl s hb;rw[<- e,gm]at g;cases g
def LvAt.setMap{h:Heap}{mb clk:Nat}{y:LV}{es:Array MapEntry}(a:LvAt h y)(gm:h.get mb=some (.map es clk))(x:Option Blk):LvAt (h.set mb x) y:=⟨Sl.setMap a.s gm x,a.b,a.l,a.v⟩
def Xjh{h:Heap}{mb clk c z:Nat}{ow:Bool}{l:List Value}{es:Array MapEntry}(g:h.get c=some (.cells ow z l))(gm:h.get mb=some (.map es clk))(x:Option Blk):(h.set mb x).get c=some (.cells ow z l):=by
 rw[Heap.get_set _ _ _ _ (Heap.get_lt gm),if_neg fun e=>by rw[<- e,gm]at g;cases g];exact g
def mdC:R79.desc=.map 53 84:=by kernel_rfl
def Jgc:R84.zero=.agg ⟨[.int .i64 0,.slice none 0 0,.int .i64 0]⟩:=by kernel_rfl
def Zzw(b:Nat){h:Heap}{mb clk:Nat}{ls:List LC}(w:CoM h mb clk ls)(p:Pt) :
  Qo6 (E b).toEnv 79 (.map (some mb)) (.agg ⟨p.cells⟩) true h=some (match atL ls p with | some x => .tuple #[.agg ⟨x.cells⟩,.bool true] | none => .tuple #[.agg ⟨[.int .i64 0,.slice none 0 0,.int .i64 0]⟩,.bool false]):=by
 have lk:=(Jcy (b:=b) (Zph b) mdC w.gm (Zw1 b) p).2;have fa:=Zql p ls 0;rw[lk];cases hf:Q1t p (Qow ls) 0 with
 | none =>
  rw[Yh1.1 hf,Jgc]
 | some q =>
  rw[hf]at fa;cases ha:atL ls p with
  | none=>rw[ha]at fa;cases fa
  | some x =>
   rw[ha]at fa;have : q.2=x.v:=bB fa;simp only[this];rfl
def Z8i(b:Nat){h:Heap}{mb clk:Nat}{ls:List LC}(w:CoM h mb clk ls){p:Pt}(hp:PtB p){x:LV}(hx:LvAt h x) :
  ∃ ls' clk' h',Qgp (E b).toEnv 79 (.map (some mb)) (.agg ⟨p.cells⟩) (.agg ⟨x.cells⟩) h=some h'/\h'=h.set mb (some (.map ⟨(Qow ls').map PE.e⟩ clk'))/\CoM h' mb clk' ls'/\Qcd ls'=Ykh (Qcd ls) p (some x.c)/\ls'.length<=ls.length+1/\∀ y ∈ ls',y ∈ ls∨y.c=x:=by
 cases hf:Q1t p (Qow ls) 0 with
 | none =>
  have ha:=Yh1.1 hf;have up:=Z2c (b:=b) (Zph b) mdC w.gm hf (.agg ⟨x.cells⟩);have eL:Qow ls ++ [(⟨p,.agg ⟨x.cells⟩,clk⟩:PE)]=Qow (ls ++ [⟨p,x,clk⟩]):=by simp[Qow,LC.pe,LV.v]
  rw[eL]at up;refine⟨ls ++ [⟨p,x,clk⟩],clk+1,_,up,rfl,⟨by rw[Heap.get_set _ _ _ _ (Heap.get_lt w.gm),if_pos rfl],?_,fun z hz => ?_,?_,fun z hz => ?_⟩,?_,by simp,fun y hy => ?_⟩
  ·rw[<- eL];have:=w.B.push (.agg ⟨p.cells⟩) (.agg ⟨x.cells⟩);simpa[PE.e]using this
  ·rcases ac.1 hz with q | q
   ·exact(w.hs z q).setMap w.gm _
   ·rw[aM.1 q];exact hx.setMap w.gm _
  ·rw[bw,dO];refine⟨w.nd,by simp,fun a h1 c h2 e => ?_⟩;simp at h2;subst e h2;exact absurd ha (X8p.2 h1)
  ·rcases ac.1 hz with q | q
   ·exact w.kb z q
   ·rw[aM.1 q];exact hp
  ·funext q;unfold Qcd Ykh;rw[Z7y ha q];by_cases e:q=p <;> simp[e]
  ·rcases ac.1 hy with q | q
   ·exact .inl q
   ·rw[aM.1 q];exact .inr rfl
 | some q =>
  obtain⟨i,v⟩:=q;have ha:atL ls p≠none:=fun e=>by rw[Yh1.2 e]at hf;cases hf
  have up:=Zk1 (b:=b) (Zph b) mdC w.gm hf (.agg ⟨x.cells⟩);have eL:Zzq p (.agg ⟨x.cells⟩) (Qow ls)=Qow (Zn9 p x ls):=Y79 p x ls;rw[eL]at up;refine⟨Zn9 p x ls,clk,_,up,rfl,⟨by rw[Heap.get_set _ _ _ _ (Heap.get_lt w.gm),if_pos rfl],?_,fun z hz => ?_,by rw[Yqo];exact w.nd,fun z hz => ?_⟩,?_,by have:=congrArg List.length (Yqo p x ls);simp at this;omega,fun y hy=>Zdn hy⟩
  ·have e2:((Qow (Zn9 p x ls)).map PE.e).map (·.born)=((Qow ls).map PE.e).map (·.born):=by
    have : ∀ l:List LC,((Qow l).map PE.e).map (·.born)=l.map (·.born):=fun l=>by simp[Qow,PE.e,LC.pe]
    rw[this,this,Zjg]
   exact⟨fun e he=>by
    have : e.born ∈ ((Qow (Zn9 p x ls)).map PE.e).map (·.born):=av.2 ⟨e,he,rfl⟩;rw[e2]at this;obtain⟨e',he',eb⟩:=av.1 this;rw[<- eb];exact w.B.lt e' he',by rw[e2];exact w.B.nd⟩
  ·rcases Zdn hz with q | q
   ·exact(w.hs z q).setMap w.gm _
   ·rw[q];exact hx.setMap w.gm _
  ·have : z.key ∈ (Zn9 p x ls).map (·.key):=av.2 ⟨z,hz,rfl⟩;rw[Yqo]at this;obtain⟨y,hy,ey⟩:=av.1 this;rw[<- ey];exact w.kb y hy
  ·funext q;unfold Qcd Ykh;rw[Z39 ha q];by_cases e:q=p <;> simp[e]
def Jdy(b:Nat){h:Heap}{mb clk:Nat}{ls:List LC}(w:CoM h mb clk ls)(p:Pt) :
  ∃ ls' h',Xs1 (E b).toEnv 79 (.map (some mb)) (.agg ⟨p.cells⟩) h=some (.tuple #[],h')/\h'=h.set mb (some (.map ⟨(Qow ls').map PE.e⟩ clk))/\CoM h' mb clk ls'/\Qcd ls'=Ykh (Qcd ls) p none/\ls'.length<=ls.length/\∀ y ∈ ls',y ∈ ls:=by
 have hq:=Zb8 p (Qow ls);refine⟨Yoe p ls,_,?_,rfl,⟨by rw[Heap.get_set _ _ _ _ (Heap.get_lt w.gm),if_pos rfl],?_,fun z hz=>(w.hs z ((Xis p ls).subset hz)).setMap w.gm _,w.nd.sublist ((Xis p ls).map _),fun z hz=>w.kb z ((Xis p ls).subset hz)⟩,?_,(Xis p ls).length_le,fun y hy=>(Xis p ls).subset hy⟩
 ·simp only[Xs1,Zph,mdC,Ym2,w.gm,hq];cases hf:Q1t p (Qow ls) 0 with
  | none=>simp[Yjh (Yh1.1 hf)]
  | some q =>
   obtain⟨i,v⟩:=q;have e:=Yap hf;rw[dm]at e;simp only[Array.eraseIdxIfInBounds];congr 4;by_cases hi:i < ((Qow ls).map PE.e).length
   ·rw[dif_pos (by simpa using hi)];rw[<- e];simp[Qow];have e3:∀ (l:List LC) (i:Nat),(l.map (PE.e ∘ LC.pe)).eraseIdx i=(l.eraseIdx i).map (PE.e ∘ LC.pe):=by
     intro l;induction l with
     | nil=>intro i;simp
     | cons y l ih=>intro i;cases i with
      | zero=>rfl
      | succ i=>simp[ih]
    exact e3 ls i
   ·rw[dif_neg (by simpa using hi),<- e,List.eraseIdx_of_length_le (by simp[Qow]at hi;omega)]
 ·unfold Qcd at *;cases hf:Q1t p (Qow ls) 0 with
  | none=>rw[Yjh (Yh1.1 hf)];exact w.B
  | some q =>
   obtain⟨i,v⟩:=q;have e:=Yap hf;rw[dm]at e;rw[<- e];have:=w.B.erase i;have e3:∀ (l:List LC) (i:Nat),((Qow l).map PE.e).eraseIdx i=(Qow (l.eraseIdx i)).map PE.e:=by
    intro l;induction l with
    | nil=>intro i;simp[Qow]
    | cons y l ih=>intro i;cases i with
     | zero=>rfl
     | succ i=>simpa[Qow]using ih i
   rw[e3]at this;exact this
 ·funext q;unfold Qcd Ykh;rw[Zty w.nd q];by_cases e:q=p <;> simp[e]
def Xac(b:Nat)(z:Int){v:Value}{h:Heap}{n:Nat}{xs:List Value}(s:Sl h 1 v n xs):Qmn (E b).toEnv 60 [(0,.int .i64 z),(1,v)]=some (.agg ⟨[.int .i64 z,v]⟩):=by
 rcases s with⟨c,rfl,_⟩ | ⟨bk,o,c,ow,z',pre,post,rfl,_⟩
 ·kernel_rfl
 ·kernel_rfl
attribute [local simp] Xn kON kOC Xp kNN kNP kRR kRP kEN kER Q4 Xa Za Yi aop Qe nth Ab.g0 gv gs Qb Qa aev evs evO Qf Tr.get_put St.put Tm.put flat flatA Yh Ql Qo Qm Qn Qj Qk Qi Qr Qg Q5 Q6 kTN kTR kTX kTP kBN kBR kBX kBP kCS kCR kCE kAM Xo.putAll Qz Q9 Q3 Q0 Q8 Qc Qd Q1 Q2 Q7 Yx ldv Wb Nat.testBit Zg Yc loadAt Ab.runT Z8 Je Vr Qaa Zk Qnu
section
attribute [local simp] Qad
def Jdc(b:Nat){h:Heap}{sv:Value}{xs:List Int}(s:SB h sv xs)(hl:xs.length < 1000000)(K:KP)(hk:∀ v' h',OB h' h.next v' xs->Old h h'->K (.ret v') h'):FK b 58 [sv] h K:=by
 by_cases hb:Jp sv=none
 ·rcases s with⟨c,rfl,q1,q2,q3⟩ | ⟨_,_,_,_,_,_,_,rfl,_⟩
  ·refine FF b (Qad b) Xt5 Ycl X7c rfl ?_;have e0:Y2l (E b).toEnv .eql 57 (.slice none 0 c) (.slice none 0 0)=some (.bool true):=by simp[Y2l,aEq,Xxf,(T57 b).d]
   simp[Q78,X6s,Xt4,Xtu,q2,e0];refine hk _ h ?_ (Old.refl _);have : xs=[]:=by simpa using q3
   subst this;exact Own.nil
  ·simp[Jp]at hb
 ·exact Y7a b s hb (by omega) K hk
def Za4(b:Nat){h:Heap}{v:Int}{sv:Value}{script:List Int}(s:SB h sv script)(hl:script.length < 1000000)(K:KP)(hk:∀ sv' h',OB h' h.next sv' script->Old h h'->K (.ret (.agg ⟨[.int .i64 v,sv']⟩)) h'):FK b 36 [.agg ⟨[.int .i64 v,sv]⟩] h K:=by
 refine FF b (Jq b) Ygb Y67 Yux rfl ?_;obtain⟨hA,eA⟩:∃ hA,hA=h.push (.cells true 1 [.int .i64 v,sv]):=⟨_,rfl⟩;have bx:=Q1v eA;have aA:=Qqr eA;have gA:hA.get h.next=some (.cells true 1 [.int .i64 v,sv]):=by rw[eA,Heap.get_push,if_pos rfl]
 simp[Qqv,Q18,Jq,Wb,Vb,Ut,Vi,J7,Qal,bx];obtain⟨hB,eB,aB,gB⟩:=Xcl hA [.int .i64 0,.slice none 0 0];rw[<- eB];obtain⟨_,h3,g3,n3,sv3,rfl,o3,a3⟩:=Jdc b (s.old (aA.trans aB)) hl (fun r h' => ∃ v',r=.ret v'/\OB h' hB.next v' script/\Old hB h') (fun v' h' o a=>⟨v',rfl,o,a⟩);have c0:J6 hB h.next 0=some (.int .i64 v):=by rw[Zd (aB.get gA)];rfl
 have c1:J6 hB h.next 1=some sv:=by rw[Zd (aB.get gA)];rfl
 have gB3:=a3.get gB;have l3:=Heap.get_lt gB3;obtain⟨h4,e4⟩:∃ h4,h4=h3.set hA.next (some (.cells true 1 [.int .i64 v,sv3])):=⟨_,rfl⟩;have st4:Qc9 (E b).toEnv 60 (.pointer (some ⟨hA.next,0,none⟩)) (.agg ⟨[.int .i64 v,sv3]⟩) h3=some h4:=by
  rw[Qzh (l:=[.int .i64 v,sv3]) (Yse b) (by rw[Qi0];rfl),e4];exact W8 gB3 (by simp)
 have g4:h4.get hA.next=some (.cells true 1 [.int .i64 v,sv3]):=by rw[e4,Heap.get_set _ _ _ _ l3,if_pos rfl]
 have k4:∀ c,c≠hA.next->h4.get c=h3.get c:=fun c hc=>by rw[e4,Heap.get_set _ _ _ _ l3,if_neg (Ne.symm hc)]
 have ag4:Qbn h4 hA.next 0 2=some (.agg ⟨[.int .i64 v,sv3]⟩):=by rw[Vm g4 (by simp)];rfl
 refine Qh6 [⟨58,[sv],hB,sv3,h3,true⟩] ?_ X2g X5u X1q (by simp[X9u,Yfd,Ycg,Qqv,Q18,Jq,Vb,Ut,Vi,J7,Qal,c0,c1,Xac b v o3.sl,st4];first | exact⟨rfl,rfl⟩ | rfl) ?_ ?_
 ·exact zk1 ⟨g3,n3,fun _ c hc=>a3.2 c hc⟩
 ·simp[Qg3,Qqv,Q18,Jq,Vb,Ut,Vi,J7,Qal,c0,Q5c]
 simp[Qqv,Q18,Jq,Wb,Vb,Ut,Vi,J7,Qal,Qft,ag4];have nA:=Xbt eA;have nB:=Xbt eB;refine hk sv3 h4 ((o3.keep fun c hc _=>k4 c fun e=>by have:=(o3.from hc).1;omega).low (by omega)) ⟨by rw[e4];have:=a3.1;show h.next<=h3.next;omega,fun c hc=>by rw[k4 c (by omega),a3.2 c (by omega),aB.2 c (by omega),aA.2 c hc]⟩
end
structure BK where
 p:Pt
 c:Option LV
def Qzn:Option LV->List Value
 | some x=>x.cells
 | none=>[.int .i64 0,.slice none 0 0,.int .i64 0]
def BkAt(h:Heap)(v:Value)(k:BK):Prop:=PtB k.p/\(∀ x,k.c=some x->LvAt h x)/\∃ bT bC bP,v=.func (.func 85) #[] #[.pointer (some ⟨bT,0,none⟩),.pointer (some ⟨bC,0,none⟩),.pointer (some ⟨bP,0,none⟩)] /\
 h.get bT=some (.cells true 1 [.bool k.c.isSome])/\h.get bC=some (.cells true 1 (Qzn k.c))/\h.get bP=some (.cells true 1 k.p.cells)
def BkAt.old{h h':Heap}{v:Value}{k:BK}(a:BkAt h v k)(o:Old h h'):BkAt h' v k:=by
 obtain⟨q1,q2,bT,bC,bP,e,g1,g2,g3⟩:=a;exact⟨q1,fun x hx=>(q2 x hx).old o,bT,bC,bP,e,o.get g1,o.get g2,o.get g3⟩
section
attribute [local simp] Qid Qpo V4 Uy Qgq Wn Qtc Jc8 Qmk
def Zzm(b:Nat){h:Heap}{lb mb z clk:Nat}{nt un:Value}{ls:List LC}(gl:h.get lb=some (.cells true z [nt,.map (some mb),un]))(w:CoM h mb clk ls){p:Pt}(hp:PtB p)(K:KP)
  (hk:∀ v' h',BkAt h' v' ⟨p,atL ls p⟩->Old h h'->K (.ret v') h'):FK b 52 [.pointer (some ⟨lb,0,none⟩),.agg ⟨p.cells⟩] h K:=by
 refine FF b (V4 b) Xnm X3c Xyd rfl ?_;obtain⟨hA,eA⟩:∃ hA,hA=h.push (.cells true 1 p.cells):=⟨_,rfl⟩;have bx:=Q1v eA;have aA:=Qqr eA;have gA:hA.get h.next=some (.cells true 1 p.cells):=by rw[eA,Heap.get_push,if_pos rfl]
 have wA:=w.old aA;have cl:J6 hA lb 1=some (.map (some mb)):=by rw[Zd (aA.get gl)];rfl
 have kp:Qbn hA h.next 0 33=some (.agg ⟨p.cells⟩):=agW gA (by rw[Pt.len];omega) (by rw[Pt.len];omega);obtain⟨o,ho⟩:∃ o,o=atL ls p:=⟨_,rfl⟩;rw[<- ho]at hk;have lk:Qo6 (E b).toEnv 79 (.map (some mb)) (.agg ⟨p.cells⟩) true hA=some (.tuple #[.agg ⟨Qzn o⟩,.bool o.isSome]):=by
  rw[Zzw b wA p,<- ho];cases o <;> rfl
 have lc:(Qzn o).length=3:=by cases o <;> rfl
 obtain⟨hC,eC,aC,gC⟩:=Xcl hA [.int .i64 0,.slice none 0 0,.int .i64 0];have alC:Qbi (E b).toEnv 84 hA=some (.pointer (some ⟨hA.next,0,none⟩),hC):=by rw[eC];exact Qtc b hA
 obtain⟨hD,eD,aD,gD⟩:=Xcl hC [.bool false];have alD:Qbi (E b).toEnv 4 hC=some (.pointer (some ⟨hC.next,0,none⟩),hD):=by rw[eD];exact Jc8 b hC
 have nA:=Xbt eA;have nC:=Xbt eC;have lD:=Heap.get_lt (aD.get gC);obtain⟨hE,eE⟩:∃ hE,hE=hD.set hA.next (some (.cells true 1 (Qzn o))):=⟨_,rfl⟩;have stE:Qc9 (E b).toEnv 84 (.pointer (some ⟨hA.next,0,none⟩)) (.agg ⟨Qzn o⟩) hD=some hE:=by
  rw[Qzh (l:=Qzn o) (Zw1 b) (by rw[Ybu];exact lc),eE,W8 (aD.get gC) (by simp[lc])];simp[lc]
 have gE1:hE.get hA.next=some (.cells true 1 (Qzn o)):=by rw[eE,Heap.get_set _ _ _ _ lD,if_pos rfl]
 have gE2:hE.get hC.next=some (.cells true 1 [.bool false]):=by rw[eE,Heap.get_set _ _ _ _ lD,if_neg (by omega)];exact gD
 have lE:=Heap.get_lt gE2;obtain⟨hF,eF⟩:∃ hF,hF=hE.set hC.next (some (.cells true 1 [.bool o.isSome])):=⟨_,rfl⟩;have stF:Ur hE hC.next 0 [.bool o.isSome]=some hF:=by rw[eF,W8 gE2 (by simp)];rfl
 have gF2:hF.get hC.next=some (.cells true 1 [.bool o.isSome]):=by rw[eF,Heap.get_set _ _ _ _ lE,if_pos rfl]
 have gF1:hF.get hA.next=some (.cells true 1 (Qzn o)):=by rw[eF,Heap.get_set _ _ _ _ lE,if_neg (by omega)];exact gE1
 have kF:∀ c,c < hA.next->hF.get c=hA.get c:=fun c hc=>by rw[eF,Heap.get_set _ _ _ _ lE,if_neg (by omega),eE,Heap.get_set _ _ _ _ lD,if_neg (by omega),aD.2 c (by omega),aC.2 c hc]
 have aF:Old hA hF:=⟨by rw[eF,eE,eD];show hA.next<=hC.next+1;omega,kF⟩;simp[bx];refine Qh6 [] (by simp) Xc4 Xdr Xcx (by simp[Xib,Xgj,Xhn,Qfx,cl,kp,lk,-Qtc,-Jc8,alC,alD,stE,stF];first | exact⟨rfl,rfl⟩ | rfl) ?_ ?_
 ·simp[Qat]
 simp;refine hk _ hF ⟨hp,fun x hx => ?_,_,_,_,rfl,gF2,gF1,aF.get gA⟩ (aA.trans aF);have hx:atL ls p=some x:=by rw[<- ho];exact hx
 obtain⟨y,hy, -,rfl⟩:=Y6z hx;exact(w.hs y hy).old (aA.trans aF)
end
def But(ω:Nat)(h h':Heap):Prop:=h.next<=h'.next/\∀ c,c < h.next->c≠ω->h'.get c=h.get c
def But.old{ω:Nat}{h h1 h2:Heap}(a:But ω h h1)(b:Old h1 h2):But ω h h2:=⟨al a.1 b.1,fun c hc hne=>by rw[b.2 c (aw hc a.1),a.2 c hc hne]⟩
def But.of{ω:Nat}{h h1:Heap}(a:Old h h1):But ω h h1:=⟨a.1,fun c hc _=>a.2 c hc⟩
def But.trans{ω:Nat}{h h1 h2:Heap}(a:But ω h h1)(b:But ω h1 h2):But ω h h2:=⟨al a.1 b.1,fun c hc hne=>by rw[b.2 c (aw hc a.1) hne,a.2 c hc hne]⟩
def But.set{h h1:Heap}{ω:Nat}(a:But ω h h1)(x:Option Blk)(hl:ω < h1.next):But ω h (h1.set ω x):=⟨a.1,fun c hc hne=>by rw[Heap.get_set _ _ _ _ hl,if_neg (Ne.symm hne),a.2 c hc hne]⟩
def But.get{h h':Heap}{mb clk c z:Nat}{ow:Bool}{l:List Value}{es:Array MapEntry}(a:But mb h h')(g:h.get c=some (.cells ow z l))(gm:h.get mb=some (.map es clk)):h'.get c=some (.cells ow z l):=by
 rw[a.2 c (Heap.get_lt g) fun e=>by rw[e,gm]at g;cases g];exact g
section
variable{h h':Heap}{mb clk:Nat}{es:Array MapEntry}(gm:h.get mb=some (.map es clk))(a:But mb h h')
include gm a
def Sl.but{z n:Nat}{v:Value}{xs:List Value}(s:Sl h z v n xs):Sl h' z v n xs:=s.keep fun c hb hc=>a.2 c hc fun e=>by
 obtain⟨_,_,_,g⟩:=Xzl s hb;rw[e,gm]at g;cases g
def LvAt.but{x:LV}(l:LvAt h x):LvAt h' x:=⟨Sl.but gm a l.s,l.b,l.l,l.v⟩
def InAt.but{x:InV}(l:InAt h x):InAt h' x:=⟨Sl.but gm a l.w,fun p hp=>⟨Sl.but gm a (l.i p hp).1,(l.i p hp).2⟩,l.n,l.l⟩
def OutAt.but{x:OutV}(l:OutAt h x):OutAt h' x:=⟨Sl.but gm a l.s,l.b,l.l⟩
def Ins.but{v:Value}{l:List InV}(s:Ins h v l):Ins h' v l:=⟨Sl.but gm a s.s,s.n,fun x hx=>InAt.but gm a (s.a x hx)⟩
def Outs.but{v:Value}{l:List OutV}(s:Outs h v l):Outs h' v l:=⟨Sl.but gm a s.s,s.n,fun x hx=>OutAt.but gm a (s.a x hx)⟩
def Laid.but(hl:Ab.LaidIn h laidAll):Ab.LaidIn h' laidAll:=fun y hy=>a.get (hl y hy) gm
def BkAt.but{v:Value}{k:BK}(l:BkAt h v k):BkAt h' v k:=by
 obtain⟨q1,q2,bT,bC,bP,e,g1,g2,g3⟩:=l;exact⟨q1,fun x hx=>LvAt.but gm a (q2 x hx),bT,bC,bP,e,a.get g1 gm,a.get g2 gm,a.get g3 gm⟩
end
def X2o(l:List LC):List Value:=l.map (·.c.sv)
def Yg5(l:List BK):List Value:=l.filterMap fun k=>k.c.map (·.sv)
def Off(v:Value)(l:List Value):Prop:=∀ s ∈ l,∀ c,Jp s=some c->Jp v≠some c
def Off.nil{l:List Value}:Off (.slice none 0 0) l:=fun _ _ _ _ e=>by cases e
def Off.sub{v:Value}{l m:List Value}(a:Off v l)(h:∀ s ∈ m,s ∈ l):Off v m:=fun s hs=>a s (h s hs)
def Zcm(l m:List BK):Yg5 (l++m)=Yg5 l++Yg5 m:=by simp[Yg5]
def Zf9(h:Heap)(v:Value):Prop:=∀ c,Jp v=some c->∃ z' f ag cs rest,h.get c=some (.cells true z' (.func f ag cs::rest))
section
variable{h h':Heap}{v:Value}(fb:Zf9 h v)(kp:∀ c,c < h.next->Jp v≠some c->h'.get c=h.get c)
include kp
def LvAt.off{x:LV}(l:LvAt h x)(o:∀ c,Jp x.sv=some c->Jp v≠some c):LvAt h' x:=⟨l.s.keep fun c hb hc=>kp c hc (o c hb),l.b,l.l,l.v⟩
include fb
def X2m{c z:Nat}{l:List Value}(g:h.get c=some (.cells true z l))(hl:∀ x ∈ l.head?,∀ f ag cs,x ≠ .func f ag cs):h'.get c=some (.cells true z l):=by
 rw[kp c (Heap.get_lt g) fun e => ?_]
 ·exact g
 ·obtain⟨z',f,ag,cs,rest,g2⟩:=fb c e;rw[g]at g2;cases g2;exact hl _ rfl _ _ _ rfl
def Z5h{mb clk:Nat}{es:Array MapEntry}(g:h.get mb=some (.map es clk)):h'.get mb=some (.map es clk):=by
 rw[kp mb (Heap.get_lt g) fun e => ?_]
 ·exact g
 ·obtain⟨z',f,ag,cs,rest,g2⟩:=fb mb e;rw[g]at g2;cases g2
def BkAt.off{fv:Value}{k:BK}(l:BkAt h fv k)(o:∀ x,k.c=some x->∀ c,Jp x.sv=some c->Jp v≠some c):BkAt h' fv k:=by
 obtain⟨q1,q2,bT,bC,bP,e,g1,g2,g3⟩:=l;refine⟨q1,fun x hx=>LvAt.off kp (q2 x hx) (o x hx),bT,bC,bP,e,X2m fb kp g1 fun x hx => ?_,X2m fb kp g2 fun x hx => ?_,X2m fb kp g3 fun x hx => ?_⟩
 ·simp at hx;subst hx;simp
 ·cases hk:k.c with
  | none=>rw[hk]at hx;simp[Qzn]at hx;subst hx;simp
  | some y=>rw[hk]at hx;simp[Qzn,LV.cells]at hx;subst hx;simp
 ·intro f ag cs e;obtain⟨kk,zz,e2⟩:=Zkj k.p x (cJ hx);rw[e]at e2;cases e2
def CoM.off{mb clk:Nat}{ls:List LC}(w:CoM h mb clk ls)(o:Off v (X2o ls)):CoM h' mb clk ls :=
 ⟨Z5h fb kp w.gm,w.B,fun x hx=>LvAt.off kp (w.hs x hx) (o _ (av.2 ⟨x,hx,rfl⟩)),w.nd,w.kb⟩
end
def BkRow(h:Heap)(n0:Nat)(v:Value)(l:List BK):Prop:=∃ vals:List Value,Own h n0 1 v l.length vals/\vals.length=l.length/\(∀ (i:Nat) (x:Value) (k:BK),vals[i]? = some x->l[i]? = some k->BkAt h x k)/\(l=[]->v=.slice none 0 0)
def BkRow.nil{h:Heap}{n0:Nat}:BkRow h n0 (.slice none 0 0) []:=⟨[],Own.nil,rfl,fun i x k hx=>by simp at hx,fun _=>rfl⟩
def BkRow.from{h:Heap}{n0:Nat}{v:Value}{l:List BK}(r:BkRow h n0 v l){c:Nat}(hc:Jp v=some c):n0<=c/\c < h.next:=by
 obtain⟨vals,o, -⟩:=r;exact o.from hc
def BkRow.func{h:Heap}{n0:Nat}{v:Value}{l:List BK}(r:BkRow h n0 v l):Zf9 h v:=by
 intro c hc;obtain⟨vals,o,hl,hb,he⟩:=r;rcases o with⟨rfl,_,_⟩ | ⟨bk,cc,z',rest,rfl,h1,h2,h3,h4,h5,h6⟩
 ·cases hc
 ·cases hc
  match l,vals,hl with
  | [],[],_=>exact absurd (he rfl) (by simp)
  | k::l,x::vals,_ =>
   obtain⟨-, -,bT,bC,bP,e, -⟩:=hb 0 x k rfl rfl;subst e;exact⟨_,_,_,_,_,h2⟩
def BkRow.old{h h':Heap}{n0:Nat}{v:Value}{l:List BK}(r:BkRow h n0 v l)(a:Old h h'):BkRow h' n0 v l:=by
 obtain⟨vals,o,hl,hb,he⟩:=r;exact⟨vals,o.keep fun c _ hc=>a.2 c hc,hl,fun i x k hx hk=>(hb i x k hx hk).old a,he⟩
def BkRow.low{h:Heap}{n0 n1:Nat}{v:Value}{l:List BK}(r:BkRow h n0 v l)(hn:n1<=n0):BkRow h n1 v l:=by
 obtain⟨vals,o,hl,hb,he⟩:=r;exact⟨vals,o.low hn,hl,hb,he⟩
def BkRow.but{h h':Heap}{n0 mb clk:Nat}{v:Value}{l:List BK}{es:Array MapEntry}(r:BkRow h n0 v l)(gm:h.get mb=some (.map es clk))(a:But mb h h'):BkRow h' n0 v l:=by
 obtain⟨vals,o,hl,hb,he⟩:=r;refine⟨vals,o.keep fun c hb hc=>a.2 c hc fun e => ?_,hl,fun i x k hx hk=>BkAt.but gm a (hb i x k hx hk),he⟩;obtain⟨_,_,_,g⟩:=Xzl o.sl hb;rw[e,gm]at g;cases g
def BkRow.app(b:Nat){h:Heap}{n0:Nat}{v:Value}{l:List BK}(r:BkRow h n0 v l)(off:Off v (Yg5 l)){fv:Value}{k:BK}(a:BkAt h fv k)(offk:∀ x,k.c=some x->∀ c,Jp x.sv=some c->Jp v≠some c)(h0:n0<=h.next)(hn:l.length < 1000000) :
  ∃ v' h',Qfp (E b).toEnv 73 73 v (.slice (some ⟨h.next,0,none⟩) 1 1) (h.push (.cells true 1 [fv]))=some (v',h')/\BkRow h' n0 v' (l ++ [k])/\Beyond v h h'/\∀ c,Jp v'=some c->Jp v=some c∨h.next<=c:=by
 have fb:=r.func;obtain⟨vals,o,hl,hb,he⟩:=r;obtain⟨v',h',k1,k2,k3,k4⟩:=Qrk (T73 b) (z:=1) Q65 (by omega) o h0 (ys:=[fv]) rfl (by rw[Y7u];omega) (by omega);refine⟨v',h',k1,⟨vals ++ [fv],by rw[aj];exact k2,by simp[hl],fun i x kk hx hk => ?_,fun e=>by simp at e⟩,k3,k4⟩;by_cases hi:i < l.length
 ·rw[aL (by omega)]at hx;rw[aL hi]at hk;refine BkAt.off fb k3.2 (hb i x kk hx hk) fun y hy=>off _ ?_;exact cr.2 ⟨kk,ak hk,by rw[hy];rfl⟩
 ·rw[aS (by omega)]at hx hk;rw[hl]at hx;have : i-l.length=0:=by
   have:=(aq.1 hx).1;simpa using this
  rw[this]at hx hk;simp at hx hk;subst hx hk;exact BkAt.off fb k3.2 a offk
def Jcx(b:Nat)(h:Heap){fv:Value}{k:BK}(a:BkAt h fv k)(h1:Heap):Vx (E b).toEnv 73 1 [(0,fv)] h1=some (.slice (some ⟨h1.next,0,none⟩) 1 1,h1.push (.cells true 1 [fv])):=by
 obtain⟨-, -,bT,bC,bP,rfl, -⟩:=a;exact Q7b (T73 b) (z:=1) Q65 (by omega) (by omega) rfl rfl rfl
def Yf7(l:List BK)(m:Qu8):Qu8:=l.foldr (fun k m=>Ykh m k.p (k.c.map LV.c)) m
def Zmj(l l2:List BK)(m:Qu8):Yf7 (l++l2) m=Yf7 l (Yf7 l2 m):=by simp[Yf7]
def Zzf(k:BK)(m:Qu8):Yf7 [k] m=Ykh m k.p (k.c.map LV.c):=rfl
def idS:List Nat:=[116,120]
section
def Jhk(b:Nat){h:Heap}(laid:Ab.LaidIn h laidAll){iv ov:Value}{ins:List InV}{outs:List OutV}{lock:Int}(si:Ins h iv ins)(so:Outs h ov outs)(hp:∀ x ∈ ins,PtB x.pt)(K:KP)
  (hk:∀ h',Old h h'->K (.ret (.agg ⟨(dgF idS (ptx ins outs lock)).map u8v⟩)) h'):FK b 53 [.agg ⟨txC iv ov lock⟩] h K:=by
 refine FF b (Qpx b) Zvm Z9p Z51 rfl ?_;obtain⟨hA,eA,aA,gA⟩:=Xcl h ((txC iv ov lock));have nA:=Xbt eA;have bx:=Q1v eA;obtain⟨hB,eB,aB,gB⟩:=Xcl hA z32;have alB:Qbi (E b).toEnv 51 hA=some (.pointer (some ⟨hA.next,0,none⟩),hB):=by rw[eB];exact Vs b hA
 have aAB:=aA.trans aB;have ldt:Qbn hB h.next 0 3=some (.agg ⟨txC iv ov lock⟩):=by rw[Vm (aB.get gA) (by simp[txC])];rfl
 simp[Yjs,Zvd,Qpx,Vs,Y86,Uf,Qpt,Uj,bx,-Vs,alB,ldt];refine Ztw b (l:=idS) (Laid.old laid aAB) rfl (by simp[idS]) (si.old aAB) (so.old aAB) hp _ fun h1 a1 => ?_;obtain⟨dt,hdt⟩:∃ dt,dt=dgF idS (ptx ins outs lock):=⟨_,rfl⟩;have tl:dt.length=32:=by rw[hdt];exact Yaf _ _
 rw[<- hdt]at hk ⊢;have g3:=a1.get gB;have l3:=Heap.get_lt g3;have st3:Ur h1 hA.next 0 (dt.map u8v)=some (h1.set hA.next (some (.cells true 1 (dt.map u8v)))):=by
  rw[W8 g3 (by simp[z32,tl])];congr 4;simp[z32,tl]
 have ld3:Qbn (h1.set hA.next (some (.cells true 1 (dt.map u8v)))) hA.next 0 32=some (.agg ⟨dt.map u8v⟩):=by
  rw[Vm (by rw[Heap.get_set _ _ _ _ l3,if_pos rfl]) (by simp[tl]),bY,aJ (by simp[tl])]
 simp[Yjs,Zvd,Qpx,Vs,Y86,Uf,Qpt,Uj,Qiz,tl,st3,ld3];exact hk _ ((aAB.trans a1).set _ (by omega) l3)
def Yfk(b:Nat){h:Heap}{lb z nu:Nat}{nt mv un:Value}(gl:h.get lb=some (.cells true z [nt,mv,un]))(hun:∀ hx,Qnm (E b).toEnv 78 un hx=some (.int .i64 (nu:Int)))(K:KP)(hk:K (.ret (.int .i64 (nu:Int))) h) :
  FK b 14 [.pointer (some ⟨lb,0,none⟩)] h K:=by
 refine FF b (Xk b) Xi5 Xvh Xne rfl ?_;have c2:J6 h lb 2=some un:=by rw[Zd gl];rfl
 simp[Qy5,Xq9,Xk,Xi1,Qwp,X5a,Z7h,Qfx,c2,hun];exact hk
end
def Qz3(b:Nat){t:TypeId}{r:TyRec}(he:(E b).toEnv.ty.get t=some r){l:List Value}(hl:l.length=r.size)(hz:r.zero.cells.toList.length=r.size)(h:Heap):∃ hA hB,Qbi (E b).toEnv t h=some (.pointer (some ⟨h.next,0,none⟩),hA)/\Qc9 (E b).toEnv t (.pointer (some ⟨h.next,0,none⟩)) (.agg ⟨l⟩) hA=some hB/\Ur hA h.next 0 l=some hB/\hB.get h.next=some (.cells true 1 l)/\Old h hB/\hB.next=h.next+1:=by
 obtain⟨hA,eA⟩:∃ hA,hA=h.push (.cells true 1 r.zero.cells.toList):=⟨_,rfl⟩;have gA:hA.get h.next=some (.cells true 1 r.zero.cells.toList):=by rw[eA,Heap.get_push,if_pos rfl]
 have lA:=Heap.get_lt gA;have st:Ur hA h.next 0 l=some (hA.set h.next (some (.cells true 1 l))):=by
  rw[W8 gA (by omega)];rw[cN (by omega)];simp
 refine⟨hA,hA.set h.next (some (.cells true 1 l)),by rw[eA];simp only[Qbi,he],by rw[Qzh he hl];exact st,st,by rw[Heap.get_set _ _ _ _ lA,if_pos rfl],?_,by rw[eA];rfl⟩;rw[eA];exact(Old.push _ _).set _ (ae _) (by rw[<- eA];exact lA)
structure Did (h h':Heap) (mb clk':Nat) (ls ls':List LC) (m':Qu8) (v':Value) (bks:List BK) (N M:Nat):Prop where
 row:BkRow h' h.next v' bks
 co:CoM h' mb clk' ls'
 mp:Qcd ls'=m'
 back:Yf7 bks m'=Qcd ls
 bt:But mb h h'
 off:Off v' (X2o ls'++Yg5 bks)
 new:∀ s ∈ X2o ls'++Yg5 bks,s ∈ X2o ls ∨ ∀ c,Jp s=some c->h.next<=c
 len:ls'.length<=ls.length+N
 bl:bks.length<=M
def Did.old{h h' h2:Heap}{mb clk' N M:Nat}{ls ls':List LC}{m':Qu8}{v':Value}{bks:List BK}(D:Did h h' mb clk' ls ls' m' v' bks N M)(a:Old h' h2):Did h h2 mb clk' ls ls' m' v' bks N M :=
 ⟨D.row.old a,D.co.old a,D.mp,D.back,D.bt.old a,D.off,D.new,D.len,D.bl⟩
def Did.nil{h:Heap}{mb clk:Nat}{ls:List LC}(w:CoM h mb clk ls):Did h h mb clk ls ls (Qcd ls) (.slice none 0 0) [] 0 0 :=
 ⟨BkRow.nil,w,rfl,rfl,But.of (Old.refl _),Off.nil,fun s hs => .inl (by simpa[Yg5]using hs),ae _,ae _⟩
def Zz7{h:Heap}{x:LV}(a:LvAt h x){c:Nat}(hc:Jp x.sv=some c):c < h.next:=by
 obtain⟨_,_,_,g⟩:=Xzl a.s hc;exact Heap.get_lt g
def BkRow.lv{h:Heap}{n0:Nat}{v:Value}{l:List BK}(r:BkRow h n0 v l){k:BK}(hk:k ∈ l){x:LV}(hx:k.c=some x):LvAt h x:=by
 obtain⟨vals,o,hl,hb,he⟩:=r;obtain⟨i,hi,e⟩:=List.getElem_of_mem hk;exact(hb i (vals[i]'(by omega)) k (ab (by omega)) (by rw[ab hi,e])).2.1 x hx
def Zvf{h:Heap}{n0 mb clk:Nat}{v:Value}{l:List BK}{ls:List LC}(r:BkRow h n0 v l)(w:CoM h mb clk ls){s:Value}(hs:s ∈ X2o ls++Yg5 l){c:Nat}(hc:Jp s=some c):c < h.next:=by
 rcases ac.1 hs with q | q
 ·obtain⟨x,hx,rfl⟩:=av.1 q;exact Zz7 (w.hs x hx) hc
 ·obtain⟨k,hk,e⟩:=cr.1 q;cases hkc:k.c with
  | none=>rw[hkc]at e;cases e
  | some x =>
   rw[hkc]at e;cases e;exact Zz7 (r.lv hk hkc) hc
def Did.step(b:Nat){h h1:Heap}{mb clk N M:Nat}{ls ls1:List LC}{m1:Qu8}{bv:Value}{bks:List BK}(D:Did h h1 mb clk ls ls1 m1 bv bks N M)(hM:M < 1000000){fv:Value}{p:Pt}(a:BkAt h1 fv ⟨p,atL ls1 p⟩) :
  ∃ v' h2,Qfp (E b).toEnv 73 73 bv (.slice (some ⟨h1.next,0,none⟩) 1 1) (h1.push (.cells true 1 [fv]))=some (v',h2)/\Beyond bv h1 h2/\Zf9 h1 bv/\CoM h2 mb clk ls1/\But mb h h2 /\
   ∀ (h3 h4:Heap) (ls2:List LC) (clk2:Nat) (c:Option PC) (N':Nat) (x:Option LV),Old h2 h3->(∃ y,h4=h3.set mb y)->CoM h4 mb clk2 ls2->Qcd ls2=Ykh (Qcd ls1) p c->(∀ y ∈ ls2,y ∈ ls1∨some y.c=x)->(∀ y,x=some y->∀ c,Jp y.sv=some c->h2.next<=c)->ls2.length<=ls.length+N' ->
    Did h h4 mb clk2 ls ls2 (Ykh m1 p c) v' (bks ++ [⟨p,atL ls1 p⟩]) N' (M+1):=by
 have fb:=D.row.func;have hat:∀ x,atL ls1 p=some x->x.sv ∈ X2o ls1:=fun x hx=>by
  obtain⟨y,hy, -,rfl⟩:=Y6z hx;exact av.2 ⟨y,hy,rfl⟩
 obtain⟨v',h2,k1,k2,k3,k4⟩:=D.row.app b (D.off.sub fun s hs=>by simp[hs]) a (fun x hx=>D.off x.sv (ac.2 (.inl (hat x hx)))) D.bt.1 (dM D.bl hM);have co2:=CoM.off fb k3.2 D.co (D.off.sub fun s hs=>by simp[hs]);have bt2:But mb h h2:=⟨al D.bt.1 k3.1,fun c hc hne=>by
  rw[k3.2 c (aw hc D.bt.1) fun e=>by have:=(D.row.from e).1;omega,D.bt.2 c hc hne]⟩
 refine⟨v',h2,k1,k3,fb,co2,bt2,?_⟩;rintro h3 h4 ls2 clk2 c N' x a23 ⟨y,rfl⟩ co4 em hmem hnew hlen;have gm3:=(co2.old a23).gm;have lm3:=Heap.get_lt gm3;have esub:∀ s ∈ Yg5 (bks ++ [⟨p,atL ls1 p⟩]),s ∈ X2o ls1++Yg5 bks:=fun s hs=>by
  rw[Zcm]at hs;rcases ac.1 hs with q | q
  ·exact ac.2 (.inr q)
  ·refine ac.2 (.inl ?_);cases ha:atL ls1 p with
   | none=>rw[ha]at q;simp[Yg5]at q
   | some z =>
    rw[ha]at q;simp[Yg5]at q;rw[q];exact hat z ha
 have lsub:∀ s ∈ X2o ls2,s ∈ X2o ls1 ∨ ∃ z,x=some z/\s=z.sv:=fun s hs=>by
  obtain⟨z,hz,rfl⟩:=av.1 hs;rcases hmem z hz with q | q
  ·exact .inl (av.2 ⟨z,q,rfl⟩)
  ·exact .inr ⟨z.c,q.symm,rfl⟩
 have offOld:Off v' (X2o ls1++Yg5 bks):=fun s hs d hd e=>by
  rcases k4 d e with q | q
  ·exact D.off s hs d hd q
  ·have:=Zvf D.row D.co hs hd;omega
 have row4:BkRow (h3.set mb y) h.next v' (bks ++ [⟨p,atL ls1 p⟩]):=(k2.old a23).but gm3 ((But.of (Old.refl _)).set _ lm3);refine⟨row4,co4,by rw[em,D.mp],?_,(bt2.old a23).set _ lm3,fun s hs d hd e => ?_,fun s hs => ?_,hlen,by rw[aj];have:=D.bl;simp;omega⟩
 ·rw[Zmj,Zzf];show Yf7 bks (Ykh (Ykh m1 p c) p ((atL ls1 p).map LV.c))=_;have : (atL ls1 p).map LV.c=m1 p:=by rw[<- D.mp];rfl
  rw[this,Z42,Z91,D.back]
 ·rcases ac.1 hs with q | q
  ·rcases lsub s q with r | ⟨z,r1,rfl⟩
   ·exact offOld s (ac.2 (.inl r)) d hd e
   ·have h5:=hnew z r1 d hd;have:=(k2.from e).2;omega
  ·exact offOld s (esub s q) d hd e
 ·rcases ac.1 hs with q | q
  ·rcases lsub s q with r | ⟨z,r1,rfl⟩
   ·exact D.new s (ac.2 (.inl r))
   ·exact .inr fun d hd=>al bt2.1 (hnew z r1 d hd)
  ·exact D.new s (esub s q)
def Z05(b:Nat){sc:List Nat}(hs:sc.length=32)(z:Int):Qmn (E b).toEnv 53 [(0,.agg ⟨sc.map u8v⟩),(1,.int .i64 z)]=some (.agg ⟨sc.map u8v ++ [.int .i64 z]⟩):=by
 obtain⟨fs,pl,hfs,hpl,hp0,hp1⟩:∃ fs pl,R53.desc=.struct fs/\Q0n (E b).toEnv fs.toList=some pl/\nth pl 0=some (0,32)/\nth pl 1=some (32,1) :=
  ⟨(match R53.desc with | .struct fs=>fs | _ => #[]),(Q0n (E b).toEnv (match R53.desc with | .struct fs=>fs | _ => #[]).toList).getD [],by kernel_rfl,by kernel_rfl,by kernel_rfl,by kernel_rfl⟩
 obtain⟨zz,ez,hz,hzd⟩:∃ zz:List Value,zz=R53.zero.cells.toList/\zz.length=33/\zz.drop 32=[.int .i64 0]:=⟨_,rfl,by kernel_rfl,by kernel_rfl⟩;have sl:(sc.map u8v).length=32:=by simp[hs]
 have e2:(Qh8 (.agg ⟨sc.map u8v⟩) && (Value.agg ⟨sc.map u8v⟩).cells.size == 32 && Nat.ble (0+32) zz.length)=true:=by
  have h1:(Value.agg ⟨sc.map u8v⟩).cells.size=32:=sl;rw[h1,hz];rfl
 have e3:Qky zz 0 (Value.agg ⟨sc.map u8v⟩).cells.toList=some (sc.map u8v++zz.drop 32):=by
  show Qky zz 0 (sc.map u8v)=_;rw[Qpl (by rw[sl,hz];omega)];simp[sl]
 have e4:(Qh8 (.int .i64 z) && (Value.int .i64 z).cells.size == 1 && Nat.ble (32+1) (sc.map u8v ++ [(.int .i64 0:Value)]).length)=true:=by
  rw[aj,sl];rfl
 have e5:Qky (sc.map u8v ++ [(.int .i64 0:Value)]) 32 (Value.int .i64 z).cells.toList=some (sc.map u8v ++ [.int .i64 z]):=by
  show Qky _ 32 [.int .i64 z]=_;rw[Qpl (by rw[aj,sl];simp)];have e6:∀ r:List Value,(sc.map u8v++r).take 32=sc.map u8v:=fun r=>by rw[<- sl,List.take_left]
  have e7:(sc.map u8v ++ [(.int .i64 0:Value)]).drop (32+1)=[]:=cB (by rw[aj,sl];simp);simp only[e6,bQ,e7,dh]
 simp only[Qmn,Ym2,hfs,hpl,<- ez,Xq8,hp0,hp1,e2,if_true,e3,hzd,e4,e5,az]
def Z0e(b:Nat)(z w:Int){v:Value}{h:Heap}{n0 n:Nat}{xs:List Value}(s:Own h n0 1 v n xs):Qmn (E b).toEnv 84 [(0,.agg ⟨[.int .i64 z,v]⟩),(1,.int .i64 w)]=some (.agg ⟨[.int .i64 z,v,.int .i64 w]⟩):=by
 rcases s.sl with⟨c,rfl,_⟩ | ⟨bk,o,c,ow,z',pre,post,rfl,_⟩
 ·kernel_rfl
 ·kernel_rfl
def Z6s(m:Qu8)(l:List Pt):Qu8:=l.foldl (fun m p=>Ykh m p none) m
def Zeb(id:List Nat)(hid:id.length=32)(made:Int)(m:Qu8)(l:List POut):Qu8:=l.zipIdx.foldl (fun m q=>Ykh m ⟨id,(q.2:Int),hid⟩ (some ⟨q.1.value,q.1.script,made⟩)) m
def Zuq(m:Qu8)(l:List Pt)(p:Pt):Z6s m (l ++ [p])=Ykh (Z6s m l) p none:=by simp[Z6s]
def Zk9{id:List Nat}{hid:id.length=32}{made:Int}(m:Qu8)(l:List POut)(o:POut):Zeb id hid made m (l ++ [o])=Ykh (Zeb id hid made m l) ⟨id,(l.length:Int),hid⟩ (some ⟨o.value,o.script,made⟩):=by
 unfold Zeb;rw[List.zipIdx_append,List.foldl_append];simp
def doM(m:Qu8)(t:PTx)(made:Int):Qu8:=Zeb (dgF idS t) (Yaf _ _) made (Z6s m (t.ins.map (·.pt))) t.outs
def Zx5(s l:List Nat):∀ n ∈ Jcs s l,n < 256:=fun n hn=>Zyf _ n hn
def Z1u(s:List Nat)(t:PTx):∀ n ∈ dgF s t,n < 256:=by
 intro n hn;unfold dgF at hn;split at hn
 ·exact Zx5 _ _ n hn
 ·rw[List.eq_of_mem_replicate hn];omega
structure D1 (lb B:Nat) (iv:Value) (n:Nat) (t:Tr Value) (i:Nat) (bv:Value):Prop where
 t0:t.get 0=some (.pointer (some ⟨lb,0,none⟩))
 t3:t.get 3=some (.pointer (some ⟨B,0,none⟩))
 t5:t.get 5=some bv
 t13:t.get 13=some iv
 t14:t.get 14=some (.int .i64 (n:Int))
 t15:t.get 15=some (.int .i64 (i:Int))
def DI1(lb mb clk B:Nat)(iv:Value)(ins:List InV)(ls:List LC)(h:Heap)(k:Nat)(s:St):Prop:=∃ (t:Tr Value) (h1:Heap) (i:Nat) (bv:Value) (ls1:List LC) (bks:List BK),s=⟨⟨65,t⟩,[],h1⟩/\i<=ins.length/\k=ins.length-i/\D1 lb B iv ins.length t i bv/\Did h h1 mb clk ls ls1 (Z6s (Qcd ls) ((ins.take i).map (·.pt))) bv bks 0 i
structure D2 (lb I:Nat) (ov:Value) (n:Nat) (t:Tr Value) (i:Nat) (bv:Value):Prop where
 t0:t.get 0=some (.pointer (some ⟨lb,0,none⟩))
 t5:t.get 5=some bv
 t8:t.get 8=some (.pointer (some ⟨I,0,none⟩))
 t36:t.get 36=some ov
 t37:t.get 37=some (.int .i64 (n:Int))
 t38:t.get 38=some (.int .i64 (i:Int))
def DI2(lb mb I:Nat)(ov:Value)(id:List Nat)(hid:id.length=32)(made:Int)(outs:List OutV)(m0:Qu8)(M:Nat)(ls:List LC)(h:Heap)(k:Nat)(s:St):Prop:=∃ (t:Tr Value) (h1:Heap) (i clk:Nat) (bv:Value) (ls1:List LC) (bks:List BK),s=⟨⟨65,t⟩,[],h1⟩/\i<=outs.length/\k=outs.length-i/\D2 lb I ov outs.length t i bv/\Did h h1 mb clk ls ls1 (Zeb id hid made m0 ((outs.take i).map OutV.p)) bv bks i (M+i)/\h1.get I=some (.cells true 1 (id.map u8v))
section
attribute [local simp] U4 W1 Jw Jc Qa5 W9 Xt Uh Qnr Qq1 Vd Wn V4 Uy Qgq Xx Uf Qpx Uj Jt Qba Qbp Qft Qal Qiz Jq Xk
set_option maxHeartbeats 2000000 in
def Jhn(b:Nat){h:Heap}{lb mb z clk nu:Nat}{nt un:Value}{ls:List LC}(laid:Ab.LaidIn h laidAll)(gl:h.get lb=some (.cells true z [nt,.map (some mb),un]))(hun:∀ hx,Qnm (E b).toEnv 78 un hx=some (.int .i64 (nu:Int)))(hnu:nu < 1000000)
  (w:CoM h mb clk ls) {iv ov:Value} {ins:List InV} {outs:List OutV} {lock:Int} (si:Ins h iv ins) (so:Outs h ov outs) (hp:∀ x ∈ ins,PtB x.pt) (hv:∀ o ∈ outs,0<=o.value/\o.value<=1125899906842624) (hni:ins.length<=100) (hno:outs.length<=100)
  (K:KP) (hk:∀ v' h' ls' clk' bks,Did h h' mb clk' ls ls' (doM (Qcd ls) (ptx ins outs lock) ((nu:Int)+1)) v' bks outs.length (ins.length+outs.length)->K (.ret v') h'):CallOK Tryz.prog (E b).G 28 [.pointer (some ⟨lb,0,none⟩),.agg ⟨txC iv ov lock⟩] h K:=by
 refine Qi1 (E b) (Vt _ _) (Ui b) (Jl b) mixed (Un b) (Jw b) X0g Ybj Yb2 rfl ?_;obtain⟨h0,e0⟩:∃ h0,h0=h.push (.cells true 1 (txC iv ov lock)):=⟨_,rfl⟩;have bx:=Q1v e0;have a0:=Qqr e0;have g0:h0.get h.next=some (.cells true 1 (txC iv ov lock)):=by rw[e0,Heap.get_push,if_pos rfl]
 have n0:=Xbt e0;have w0:=w.old a0;have gl0:=a0.get gl;have len1:∀ hx,Qnm (E b).toEnv 30 iv hx=some (.int .i64 (ins.length:Int)):=fun hx=>Qca (T30 b) si.s;have len2:∀ hx,Qnm (E b).toEnv 27 ov hx=some (.int .i64 (outs.length:Int)):=fun hx=>Qca (T27 b) so.s;have c0:∀ {hx:Heap},hx.get h.next=some (.cells true 1 (txC iv ov lock))->J6 hx h.next 0=some iv/\J6 hx h.next 1=some ov/\Qbn hx h.next 0 3=some (.agg ⟨txC iv ov lock⟩):=fun g=>⟨by rw[Zd g];rfl,by rw[Zd g];rfl,by rw[Vm g (by simp[txC])];rfl⟩;simp[Qnu,Vs,Wb,Qiy,bx,(c0 g0).1,len1];refine Qfw (DI1 lb mb clk h.next iv ins ls h0) ins.length ⟨_,h0,0,.slice none 0 0,ls,[],rfl,by omega,rfl,⟨by simp,by simp,by simp,by simp,by simp,by simp⟩,Did.nil w0⟩ ?_;rintro k s' ⟨t,h1,i,bv,ls1,bks,rfl,hi,rfl,⟨t0,t3,t5,t13,t14,t15⟩,D⟩ -;have gl1:=D.bt.get gl0 w0.gm;have si1:=Ins.but w0.gm D.bt (si.old a0);by_cases hlt:i < ins.length
 ·have hlt':(i:Int) < (ins.length:Int):=by omega
  have hw:=wS (i:=i) (by omega);obtain⟨x,hx⟩:∃ x,ins[i]? = some x:=⟨_,ab hlt⟩;obtain⟨bk,off, -,x1,x2, -⟩:=Ycb (b:=b) (T30 b) Qn3 si1.s hx;obtain⟨hA,h2,alA,stA,stA',g2,a2,n2⟩:=Qz3 b (Y9d b) (l:=x.cells) (by rw[InV.len,Qn3]) (by kernel_rfl) h1;have ldp:∀ {hx:Heap},hx.get h1.next=some (.cells true 1 x.cells)->Qbn hx h1.next 0 33=some (.agg ⟨x.pt.cells⟩):=fun g=>by rw[Vm g (by rw[InV.len];omega),bY,Yqh]
  have hpx:=hp x (ak hx);simp[Qnu,Vs,Wb,Qiy,t0,t3,t5,t13,t14,t15,hlt,hlt',x1,x2,-Qnu,alA,stA,stA',ldp g2];have D2:=D.old a2;refine(Zzm b (a2.get gl1) D2.co hpx _ fun fv h3 bk3 a3 => ?_).ok;have D3:=D2.old a3;obtain⟨v4,h4,ap4,b4,fb4,co4,bt4,stp⟩:=D3.step b (by omega) bk3;have g4:h4.get h1.next=some (.cells true 1 x.cells):=by
   rw[b4.2 _ (Heap.get_lt (a3.get g2)) fun e=>by have:=(D.row.from e).2;omega];exact a3.get g2
  have gl4:=bt4.get gl0 w0.gm;have cl4:J6 h4 lb 1=some (.map (some mb)):=by rw[Zd gl4];rfl
  obtain⟨ls5,h5,dl5,e5,co5,em5,le5,mem5⟩:=Jdy b co4 x.pt;simp[Qnu,Vs,Wb,Qiy,t0,t3,t5,t13,t14,t15,Jcx b h3 bk3,ap4];refine Qh6 [] (by simp) Xgq Xja Xhi (by simp[Xmm,Xvb,Vs,Qiy,Qfx,t0,cl4,ldp g4,dl5];first | exact⟨rfl,rfl⟩ | rfl) ?_ ?_
  ·simp[Qfo,Vs,Qiy]
  simp[Qnu,Vs,Wb,Qiy,t0,t3,t5,t13,t14,t15,hw];have D5:=stp h4 h5 ls5 clk none 0 none (Old.refl _) ⟨_,e5⟩ co5 em5 (fun y hy => .inl (mem5 y hy)) (fun y e=>by cases e) (by have:=D.len;omega);have tk:(ins.take (i+1)).map (·.pt)=(ins.take i).map (·.pt) ++ [x.pt]:=by rw[bm,hx];simp
  refine⟨ins.length-(i+1),by omega,_,h5,i+1,v4,ls5,bks ++ [⟨x.pt,atL ls1 x.pt⟩],rfl,by omega,rfl,⟨by simp[t0],by simp[t3],by simp,by simp[t13],by simp[t14],by simp⟩,?_⟩;rw[tk,Zuq];exact D5
 ·have hlt':¬ (i:Int) < (ins.length:Int):=by omega
  have : i=ins.length:=by omega
  subst this;rw[bO]at D;have g1:=D.bt.get g0 w0.gm;have so1:=Outs.but w0.gm D.bt (so.old a0);have la1:=Laid.but w0.gm D.bt (Laid.old laid a0);simp[Qnu,Vs,Wb,Qiy,t0,t3,t5,t13,t14,t15,(c0 g1).1,(c0 g1).2.1,(c0 g1).2.2];refine(Jhk b la1 si1 so1 hp _ fun h2 a2 => ?_).ok;obtain⟨dg,hid0⟩:∃ dg,dg=dgF idS (ptx ins outs lock):=⟨_,rfl⟩;have hid:dg.length=32:=by rw[hid0];exact Yaf _ _
  have bid:∀ n ∈ dg,n < 256:=by rw[hid0];exact Z1u _ _
  rw[<- hid0];obtain⟨hA,h3,alA,stA,stA',g3,a3,n3⟩:=Qz3 b (Z01 b) (l:=dg.map u8v) (by rw[aU,hid,Yqi]) (by kernel_rfl) h2;have D3:=(D.old a2).old a3;have g13:=a3.get (a2.get g1);simp[Qnu,Vs,Wb,Qiy,t0,t3,t5,t13,t14,t15,-Vs,alA,stA,stA',hid,(c0 g13).2.1,len2];refine Qfw (DI2 lb mb h2.next ov dg hid ((nu:Int)+1) outs (Z6s (Qcd ls) (ins.map (·.pt))) ins.length ls h0) outs.length ⟨_,h3,0,clk,bv,ls1,bks,rfl,by omega,rfl,⟨by simp[t0],by simp[t5],by simp,by simp,by simp,by simp⟩,by simpa[Zeb]using D3,g3⟩ ?_;rintro k s' ⟨t,h4,j,clk4,bv4,ls4,bks4,rfl,hj,rfl,⟨t0,t5,t8,t36,t37,t38⟩,D4,g4⟩ -;have gl4:=D4.bt.get gl0 w0.gm;have so4:=Outs.but w0.gm D4.bt (so.old a0);by_cases hjl:j < outs.length
  ·have hjl':(j:Int) < (outs.length:Int):=by omega
   have hw:=wS (i:=j) (by omega);have hwn:IntKind.i64.wrap ((nu:Int)+1)=(nu:Int)+1:=W2 (by omega) (by omega);obtain⟨x,hx⟩:∃ x,outs[j]? = some x:=⟨_,ab hjl⟩;obtain⟨bk,off, -,x1,x2, -, -⟩:=Xh4 (b:=b) (T27 b) Qi0 so4.s hx;have hsx:=so4.a x (ak hx);have hvx:=hv x (ak hx);obtain⟨hA,h5,alA,stA,stA',g5,a5,n5⟩:=Qz3 b (Yse b) (l:=x.cells) (by rw[OutV.len,Qi0]) (by kernel_rfl) h4;obtain⟨p,ep⟩:∃ p:Pt,p=⟨dg,(j:Int),hid⟩:=⟨_,rfl⟩;have pb:PtB p:=by rw[ep];exact bid
   have bp:Qmn (E b).toEnv 53 [(0,.agg ⟨dg.map u8v⟩),(1,.int .i64 (j:Int))]=some (.agg ⟨p.cells⟩):=by rw[ep];exact Z05 b hid (j:Int)
   obtain⟨hC,h6,alC,stC,stC',g6,a6,n6⟩:=Qz3 b (Ym2 b) (l:=p.cells) (by rw[Pt.len,Qyg]) (by kernel_rfl) h5;have ldI:Qbn h5 h2.next 0 32=some (.agg ⟨dg.map u8v⟩):=agW (a5.get g4) (by simp[hid]) (by simp[hid]);have ldP:∀ {hx:Heap},hx.get h5.next=some (.cells true 1 p.cells)->Qbn hx h5.next 0 33=some (.agg ⟨p.cells⟩):=fun g=>agW g (by rw[Pt.len];omega) (by rw[Pt.len];omega);have ldO:∀ {hx:Heap},hx.get h4.next=some (.cells true 1 x.cells)->Qbn hx h4.next 0 2=some (.agg ⟨x.cells⟩):=fun g=>agW g (by rw[OutV.len];omega) (by rw[OutV.len];omega);simp[Qnu,Vs,Wb,Qiy,t0,t5,t8,t36,t37,t38,hjl,hjl',x1,x2,-Wb,-Qiy,alA,stA,stA',ldI,bp,alC,stC,stC',ldP g6];have D6:=(D4.old a5).old a6;have a46:=a5.trans a6;refine(Zzm b (a46.get gl4) D6.co pb _ fun fv h7 bk7 a7 => ?_).ok;have D7:=D6.old a7;obtain⟨v8,h8,ap8,b8,fb8,co8,bt8,stp⟩:=D7.step b (by omega) bk7;have keep8:∀ {c:Nat} {l:List Value},h4.next<=c->h7.get c=some (.cells true 1 l)->h8.get c=some (.cells true 1 l):=fun hc g=>by
    rw[b8.2 _ (Heap.get_lt g) fun e=>by have:=(D4.row.from e).2;omega];exact g
   have g5':=keep8 (ae _) (a7.get (a6.get g5));have g6':=keep8 (c:=h5.next) (by have:=a5.1;omega) (a7.get g6);have gI8:h8.get h2.next=some (.cells true 1 (dg.map u8v)):=X2m fb8 b8.2 ((a46.trans a7).get g4) fun y hy f ag cs e=>by
    have:=cJ hy;obtain⟨n, -,e2⟩:=av.1 this;rw[e]at e2;cases e2
   have gl8:=bt8.get gl0 w0.gm;have so8:=Outs.but w0.gm bt8 (so.old a0);have cl8:J6 h8 lb 1=some (.map (some mb)):=by rw[Zd gl8];rfl
   obtain⟨_,h9,q9,n9,sv9,rfl,o9,a9⟩:=Za4 b (v:=x.value) (so8.a x (ak hx)).s hsx.l (fun r h' => ∃ v',r=.ret (.agg ⟨[.int .i64 x.value,v']⟩)/\OB h' h8.next v' x.script/\Old h8 h') (fun v' h' o a=>⟨v',rfl,o,a⟩);have gl9:=a9.get gl8;obtain⟨_,h10,q10,n10,rfl,rfl⟩:=Yfk b gl9 hun (fun r h'=>r=.ret (.int .i64 (nu:Int))/\h9=h') ⟨rfl,rfl⟩;obtain⟨y,ey⟩:∃ y:LV,y=⟨x.value,sv9,x.script,(nu:Int)+1⟩:=⟨_,rfl⟩;have ly:LvAt h9 y:=by rw[ey];exact⟨o9.sl,hsx.b,hsx.l,hvx⟩
   obtain⟨ls11,clk11,h11,up11,e11,co11,em11,le11,mem11⟩:=Z8i b (co8.old a9) pb ly;have by':Qmn (E b).toEnv 84 [(0,.agg ⟨[.int .i64 x.value,sv9]⟩),(1,.int .i64 ((nu:Int)+1))]=some (.agg ⟨y.cells⟩):=by rw[ey];exact Z0e b x.value ((nu:Int)+1) o9
   have xc:x.cells=[.int .i64 x.value,x.sv]:=rfl;simp[Qnu,Vs,Wb,Qiy,t0,t5,t8,t36,t37,t38,Jcx b h7 bk7,ap8];refine Qh6 [⟨36,[.agg ⟨[.int .i64 x.value,x.sv]⟩],h8,.agg ⟨[.int .i64 x.value,sv9]⟩,h9,true⟩,⟨14,[.pointer (some ⟨lb,0,none⟩)],h9,.int .i64 (nu:Int),h9,true⟩] ?_ Xe3 Xgu Xdp (by simp[Xll,Xsi,Xq1,Xjv,Vs,Qiy,Qfx,t0,cl8,ldP g6',ldO g5',xc,Qq5,hwn,by',up11];first | exact⟨rfl,rfl⟩ | rfl) ?_ ?_
   ·exact zk2 ⟨q9,n9,fun _ c hc=>a9.2 c hc⟩ ⟨q10,n10,fun _ c hc=>rfl⟩
   ·simp[We,Vs,Qiy,cl8]
   simp[Qnu,Vs,Wb,Qiy,t0,t5,t8,t36,t37,t38,hw];have D11:=stp h9 h11 ls11 clk11 (some y.c) (j+1) (some y) a9 ⟨_,e11⟩ co11 em11 (fun q hq=>(mem11 q hq).imp id fun e=>by rw[e]) (fun q e c hc=>by cases e;rw[ey]at hc;exact(o9.from hc).1) (by have:=D4.len;omega);have tk:(outs.take (j+1)).map OutV.p=(outs.take j).map OutV.p ++ [x.p]:=by rw[bm,hx];simp
   have hlj:((outs.take j).map OutV.p).length=j:=by rw[aU,bG];omega
   refine⟨outs.length-(j+1),by omega,_,h11,j+1,clk11,v8,ls11,bks4 ++ [⟨p,atL ls4 p⟩],rfl,by omega,rfl,⟨by simp[t0],by simp,by simp[t8],by simp[t36],by simp[t37],by simp⟩,?_,?_⟩
   ·rw[tk,Zk9,hlj];have : (⟨x.p.value,x.p.script,(nu:Int)+1⟩:PC)=y.c:=by rw[ey];rfl
    rw[this,<- ep];exact D11
   ·rw[e11];exact Xjh (a9.get gI8) (co8.old a9).gm _
  ·have hjl':¬ (j:Int) < (outs.length:Int):=by omega
   have : j=outs.length:=by omega
   subst this;rw[bO]at D4;simp[Qnu,Vs,Wb,Qiy,t0,t5,t8,t36,t37,t38];have em:doM (Qcd ls) (ptx ins outs lock) ((nu:Int)+1)=Zeb dg hid ((nu:Int)+1) (Z6s (Qcd ls) (ins.map (·.pt))) (outs.map OutV.p):=by
    subst hid0;unfold doM;rw[show(ptx ins outs lock).ins.map (·.pt)=ins.map (·.pt)from Z7q ins];rfl
   refine hk bv4 h4 ls4 clk4 bks4 ?_;rw[em];exact⟨D4.row.low a0.1,D4.co,D4.mp,D4.back,⟨al a0.1 D4.bt.1,fun c hc hne=>by rw[D4.bt.2 c (aw hc a0.1) hne,a0.2 c hc]⟩,D4.off,fun s hs=>(D4.new s hs).imp id fun q c hc=>al a0.1 (q c hc),D4.len,D4.bl⟩
end
section
variable{h h':Heap}{L:Nat}{o:AObj}(go:h.get L=some (.obj o))(a:But L h h')
include go a
def Yxm{c z:Nat}{ow:Bool}{l:List Value}(g:h.get c=some (.cells ow z l)):h'.get c=some (.cells ow z l):=by
 rw[a.2 c (Heap.get_lt g) fun e=>by rw[e,go]at g;cases g];exact g
def Sl.obj{z n:Nat}{v:Value}{xs:List Value}(s:Sl h z v n xs):Sl h' z v n xs:=s.keep fun c hb hc=>a.2 c hc fun e=>by
 obtain⟨_,_,_,g⟩:=Xzl s hb;rw[e,go]at g;cases g
def LvAt.obj{x:LV}(l:LvAt h x):LvAt h' x:=⟨Sl.obj go a l.s,l.b,l.l,l.v⟩
def BkAt.obj{v:Value}{k:BK}(l:BkAt h v k):BkAt h' v k:=by
 obtain⟨q1,q2,bT,bC,bP,e,g1,g2,g3⟩:=l;exact⟨q1,fun x hx=>LvAt.obj go a (q2 x hx),bT,bC,bP,e,Yxm go a g1,Yxm go a g2,Yxm go a g3⟩
def CoM.obj{mb clk:Nat}{ls:List LC}(w:CoM h mb clk ls):CoM h' mb clk ls:=by
 refine⟨?_,w.B,fun x hx=>LvAt.obj go a (w.hs x hx),w.nd,w.kb⟩;rw[a.2 mb (Heap.get_lt w.gm) fun e=>by have:=w.gm;rw[e,go]at this;cases this];exact w.gm
end
section
def Z6p(b:Nat){h:Heap}{mb clk:Nat}{ls:List LC}(w:CoM h mb clk ls){k:BK}(pb:PtB k.p)(hl:∀ x,k.c=some x->LvAt h x){bT bC bP:Nat}(gT:h.get bT=some (.cells true 1 [.bool k.c.isSome]))(gC:h.get bC=some (.cells true 1 (Qzn k.c)))(gP:h.get bP=some (.cells true 1 k.p.cells))
  (K:KP) (hk:∀ h' ls' clk',(∃ y,h'=h.set mb y)->CoM h' mb clk' ls'->Qcd ls'=Ykh (Qcd ls) k.p (k.c.map LV.c)->(∀ y ∈ ls',y ∈ ls∨some y.c=k.c)->ls'.length<=ls.length+1->K (.ret (.tuple #[])) h') :
  CallOK Tryz.prog (E b).G 85 [.map (some mb),.pointer (some ⟨bT,0,none⟩),.pointer (some ⟨bC,0,none⟩),.pointer (some ⟨bP,0,none⟩)] h K:=by
 refine Qi1 (E b) (Vt _ _) (Ui b) (Jl b) mixed (Un b) (Qmz b) Xhs Xwo Xnh rfl ?_;have cT:J6 h bT 0=some (.bool k.c.isSome):=by rw[Zd gT];rfl
 have lP:Qbn h bP 0 33=some (.agg ⟨k.p.cells⟩):=agW gP (by rw[Pt.len];omega) (by rw[Pt.len];omega);cases hc:k.c with
 | none =>
  rw[hc]at cT;obtain⟨ls2,h2,dl,e2,co2,em,le,mem⟩:=Jdy b w k.p;simp[Qq2,Q1e,Qmz,Xtr,Wn,Jdw,cT,lP,dl];exact hk h2 ls2 clk ⟨_,e2⟩ co2 (by rw[em,hc];rfl) (fun y hy => .inl (mem y hy)) (by omega)
 | some x =>
  rw[hc]at cT gC;have lC:Qbn h bC 0 3=some (.agg ⟨x.cells⟩):=by rw[Vm gC (by simp[Qzn,LV.cells])];rfl
  obtain⟨ls2,clk2,h2,up,e2,co2,em,le,mem⟩:=Z8i b w pb (hl x hc);simp[Qq2,Q1e,Qmz,Xtr,Wn,Jdw,cT,lP,lC,up];exact hk h2 ls2 clk2 ⟨_,e2⟩ co2 (by rw[em,hc];rfl) (fun y hy=>(mem y hy).imp id fun e=>by rw[e,hc]) le
def Zom(b:Nat)(h:Heap)(v:Value)(hv:Qh8 v=true/\v.cells = #[v])(K:KP)(hk:∀ h',h'.get h.next=some (.cells true 1 [v])->Old h h'->h'.next=h.next+1->K (.ret (.func (.func 84) #[] #[.pointer (some ⟨h.next,0,none⟩)])) h') :
  FK b 51 [v] h K:=by
 refine FF b (Zx b) Qdq Qeh Qe6 rfl ?_;obtain⟨hA,eA⟩:∃ hA,hA=h.push (.cells true 1 [v]):=⟨_,rfl⟩;have bx:Zol v h=some (.pointer (some ⟨h.next,0,none⟩),hA):=by simp[Zol,eA,hv.1,hv.2]
 simp[W7,Qeb,Zx,bx];exact hk hA (by rw[eA,Heap.get_push,if_pos rfl]) (by rw[eA];exact Old.push _ _) (by rw[eA];rfl)
end
def BWI(A l:Nat)(n:Nat)(I:Nat->Heap->Prop)(k:Nat)(s:St):Prop:=∃ (t:Tr Value) (g:Heap) (j:Nat),s=⟨⟨19,t⟩,[],g⟩/\t.get 0=some (.func (.yield l) #[] #[])/\t.get 1=some (.pointer (some ⟨A,0,none⟩))/\t.get 3=some (.int .i64 ((n:Int)-1-(j:Int)))/\j<=n/\k=n-j/\I j g
section
attribute [local simp] Zs Jr Ze Zq0 Z4h Jk Qre Zv7
def bw1(b:Nat){l A:Nat}{v:Value}{vals:List Value}(h:Heap)(K:KP)(I:Nat->Heap->Prop)(hI:I 0 h)(hn:vals.length < 1000000)
  (h1:∀ j g,I j g->g.get A=some (.cells true 1 [v])/\Sl g 1 v vals.length vals/\∃ st pe t ps an bd d,g.get l=some (.obj (.loop st pe t ps an bd d))/\∀ x y:Value,Zsm t.size ps.toList [x,y]=true)
  (hr:∀ j g x (K:KP),I j g->j < vals.length->vals[vals.length-1-j]? = some x->(∀ g',I (j+1) g'->g.next<=g'.next->K (.ret (.bool true)) g')->Xr4 Tryz.prog (E b).G l [.int .i64 ((vals.length:Int)-1-(j:Int)),x] g K)
  (hk:∀ g,I vals.length g->K (.ret (.tuple #[])) g):CallOK Tryz.prog (E b).G 84 [.func (.yield l) #[] #[],.pointer (some ⟨A,0,none⟩)] h K:=by
 refine Qi1 (E b) (Vt _ _) (Ui b) (Jl b) mixed (Un b) (Ze b) Qd9 Qe7 Qe3 rfl ?_;obtain⟨gA,s0, -⟩:=h1 _ _ hI;have cA:J6 h A 0=some v:=by rw[Zd gA];rfl
 have len:∀ hx,Qnm (E b).toEnv 73 v hx=some (.int .i64 (vals.length:Int)):=fun hx=>Qca (T73 b) s0;have w0:IntKind.i64.wrap ((vals.length:Int)-1)=(vals.length:Int)-1:=W2 (by omega) (by omega);simp[cA,len,w0];refine Qfw (BWI A l vals.length I) vals.length ⟨_,h,0,rfl,by simp,by simp,by simp,by omega,rfl,hI⟩ ?_;rintro k s' ⟨t,g,j,rfl,t0,t1,t3,hj,rfl,hIg⟩ -;obtain⟨gA,s1,st,pe,tl,ps,an,bd,d,q3,q4⟩:=h1 _ _ hIg;have cA:J6 g A 0=some v:=by rw[Zd gA];rfl
 obtain⟨z,hz⟩:∃ z:Int,z=(vals.length:Int)-1-(j:Int):=⟨_,rfl⟩;rw[<- hz]at t3;by_cases hlt:j < vals.length
 ·have hz0:0<=z:=by omega
  have hzn:(z.toNat:Int)=z:=df hz0;have e1:z.toNat=vals.length-1-j:=by omega
  obtain⟨x,hx⟩:∃ x,vals[vals.length-1-j]? = some x:=⟨_,ab (by omega)⟩;obtain⟨bk,off,x0,x1,x2, -⟩:=Q96 (T73 b) Q65 s1 (k:=.i64) (i:=z) hz0 (by omega);have x2:=x2 0 (by omega);rw[e1,d6,ca,ca,hx]at x2;have hw:IntKind.i64.wrap (z-1)=(vals.length:Int)-1-((j+1:Nat):Int):=by rw[W2 (by omega) (by omega)];omega
  have q4:=q4 (.int .i64 z) x;simp[t0,t1,t3,cA,hz0,x1,x2,Yci,q3,q4];have:=hr j g x;rw[<- hz]at this;refine this _ hIg hlt hx fun g' hI' hn' => ?_;simp[t0,t1,t3,hw];exact⟨vals.length-(j+1),by omega,_,g',j+1,rfl,by simp[t0],by simp[t1],by simp,by omega,rfl,hI'⟩
 ·have hz0:¬ 0<=z:=by omega
  have : j=vals.length:=by omega
  subst this;simp[t0,t1,t3,hz0];exact hk g hIg
end
def aTn:Code:=Jii (X71 (Y7 27))
def bTn:Code:=Jib (X71 (Y7 27))
def Z3e:X71 (Y7 27)=.rangeFunc (.tmp 7) #[8,9] aTn bTn:=by kernel_rfl
def Jhp:U8 aTn=Qwg:=by kernel_rfl
def Jgh:U8 bTn=Qox:=by kernel_rfl
structure TNI (hB:Heap) (TL:Tm) (mb:Nat) (ls:List LC) (bks:List BK) (j:Nat) (g:Heap):Prop where
 gd:g.get hB.next=some (.obj .defs)
 gl:g.get (hB.next+1)=some (.obj (.loop .ready none TL #[8,9] aTn bTn hB.next))
 bt:But mb hB g
 n:hB.next+2<=g.next
 co:∃ clk ls1,CoM g mb clk ls1/\Qcd ls1=Yf7 (bks.drop (bks.length-j)) (Qcd ls)/\(∀ s ∈ X2o ls1,s ∈ X2o ls++Yg5 bks)/\ls1.length<=ls.length+j
def Z31(a:Option Addr)(n c:Nat):Qh8 (.slice a n c)=true/\(Value.slice a n c).cells = #[.slice a n c]:=⟨rfl,rfl⟩
def BkRow.slice{h:Heap}{n0:Nat}{v:Value}{l:List BK}(r:BkRow h n0 v l):Qh8 v=true/\v.cells = #[v]:=by
 obtain⟨vals,o, -⟩:=r;rcases o with⟨rfl,_⟩ | ⟨_,_,_,_,rfl,_⟩ <;> exact Z31 _ _ _
section
set_option maxHeartbeats 1000000 in
def Z3r(b:Nat){h:Heap}{lb mb z clk n0:Nat}{nt un bv:Value}{ls:List LC}{bks:List BK}(gl:h.get lb=some (.cells true z [nt,.map (some mb),un]))(w:CoM h mb clk ls)(r:BkRow h n0 bv bks)(hn:bks.length < 1000000)
  (K:KP) (hk:∀ h' ls' clk',CoM h' mb clk' ls'->Qcd ls'=Yf7 bks (Qcd ls)->But mb h h'->(∀ s ∈ X2o ls',s ∈ X2o ls++Yg5 bks)->ls'.length<=ls.length+bks.length->K (.ret (.tuple #[])) h') :
  CallOK Tryz.prog (E b).G 27 [.pointer (some ⟨lb,0,none⟩),bv] h K:=by
 refine Qi1 (E b) (Vt _ _) (Ui b) (Jl b) mixed (Un b) (U5 b) Xm1 X5o Xz7 rfl ?_;obtain⟨hV,eV⟩:∃ hV,hV=h.push (.cells true 1 [.pointer (some ⟨lb,0,none⟩)]):=⟨_,rfl⟩;have bx:Zol (.pointer (some ⟨lb,0,none⟩)) h=some (.pointer (some ⟨h.next,0,none⟩),hV):=by rw[eV];rfl
 have aV:=Qqr eV;have gV:hV.get h.next=some (.cells true 1 [.pointer (some ⟨lb,0,none⟩)]):=by rw[eV,Heap.get_push,if_pos rfl]
 simp[Qn6,Qv9,U5,Zx,Qsh,bx,Z3e];refine(Zom b hV bv r.slice _ fun hB gA aB nB => ?_).ok;simp[Qn6,Qv9,U5,Zx,Qsh,Z3e];refine Z7s (first:=#[]) (captured:=#[.pointer (some ⟨hV.next,0,none⟩)]) (by simp) (Ze b) ?_;generalize hTL:Tm.mk 16 _=TL;have e2:TL.t.get 2=some (.pointer (some ⟨h.next,0,none⟩)):=by rw[<- hTL];simp
 have es':TL.size=16:=by rw[<- hTL]
 have hTl:TL=⟨16,TL.t⟩:=by rw[<- es']
 have aVB:=aV.trans aB;have wB:=w.old aVB;have rB:=r.old aVB;obtain⟨vals,o,hl,hb,he⟩:=rB;obtain⟨h0,e0⟩:∃ h0,h0=(hB.push (.obj .defs)).push (.obj (.loop .ready none TL #[8,9] aTn bTn hB.next)):=⟨_,rfl⟩;have n0':h0.next=hB.next+2:=by rw[e0];simp only[Qhq]
 have a0:Old hB h0:=by rw[e0];exact(Old.push _ _).trans (Old.push _ _)
 rw[<- e0];refine bw1 b (l:=hB.next+1) (vals:=vals) h0 _ (TNI hB TL mb ls bks) ⟨?_,?_,But.of a0,by omega,clk,ls,wB.old a0,by simp[Yf7],fun s hs=>by simp[hs],by omega⟩ (by omega) (fun j g i=>⟨i.bt.get gA wB.gm,?_,_,_,_,_,_,_,_,i.gl,fun x y=>by rw[es'];rfl⟩) ?_ ?_
 ·rw[e0];simp (disch:=first | omega | (simp only[Qhq,Q4n];done) | (simp only[Qhq,Q4n];omega)) only[Z6l,Z6d,Z5m,Z5v]
 ·rw[e0];simp (disch:=first | omega | (simp only[Qhq,Q4n];done) | (simp only[Qhq,Q4n];omega)) only[Z6l,Z6d,Z5m,Z5v]
 ·have:=Sl.but wB.gm i.bt o.sl;rw[<- hl]at this;exact this
 ·intro j g x K' i hj hx hK;obtain⟨clk1,ls1,co1,em1,sv1,le1⟩:=i.co;obtain⟨k,hkk⟩:∃ k,bks[bks.length-1-j]? = some k:=⟨_,ab (by omega)⟩;rw[hl]at hx;have bk:=BkAt.but wB.gm i.bt (hb _ x k hx hkk);refine Zz5 (E b) (Vt _ _) (Ui b) (Jl b) mixed i.gl (by rw[es'];rfl) Jhp Jgh ?_;have lL:=Heap.get_lt i.gl;obtain⟨hC,eC⟩:∃ hC,hC=g.set (hB.next+1) (some (.obj (.loop .busy none TL #[8,9] aTn bTn hB.next))):=⟨_,rfl⟩;have kC:∀ c,c≠hB.next+1->hC.get c=g.get c:=fun c hc=>by rw[eC,Heap.get_set _ _ _ _ lL,if_neg (Ne.symm hc)]
  have bC:But (hB.next+1) g hC:=by rw[eC];exact(But.of (Old.refl _)).set _ lL
  have gCL:hC.get (hB.next+1)=some (.obj (.loop .busy none TL #[8,9] aTn bTn hB.next)):=by rw[eC,Heap.get_set _ _ _ _ lL,if_pos rfl]
  have nC:hC.next=g.next:=by rw[eC];rfl
  have coC:=CoM.obj i.gl bC co1;have bkC:=BkAt.obj i.gl bC bk;have gVC:hC.get h.next=some (.cells true 1 [.pointer (some ⟨lb,0,none⟩)]):=Yxm i.gl bC (i.bt.get (aB.get gV) wB.gm);have glC:hC.get lb=some (.cells true z [nt,.map (some mb),un]):=Yxm i.gl bC (i.bt.get (aVB.get gl) wB.gm);have c2:J6 hC h.next 0=some (.pointer (some ⟨lb,0,none⟩)):=by rw[Zd gVC];rfl
  have c1:J6 hC lb 1=some (.map (some mb)):=by rw[Zd glC];rfl
  obtain⟨pb,hlv,bT,bCc,bP,rfl,gT,gC,gP⟩:=bkC;have gL0:=i.gl;rw[hTl]at eC gL0 ⊢;simp[Qwg,Ycn,X7o,gL0,<- eC];simp[Qox,Jg9,Uy,Qgq,Qmz,e2,c2,Qfx,c1];refine Z6p b coC pb hlv gT gC gP _ fun h2 ls2 clk2 hy co2 em2 mem2 le2 => ?_;obtain⟨y,rfl⟩:=hy;have lm:=Heap.get_lt coC.gm;have nLm:mb≠hB.next+1:=fun e=>by have:=coC.gm;rw[e,gCL]at this;cases this
  have g7L:(hC.set mb y).get (hB.next+1)=some (.obj (.loop .busy none TL #[8,9] aTn bTn hB.next)):=by rw[Heap.get_set _ _ _ _ lm,if_neg nLm];exact gCL
  rw[hTl]at g7L;simp[Qox];refine X6z (st:=.busy) (pe:=none) (t2:=⟨16,TL.t⟩) (ps2:=#[8,9]) (as2:=aTn) (bd2:=bTn) (d2:=hB.next) g7L ?_;rw[<- hTl];have l7:=Heap.get_lt g7L;obtain⟨h8,e8⟩:∃ h8,h8=(hC.set mb y).set (hB.next+1) (some (.obj (.loop .ready none TL #[8,9] aTn bTn hB.next))):=⟨_,rfl⟩;rw[<- e8];have b8:But (hB.next+1) (hC.set mb y) h8:=by rw[e8];exact(But.of (Old.refl _)).set _ l7
  have co8:=CoM.obj g7L b8 co2;have n8:h8.next=g.next:=by rw[e8];exact nC
  have nDm:mb≠hB.next:=fun e=>by have:=co1.gm;rw[e,i.gd]at this;cases this
  refine hK h8 ⟨?_,by rw[e8,Heap.get_set _ _ _ _ l7,if_pos rfl],⟨by rw[n8];exact i.bt.1,fun c hc hne => ?_⟩,by rw[n8];exact i.n,clk2,ls2,co8,?_,fun s hs => ?_,by omega⟩ (by rw[n8];exact ae _)
  ·rw[b8.2 _ (by show hB.next < hC.next;have:=i.n;omega) (by omega),Heap.get_set _ _ _ _ lm,if_neg nDm,kC _ (by omega)];exact i.gd
  ·have:=i.bt.1;rw[b8.2 c (by show c < hC.next;omega) (by omega),Heap.get_set _ _ _ _ lm,if_neg (Ne.symm hne),kC c (by omega),i.bt.2 c hc hne]
  ·have e3:bks.drop (bks.length-(j+1))=k::bks.drop (bks.length-j):=by
    have hlt:bks.length-1-j < bks.length:=(by omega);rw[show bks.length-(j+1)=bks.length-1-j by omega,bD hlt];rw[ab hlt]at hkk;rw[bB hkk,show bks.length-1-j+1=bks.length-j by omega]
   rw[e3,em2,em1];rfl
  ·obtain⟨z,hz,rfl⟩:=av.1 hs;rcases mem2 z hz with q | q
   ·exact sv1 _ (av.2 ⟨z,q,rfl⟩)
   ·exact ac.2 (.inr (cr.2 ⟨k,ak hkk,by rw[<- q];rfl⟩))
 ·intro g i;refine Yr3 (by simp) i.gl ?_;obtain⟨clk1,ls1,co1,em1,sv1,le1⟩:=i.co;have lL:=Heap.get_lt i.gl;obtain⟨g1,eg1⟩:∃ g1,g1=g.set (hB.next+1) none:=⟨_,rfl⟩;have b1:But (hB.next+1) g g1:=by rw[eg1];exact(But.of (Old.refl _)).set _ lL
  have gd:g1.get hB.next=some (.obj .defs):=by rw[eg1,Heap.get_set _ _ _ _ lL,if_neg (by omega)];exact i.gd
  have n1:g1.next=g.next:=by rw[eg1];rfl
  have lD:=Heap.get_lt gd;rw[hTl,<- eg1];simp[Qn6,Qv9,U5,Zx,Qsh,gd];have co2:=CoM.obj gd ((But.of (Old.refl g1)).set none lD) (CoM.obj i.gl b1 co1);rw[hl,Nat.sub_self,bY]at em1;refine hk _ ls1 clk1 co2 em1 ⟨by have:=aVB.1;have:=i.bt.1;show h.next<=g1.next;omega,fun c hc hne => ?_⟩ sv1 (by rw[<- hl];exact le1);have:=aVB.1;rw[Heap.get_set _ _ _ _ lD,if_neg (by omega),b1.2 c (by have:=i.bt.1;omega) (by omega),i.bt.2 c (by omega) hne,aVB.2 c hc]
end
def Zxj(b:Nat)(ν:Nat){l:List Value}(hl:l.length=32)(lk:Int):Qmn (E b).toEnv 107 [(0,.pointer (some ⟨ν,0,none⟩)),(1,.agg ⟨l⟩),(2,.int .i64 lk)]=some (.agg ⟨.pointer (some ⟨ν,0,none⟩)::l ++ [.int .i64 lk]⟩):=by
 have e:Qmn (E b).toEnv 107 [(0,.pointer (some ⟨ν,0,none⟩)),(1,.agg ⟨l⟩),(2,.int .i64 lk)]=(Xq8 (nth [(0,1),(1,32),(33,1)]) (.pointer none::List.replicate 32 (.int .u8 0) ++ [.int .i64 0]) [(0,.pointer (some ⟨ν,0,none⟩)),(1,.agg ⟨l⟩),(2,.int .i64 lk)]).map fun c => .agg c.toArray:=by
  kernel_rfl
 rw[e];have hc:(Value.agg ⟨l⟩).cells.toList=l:=rfl;have hs:(Value.agg ⟨l⟩).cells.size=32:=hl;have hz:(.pointer (some ⟨ν,0,none⟩)::List.replicate 32 (.int .u8 0) ++ [.int .i64 0]:List Value).length=34:=by simp
 have hz2:(.pointer (some ⟨ν,0,none⟩)::l ++ [.int .i64 0]:List Value).length=34:=by simp[hl]
 have s0:Qky (.pointer none::List.replicate 32 (.int .u8 0) ++ [.int .i64 0]:List Value) 0 [.pointer (some ⟨ν,0,none⟩)]=some (.pointer (some ⟨ν,0,none⟩)::List.replicate 32 (.int .u8 0) ++ [.int .i64 0]):=rfl;have s1:Qky (.pointer (some ⟨ν,0,none⟩)::List.replicate 32 (.int .u8 0) ++ [.int .i64 0]:List Value) 1 l=some (.pointer (some ⟨ν,0,none⟩)::l ++ [.int .i64 0]):=by
  rw[Qpl (by rw[hz,hl];omega),hl];rfl
 have s2:Qky (.pointer (some ⟨ν,0,none⟩)::l ++ [.int .i64 0]:List Value) 33 [.int .i64 lk]=some (.pointer (some ⟨ν,0,none⟩)::l ++ [.int .i64 lk]):=by
  rw[Qpl (by rw[hz2];simp),List.take_left' (by simp[hl]),bQ,cN (by simp[hl])];simp
 have b1:(Qh8 (.agg ⟨l⟩) && (Value.agg ⟨l⟩).cells.size == 32 && Nat.ble (1+32) (.pointer (some ⟨ν,0,none⟩)::List.replicate 32 (.int .u8 0) ++ [.int .i64 0]:List Value).length)=true:=by
  rw[hs,hz];rfl
 have p0:(Qh8 (.pointer (some ⟨ν,0,none⟩)) && (Value.pointer (some ⟨ν,0,none⟩)).cells.size == 1 && Nat.ble (0+1) (.pointer none::List.replicate 32 (.int .u8 0) ++ [.int .i64 0]:List Value).length)=true:=rfl;have b2:(Qh8 (.int .i64 lk) && (Value.int .i64 lk).cells.size == 1 && Nat.ble (33+1) (.pointer (some ⟨ν,0,none⟩)::l ++ [.int .i64 0]:List Value).length)=true:=by
  rw[hz2];rfl
 have c0:(Value.pointer (some ⟨ν,0,none⟩)).cells.toList=[.pointer (some ⟨ν,0,none⟩)]:=rfl;have c2:(Value.int .i64 lk).cells.toList=[.int .i64 lk]:=rfl;simp only[Xq8,nth,p0,b1,b2,if_true,hc,c0,c2,s0,s1,s2];rfl
def Zx4(a:Asks)(m:Qu8):List PIn->Int->Except Int Int
 | [],s => .ok s
 | x::l,s=>match m x.pt with
  | none => .error 17
  | some c=>if Y7s a c.script x.wit=0 then Zx4 a m l (s+c.value)else .error (Y7s a c.script x.wit)
def Ze3(ks:List Nat)(hks:ks.length=1024)(t:PTx):Asks:=⟨ks,dgF X5i t,t.lock,hks,Yaf _ _⟩
def Q10(l:List POut):Int:=(l.map (·.value)).sum
def Xg1(ks:List Nat)(hks:ks.length=1024)(m:Qu8)(ht:Int)(t:PTx):Int × Int :=
 if Qzf t=0 then
  if ht+1 < t.lock then(0,18)else
  match Zx4 (Ze3 ks hks t) m t.ins 0 with
  | .error e=>(0,e)
  | .ok s=>if s-Q10 t.outs < 0 then(0,19)else(s-Q10 t.outs,0)
 else(0,Qzf t)
def Z9c{a:Asks}{m:Qu8}{l:List PIn}{i:Nat}{x:PIn}(hx:l[i]? = some x)(s:Int):Zx4 a m (l.drop i) s=match m x.pt with
  | none => .error 17
  | some c=>if Y7s a c.script x.wit=0 then Zx4 a m (l.drop (i+1)) (s+c.value)else .error (Y7s a c.script x.wit):=by
 rw[bD (aq.1 hx).1,(aq.1 hx).2,Zx4]
def Zzc(x:InV):x.cells[33]? = some x.wv:=by
 rw[InV.cells,aS (by rw[Pt.len];omega),Pt.len];rfl
def Ztn:∀ {l:List POut} {lft:Int},X89 l lft=true->0<=lft->0<=Q10 l/\Q10 l<=lft
 | [],lft,_,h=>by simp[Q10];exact h
 | o::l,lft,h,h0=>by
  unfold X89 at h;split at h
  ·cases h
  ·rename_i hc;have:=Ztn h (by omega);have e:Q10 (o::l)=o.value+Q10 l:=by simp[Q10]
   rw[e];omega
structure V1 (lb B V:Nat) (iv:Value) (n:Nat) (t:Tr Value) (i:Nat) (fee:Int):Prop where
 t0:t.get 0=some (.pointer (some ⟨lb,0,none⟩))
 t3:t.get 3=some (.pointer (some ⟨B,0,none⟩))
 t7:t.get 7=some (.pointer (some ⟨V,0,none⟩))
 t8:t.get 8=some (.int .i64 fee)
 t37:t.get 37=some iv
 t38:t.get 38=some (.int .i64 (n:Int))
 t39:t.get 39=some (.int .i64 (i:Int))
def VI1(lb B V:Nat)(iv:Value)(ins:List InV)(a:Asks)(m:Qu8)(h:Heap)(k:Nat)(s:St):Prop:=∃ (t:Tr Value) (h1:Heap) (i:Nat) (fee:Int),s=⟨⟨86,t⟩,[],h1⟩/\i<=ins.length/\k=ins.length-i/\V1 lb B V iv ins.length t i fee/\Old h h1/\0<=fee/\fee<=1125899906842624*(i:Int)/\Zx4 a m (ins.map InV.p) 0=Zx4 a m ((ins.map InV.p).drop i) fee
def VI2(ov:Value)(outs:List OutV)(h:Heap)(s0:Int)(k:Nat)(s:St):Prop:=∃ (t:Tr Value) (h1:Heap) (i:Nat),s=⟨⟨86,t⟩,[],h1⟩/\i<=outs.length/\k=outs.length-i/\t.get 8=some (.int .i64 (s0-Q10 ((outs.map OutV.p).take i)))/\t.get 72=some ov/\t.get 73=some (.int .i64 (outs.length:Int))/\t.get 74=some (.int .i64 (i:Int))/\Old h h1
def Zy7{outs:List OutV}{i:Nat}{x:OutV}(hx:outs[i]? = some x):Q10 ((outs.map OutV.p).take (i+1))=Q10 ((outs.map OutV.p).take i)+x.value:=by
 rw[bm,bc,hx];simp[Q10,OutV.p]
def Z5f(l m:List POut):Q10 (l++m)=Q10 l+Q10 m:=by simp[Q10]
section
attribute [local simp] Zv Jh Z9 Uf V2 Us Qb8 Ut Xk Xx Zt Qme Qrn Vl Qwk Jc Qa5 W9 Xt Qnr Qq1 Uy Qgq Vd Wn Qtc Qk1 Vi J7 Qd7 Qh9 Qf9 Jg Vb Jt Qba Qbp Qft Qal Jk
set_option maxHeartbeats 4000000 in
def Z72(b:Nat){h:Heap}{lb mb z clk nu ν zν:Nat}{ow:Bool}{un:Value}{ls:List LC}{ks:List Nat}(hks:ks.length=1024)(laid:Ab.LaidIn h laidAll)(gl:h.get lb=some (.cells true z [.pointer (some ⟨ν,0,none⟩),.map (some mb),un]))(gν:h.get ν=some (.cells ow zν (ks.map u8v)))
  (hun:∀ hx,Qnm (E b).toEnv 78 un hx=some (.int .i64 (nu:Int))) (hnu:nu < 1000000) (w:CoM h mb clk ls) {iv ov:Value} {ins:List InV} {outs:List OutV} {lock:Int} (si:Ins h iv ins) (so:Outs h ov outs) (hp:∀ x ∈ ins,PtB x.pt)
  (K:KP) (hk:∀ h',Old h h'->K (.ret (.tuple #[.int .i64 (Xg1 ks hks (Qcd ls) (nu:Int) (ptx ins outs lock)).1,.int .i64 (Xg1 ks hks (Qcd ls) (nu:Int) (ptx ins outs lock)).2])) h'):CallOK Tryz.prog (E b).G 26 [.pointer (some ⟨lb,0,none⟩),.agg ⟨txC iv ov lock⟩] h K:=by
 refine Qi1 (E b) (Vt _ _) (Ui b) (Jl b) mixed (Un b) (Z9 b) Xjd X0v Xwi rfl ?_;obtain⟨h0,e0⟩:∃ h0,h0=h.push (.cells true 1 (txC iv ov lock)):=⟨_,rfl⟩;have bx:=Q1v e0;have a0:=Qqr e0;have g0:h0.get h.next=some (.cells true 1 (txC iv ov lock)):=by rw[e0,Heap.get_push,if_pos rfl]
 have len1:∀ hx,Qnm (E b).toEnv 30 iv hx=some (.int .i64 (ins.length:Int)):=fun hx=>Qca (T30 b) si.s;have len2:∀ hx,Qnm (E b).toEnv 27 ov hx=some (.int .i64 (outs.length:Int)):=fun hx=>Qca (T27 b) so.s;have c0:∀ {hx:Heap},hx.get h.next=some (.cells true 1 (txC iv ov lock))->J6 hx h.next 0=some iv/\J6 hx h.next 1=some ov/\J6 hx h.next 2=some (.int .i64 lock)/\Qbn hx h.next 0 3=some (.agg ⟨txC iv ov lock⟩):=fun g=>⟨by rw[Zd g];rfl,by rw[Zd g];rfl,by rw[Zd g];rfl,by rw[Vm g (by simp[txC])];rfl⟩;simp[Qnu,Wb,bx,(c0 g0).2.2.2];refine(Zt3 b (si.old a0) (so.old a0) _ fun h1 a1 => ?_).ok;have a01:=a0.trans a1;by_cases hc:Qzf (ptx ins outs lock)=0
 ·have g1:=a1.get g0;have gl1:=a01.get gl;obtain⟨_,h2',q2,n2,rfl,rfl⟩:=Yfk b gl1 hun (fun r h'=>r=.ret (.int .i64 (nu:Int))/\h1=h') ⟨rfl,rfl⟩;have hwn:IntKind.i64.wrap ((nu:Int)+1)=(nu:Int)+1:=W2 (by omega) (by omega);have vE:Xg1 ks hks (Qcd ls) (nu:Int) (ptx ins outs lock)=if(nu:Int)+1 < lock then(0,18)else match Zx4 (Ze3 ks hks (ptx ins outs lock)) (Qcd ls) (ins.map InV.p) 0 with
    | .error e=>(0,e)
    | .ok s=>if s-Q10 (outs.map OutV.p) < 0 then(0,19)else(s-Q10 (outs.map OutV.p),0):=by
   unfold Xg1;rw[if_pos hc];rfl
  rw[vE]at hk;simp[Qnu,Wb,hc,(c0 g1).1];refine Qh6 [⟨14,[.pointer (some ⟨lb,0,none⟩)],h1,.int .i64 (nu:Int),h1,true⟩] ?_ Q9x Xax Q9q (by simp[Xej,Xgy,(c0 g1).2.2.1,hwn];first | exact⟨rfl,rfl⟩ | rfl) ?_ ?_
  ·exact zk1 ⟨q2,n2,fun _ c hc=>rfl⟩
  ·simp[Qcv,(c0 g1).2.2.1]
  by_cases hlk:(nu:Int)+1 < lock
  ·rw[if_pos hlk]at hk;simp[Qnu,Wb,hlk];exact hk h1 a01
  ·rw[if_neg hlk]at hk;simp[Qnu,Wb,hlk];have la1:=Laid.old laid a01;obtain⟨_,h2,q3,n3,rfl,a2⟩:=Zgx b la1 ((si.old a0).old a1) ((so.old a0).old a1) hp (fun r h'=>r=.ret (.agg ⟨(dgF X5i (ptx ins outs lock)).map u8v⟩)/\Old h1 h') (fun h' a=>⟨rfl,a⟩);obtain⟨dg,hdg⟩:∃ dg,dg=dgF X5i (ptx ins outs lock):=⟨_,rfl⟩;have ldg:(dg.map u8v).length=32:=by rw[aU,hdg,Yaf]
   rw[<- hdg]at q3;obtain⟨e,he⟩:∃ e:Menv,e=⟨.pointer (some ⟨ν,0,none⟩),dg.map u8v,lock,ldg⟩:=⟨_,rfl⟩;have ec:e.cells=.pointer (some ⟨ν,0,none⟩)::dg.map u8v ++ [.int .i64 lock]:=by rw[he];rfl
   have be:Qmn (E b).toEnv 107 [(0,.pointer (some ⟨ν,0,none⟩)),(1,.agg ⟨dg.map u8v⟩),(2,.int .i64 lock)]=some (.agg ⟨e.cells⟩):=by rw[ec];exact Zxj b ν ldg lock
   obtain⟨hA,h3,alA,stA,stA',g3,a3,n3'⟩:=Qz3 b (Z09 b) (l:=e.cells) (by rw[Menv.len,Yyw]) (by kernel_rfl) h2;have lE:=Menv.len e;have gl1c:J6 h1 lb 0=some (.pointer (some ⟨ν,0,none⟩)):=by rw[Zd gl1];rfl
   have g2:=a2.get g1;refine Qh6 [⟨47,[.agg ⟨txC iv ov lock⟩],h1,.agg ⟨dg.map u8v⟩,h2,true⟩] ?_ Q98 Xct Q9n (by simp[Xe8,Xev,Qfx,gl1c,(c0 g1).2.2.1,(c0 g1).2.2.2,(c0 g2).2.2.1,be,-Qwk,alA,stA,stA',lE];first | exact⟨rfl,rfl⟩ | rfl) ?_ ?_
   ·exact zk1 ⟨q3,n3,fun _ c hc=>a2.2 c hc⟩
   ·simp[Qcy,gl1c,(c0 g1).2.2.1,(c0 g1).2.2.2,(c0 g2).2.2.1]
   have a03:=(a01.trans a2).trans a3;have g3':=a3.get g2;have gl3:=a03.get gl;obtain⟨aa,haa⟩:∃ aa,aa=Ze3 ks hks (ptx ins outs lock):=⟨_,rfl⟩;rw[<- haa]at hk;have la3:=Laid.old laid a03;have wo3:Wo h3 e aa:=⟨Xkd la3,fun c hc=>hc.elim,Z2x la3,⟨ν,zν,ow,by rw[he],by rw[haa];exact a03.get gν,fun q=>q⟩,by rw[he,haa];exact congrArg (List.map u8v) hdg,by rw[he,haa];rfl⟩;have w3:=w.old a03;simp[Qnu,Wb,(c0 g3').1,len1];refine Qfw (VI1 lb h.next h2.next iv ins aa (Qcd ls) h3) ins.length ⟨_,h3,0,0,rfl,by omega,rfl,⟨by simp,by simp,by simp,by simp,by simp,by simp,by simp⟩,Old.refl _,by omega,by omega,by simp⟩ ?_;rintro k s' ⟨t,h4,i,fee,rfl,hi,rfl,⟨t0,t3,t7,t8,t37,t38,t39⟩,a4,f0,f1,hins⟩ -;have tk:=Yd3 hc;have hl8:ins.length<=8:=by have:=tk.insN.2;simpa[ptx]using this
   have a04:=a03.trans a4;have gl4:=a04.get gl;have w4:=w.old a04;have gE4:=a4.get g3;have lV:∀ {hx:Heap},hx.get h2.next=some (.cells true 1 e.cells)->Qbn hx h2.next 0 34=some (.agg ⟨e.cells⟩):=fun g=>agW g (by rw[Menv.len];omega) (by rw[Menv.len];omega);by_cases hlt:i < ins.length
   ·have hlt':(i:Int) < (ins.length:Int):=by omega
    have hw:=wS (i:=i) (by omega);obtain⟨x,hx⟩:∃ x,ins[i]? = some x:=⟨_,ab hlt⟩;obtain⟨bk,off, -,x1,x2, -⟩:=Ycb (b:=b) (T30 b) Qn3 (si.s.old a04) hx;have hsx:=(si.a x (ak hx)).old a04;obtain⟨hA,h5,alA,stA,stA',g5,a5,n5⟩:=Qz3 b (Y9d b) (l:=x.cells) (by rw[InV.len,Qn3]) (by kernel_rfl) h4;have ldp:Qbn h5 h4.next 0 33=some (.agg ⟨x.pt.cells⟩):=by rw[Vm g5 (by rw[InV.len];omega),bY,Yqh]
    obtain⟨o,ho⟩:∃ o,o=atL ls x.pt:=⟨_,rfl⟩;have w5:=w4.old a5;have lk:Qo6 (E b).toEnv 79 (.map (some mb)) (.agg ⟨x.pt.cells⟩) true h5=some (.tuple #[.agg ⟨Qzn o⟩,.bool o.isSome]):=by
     rw[Zzw b w5 x.pt,<- ho];cases o <;> rfl
    have lc:(Qzn o).length=3:=by cases o <;> rfl
    obtain⟨hC,h6,alC,stC,stC',g6,a6,n6⟩:=Qz3 b (Zw1 b) (l:=Qzn o) (by rw[lc,Ybu]) (by kernel_rfl) h5;have cl5:J6 h5 lb 1=some (.map (some mb)):=by rw[Zd (a5.get gl4)];rfl
    have hat:=Z9c (a:=aa) (m:=Qcd ls) (l:=ins.map InV.p) (i:=i) (x:=x.p) (by rw[bc,hx];rfl) fee;rw[hat]at hins;have em:Qcd ls x.p.pt=o.map LV.c:=(by rw[ho];rfl);rw[em]at hins;simp[Qnu,Wb,t0,t3,t7,t8,t37,t38,t39,hlt,hlt',x1,x2,-Qnu,alA,stA,stA'];refine Qh6 [] (by simp) Q6t Q9r Q6o (by simp[Xcj,Xad,Qfx,t0,cl5,ldp,lk,-Qtc,alC,stC,stC',lc];first | exact⟨rfl,rfl⟩ | rfl) ?_ ?_
    ·simp[Qc4]
    have a46:=a5.trans a6;cases o with
    | none =>
     simp only[cU]at hins;rw[hins]at hk;simp[Qnu,Wb,t0,t3,t7,t8,t37,t38,t39];exact hk h6 (a04.trans a46)
    | some y =>
     simp only[az]at hins;obtain⟨q,hq, -,rfl⟩:=Y6z ho.symm;have hy:=(w4.hs q hq).old a46;have cs:J6 h6 h5.next 1=some q.c.sv:=(by rw[Zd g6];rfl);have cv:∀ {hx:Heap},hx.get h5.next=some (.cells true 1 (Qzn (some q.c)))->J6 hx h5.next 0=some (.int .i64 q.c.value):=fun g=>by rw[Zd g];rfl
     have cw:J6 h6 h4.next 33=some x.wv:=(by rw[Zd (a6.get g5),Zzc]);simp[Qnu,Wb,t0,t3,t7,t8,t37,t38,t39,cs,cw,lV (a46.get gE4)];have hsx6:=hsx.old a46;refine Y7o b hy.s hy.b hsx6.w hsx6.n hsx6.i ((wo3.old a4).old a46) _ fun h7 a7 => ?_;have a47:=a46.trans a7;have er:Y7s aa q.c.script (x.its.map (·.2))=Y7s aa q.c.c.script x.p.wit:=rfl;by_cases hr:Y7s aa q.c.script (x.its.map (·.2))=0
     ·rw[<- er,if_pos hr]at hins;have hv:=hy.v;have hwf:IntKind.i64.wrap (fee+q.c.value)=fee+q.c.value:=W2 (by omega) (by omega);simp[Qnu,Wb,t0,t3,t7,t8,t37,t38,t39,hr,cv (a7.get g6),hwf,hw];exact⟨ins.length-(i+1),by omega,_,h7,i+1,fee+q.c.value,rfl,by omega,rfl,⟨by simp[t0],by simp[t3],by simp[t7],by simp,by simp[t37],by simp[t38],by simp⟩,a4.trans a47,by omega,by omega,hins⟩
     ·rw[<- er,if_neg hr]at hins;rw[hins]at hk;simp[Qnu,Wb,t0,t3,t7,t8,t37,t38,t39,hr];exact hk h7 (a04.trans a47)
   ·have hlt':¬ (i:Int) < (ins.length:Int):=by omega
    have : i=ins.length:=(by omega);subst this;rw[cN (by simp)]at hins;have hins:Zx4 aa (Qcd ls) (ins.map InV.p) 0=.ok fee:=hins;rw[hins]at hk;have g4:=a4.get g3';simp[Qnu,Wb,t0,t3,t7,t8,t37,t38,t39,hlt',(c0 g4).2.1,len2];have hov:=Ztn tk.vals (by omega);have ho8:outs.length<=8:=(by have:=tk.outsN.2;simpa[ptx]using this);refine Qfw (VI2 ov outs h4 fee) outs.length ⟨_,h4,0,rfl,by omega,rfl,by simp[t8,Q10],by simp,by simp,by simp,Old.refl _⟩ ?_;rintro k s' ⟨t,h5,j,rfl,hj,rfl,t8,t72,t73,t74,a5⟩ -;by_cases hjl:j < outs.length
    ·have hjl':(j:Int) < (outs.length:Int):=by omega
     have hw:=wS (i:=j) (by omega);obtain⟨x,hx⟩:∃ x,outs[j]? = some x:=⟨_,ab hjl⟩;obtain⟨bk,off, -,x1,x2, -, -⟩:=Xh4 (b:=b) (T27 b) Qi0 (so.s.old (a04.trans a5)) hx;obtain⟨hA,h6,alA,stA,stA',g6,a6,n6⟩:=Qz3 b (Yse b) (l:=x.cells) (by rw[OutV.len,Qi0]) (by kernel_rfl) h5;have cv:J6 h6 h5.next 0=some (.int .i64 x.value):=by rw[Zd g6];rfl
     have hvb:∀ o ∈ (ptx ins outs lock).outs,1<=o.value/\o.value<=1125899906842624:=Zat tk.vals (by omega);have hst:=Zy7 hx;have hnn:∀ l:List POut,(∀ o ∈ l,1<=o.value)->0<=Q10 l:=by
      intro l;induction l with
      | nil=>intro _;simp[Q10]
      | cons o l ih =>
       intro ho;have h1:=ho o (by simp);have h2:=ih fun q hq=>ho q (by simp[hq]);have e:Q10 (o::l)=o.value+Q10 l:=by simp[Q10]
       rw[e];omega
     have hn1:=hnn ((outs.map OutV.p).take (j+1)) fun o ho=>by
      exact(hvb o (dG ho)).1
     have hn2:=hnn ((outs.map OutV.p).drop (j+1)) fun o ho=>by
      exact(hvb o (List.mem_of_mem_drop ho)).1
     have hsplit:Q10 (ptx ins outs lock).outs=Q10 ((outs.map OutV.p).take (j+1))+Q10 ((outs.map OutV.p).drop (j+1)):=by
      show Q10 (outs.map OutV.p)=_;rw[<- Z5f,bA]
     have hwf:IntKind.i64.wrap (fee-Q10 ((outs.map OutV.p).take j)-x.value)=fee-Q10 ((outs.map OutV.p).take (j+1)):=by
      rw[W2 (by omega) (by omega)];omega
     simp[Qnu,Wb,t8,t72,t73,t74,hjl,hjl',x1,x2,-Wb,alA,stA,stA',cv,hwf,hw];exact⟨outs.length-(j+1),by omega,_,h6,j+1,rfl,by omega,rfl,by simp,by simp[t72],by simp[t73],by simp,a5.trans a6⟩
    ·have hjl':¬ (j:Int) < (outs.length:Int):=by omega
     have : j=outs.length:=(by omega);subst this;rw[aJ (by simp)]at t8;have hk:=hk h5 (a04.trans a5);by_cases hneg:fee-Q10 (outs.map OutV.p) < 0
     ·simp only[hneg,if_true]at hk;simp[Qnu,Wb,t8,t72,t73,t74,hneg];exact hk
     ·simp only[hneg,if_false]at hk;simp[Qnu,Wb,t8,t72,t73,t74,hneg];exact hk
 ·have hk':=hk h1 a01;unfold Xg1 at hk';rw[if_neg hc]at hk';simp[Qnu,Wb,hc];exact hk'
end
end Go.Proofs.YtijagoebdgohnaaGreatDoor
end
