import Derived.Test.YtapodfgjkmddlaaGreatDoorBlA
import Derived.Test.YtapodfgjkmddlaaGreatDoorTxA
import Derived.Test.YtapodfgjkmddlaaGreatDoorScB
set_option linter.all false
noncomputable section
namespace Go.Proofs.YtapodfgjkmddlaaGreatDoor
open Go Go.Ab
set_option maxRecDepth 100000
def Jov{P:Program}{E1:Env2 P}{C:CallP}{x:Operand}{isS:Bool}{d:Option Tmp}{s:St}{K:Exit->St->Prop}{it:Value}(hit:aev E1.G s.t x=some it)(hdie:C.die=true)(hne:Qxn it isS s.h ≠ [])(hall:∀ y ∈ Qxn it isS s.h,K .normal (s.put d y.1 y.2)):Xmg E1 C x isS d s K:=by
 unfold Xmg;rw[hit];exact .inr ⟨hdie,hne,hall⟩
def Yxr(seen:List Nat):∀ (es:List MapEntry) (e:MapEntry),e ∈ Xkv seen es↔e ∈ es/\e.born ∉ seen
 | [],e=>by simp[Xkv]
 | x::es,e=>by
  have ih:=Yxr seen es e;unfold Xkv;rw[Z52];cases hc:seen.contains x.born with
  | true =>
   simp only;rw[ih];simp only[ap];constructor
   ·exact fun⟨h1,h2⟩=>⟨.inr h1,h2⟩
   ·rintro⟨rfl | h1,h2⟩
    ·simp at hc;exact absurd hc h2
    ·exact⟨h1,h2⟩
  | false =>
   simp only[ap];rw[ih];constructor
   ·rintro(rfl | ⟨h1,h2⟩)
    ·exact⟨.inl rfl,by simpa using hc⟩
    ·exact⟨.inr h1,h2⟩
   ·rintro⟨rfl | h1,h2⟩
    ·exact .inl rfl
    ·exact .inr ⟨h1,h2⟩
def Jf2{n:Nat}:∀ {l:List MapEntry},(∀ e ∈ l,e.born < n)->Ja9 n l=l/\Jcc n l=[]
 | [],_=>⟨rfl,rfl⟩
 | e::l,h=>by
  obtain⟨h1,h2⟩:=Jf2 (l:=l) fun x hx=>h x (by simp[hx]);have : Nat.blt e.born n=true:=by simpa using h e (by simp)
  unfold Ja9 Jcc;rw[this];exact⟨by simp[h1],h2⟩
structure Born (es:List MapEntry) (clk:Nat):Prop where
 lt:∀ e ∈ es,e.born < clk
 nd:(es.map (·.born)).Nodup
def Zu5:∀ {l:List MapEntry},(l.map (·.born)).Nodup->∀ {e:MapEntry},e ∈ l->X2d e.born l=some e
 | [],_,_,h=>by cases h
 | x::l,nd,e,h=>by
  rw[aE,d4]at nd;unfold X2d;by_cases hx:x.born=e.born
  ·rw[show Nat.beq x.born e.born=true by rw[hx];simp];rcases ap.1 h with rfl | h
   ·rfl
   ·exact absurd (am.2 ⟨e,h,hx.symm⟩) nd.1
  ·rw[show Nat.beq x.born e.born=false by rw[bJ];intro q;exact hx (aK q)];rcases ap.1 h with rfl | h
   ·exact absurd rfl hx
   ·exact Zu5 nd.2 h
def Jhk{h:Heap}{r mb clk:Nat}{es:List MapEntry}{vis:List Nat}(B:Born es clk)(hr:h.get r=some (.obj (.mapIter (some mb) clk ⟨vis⟩ clk)))(hm:h.get mb=some (.map ⟨es⟩ clk)) :
  Qxn (pO r 0) false h ≠ []/\∀ y ∈ Qxn (pO r 0) false h,((∀ e ∈ es,e.born ∈ vis)/\y=(.tuple #[.bool false],h)) ∨
   ∃ e ∈ es,e.born ∉ vis/\y=(.tuple #[.bool true,e.key,e.val],h.set r (some (.obj (.mapIter (some mb) clk ⟨vis ++ [e.born]⟩ clk)))):=by
 have hb:Zhp es vis clk=false:=by
  unfold Zhp;split
  ·rfl
  ·rfl
  ·rename_i h1 h2;cases es with
   | nil=>exact absurd rfl h2
   | cons p l =>
    have : Nat.ble clk p.born=false:=by
     rw[bJ];intro q;have:=B.lt p (by simp);have:=cK q;omega
    simp only[Z33,this]
 have hl:∀ e ∈ Xkv vis es,e.born < clk:=fun e he=>B.lt e ((Yxr _ _ _).1 he).1;obtain⟨o1,o2⟩:=Jf2 hl;have hn:Qxn (pO r 0) false h=(X9g es clk vis).map (Yoa r mb clk ⟨vis⟩ clk h):=by
  simp only[Qxn,hr,hm,hb]
 have hc:X9g es clk vis=match Xkv vis es with | []=>[none] | e::l=>(e::l).map some:=by
  unfold X9g Jdf;rw[o1,o2];cases Xkv vis es with
  | nil=>rfl
  | cons e l=>simp
 rw[hn,hc];cases hle:Xkv vis es with
 | nil =>
  refine⟨by simp,fun y hy => .inl ⟨fun e he => ?_,?_⟩⟩
  ·apply bT;intro hn;have:=(Yxr vis _ _).2 ⟨he,hn⟩;rw[hle]at this;cases this
  ·simpa[Yoa]using hy
 | cons e l =>
  refine⟨by simp,fun y hy => ?_⟩;simp only[bL]at hy;obtain⟨x,hx,rfl⟩:=am.1 hy;rw[<- hle]at hx;obtain⟨h1,h2⟩:=(Yxr _ _ _).1 hx;exact .inr ⟨x,h1,h2,by simp[Yoa]⟩
def Jbc{h:Heap}{r mb clk:Nat}{es:List MapEntry}{vis:List Nat}{e:MapEntry}(B:Born es clk)(hr:h.get r=some (.obj (.mapIter (some mb) clk ⟨vis ++ [e.born]⟩ clk)))(hm:h.get mb=some (.map ⟨es⟩ clk))(he:e ∈ es) :
  Zhd (pO r 0) h=some (.tuple #[e.key,e.val]):=by
 have hl:∀ (l:List Nat) (x:Nat),Jae (l ++ [x])=some x:=by
  intro l x;induction l with
  | nil=>rfl
  | cons a l ih =>
   cases l with
   | nil=>rfl
   | cons c l=>exact ih
 simp only[Zhd,hr,hl,hm,show Nat.beq clk clk=true by simp,Zu5 B.nd he]
def Born.push{es:List MapEntry}{clk:Nat}(B:Born es clk)(k v:Value):Born (es ++ [⟨k,v,clk⟩]) (clk+1):=by
 refine⟨fun e he => ?_,?_⟩
 ·rcases al.1 he with q | q
  ·have:=B.lt e q;omega
  ·simp at q;rw[q];show clk < clk+1;omega
 ·rw[aR,cG];refine⟨B.nd,by simp,fun x hx y hy e => ?_⟩;obtain⟨z,hz,rfl⟩:=am.1 hx;simp at hy;have:=B.lt z hz;omega
structure IE where
 key:Int
 val:Value
 born:Nat
def IE.e(x:IE):MapEntry:=⟨.int .i64 x.key,x.val,x.born⟩
structure PC where
 value:Int
 script:List Int
 made:Int
abbrev Xk0:=Pt->Option PC
def Jkf(m:Xk0)(p:Pt)(c:Option PC):Xk0:=fun q=>if q=p then c else m q
def Jdy(m:Xk0)(p:Pt)(c:Option PC):Jkf m p c p=c:=if_pos rfl
def Jo7{m:Xk0}{p q:Pt}{c:Option PC}(h:q≠p):Jkf m p c q=m q:=if_neg h
structure LV where
 value:Int
 sv:Value
 script:List Int
 made:Int
def LV.c(x:LV):PC:=⟨x.value,x.script,x.made⟩
def LV.cells(x:LV):List Value:=[.int .i64 x.value,x.sv,.int .i64 x.made]
def LV.v(x:LV):Value:=.agg ⟨x.cells⟩
structure LC where
 key:Pt
 c:LV
 born:Nat
def LC.pe(x:LC):PE:=⟨x.key,x.c.v,x.born⟩
def Q2m(l:List LC):List PE:=l.map LC.pe
def Jf9(l:List LC):(Q2m l).length=l.length:=by simp[Q2m]
def Jd0(l:List LC):(Q2m l).map (·.key)=l.map (·.key):=by rw[Q2m,bL];rfl
def atL:List LC->Pt->Option LV
 | [],_=>none
 | x::l,p=>if p=x.key then some x.c else atL l p
def Qum(l:List LC):Xk0:=fun p=>(atL l p).map LV.c
def Z1u(p:Pt):∀ (l:List LC) (j:Nat),(Q2e p (Q2m l) j).map (·.2)=(atL l p).map LV.v
 | [],_=>rfl
 | x::l,j=>by
  show(if p=x.key then some (j,x.c.v)else Q2e p (Q2m l) (j+1)).map (·.2)=(if p=x.key then some x.c else atL l p).map LV.v;by_cases h:p=x.key
  ·rw[if_pos h,if_pos h];rfl
  ·rw[if_neg h,if_neg h,Z1u p l (j+1)]
def Zk5{p:Pt}{l:List LC}:Q2e p (Q2m l) 0=none↔atL l p=none:=by
 have:=Z1u p l 0;cases hf:Q2e p (Q2m l) 0 with
 | none=>rw[hf]at this;cases ha:atL l p with
  | none=>simp
  | some x=>rw[ha]at this;cases this
 | some q=>rw[hf]at this;cases ha:atL l p with
  | none=>rw[ha]at this;cases this
  | some x=>simp
def Z5c{p:Pt}{x:LV}:∀ {l:List LC},atL l p=some x->∃ y ∈ l,y.key=p/\y.c=x
 | [],h=>by cases h
 | y::l,h=>by
  unfold atL at h;by_cases hk:p=y.key
  ·rw[if_pos hk]at h;cases h;exact⟨y,by simp,hk.symm,rfl⟩
  ·rw[if_neg hk]at h;obtain⟨z,hz,q⟩:=Z5c h;exact⟨z,by simp[hz],q⟩
def Y0x{p:Pt}{l:List LC}:atL l p≠none↔p ∈ l.map (·.key):=by
 constructor
 ·intro h;cases ha:atL l p with
  | none=>exact absurd ha h
  | some x =>
   obtain⟨y,hy,rfl, -⟩:=Z5c ha;exact am.2 ⟨y,hy,rfl⟩
 ·intro h e;obtain⟨y,hy,rfl⟩:=am.1 h;exact Xnk.1 (Zk5.2 e) y.pe (am.2 ⟨y,hy,rfl⟩) rfl
def Zye(p:Pt)(x:LV):List LC->List LC
 | []=>[]
 | y::l=>if p=y.key then {y with c:=x}::l else y::Zye p x l
def Zha(p:Pt)(x:LV):∀ l:List LC,Jc1 p x.v (Q2m l)=Q2m (Zye p x l)
 | []=>rfl
 | y::l=>by
  show(if p=y.key then({y.pe with val:=x.v}:PE)::Q2m l else y.pe::Jc1 p x.v (Q2m l))=Q2m (if p=y.key then {y with c:=x}::l else y::Zye p x l);by_cases h:p=y.key
  ·rw[if_pos h,if_pos h];rfl
  ·rw[if_neg h,if_neg h,Zha p x l];rfl
def Yxy(p:Pt)(x:LV):∀ l:List LC,(Zye p x l).map (·.key)=l.map (·.key)
 | []=>rfl
 | y::l=>by
  unfold Zye;by_cases h:p=y.key
  ·rw[if_pos h];rfl
  ·rw[if_neg h,aE,aE,Yxy p x l]
def Zuf(p:Pt)(x:LV):∀ l:List LC,(Zye p x l).map (·.born)=l.map (·.born)
 | []=>rfl
 | y::l=>by
  unfold Zye;by_cases h:p=y.key
  ·rw[if_pos h];rfl
  ·rw[if_neg h,aE,aE,Zuf p x l]
def Zo9{p:Pt}{x:LV}:∀ {l:List LC} {z:LC},z ∈ Zye p x l->z ∈ l∨z.c=x
 | [],_,h=>by cases h
 | y::l,z,h=>by
  unfold Zye at h;by_cases hk:p=y.key
  ·rw[if_pos hk]at h;rcases ap.1 h with rfl | h
   ·exact .inr rfl
   ·exact .inl (by simp[h])
  ·rw[if_neg hk]at h;rcases ap.1 h with rfl | h
   ·exact .inl (by simp)
   ·exact(Zo9 h).imp (fun q=>by simp[q]) id
def Jfo{p:Pt}{x:LV}:∀ {l:List LC},atL l p≠none->∀ q,atL (Zye p x l) q=if q=p then some x else atL l q
 | [],h,_=>absurd rfl h
 | y::l,h,q=>by
  unfold Zye;by_cases hk:p=y.key
  ·rw[if_pos hk];show(if q=y.key then some x else atL l q)=_;by_cases hq:q=p
   ·rw[if_pos hq,if_pos (by rw[hq,hk])]
   ·rw[if_neg hq,if_neg (fun e=>hq (by rw[e,hk])),atL,if_neg (fun e=>hq (by rw[e,hk]))]
  ·rw[if_neg hk];rw[atL,if_neg hk]at h;show(if q=y.key then some y.c else atL (Zye p x l) q)=_;rw[Jfo h q,atL];by_cases hq:q=y.key
   ·rw[if_pos hq,if_pos hq,if_neg (fun e=>hk (by rw[<- e,hq]))]
   ·rw[if_neg hq,if_neg hq]
def Jk7{p:Pt}{x:LV}{k:Nat}:∀ {l:List LC},atL l p=none->∀ q,atL (l ++ [⟨p,x,k⟩]) q=if q=p then some x else atL l q
 | [],_,q=>rfl
 | y::l,h,q=>by
  rw[atL]at h;by_cases hk:p=y.key
  ·rw[if_pos hk]at h;cases h
  ·rw[if_neg hk]at h;show(if q=y.key then some y.c else atL (l ++ [⟨p,x,k⟩]) q)=_;rw[Jk7 h q,atL];by_cases hq:q=y.key
   ·rw[if_pos hq,if_pos hq,if_neg (fun e=>hk (by rw[<- e,hq]))]
   ·rw[if_neg hq,if_neg hq]
structure LvAt (h:Heap) (x:LV):Prop where
 s:SB h x.sv x.script
 b:Bytes x.script
 l:x.script.length < 1000000
 v:0<=x.value/\x.value<=1125899906842624
def LvAt.old{h h':Heap}{x:LV}(a:LvAt h x)(o:Old h h'):LvAt h' x:=⟨a.s.old o,a.b,a.l,a.v⟩
structure CoM (h:Heap) (mb clk:Nat) (ls:List LC):Prop where
 gm:h.get mb=some (.map ⟨(Q2m ls).map PE.e⟩ clk)
 B:Born ((Q2m ls).map PE.e) clk
 hs:∀ x ∈ ls,LvAt h x.c
 nd:(ls.map (·.key)).Nodup
 kb:∀ x ∈ ls,PtB x.key
def CoM.old{h h':Heap}{mb clk:Nat}{ls:List LC}(w:CoM h mb clk ls)(a:Old h h'):CoM h' mb clk ls :=
 ⟨a.get w.gm,w.B,fun x hx=>(w.hs x hx).old a,w.nd,w.kb⟩
def Jbx{h:Heap}{z n c:Nat}{v:Value}{xs:List Value}(s:Sl h z v n xs)(hc:J4 v=some c):∃ ow z' l,h.get c=some (.cells ow z' l):=by
 rcases s with⟨_,rfl,_,rfl,rfl⟩ | ⟨bk,o,_,ow,z',pre,post,rfl,g1,_⟩
 ·cases hc
 ·cases hc;exact⟨_,_,_,g1⟩
def Sl.setMap{h:Heap}{z n mb clk:Nat}{v:Value}{xs:List Value}{es:Array MapEntry}(s:Sl h z v n xs)(gm:h.get mb=some (.map es clk))(x:Option Blk):Sl (h.set mb x) z v n xs:=s.keep fun c hb _=>by
 rw[gY (Heap.get_lt gm),if_neg fun e => ?_];obtain⟨_,_,_,g⟩:=Jbx s hb;rw[<- e,gm]at g;cases g
def LvAt.setMap{h:Heap}{mb clk:Nat}{y:LV}{es:Array MapEntry}(a:LvAt h y)(gm:h.get mb=some (.map es clk))(x:Option Blk):LvAt (h.set mb x) y:=⟨Sl.setMap a.s gm x,a.b,a.l,a.v⟩
def Z7u{h:Heap}{mb clk c z:Nat}{ow:Bool}{l:List Value}{es:Array MapEntry}(g:h.get c=some (.cells ow z l))(gm:h.get mb=some (.map es clk))(x:Option Blk):(h.set mb x).get c=some (.cells ow z l):=by
 rw[gY (Heap.get_lt gm),if_neg fun e=>by rw[<- e,gm]at g;cases g];exact g
def mdC:R85.desc=.map 61 91:=kR
def Jsw:R91.zero=.agg ⟨[.int .i64 0,.slice none 0 0,.int .i64 0]⟩:=kR
def Jk4(b:Nat){h:Heap}{mb clk:Nat}{ls:List LC}(w:CoM h mb clk ls)(p:Pt) :
  Qjo (E b).toEnv 85 (.map (some mb)) (.agg ⟨p.cells⟩) true h=some (match atL ls p with | some x => .tuple #[.agg ⟨x.cells⟩,.bool true] | none => .tuple #[.agg ⟨[.int .i64 0,.slice none 0 0,.int .i64 0]⟩,.bool false]):=by
 have lk:=(Zs8 (b:=b) (Z74 b) mdC w.gm (Jjm b) p).2;have fa:=Z1u p ls 0;rw[lk];cases hf:Q2e p (Q2m ls) 0 with
 | none =>
  rw[Zk5.1 hf,Jsw]
 | some q =>
  rw[hf]at fa;cases ha:atL ls p with
  | none=>rw[ha]at fa;cases fa
  | some x =>
   rw[ha]at fa;have : q.2=x.v:=bz fa;simp only[this];rfl
def Jss(b:Nat){h:Heap}{mb clk:Nat}{ls:List LC}(w:CoM h mb clk ls){p:Pt}(hp:PtB p){x:LV}(hx:LvAt h x) :
  ∃ ls' clk' h',Qgc (E b).toEnv 85 (.map (some mb)) (.agg ⟨p.cells⟩) (.agg ⟨x.cells⟩) h=some h'/\h'=h.set mb (some (.map ⟨(Q2m ls').map PE.e⟩ clk'))/\CoM h' mb clk' ls'/\Qum ls'=Jkf (Qum ls) p (some x.c)/\ls'.length<=ls.length+1/\∀ y ∈ ls',y ∈ ls∨y.c=x:=by
 cases hf:Q2e p (Q2m ls) 0 with
 | none =>
  have ha:=Zk5.1 hf;have up:=Jep (b:=b) (Z74 b) mdC w.gm hf (.agg ⟨x.cells⟩);have eL:Q2m ls ++ [(⟨p,.agg ⟨x.cells⟩,clk⟩:PE)]=Q2m (ls ++ [⟨p,x,clk⟩]):=by simp[Q2m,LC.pe,LV.v]
  rw[eL]at up;refine⟨ls ++ [⟨p,x,clk⟩],clk+1,_,up,rfl,⟨by rw[gY (Heap.get_lt w.gm),if_pos rfl],?_,fun z hz => ?_,?_,fun z hz => ?_⟩,?_,by simp,fun y hy => ?_⟩
  ·rw[<- eL];have:=w.B.push (.agg ⟨p.cells⟩) (.agg ⟨x.cells⟩);simpa[PE.e]using this
  ·rcases al.1 hz with q | q
   ·exact(w.hs z q).setMap w.gm _
   ·rw[aw.1 q];exact hx.setMap w.gm _
  ·rw[aR,cG];refine⟨w.nd,by simp,fun a h1 c h2 e => ?_⟩;simp at h2;subst e h2;exact absurd ha (Y0x.2 h1)
  ·rcases al.1 hz with q | q
   ·exact w.kb z q
   ·rw[aw.1 q];exact hp
  ·funext q;unfold Qum Jkf;rw[Jk7 ha q];by_cases e:q=p <;> simp[e]
  ·rcases al.1 hy with q | q
   ·exact .inl q
   ·rw[aw.1 q];exact .inr rfl
 | some q =>
  obtain⟨i,v⟩:=q;have ha:atL ls p≠none:=fun e=>by rw[Zk5.2 e]at hf;cases hf
  have up:=Zv2 (b:=b) (Z74 b) mdC w.gm hf (.agg ⟨x.cells⟩);have eL:Jc1 p (.agg ⟨x.cells⟩) (Q2m ls)=Q2m (Zye p x ls):=Zha p x ls;rw[eL]at up;refine⟨Zye p x ls,clk,_,up,rfl,⟨by rw[gY (Heap.get_lt w.gm),if_pos rfl],?_,fun z hz => ?_,by rw[Yxy];exact w.nd,fun z hz => ?_⟩,?_,by have:=congrArg List.length (Yxy p x ls);simp at this;omega,fun y hy=>Zo9 hy⟩
  ·have e2:((Q2m (Zye p x ls)).map PE.e).map (·.born)=((Q2m ls).map PE.e).map (·.born):=by
    have : ∀ l:List LC,((Q2m l).map PE.e).map (·.born)=l.map (·.born):=fun l=>by simp[Q2m,PE.e,LC.pe]
    rw[this,this,Zuf]
   exact⟨fun e he=>by
    have : e.born ∈ ((Q2m (Zye p x ls)).map PE.e).map (·.born):=am.2 ⟨e,he,rfl⟩;rw[e2]at this;obtain⟨e',he',eb⟩:=am.1 this;rw[<- eb];exact w.B.lt e' he',by rw[e2];exact w.B.nd⟩
  ·rcases Zo9 hz with q | q
   ·exact(w.hs z q).setMap w.gm _
   ·rw[q];exact hx.setMap w.gm _
  ·have : z.key ∈ (Zye p x ls).map (·.key):=am.2 ⟨z,hz,rfl⟩;rw[Yxy]at this;obtain⟨y,hy,ey⟩:=am.1 this;rw[<- ey];exact w.kb y hy
  ·funext q;unfold Qum Jkf;rw[Jfo ha q];by_cases e:q=p <;> simp[e]
def Q60(b:Nat)(z:Int){v:Value}{h:Heap}{n:Nat}{xs:List Value}(s:Sl h 1 v n xs):Qn1 (E b).toEnv 48 [(0,.int .i64 z),(1,v)]=some (.agg ⟨[.int .i64 z,v]⟩):=by
 rcases s with⟨c,rfl,_⟩ | ⟨bk,o,c,ow,z',pre,post,rfl,_⟩
 ·kernel_rfl
 ·kernel_rfl
attribute [local simp] Xj kON kOC Xn kNN kNP kRR kEN kER Q6 X2 Yn Ya aop Qg nth Ab.g0 gv gs Qd Qc aev evs evO Qh Tr.get_put St.put Tm.put flat flatA Y9 Qm Qp Qn Qo Qk Ql Qj Qt Qi Q7 Q8 kTN kTR kTX kTP kBN kBR kBX kBP kCS kCR kCE kAM Xm.putAll Qv Q0 Q9 Wj Yq Y1 ldv Yk Vi Nat.testBit loadAt Ab.runT Zc Qa2 Yl Ys 
section
attribute [local simp] Jt
def Jbt(b:Nat){h:Heap}{sv:Value}{xs:List Int}(s:SB h sv xs)(hl:xs.length < 1000000)(K:KP)(hk:∀ v' h',OB h' h.next v' xs->Old h h'->K (.ret v') h'):FK b 50 [sv] h K:=by
 by_cases hb:J4 sv=none
 ·rcases s with⟨c,rfl,q1,q2,q3⟩ | ⟨_,_,_,_,_,_,_,rfl,_⟩
  ·refine F3 b (Jt b) Xuo rfl ?_;have e0:Zhe (E b).toEnv .eql 45 (.slice none 0 c) (.slice none 0 0)=some (.bool true):=by simp[Zhe,aEq,Xp4,(T45 b).d]
   simp[Q93,X7m,Xun,Xvd,q2,e0];refine hk _ h ?_ (Old.refl _);have : xs=[]:=by simpa using q3
   subst this;exact Own.nil
  ·simp[J4]at hb
 ·exact Zhc b s hb (by omega) K hk
def Z5f(b:Nat){h:Heap}{v:Int}{sv:Value}{script:List Int}(s:SB h sv script)(hl:script.length < 1000000)(K:KP)(hk:∀ sv' h',OB h' h.next sv' script->Old h h'->K (.ret (.agg ⟨[.int .i64 v,sv']⟩)) h'):FK b 33 [.agg ⟨[.int .i64 v,sv]⟩] h K:=by
 refine F3 b (Wu b) Ylm rfl ?_;obtain⟨hA,eA⟩:∃ hA,hA=h.push (.cells true 1 [.int .i64 v,sv]):=⟨_,rfl⟩;have bx:=Qw8 eA;have aA:=Qon eA;have gA:hA.get h.next=some (.cells true 1 [.int .i64 v,sv]):=by rw[eA,Heap.get_push,if_pos rfl]
 simp[Qsr,Q3u,Wu,Qa2,Jo,Vz,Jv,Z8,Qb9,bx];obtain⟨hB,eB,aB,gB⟩:=Q2n hA [.int .i64 0,.slice none 0 0];rw[<- eB];obtain⟨_,h3,g3,n3,sv3,rfl,o3,a3⟩:=Jbt b (s.old (aA.trans aB)) hl (fun r h' => ∃ v',r=.ret v'/\OB h' hB.next v' script/\Old hB h') (fun v' h' o a=>⟨v',rfl,o,a⟩);have c0:Yw hB h.next 0=some (.int .i64 v):=by rw[Yi (aB.get gA)];rfl
 have c1:Yw hB h.next 1=some sv:=by rw[Yi (aB.get gA)];rfl
 have gB3:=a3.get gB;have l3:=Heap.get_lt gB3;obtain⟨h4,e4⟩:∃ h4,h4=h3.set hA.next (some (.cells true 1 [.int .i64 v,sv3])):=⟨_,rfl⟩;have st4:Qbw (E b).toEnv 48 (pO hA.next 0) (.agg ⟨[.int .i64 v,sv3]⟩) h3=some h4:=by
  rw[Qx2 (l:=[.int .i64 v,sv3]) (Zdt b) (by rw[Qjv];rfl),e4];exact Wh gB3 (by simp)
 have g4:h4.get hA.next=some (.cells true 1 [.int .i64 v,sv3]):=by rw[e4,gY l3,if_pos rfl]
 have k4:∀ c,c≠hA.next->h4.get c=h3.get c:=fun c hc=>by rw[e4,gY l3,if_neg (Ne.symm hc)]
 have ag4:Wy h4 hA.next 0 2=some (.agg ⟨[.int .i64 v,sv3]⟩):=by rw[V2 g4 (by simp)];rfl
 refine Qem [⟨50,[sv],hB,sv3,h3,true⟩] ?_ X26 X64 X1h (by simp[Yc9,Ykk,Yg8,Qsr,Q3u,Wu,Jo,Vz,Jv,Z8,Qb9,c0,c1,Q60 b v o3.sl,st4];first | exact⟨rfl,rfl⟩ | rfl) ?_ ?_
 ·exact zk1 ⟨g3,n3,fun _ c hc=>a3.2 c hc⟩
 ·simp[Qfp,Qsr,Q3u,Wu,Jo,Vz,Jv,Z8,Qb9,c0,Qwt]
 simp[Qsr,Q3u,Wu,Qa2,Jo,Vz,Jv,Z8,Qb9,Qg1,ag4];have nA:=Q8i eA;have nB:=Q8i eB;refine hk sv3 h4 ((o3.keep fun c hc _=>k4 c fun e=>by have:=(o3.from hc).1;omega).low (by omega)) ⟨by rw[e4];have:=a3.1;show h.next<=h3.next;omega,fun c hc=>by rw[k4 c (by omega),a3.2 c (by omega),aB.2 c (by omega),aA.2 c hc]⟩
end
structure BK where
 p:Pt
 c:Option LV
def Z6r:Option LV->List Value
 | some x=>x.cells
 | none=>[.int .i64 0,.slice none 0 0,.int .i64 0]
def But(ω:Nat)(h h':Heap):Prop:=h.next<=h'.next/\∀ c,c < h.next->c≠ω->h'.get c=h.get c
def But.old{ω:Nat}{h h1 h2:Heap}(a:But ω h h1)(b:Old h1 h2):But ω h h2:=⟨ai a.1 b.1,fun c hc hne=>by rw[b.2 c (au hc a.1),a.2 c hc hne]⟩
def But.of{ω:Nat}{h h1:Heap}(a:Old h h1):But ω h h1:=⟨a.1,fun c hc _=>a.2 c hc⟩
section
variable{h h':Heap}{mb clk:Nat}{es:Array MapEntry}(gm:h.get mb=some (.map es clk))(a:But mb h h')
include gm a
end
def Jpm(l:List LC):List Value:=l.map (·.c.sv)
def Jvc(l:List BK):List Value:=l.filterMap fun k=>k.c.map (·.sv)
def Off(v:Value)(l:List Value):Prop:=∀ s ∈ l,∀ c,J4 s=some c->J4 v≠some c
def Off.nil{l:List Value}:Off (.slice none 0 0) l:=fun _ _ _ _ e=>by cases e
def Joj(h:Heap)(v:Value):Prop:=∀ c,J4 v=some c->∃ z' f ag cs rest,h.get c=some (.cells true z' (.func f ag cs::rest))
section
variable{h h':Heap}{v:Value}(fb:Joj h v)(kp:∀ c,c < h.next->J4 v≠some c->h'.get c=h.get c)
include kp
include fb
end
def idS:List Nat:=[116,120]
section
def Jqr(b:Nat){h:Heap}(laid:Ab.LaidIn h laidAll){iv ov:Value}{ins:List InV}{outs:List OutV}{lock:Int}(si:Ins h iv ins)(so:Outs h ov outs)(hp:∀ x ∈ ins,PtB x.pt)(K:KP)
  (hk:∀ h',Old h h'->K (.ret (.agg ⟨(dgF idS (ptx ins outs lock)).map u8v⟩)) h'):FK b 21 [.agg ⟨txC iv ov lock⟩] h K:=by
 refine F3 b (Qe5 b) Z79 rfl ?_;obtain⟨hA,eA,aA,gA⟩:=Q2n h ((txC iv ov lock));have nA:=Q8i eA;have bx:=Qw8 eA;obtain⟨hB,eB,aB,gB⟩:=Q2n hA z32;have alB:Qbx (E b).toEnv 59 hA=some (pO hA.next 0,hB):=by rw[eB];exact Us b hA
 have aAB:=aA.trans aB;have ldt:Wy hB h.next 0 3=some (.agg ⟨txC iv ov lock⟩):=by rw[V2 (aB.get gA) (by simp[txC])];rfl
 simp[Yqg,Z6x,Qe5,Us,Zi7,V4,Qql,Wi,bx,-Us,alB,ldt];refine Z5k b (l:=idS) (Laid.old laid aAB) rfl (by simp[idS]) (si.old aAB) (so.old aAB) hp _ fun h1 a1 => ?_;obtain⟨dt,hdt⟩:∃ dt,dt=dgF idS (ptx ins outs lock):=⟨_,rfl⟩;have tl:dt.length=32:=by rw[hdt];exact X1a _ _
 rw[<- hdt]at hk ⊢;have g3:=a1.get gB;have l3:=Heap.get_lt g3;have st3:Ur h1 hA.next 0 (dt.map u8v)=some (h1.set hA.next (some (.cells true 1 (dt.map u8v)))):=by
  rw[Wh g3 (by simp[z32,tl])];congr 4;simp[z32,tl]
 have ld3:Wy (h1.set hA.next (some (.cells true 1 (dt.map u8v)))) hA.next 0 32=some (.agg ⟨dt.map u8v⟩):=by
  rw[V2 (by rw[gY l3,if_pos rfl]) (by simp[tl]),bB,aj (by simp[tl])]
 simp[Yqg,Z6x,Qe5,Us,Zi7,V4,Qql,Wi,Qg3,tl,st3,ld3];exact hk _ ((aAB.trans a1).set _ (by omega) l3)
def Jfl(b:Nat){h:Heap}{lb z nu:Nat}{nt mv un:Value}(gl:h.get lb=some (.cells true z [nt,mv,un]))(hun:∀ hx,Qkc (E b).toEnv 86 un hx=some (.int .i64 (nu:Int)))(K:KP)(hk:K (.ret (.int .i64 (nu:Int))) h) :
  FK b 54 [pO lb 0] h K:=by
 refine F3 b (Zl b) Xl0 rfl ?_;have c2:Yw h lb 2=some un:=by rw[Yi gl];rfl
 simp[Q0p,Xsc,Zl,Xkw,Jmr,Jum,Qec,c2,hun];exact hk
end
def Quc(b:Nat){t:TypeId}{r:TyRec}(he:(E b).toEnv.ty.get t=some r){l:List Value}(hl:l.length=r.size)(hz:r.zero.cells.toList.length=r.size)(h:Heap):∃ hA hB,Qbx (E b).toEnv t h=some (pO h.next 0,hA)/\Qbw (E b).toEnv t (pO h.next 0) (.agg ⟨l⟩) hA=some hB/\Ur hA h.next 0 l=some hB/\hB.get h.next=some (.cells true 1 l)/\Old h hB/\hB.next=h.next+1:=by
 obtain⟨hA,eA⟩:∃ hA,hA=h.push (.cells true 1 r.zero.cells.toList):=⟨_,rfl⟩;have gA:hA.get h.next=some (.cells true 1 r.zero.cells.toList):=by rw[eA,Heap.get_push,if_pos rfl]
 have lA:=Heap.get_lt gA;have st:Ur hA h.next 0 l=some (hA.set h.next (some (.cells true 1 l))):=by
  rw[Wh gA (by omega)];rw[bQ (by omega)];simp
 refine⟨hA,hA.set h.next (some (.cells true 1 l)),by rw[eA];simp only[Qbx,he],by rw[Qx2 he hl];exact st,st,by rw[gY lA,if_pos rfl],?_,by rw[eA];rfl⟩;rw[eA];exact(Old.push _ _).set _ (ab _) (by rw[<- eA];exact lA)
section
variable{h h':Heap}{L:Nat}{o:AObj}(go:h.get L=some (.obj o))(a:But L h h')
include go a
end
def Z9p(b:Nat)(ν:Nat){l:List Value}(hl:l.length=32)(lk:Int):Qn1 (E b).toEnv 115 [(0,pO ν 0),(1,.agg ⟨l⟩),(2,.int .i64 lk)]=some (.agg ⟨pO ν 0::l ++ [.int .i64 lk]⟩):=by
 have e:Qn1 (E b).toEnv 115 [(0,pO ν 0),(1,.agg ⟨l⟩),(2,.int .i64 lk)]=(Xsb (nth [(0,1),(1,32),(33,1)]) (.pointer none::List.replicate 32 zU ++ [.int .i64 0]) [(0,pO ν 0),(1,.agg ⟨l⟩),(2,.int .i64 lk)]).map fun c => .agg c.toArray:=by
  kernel_rfl
 rw[e];have hc:(Value.agg ⟨l⟩).cells.toList=l:=rfl;have hs:(Value.agg ⟨l⟩).cells.size=32:=hl;have hz:(pO ν 0::List.replicate 32 zU ++ [.int .i64 0]:List Value).length=34:=by simp
 have hz2:(pO ν 0::l ++ [.int .i64 0]:List Value).length=34:=by simp[hl]
 have s0:Qlj (.pointer none::List.replicate 32 zU ++ [.int .i64 0]:List Value) 0 [pO ν 0]=some (pO ν 0::List.replicate 32 zU ++ [.int .i64 0]):=rfl;have s1:Qlj (pO ν 0::List.replicate 32 zU ++ [.int .i64 0]:List Value) 1 l=some (pO ν 0::l ++ [.int .i64 0]):=by
  rw[Qq8 (by rw[hz,hl];omega),hl];rfl
 have s2:Qlj (pO ν 0::l ++ [.int .i64 0]:List Value) 33 [.int .i64 lk]=some (pO ν 0::l ++ [.int .i64 lk]):=by
  rw[Qq8 (by rw[hz2];simp),List.take_left' (by simp[hl]),bK,bQ (by simp[hl])];simp
 have b1:(Qid (.agg ⟨l⟩) && (Value.agg ⟨l⟩).cells.size == 32 && Nat.ble (1+32) (pO ν 0::List.replicate 32 zU ++ [.int .i64 0]:List Value).length)=true:=by
  rw[hs,hz];rfl
 have p0:(Qid (pO ν 0) && (pO ν 0).cells.size == 1 && Nat.ble (0+1) (.pointer none::List.replicate 32 zU ++ [.int .i64 0]:List Value).length)=true:=rfl;have b2:(Qid (.int .i64 lk) && (Value.int .i64 lk).cells.size == 1 && Nat.ble (33+1) (pO ν 0::l ++ [.int .i64 0]:List Value).length)=true:=by
  rw[hz2];rfl
 have c0:(pO ν 0).cells.toList=[pO ν 0]:=rfl;have c2:(Value.int .i64 lk).cells.toList=[.int .i64 lk]:=rfl;simp only[Xsb,nth,p0,b1,b2,if_true,hc,c0,c2,s0,s1,s2];rfl
def Z92(a:Asks)(m:Xk0):List PIn->Int->Except Int Int
 | [],s => .ok s
 | x::l,s=>match m x.pt with
  | none => .error 17
  | some c=>if Zhu a c.script x.wit=0 then Z92 a m l (s+c.value)else .error (Zhu a c.script x.wit)
def Zou(ks:List Nat)(hks:ks.length=1024)(t:PTx):Asks:=⟨ks,dgF X5s t,t.lock,hks,X1a _ _⟩
def Q3o(l:List POut):Int:=(l.map (·.value)).sum
def Ykp(ks:List Nat)(hks:ks.length=1024)(m:Xk0)(ht:Int)(t:PTx):Int × Int :=
 if Qzx t=0 then
  if ht+1 < t.lock then(0,18)else
  match Z92 (Zou ks hks t) m t.ins 0 with
  | .error e=>(0,e)
  | .ok s=>if s-Q3o t.outs < 0 then(0,19)else(s-Q3o t.outs,0)
 else(0,Qzx t)
def Jlm{a:Asks}{m:Xk0}{l:List PIn}{i:Nat}{x:PIn}(hx:l[i]? = some x)(s:Int):Z92 a m (l.drop i) s=match m x.pt with
  | none => .error 17
  | some c=>if Zhu a c.script x.wit=0 then Z92 a m (l.drop (i+1)) (s+c.value)else .error (Zhu a c.script x.wit):=by
 rw[bb (List.getElem?_eq_some_iff.1 hx).1,(List.getElem?_eq_some_iff.1 hx).2,Z92]
def Jbm(x:InV):x.cells[33]? = some x.wv:=by
 rw[InV.cells,List.getElem?_append_right (by rw[Pt.len];omega),Pt.len];rfl
def Z5b:∀ {l:List POut} {lft:Int},X9e l lft=true->0<=lft->0<=Q3o l/\Q3o l<=lft
 | [],lft,_,h=>by simp[Q3o];exact h
 | o::l,lft,h,h0=>by
  unfold X9e at h;split at h
  ·cases h
  ·rename_i hc;have:=Z5b h (by omega);have e:Q3o (o::l)=o.value+Q3o l:=by simp[Q3o]
   rw[e];omega
structure V1 (lb B V:Nat) (iv:Value) (n:Nat) (t:Tr Value) (i:Nat) (fee:Int):Prop where
 t0:t.get 0=some (pO lb 0)
 t3:t.get 3=some (pO B 0)
 t7:t.get 7=some (pO V 0)
 t8:t.get 8=some (.int .i64 fee)
 t37:t.get 37=some iv
 t38:t.get 38=some (.int .i64 (n:Int))
 t39:t.get 39=some (.int .i64 (i:Int))
def VI1(lb B V:Nat)(iv:Value)(ins:List InV)(a:Asks)(m:Xk0)(h:Heap)(k:Nat)(s:St):Prop:=∃ (t:Tr Value) (h1:Heap) (i:Nat) (fee:Int),s=⟨⟨86,t⟩,[],h1⟩/\i<=ins.length/\k=ins.length-i/\V1 lb B V iv ins.length t i fee/\Old h h1/\0<=fee/\fee<=1125899906842624*(i:Int)/\Z92 a m (ins.map InV.p) 0=Z92 a m ((ins.map InV.p).drop i) fee
def VI2(ov:Value)(outs:List OutV)(h:Heap)(s0:Int)(k:Nat)(s:St):Prop:=∃ (t:Tr Value) (h1:Heap) (i:Nat),s=⟨⟨86,t⟩,[],h1⟩/\i<=outs.length/\k=outs.length-i/\t.get 8=some (.int .i64 (s0-Q3o ((outs.map OutV.p).take i)))/\t.get 72=some ov/\t.get 73=some (.int .i64 (outs.length:Int))/\t.get 74=some (.int .i64 (i:Int))/\Old h h1
def Jag{outs:List OutV}{i:Nat}{x:OutV}(hx:outs[i]? = some x):Q3o ((outs.map OutV.p).take (i+1))=Q3o ((outs.map OutV.p).take i)+x.value:=by
 rw[aQ,List.getElem?_map,hx];simp[Q3o,OutV.p]
def Jhn(l m:List POut):Q3o (l++m)=Q3o l+Q3o m:=by simp[Q3o]
section
attribute [local simp] Zk Jj Xy V4 V7 Vw Ud Vz Zl Qr6 Qwc Vt Ym Vm Qcq Qdn Qeg Qs3 Yx Uh Q1w Qjt Jv Z8 U7 Qbm Qet Jh Jo Jf Qal Qg1 Qb9 
set_option maxHeartbeats 4000000 in
def Jj8(b:Nat){h:Heap}{lb mb z clk nu ν zν:Nat}{ow:Bool}{un:Value}{ls:List LC}{ks:List Nat}(hks:ks.length=1024)(laid:Ab.LaidIn h laidAll)(gl:h.get lb=some (.cells true z [pO ν 0,.map (some mb),un]))(gν:h.get ν=some (.cells ow zν (ks.map u8v)))
  (hun:∀ hx,Qkc (E b).toEnv 86 un hx=some (.int .i64 (nu:Int))) (hnu:nu < 1000000) (w:CoM h mb clk ls) {iv ov:Value} {ins:List InV} {outs:List OutV} {lock:Int} (si:Ins h iv ins) (so:Outs h ov outs) (hp:∀ x ∈ ins,PtB x.pt)
  (K:KP) (hk:∀ h',Old h h'->K (.ret (.tuple #[.int .i64 (Ykp ks hks (Qum ls) (nu:Int) (ptx ins outs lock)).1,.int .i64 (Ykp ks hks (Qum ls) (nu:Int) (ptx ins outs lock)).2])) h'):CallOK Tryz.prog (E b).G 24 [pO lb 0,.agg ⟨txC iv ov lock⟩] h K:=by
 refine Qh3 (E b) (Vy _ _) (Uf b) (Jd b) mixed (Ui b) (Xy b) Xm9.1 Xm9.2.1 Xm9.2.2 rfl ?_;obtain⟨h0,e0⟩:∃ h0,h0=h.push (.cells true 1 (txC iv ov lock)):=⟨_,rfl⟩;have bx:=Qw8 e0;have a0:=Qon e0;have g0:h0.get h.next=some (.cells true 1 (txC iv ov lock)):=by rw[e0,Heap.get_push,if_pos rfl]
 have len1:∀ hx,Qkc (E b).toEnv 28 iv hx=some (.int .i64 (ins.length:Int)):=fun hx=>Qa0 (T28 b) si.s;have len2:∀ hx,Qkc (E b).toEnv 29 ov hx=some (.int .i64 (outs.length:Int)):=fun hx=>Qa0 (T29 b) so.s;have c0:∀ {hx:Heap},hx.get h.next=some (.cells true 1 (txC iv ov lock))->Yw hx h.next 0=some iv/\Yw hx h.next 1=some ov/\Yw hx h.next 2=some (.int .i64 lock)/\Wy hx h.next 0 3=some (.agg ⟨txC iv ov lock⟩):=fun g=>⟨by rw[Yi g];rfl,by rw[Yi g];rfl,by rw[Yi g];rfl,by rw[V2 g (by simp[txC])];rfl⟩;simp[Qa2,bx,(c0 g0).2.2.2];refine(Z4l b (si.old a0) (so.old a0) _ fun h1 a1 => ?_).ok;have a01:=a0.trans a1;by_cases hc:Qzx (ptx ins outs lock)=0
 ·have g1:=a1.get g0;have gl1:=a01.get gl;obtain⟨_,h2',q2,n2,rfl,rfl⟩:=Jfl b gl1 hun (fun r h'=>r=.ret (.int .i64 (nu:Int))/\h1=h') ⟨rfl,rfl⟩;have hwn:IntKind.i64.wrap ((nu:Int)+1)=(nu:Int)+1:=Uq (by omega) (by omega);have vE:Ykp ks hks (Qum ls) (nu:Int) (ptx ins outs lock)=if(nu:Int)+1 < lock then(0,18)else match Z92 (Zou ks hks (ptx ins outs lock)) (Qum ls) (ins.map InV.p) 0 with
    | .error e=>(0,e)
    | .ok s=>if s-Q3o (outs.map OutV.p) < 0 then(0,19)else(s-Q3o (outs.map OutV.p),0):=by
   unfold Ykp;rw[if_pos hc];rfl
  rw[vE]at hk;simp[Qa2,hc,(c0 g1).1];refine Qem [⟨54,[pO lb 0],h1,.int .i64 (nu:Int),h1,true⟩] ?_ Xcg Xdj Xc9 (by simp[Xh9,Xjv,(c0 g1).2.2.1,hwn];first | exact⟨rfl,rfl⟩ | rfl) ?_ ?_
  ·exact zk1 ⟨q2,n2,fun _ c hc=>rfl⟩
  ·simp[Qd8,(c0 g1).2.2.1]
  by_cases hlk:(nu:Int)+1 < lock
  ·rw[if_pos hlk]at hk;simp[Qa2,hlk];exact hk h1 a01
  ·rw[if_neg hlk]at hk;simp[Qa2,hlk];have la1:=Laid.old laid a01;obtain⟨_,h2,q3,n3,rfl,a2⟩:=Zrs b la1 ((si.old a0).old a1) ((so.old a0).old a1) hp (fun r h'=>r=.ret (.agg ⟨(dgF X5s (ptx ins outs lock)).map u8v⟩)/\Old h1 h') (fun h' a=>⟨rfl,a⟩);obtain⟨dg,hdg⟩:∃ dg,dg=dgF X5s (ptx ins outs lock):=⟨_,rfl⟩;have ldg:(dg.map u8v).length=32:=by rw[aL,hdg,X1a]
   rw[<- hdg]at q3;obtain⟨e,he⟩:∃ e:Menv,e=⟨pO ν 0,dg.map u8v,lock,ldg⟩:=⟨_,rfl⟩;have ec:e.cells=pO ν 0::dg.map u8v ++ [.int .i64 lock]:=by rw[he];rfl
   have be:Qn1 (E b).toEnv 115 [(0,pO ν 0),(1,.agg ⟨dg.map u8v⟩),(2,.int .i64 lock)]=some (.agg ⟨e.cells⟩):=by rw[ec];exact Z9p b ν ldg lock
   obtain⟨hA,h3,alA,stA,stA',g3,a3,n3'⟩:=Quc b (Je4 b) (l:=e.cells) (by rw[Menv.len,Y6d]) (by kernel_rfl) h2;have lE:=Menv.len e;have gl1c:Yw h1 lb 0=some (pO ν 0):=by rw[Yi gl1];rfl
   have g2:=a2.get g1;refine Qem [⟨44,[.agg ⟨txC iv ov lock⟩],h1,.agg ⟨dg.map u8v⟩,h2,true⟩] ?_ Xbq Xfc Xc7 (by simp[Xgy,Xhj,Qec,gl1c,(c0 g1).2.2.1,(c0 g1).2.2.2,(c0 g2).2.2.1,be,alA,stA,stA',lE];first | exact⟨rfl,rfl⟩ | rfl) ?_ ?_
   ·exact zk1 ⟨q3,n3,fun _ c hc=>a2.2 c hc⟩
   ·simp[Qda,gl1c,(c0 g1).2.2.1,(c0 g1).2.2.2,(c0 g2).2.2.1]
   have a03:=(a01.trans a2).trans a3;have g3':=a3.get g2;have gl3:=a03.get gl;obtain⟨aa,haa⟩:∃ aa,aa=Zou ks hks (ptx ins outs lock):=⟨_,rfl⟩;rw[<- haa]at hk;have la3:=Laid.old laid a03;have wo3:Wo h3 e aa:=⟨Xn6 la3,fun c hc=>hc.elim,Jfb la3,⟨ν,zν,ow,by rw[he],by rw[haa];exact a03.get gν,fun q=>q⟩,by rw[he,haa];exact congrArg (List.map u8v) hdg,by rw[he,haa];rfl⟩;have w3:=w.old a03;simp[Qa2,(c0 g3').1,len1];refine Qdf (VI1 lb h.next h2.next iv ins aa (Qum ls) h3) ins.length ⟨_,h3,0,0,rfl,by omega,rfl,⟨by simp,by simp,by simp,by simp,by simp,by simp,by simp⟩,Old.refl _,by omega,by omega,by simp⟩ ?_;rintro k s' ⟨t,h4,i,fee,rfl,hi,rfl,⟨t0,t3,t7,t8,t37,t38,t39⟩,a4,f0,f1,hins⟩ -;have tk:=Xzb hc;have hl8:ins.length<=8:=by have:=tk.insN.2;simpa[ptx]using this
   have a04:=a03.trans a4;have gl4:=a04.get gl;have w4:=w.old a04;have gE4:=a4.get g3;have lV:∀ {hx:Heap},hx.get h2.next=some (.cells true 1 e.cells)->Wy hx h2.next 0 34=some (.agg ⟨e.cells⟩):=fun g=>agW g (by rw[Menv.len];omega) (by rw[Menv.len];omega);by_cases hlt:i < ins.length
   ·have hlt':(i:Int) < (ins.length:Int):=by omega
    have hw:=wS (i:=i) (by omega);obtain⟨x,hx⟩:∃ x,ins[i]? = some x:=⟨_,List.getElem?_eq_getElem hlt⟩;obtain⟨bk,off, -,x1,x2, -⟩:=Xhr (b:=b) (T28 b) Qeo (si.s.old a04) hx;have hsx:=(si.a x (List.mem_of_getElem? hx)).old a04;obtain⟨hA,h5,alA,stA,stA',g5,a5,n5⟩:=Quc b (Yta b) (l:=x.cells) (by rw[InV.len,Qeo]) (by kernel_rfl) h4;have ldp:Wy h5 h4.next 0 33=some (.agg ⟨x.pt.cells⟩):=by rw[V2 g5 (by rw[InV.len];omega),bB,Zn7]
    obtain⟨o,ho⟩:∃ o,o=atL ls x.pt:=⟨_,rfl⟩;have w5:=w4.old a5;have lk:Qjo (E b).toEnv 85 (.map (some mb)) (.agg ⟨x.pt.cells⟩) true h5=some (.tuple #[.agg ⟨Z6r o⟩,.bool o.isSome]):=by
     rw[Jk4 b w5 x.pt,<- ho];cases o <;> rfl
    have lc:(Z6r o).length=3:=by cases o <;> rfl
    obtain⟨hC,h6,alC,stC,stC',g6,a6,n6⟩:=Quc b (Jjm b) (l:=Z6r o) (by rw[lc,Znm]) (by kernel_rfl) h5;have cl5:Yw h5 lb 1=some (.map (some mb)):=by rw[Yi (a5.get gl4)];rfl
    have hat:=Jlm (a:=aa) (m:=Qum ls) (l:=ins.map InV.p) (i:=i) (x:=x.p) (by rw[List.getElem?_map,hx];rfl) fee;rw[hat]at hins;have em:Qum ls x.p.pt=o.map LV.c:=(by rw[ho];rfl);rw[em]at hins;simp[Qa2,t0,t3,t7,t8,t37,t38,t39,hlt,hlt',x1,x2,alA,stA,stA'];refine Qem [] (by simp) Q8l Xca Q8e (by simp[Xf3,Xcz,Qec,t0,cl5,ldp,lk,-Q1w,alC,stC,stC',lc];first | exact⟨rfl,rfl⟩ | rfl) ?_ ?_
    ·simp[Qcl]
    have a46:=a5.trans a6;cases o with
    | none =>
     simp only[ca]at hins;rw[hins]at hk;simp[Qa2,t0,t3,t7,t8,t37,t38,t39];exact hk h6 (a04.trans a46)
    | some y =>
     simp only[ax]at hins;obtain⟨q,hq, -,rfl⟩:=Z5c ho.symm;have hy:=(w4.hs q hq).old a46;have cs:Yw h6 h5.next 1=some q.c.sv:=(by rw[Yi g6];rfl);have cv:∀ {hx:Heap},hx.get h5.next=some (.cells true 1 (Z6r (some q.c)))->Yw hx h5.next 0=some (.int .i64 q.c.value):=fun g=>by rw[Yi g];rfl
     have cw:Yw h6 h4.next 33=some x.wv:=(by rw[Yi (a6.get g5),Jbm]);simp[Qa2,t0,t3,t7,t8,t37,t38,t39,cs,cw,lV (a46.get gE4)];have hsx6:=hsx.old a46;refine Zhq b hy.s hy.b hsx6.w hsx6.n hsx6.i ((wo3.old a4).old a46) _ fun h7 a7 => ?_;have a47:=a46.trans a7;have er:Zhu aa q.c.script (x.its.map (·.2))=Zhu aa q.c.c.script x.p.wit:=rfl;by_cases hr:Zhu aa q.c.script (x.its.map (·.2))=0
     ·rw[<- er,if_pos hr]at hins;have hv:=hy.v;have hwf:IntKind.i64.wrap (fee+q.c.value)=fee+q.c.value:=Uq (by omega) (by omega);simp[Qa2,t0,t3,t7,t8,t37,t38,t39,hr,cv (a7.get g6),hwf,hw];exact⟨ins.length-(i+1),by omega,_,h7,i+1,fee+q.c.value,rfl,by omega,rfl,⟨by simp[t0],by simp[t3],by simp[t7],by simp,by simp[t37],by simp[t38],by simp⟩,a4.trans a47,by omega,by omega,hins⟩
     ·rw[<- er,if_neg hr]at hins;rw[hins]at hk;simp[Qa2,t0,t3,t7,t8,t37,t38,t39,hr];exact hk h7 (a04.trans a47)
   ·have hlt':¬ (i:Int) < (ins.length:Int):=by omega
    have : i=ins.length:=(by omega);subst this;rw[bQ (by simp)]at hins;have hins:Z92 aa (Qum ls) (ins.map InV.p) 0=.ok fee:=hins;rw[hins]at hk;have g4:=a4.get g3';simp[Qa2,t0,t3,t7,t8,t37,t38,t39,hlt',(c0 g4).2.1,len2];have hov:=Z5b tk.vals (by omega);have ho8:outs.length<=8:=(by have:=tk.outsN.2;simpa[ptx]using this);refine Qdf (VI2 ov outs h4 fee) outs.length ⟨_,h4,0,rfl,by omega,rfl,by simp[t8,Q3o],by simp,by simp,by simp,Old.refl _⟩ ?_;rintro k s' ⟨t,h5,j,rfl,hj,rfl,t8,t72,t73,t74,a5⟩ -;by_cases hjl:j < outs.length
    ·have hjl':(j:Int) < (outs.length:Int):=by omega
     have hw:=wS (i:=j) (by omega);obtain⟨x,hx⟩:∃ x,outs[j]? = some x:=⟨_,List.getElem?_eq_getElem hjl⟩;obtain⟨bk,off, -,x1,x2, -, -⟩:=Xjz (b:=b) (T29 b) Qjv (so.s.old (a04.trans a5)) hx;obtain⟨hA,h6,alA,stA,stA',g6,a6,n6⟩:=Quc b (Zdt b) (l:=x.cells) (by rw[OutV.len,Qjv]) (by kernel_rfl) h5;have cv:Yw h6 h5.next 0=some (.int .i64 x.value):=by rw[Yi g6];rfl
     have hvb:∀ o ∈ (ptx ins outs lock).outs,1<=o.value/\o.value<=1125899906842624:=Z1o tk.vals (by omega);have hst:=Jag hx;have hnn:∀ l:List POut,(∀ o ∈ l,1<=o.value)->0<=Q3o l:=by
      intro l;induction l with
      | nil=>intro _;simp[Q3o]
      | cons o l ih =>
       intro ho;have h1:=ho o (by simp);have h2:=ih fun q hq=>ho q (by simp[hq]);have e:Q3o (o::l)=o.value+Q3o l:=by simp[Q3o]
       rw[e];omega
     have hn1:=hnn ((outs.map OutV.p).take (j+1)) fun o ho=>by
      exact(hvb o (ce ho)).1
     have hn2:=hnn ((outs.map OutV.p).drop (j+1)) fun o ho=>by
      exact(hvb o (dy ho)).1
     have hsplit:Q3o (ptx ins outs lock).outs=Q3o ((outs.map OutV.p).take (j+1))+Q3o ((outs.map OutV.p).drop (j+1)):=by
      show Q3o (outs.map OutV.p)=_;rw[<- Jhn,bf]
     have hwf:IntKind.i64.wrap (fee-Q3o ((outs.map OutV.p).take j)-x.value)=fee-Q3o ((outs.map OutV.p).take (j+1)):=by
      rw[Uq (by omega) (by omega)];omega
     simp[Qa2,t8,t72,t73,t74,hjl,hjl',x1,x2,-Qa2,alA,stA,stA',cv,hwf,hw];exact⟨outs.length-(j+1),by omega,_,h6,j+1,rfl,by omega,rfl,by simp,by simp[t72],by simp[t73],by simp,a5.trans a6⟩
    ·have hjl':¬ (j:Int) < (outs.length:Int):=by omega
     have : j=outs.length:=(by omega);subst this;rw[aj (by simp)]at t8;have hk:=hk h5 (a04.trans a5);by_cases hneg:fee-Q3o (outs.map OutV.p) < 0
     ·simp only[hneg,if_true]at hk;simp[Qa2,t8,t72,t73,t74,hneg];exact hk
     ·simp only[hneg,if_false]at hk;simp[Qa2,t8,t72,t73,t74,hneg];exact hk
 ·have hk':=hk h1 a01;unfold Ykp at hk';rw[if_neg hc]at hk';simp[Qa2,hc];exact hk'
end
end Go.Proofs.YtapodfgjkmddlaaGreatDoor
end
