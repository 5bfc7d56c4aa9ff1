import Derived.Test.YtbhojjejgmfgmaaGreatDoorAbA
import Derived.IntWalk
import Derived.Lib.ConvBytes
import Derived.Laws.BytesString
import Derived.WideKeyRuns
import Derived.Maps.RangeRun
import Derived.KernelRfl
import Derived.LaidEqlPtr
set_option linter.all false
open List renaming length→L
open Option renaming some→U,none→O
open Bool renaming true→Y,false→J
open Go renaming Value→V
open Go.Value renaming int→I,slice→M
open Go.IntKind renaming i64→X
open Go.Ab.Blk renaming cells→S
noncomputable section
namespace Go.Ab
section
variable{P:Program}{Z:Ren}{h:N}{w:World}
def Hd(op:UnOp)(x:V):Option V:=if flat x then jD (Op.unary op x)else O
def Vhl{G:Bs}(H:bN G Z h w){op:UnOp}{x v:V}(hv:Hd op x=U v):e_ P G Z h w (Op.unary op (ren Z x)) v h:=by
 unfold Hd at hv;split at hv
 next T=>obtain⟨h1,C⟩:=LW (P:=P) hv;exact e_.flat H h1 (by rw[oz Z T];exact C w)
 ·cases hv
def wR(E:iS P)(C dst:TypeId)(x:V):Option V :=
 match E.ty.A C,E.ty.A dst with
 | some _,U d =>
  match d.desc,x with
  | .int k,.int _ n=>U (.int k (k.wrap n))
  | .string,.string s=>U (.string s)
  | _,_=>O
 | _,_=>O
def Jpy(E:iS P)(H:bN E.G Z h w){C dst:TypeId}{x v:V}(hv:wR E C dst x=U v):e_ P E.G Z h w (convert C dst (ren Z x)) v h:=by
 unfold wR at hv;split at hv
 ·rename_i s d hs hd;split at hv
  next k q n T=>cases hv;refine e_.flat H rfl ?_;simp only[convert,aq,run_underlying (E.K C s hs).1,run_underlying (E.K dst d hd).1,ae,T,jM];rfl
  next b T=>cases hv;refine e_.flat H rfl ?_;simp only[convert,aq,run_underlying (E.K C s hs).1,run_underlying (E.K dst d hd).1,ae,T,jJ];rfl
  ·cases hv
 ·cases hv
def iP(E:iS P)(t:TypeId)(x:V)(h:N):Option V :=
 match E.ty.A t with
 | none=>O
 | some r =>
  match r.desc,x with
  | .string,.string s=>U (I X s.size)
  | .array n _,_=>U (I X n)
  | .pointer a,_=>match E.ty.A a with
   | some T=>match T.desc with
    | .array n _=>U (I X n)
    | _=>O
   | none=>O
  | .slice _,.slice _ n _=>U (I X n)
  | .map _ _,.map O=>U (I X 0)
  | .map _ _,.map (U b)=>match h.A b with
   | some (.map C _)=>U (I X C.size)
   | _=>O
  | _,_=>O
def vU(G:Bs)(H:bN G Z h w){b:Nat}(hb:dom Z b){T:Array MapEntry}{C:Nat}(hg:h.A b=U (.map T C)) :
  (getObj (i4 Z b)).run P w=.ok (.map (T.map (i6 Z)) C) w:=by
 obtain⟨p,hp⟩:=aJ.1 hb;obtain⟨_,h2,_⟩:=H.fits b p _ hp hg;simp[getObj,Sem.run,i4,hp,h2]
def Vc2(E:iS P)(H:bN E.G Z h w){t:TypeId}{ty:TypeId}{x v:V}(hx:c_ (dom Z) x)(hv:iP E t x h=U v) :
  e_ P E.G Z h w (Builtin.len_ #[t] ty #[ren Z x]) v h:=by
 unfold iP at hv;cases hr:E.ty.A t with
 | none=>simp[hr]at hv
 | some r =>
  simp only[hr]at hv;have C:=(E.K t r hr).1;split at hv
  next hd=>cases hv;exact e_.flat H rfl (by simp[Builtin.len_,run_underlying C,hd,goInt])
  next hd=>cases hv;exact e_.flat H rfl (by simp[Builtin.len_,run_underlying C,hd,goInt])
  ·rename_i a hd;split at hv
   ·rename_i ra hc;split at hv
    next n e T=>cases hv;exact e_.flat H rfl (by simp[Builtin.len_,run_underlying C,hd,run_underlying (E.K a ra hc).1,T,goInt])
    ·cases hv
   ·cases hv
  next hd=>cases hv;exact e_.flat H rfl (by simp[Builtin.len_,run_underlying C,hd,goInt,ren])
  next hd=>cases hv;exact e_.flat H rfl (by simp[Builtin.len_,run_underlying C,hd,goInt,ren])
  ·rename_i b hd;split at hv
   next es h2 hg=>cases hv;simp only[c_]at hx;exact e_.flat H rfl (by simp[Builtin.len_,run_underlying C,hd,goInt,ren,vU E.G H hx hg])
   ·cases hv
  ·cases hv
def MZ(E:iS P)(t:TypeId)(x:V):Option V :=
 match E.ty.A t,x with
 | some r,.slice _ _ c=>match r.desc with
  | .slice _=>if c == iJ then O else U (I X c)
  | _=>O
 | _,_=>O
def Vd2(E:iS P)(H:bN E.G Z h w){t:TypeId}{ty:TypeId}{x v:V}(hv:MZ E t x=U v) :
  e_ P E.G Z h w (Builtin.cap_ #[t] ty #[ren Z x]) v h:=by
 unfold MZ at hv;split at hv
 ·rename_i r a n c hr;split at hv
  ·rename_i e hd;split at hv
   ·cases hv
   next T=>cases hv;have C:c≠iJ:=(by simpa using T);exact e_.flat H rfl (by simp[Builtin.cap_,run_underlying (E.K t r hr).1,hd,goInt,wZ _ _ _ _ C])
  ·cases hv
 ·cases hv
def Ex(E:iS P)(t:TypeId)(x:V):Option V :=
 match E.ty.A t with
 | some r=>match r.desc with
  | .interface _=>O
  | _=>U (.iface t x)
 | none=>O
def Jrd(E:iS P)(H:bN E.G Z h w){t:TypeId}{x v:V}(T:c_ (dom Z) x)(hv:Ex E t x=U v) :
  e_ P E.G Z h w (Instr.makeInterface t (ren Z x)) v h:=by
 unfold Ex at hv;split at hv
 ·rename_i r C;split at hv
  ·cases hv
  next hd=>cases hv;refine e_.plain H (by simpa only[c_]using T) ?_;simp only[Instr.makeInterface,aq,run_underlying (E.K t r C).1,ae,mq];rfl
 ·cases hv
def AT(fn:Fn)(first captured:List V):Option V :=
 match fn with
 | .func f=>U (.func (.func f) first.toArray captured.toArray)
 | _=>O
def Jy3{G:Bs}(H:bN G Z h w){fn:Fn}{first captured:List V}{v:V}(h1:∀ x ∈ first,c_ (dom Z) x)(C:∀ x ∈ captured,c_ (dom Z) x)(hv:AT fn first captured=U v) :
  e_ P G Z h w (Instr.makeFunc fn (first.map (ren Z)).toArray (captured.map (ren Z)).toArray) v h:=by
 unfold AT at hv;split at hv
 ·cases hv;exact e_.plain H (by simp only[c_,vO];exact⟨by simpa using h1,by simpa using C⟩) (by simp[Instr.makeFunc,ren,tW,rM])
 ·cases hv
def Hw(x:V):Option V :=
 match x with
 | .pointer O | .nilIface | .nilFunc=>O
 | .func (.method _) _ _=>O
 | x=>U x
def Jgy {x v : V} (hv : Hw x = U v) (w : World) (n : Option Tmp) (C : Operand) (ty : TypeId) (p : String) (T : Array Edge) (g : Option (Nat × Bool)) (ρ : Operand -> V) (hx : ρ C = ren Z x) :
    v = x /\ (execOp ρ { dst := n, op := .nilCheck C, type := ty, pos := p, after := T, guard := g }).run P w = .ok (.value (ren Z v)) w := by
  unfold Hw at hv;split at hv <;> first
    | cases hv; done
    | (cases hv
       refine ⟨rfl, ?_⟩;rename_i n1 n2 n3 n4;simp only [execOp,hx];cases x with
       | pointer a => cases a with
         | none => exact absurd rfl n1
         | some a => rfl
       | nilIface => exact absurd rfl n2
       | nilFunc => exact absurd rfl n3
       | func fn f c => cases fn <;> first | rfl | exact absurd rfl (n4 _ _ _)
       | _ => rfl)
def DP(E:iS P)(x:V)(t:TypeId)(ok:Bool):Option V :=
 match E.ty.A t with
 | none=>O
 | some r =>
  match r.desc with
  | .interface _=>O
  | _=>match x with
   | .nilIface=>if ok then U (.tuple #[r.zero,.bool J])else O
   | .iface u v=>if u=t then U (if ok then .tuple #[v,.bool Y]else v)else if ok then U (.tuple #[r.zero,.bool J])else O
   | _=>O
def Jyj(E:iS P)(H:bN E.G Z h w){x v:V}{xt t:TypeId}{ok:Bool}(hx:c_ (dom Z) x)(hv:DP E x t ok=U v) :
  e_ P E.G Z h w (Instr.typeAssert (ren Z x) xt t ok) v h:=by
 unfold DP at hv;cases hr:E.ty.A t with
 | none=>simp[hr]at hv
 | some r =>
  simp only[hr]at hv;have ho:=E.K t r hr;obtain⟨hu,i,hi,_,_,hz,hf,_⟩:=ho;have hb:flat (.tuple #[r.zero,.bool J])=Y:=by simp[flat,i5,j9,hf]
  split at hv
  ·cases hv
  ·rename_i hd;split at hv
   ·split at hv
    next T=>cases hv;subst T;refine e_.flat H hb ?_;simp only[Instr.typeAssert,aq,run_underlying hu,ae,qM];simp[uw (E.K t r hr)]
    ·cases hv
   ·rename_i u y;have C:∀ hk,(if u=t then(pure (if ok then .tuple #[ren Z y,.bool Y]else ren Z y):Sem V)else
      (if ok then(do pure (.tuple #[<- zeroValue t,.bool J]))else runtimePanic (.typeAssertion (U xt) (U u) t ""))).run P w=hk ->
      (Instr.typeAssert (.iface u (ren Z y)) xt t ok).run P w=hk:=by
     intro hk hc;rw[<- hc];simp only[Instr.typeAssert,aq,run_underlying hu,ae]
    split at hv
    next h2=>cases hv;simp only[c_]at hx;refine e_.plain H (by cases ok <;> simp[zt,c_,hx]) ?_;rw[mq];refine C _ ?_;rw[if_pos h2];cases ok <;> simp
    ·rename_i h2;split at hv
     next T=>cases hv;subst T;refine e_.flat H hb ?_;rw[mq];refine C _ ?_;rw[if_neg h2];simp[uw (E.K t r hr)]
     ·cases hv
   ·cases hv
def DQ(E:iS P)(t:TypeId)(x:V):Option V :=
 match E.ty.A t,x with
 | some r,.slice a n _=>match r.desc with
  | .array m _=>if Nat.ble m n then U (.pointer a)else O
  | _=>O
 | _,_=>O
def Jwv(E:iS P)(H:bN E.G Z h w){t:TypeId}{x v:V}(C:c_ (dom Z) x)(hv:DQ E t x=U v) :
  e_ P E.G Z h w (Instr.arrayAt t (ren Z x)) v h:=by
 unfold DQ at hv;split at hv
 ·rename_i r a n c hr;split at hv
  ·rename_i m e hd;split at hv
   next T=>cases hv;have h2:m<=n:=(by simpa using T);refine e_.plain H (by cases a <;> simp only[c_]at C ⊢;exact C) ?_;simp only[Instr.arrayAt,aq,run_underlying (E.K t r hr).1,hd,ae,ren];rw[if_neg jA];rfl
   ·cases hv
  ·cases hv
 ·cases hv
def yn(mx:Bool)(args:List V):Option V :=
 if j9 args then jD (if mx then Builtin.max_ #[] 0 args.toArray else Builtin.min_ #[] 0 args.toArray)else O
def Z52{G:Bs}(H:bN G Z h w){mx:Bool}{args:List V}{v:V}(ts:Array TypeId)(ty:TypeId)(hv:yn mx args=U v) :
  e_ P G Z h w (if mx then Builtin.max_ ts ty (args.map (ren Z)).toArray else Builtin.min_ ts ty (args.map (ren Z)).toArray) v h:=by
 unfold yn at hv;split at hv
 ·rename_i hf;obtain⟨h1,T⟩:=LW (P:=P) hv;have C:∀ l:List V,j9 l=Y->∀ u ∈ l,flat u=Y:=by
   intro l;induction l with
   | nil=>simp
   | cons u l ih=>intro hl v hv;simp only[j9,au]at hl;rcases ao.1 hv with rfl | h;exact hl.1;exact ih hl.2 v h
  rw[wP Z args (C args hf)];refine e_.flat H h1 ?_;have:=T w;cases mx <;> exact this
 ·cases hv
end
section
variable{P:Program}{G:Bs}{Z:Ren}{h:N}{w:World}
def bN.move(H:bN G Z h w){b:Nat}{p:Place}{x:Blk}(hb:Z b=U p)(hg:h.A b=U x)(ho:x.own=Y) :
  bN G (Ren.add Z h.Q p) ((h.set b O).push x) w/\f_ Z h w (Ren.add Z h.Q p) ((h.set b O).push x) w:=by
 have Z':=(H.dom b p hb).1;have C:∀ c q,Ren.add Z h.Q p c=U q->(c=h.Q/\q=p)∨(c < h.Q/\Z c=U q):=by
  intro c q hc;unfold Ren.add at hc;split at hc
  ·cases hc;exact .inl ⟨by assumption,rfl⟩
  ·exact .inr ⟨(H.dom c q hc).1,hc⟩
 have hA:h.own b=Y:=by rw[rH hg];exact ho
 have ls:(h.set b O).Q=h.Q:=rfl;have hk:∀ c,((h.set b O).push x).A c=if h.Q=c then U x else if b=c then O else h.A c:=by
  intro c;rw[N.F,ls];split
  ·rfl
  ·rw[gY Z']
 have hr:∀ c,((h.set b O).push x).own c=if h.Q=c then Y else if b=c then J else h.own c:=by
  intro c;rw[AZ,ls,own_set Z',ho]
 have hp:∀ c,((h.set b O).push x).live c=if h.Q=c then Y else if b=c then J else h.live c:=by
  intro c;rw[Pb,ls,K6 Z',gu ho]
 constructor
 ·refine⟨fun c q hc => ?_,fun c q y hc hy => ?_,fun c d q r hc hd e2 T hx => ?_,fun g hq => ?_,dS H.globs,fun c y hy => ?_,fun c q y hc hy => ?_,H.bsz⟩
  ·rcases C c q hc with⟨rfl,rfl⟩ | ⟨h1,h2⟩
   ·exact⟨bX _,(H.dom _ _ hb).2⟩
   ·exact⟨cg h1,(H.dom c q h2).2⟩
  ·rw[hk]at hy;rcases C c q hc with⟨rfl,rfl⟩ | ⟨h1,h2⟩
   ·simp only[if_true]at hy;cases hy;exact(H.fits b _ _ hb hg).keep (H.add_dom _) rfl
   ·rw[if_neg jA]at hy;split at hy
    ·cases hy
    ·exact(H.fits c q y h2 hy).keep (H.add_dom p) rfl
  ·rw[hr]at T;rw[hp]at hx;rcases C c q hc with⟨rfl,rfl⟩ | ⟨h1,h2⟩
   ·rcases C d r hd with⟨rfl,rfl⟩ | ⟨h3,h4⟩
    ·exact absurd rfl e2
    ·rw[if_neg jA]at hx;split at hx
     ·cases hx
     next s1=>exact H.apart b d _ r hb h4 s1 hA hx
   ·rcases C d r hd with⟨rfl,rfl⟩ | ⟨h3,h4⟩
    ·rw[if_neg jA]at T;split at T
     ·cases T
     next e1=>exact H.apart c b q _ h2 hb (fun e=>e1 e.symm) T (K7 hA)
    ·rw[if_neg jA]at T;rw[if_neg jA]at hx;split at T
     ·cases T
     ·split at hx
      ·cases hx
      ·exact H.apart c d q r h2 h4 e2 T hx
  ·have:=H.globs;refine⟨by rw[gt Z h.Q p g jA];exact(H.glob g hq).1,?_⟩;rw[hr,if_neg jA];split
   ·rfl
   ·exact(H.glob g hq).2
  ·rw[hk]at hy;split at hy
   ·cases hy;exact Cf (fun c hc=>cg hc) (H.wf b x hg)
   ·split at hy
    ·cases hy
    ·exact Cf (fun c hc=>cg hc) (H.wf c y hy)
  ·rw[hk]at hy;rcases C c q hc with⟨rfl,rfl⟩ | ⟨h1,h2⟩
   ·simp only[if_true]at hy;cases hy;exact H.base b _ _ hb hg
   ·rw[if_neg jA]at hy;split at hy
    ·cases hy
    ·exact H.base c q y h2 hy
 ·refine⟨ac _,fun k _ _=>rfl,fun c q hc T => ?_,rfl,rfl,rfl,ac _,bn _⟩;rw[hr]at T;rcases C c q hc with⟨rfl,rfl⟩ | ⟨h1,h2⟩
  ·exact .inr ⟨b,_,hb,hA,rfl⟩
  ·rw[if_neg jA]at T;split at T
   ·cases T
   ·exact .inr ⟨c,q,h2,T,rfl⟩
def ta(size n:Nat)(x:V)(h:N):Option (List V) :=
 match x with
 | M (U a) _ _=>cellsAt h a (n*size)
 | M O _ _=>U []
 | .string s=>U ((s.data.toList.take n).map fun b => .int .u8 b.toNat)
 | _=>O
def yj(x:V):Option Nat :=
 match x with
 | .slice _ n _=>U n
 | .string s=>U s.size
 | _=>O
def Jia{x:V}{n:Nat}(C:yj x=U n)(w:World):(Builtin.lenOf (ren Z x)).run P w=.ok n w:=by
 unfold yj at C;split at C <;> first
  | (cases C;simp[Builtin.lenOf,ren];done)
  | cases C
def Y'(H:bN G Z h w){size n:Nat}{x:V}{l:List V}(C:c_ (dom Z) x)(hl:ta size n x h=U l) :
  (∀ v ∈ l,c_ (dom Z) v/\v.oneCell'=Y)/\(Builtin.firstCells size n (ren Z x)).run P w=.ok (l.map (ren Z)).toArray w:=by
 unfold ta at hl;split at hl
 next a _ _=>simp only[c_]at C;exact⟨(Ev H C.1 C.2 hl).2.1,by simp only[ren,aL,Builtin.firstCells];exact Km H C.1 C.2 hl⟩
 ·cases hl;exact⟨kA,by simp[ren,Builtin.firstCells]⟩
 ·rename_i s;cases hl;have T:∀ v ∈ (s.data.toList.take n).map (fun b=>I .u8 b.toNat),∃ k i,v=.int k i:=by
   intro v hv;obtain⟨b,_,rfl⟩:=am.1 hv;exact⟨_,_,rfl⟩
  refine⟨fun v hv => ?_,?_⟩
  ·obtain⟨k,i,rfl⟩:=T v hv;exact⟨by simp[c_],rfl⟩
  ·rw[wP Z _ (fun v hv=>by obtain⟨k,i,rfl⟩:=T v hv;rfl)];simp only[jJ,Builtin.firstCells,aN];congr 1;apply bR;simp[ByteArray.data_extract,List.extract]
 ·cases hl
def tj(E:iS P)(t:TypeId)(dst T:V)(h:N):Option (V × N) :=
 match E.ty.A t,dst with
 | some r,.slice base C _=>match r.desc,yj T with
  | .slice e,U sl=>match E.ty.A e with
   | some re=>match ta re.size (Nat.min sl C) T h with
    | some l=>match base,l with
     | none,_=>U (I X (Nat.min sl C),h)
     | _,[]=>U (I X (Nat.min sl C),h)
     | some a,v::l=>(storeAt h a (v::l)).map fun h'=>(I X (Nat.min sl C),h')
    | none=>O
   | none=>O
  | _,_=>O
 | _,_=>O
def J61(E:iS P)(H:bN E.G Z h w){t tx ty:TypeId}{dst T v:V}{h':N}(hd:c_ (dom Z) dst)(hs:c_ (dom Z) T)(hv:tj E t dst T h=U (v,h')) :
  e_ P E.G Z h w (Builtin.copy_ #[t,tx] ty #[ren Z dst,ren Z T]) v h':=by
 unfold tj at hv;split at hv
 ·rename_i r base hx c hr;split at hv
  ·rename_i e sl hk h3;split at hv
   ·rename_i re hb;split at hv
    ·rename_i l hl;obtain⟨s1,s2⟩:=Y' (P:=P) H hs hl;have C:∀ h2,((match base with | some a=>storeCells (jv Z a) (l.map (ren Z)) | none=>pure ()).run P w).andThen (fun _ w' => .ok (I X (Nat.min sl hx)) w')=h2 ->
       (Builtin.copy_ #[t,tx] ty #[ren Z (.slice base hx c),ren Z T]).run P w=h2:=by
      intro h2 hc;rw[<- hc];cases base <;> simp[Builtin.copy_,run_underlying (E.K t r hr).1,hk,ren,Jia h3,qG (E.K _ re hb),s2,goInt]
     split at hv
     ·cases hv;exact e_.flat H rfl (C _ rfl)
     ·cases hv;exact e_.flat H rfl (C _ (by cases base <;> rfl))
     next a v0 l0=>rw[aj]at hv;obtain⟨h1,hp,hq⟩:=hv;cases hq;simp only[c_]at hd;obtain⟨w',r1,r2,r3⟩:=HP (P:=P) H hd.1 hd.2 s1 hp;exact⟨Z,w',C _ (by simp only[r1,ae,jM]),by simp[c_],iC.refl _ _,r2,r3⟩
    ·cases hv
   ·cases hv
  ·cases hv
 ·cases hv
def Ah(E:iS P)(t:TypeId)(n c:V)(h:N):Option (V × N) :=
 match E.ty.A t,n,c with
 | some r,.int _ n,.int _ c=>match r.desc with
  | .slice e=>match E.ty.A e with
   | some C =>
    if 0<=n/\n<=c/\c<=281474976710656/\C.bytes*c<=281474976710656/\1<=C.size then
     U (M (U ⟨h.Q,0,O⟩) n.toNat c.toNat,h.push (S Y 1 (kx C.zero.cells.toList c.toNat)))
    else O
   | none=>O
  | _=>O
 | _,_,_=>O
def Ma{n:Int}(h0:0<=n)(h1:n<=9223372036854775807):IntKind.i64.wrap n=n:=IntWalk.i64_in _ jA
def J5h{n c:Int}{b:Nat}(h0:0<=n)(h1:n<=c)(C:b*c<=281474976710656):(decide (c < 0) || decide ((b:Int)*c > 2 ^ 48) || decide (n < 0) || decide (n > c))=J:=by
 simp only[fZ,decide_eq_false_iff_not];refine⟨⟨⟨jA,?_⟩,jA⟩,jA⟩;have : (2:Int) ^ 48=281474976710656:=qA
 omega
def Z5z(E:iS P)(H:bN E.G Z h w){t:TypeId}{n c v:V}{h':N}(hv:Ah E t n c h=U (v,h')) :
  e_ P E.G Z h w (Instr.makeSlice t (ren Z n) (ren Z c)) v h':=by
 unfold Ah at hv;split at hv
 ·rename_i r k n k' c hr;split at hv
  ·rename_i e hd;split at hv
   ·rename_i T C;split at hv
    ·rename_i hc;obtain⟨h0,h1,h2,h3,h4⟩:=hc;cases hv;have ho:=E.K e T C;obtain⟨_,i,hi,_,hb,_,hf,hn,e2,_⟩:=ho;have hz:∀ v ∈ kx T.zero.cells.toList c.toNat,c_ (dom Z) v/\v.oneCell'=Y:=fun v hv=>En hf hn (dom Z) v (Al hv);have hq:=wP Z (kx T.zero.cells.toList c.toNat) (fun v hv=>E6 hf hn v (Al hv));have hg:=Zvh (P:=P) H e hz n.toNat c.toNat (by unfold iJ;omega);rw[hq]at hg;obtain⟨Z',w',r1,r2⟩:=hg;refine⟨Z',w',?_,r2⟩;rw[<- r1];have hy:IntKind.i64.wrap n=n:=Ma h0 jA;have ls:IntKind.i64.wrap c=c:=Ma jA jA;have hA:∀ w:World,(typeInfo e).run P w=.ok i w:=fun w=>by simp[typeInfo,hi]
     simp only[Instr.makeSlice,aq,run_underlying (E.K t r hr).1,hd,ae,jM,asInt,asIntOf,aN,hA,hb,hy,ls,eT];have hg:=J5h h0 h1 h3;simp only[hg,az,if_false,run_askRoom,ae,qG (E.K e T C)];by_cases hx:c.toNat*T.size=0
     ·have hk:c.toNat=0:=by rcases eO.1 hx with h | h <;> omega
      have hp:∀ f:Nat->V,(Array.range 0).map f = #[]:=fun f=>by simp
      simp only[hk,dN,if_true,hp,kx,aq,aN]
     ·simp only[hx,if_false,uw (E.K e T C),ae];rw[<- e2,HX _ _ jA]
    ·cases hv
   ·cases hv
  ·cases hv
 ·cases hv
end
section
variable{P:Program}{G:Bs}{Z:Ren}{h:N}{w:World}
def tn(E:iS P)(tx:TypeId)(C:ib)(x:V)(h:N):Option (Nat × List V) :=
 match E.ty.A tx with
 | none=>O
 | some T=>match T.desc with
  | .int _=>match x with
   | .int _ n=>if 0<=n/\n<=140737488355328/\C.bytes*n<=140737488355328/\1<=C.size then U (n.toNat,kx C.zero.cells.toList n.toNat)else O
   | _=>O
  | _=>match yj x with
   | some n=>match ta C.size n x h with
    | some l=>U (n,l)
    | none=>O
   | none=>O
def mR(E:iS P)(t tx:TypeId)(s x:V)(h:N):Option (V × N) :=
 match E.ty.A t,s with
 | some r,.slice base n c=>match r.desc with
  | .slice e=>match E.ty.A e with
   | none=>O
   | some re=>if !(Nat.ble 1 re.size)then O else match tn E tx re x h with
    | none=>O
    | some (m,T) =>
     let C:=n+m
     if L T != m*re.size then O else
     if c != iJ && Nat.ble C c then
      match base,T with
      | _,[]=>U (.slice base C c,h)
      | some a,v::l=>(storeAt h (a.add (n*re.size)) (v::l)).map fun h'=>(.slice base C c,h')
      | none,_=>O
     else if !(Nat.ble (C*re.bytes) 140737488355328 && Nat.ble C 140737488355328)then O
     else if c != iJ then
      match (match base with | none=>if n == 0 then U []else O | some a=>cellsAt h a (n*re.size))with
      | some hx=>U (M (U ⟨h.Q,0,O⟩) C iJ,h.push (S Y re.size (hx++T)))
      | none=>O
     else match base with
      | none=>O
      | some a=>match h.A a.block with
       | some (S Y sz cs) =>
        if !(sz == re.size && a.off % sz == 0)then O
        else if Nat.ble (a.off+C*sz) (L cs) then
         match T with
         | []=>U (.slice base C iJ,h)
         | v::l=>(storeAt h (a.add (n*sz)) (v::l)).map fun h'=>(.slice base C iJ,h')
        else if a.off == 0 then
         match nF (n*sz) cs with
         | some hx=>U (M (U ⟨h.Q,0,O⟩) C iJ,(h.set a.block O).push (S Y sz (hx++T)))
         | none=>O
        else O
       | _=>O
  | _=>O
 | _,_=>O
def J18(P:Program)(re:ib)(tx:TypeId)(x:V)(m:Nat)(C:Array V)(w:World):Prop :=
 (∃ d,P.underlying tx=U d/\(∀ k,d ≠ .int k)/\∀ T:World,T.heap=w.heap->(Builtin.lenOf x).run P T=.ok m T/\(Builtin.firstCells re.size m x).run P T=.ok C T) ∨
 (∃ k q i,P.underlying tx=U (.int k)/\x=.int q i/\0<=i/\i<=140737488355328/\re.bytes*i<=140737488355328/\1<=re.size/\m=i.toNat/\C=(kx re.zero.cells.toList m).toArray)
def SG{t tx ty e:TypeId}{re:ib}(hu:P.underlying t=U (.slice e))(T:vx P e re)(base:Option Addr)(n c m:Nat)(x:V)(hk:Array V)
  (hn:J18 P re tx x m hk w) (C:n+m<=c) :
  (Builtin.append_ #[t,tx] ty #[.slice base n c,x]).run P w =
   ((match base with | some a=>storeCells (a.add (n*re.size)) hk.toList | none=>pure ()).run P w).andThen fun _ w' => .ok (.slice base (n+m) c) w':=by
 have ho:=T;obtain⟨_,i0,hi,_,hy,_,_,_,hg,_⟩:=ho;rcases hn with⟨d,hd,e2,hA⟩ | ⟨k,q,i,hd,rfl,h0,h1,h2,h3,rfl,rfl⟩
 ·obtain⟨r1,r2⟩:=hA w rfl;cases base <;> simp[Builtin.append_,run_underlying hu,run_underlying hd,qG T,r1,r2,C]
 ·have hw:IntKind.i64.wrap i=i:=Ma h0 jA;have hp:¬ i < 0:=jA
  have hr:¬ (i*(re.bytes:Int) > 281474976710656):=by rw[Int.mul_comm];omega
  have hc:¬ (281474976710656 < i*(re.bytes:Int)):=hr;have Z':∀ w:World,(typeInfo e).run P w=.ok i0 w:=fun w=>by simp[typeInfo,hi]
  have hq:Builtin.zeroCells re.zero.cells i.toNat=(kx re.zero.cells.toList i.toNat).toArray:=HX _ _ jA;by_cases hm:i.toNat=0
  ·have ls:i=0:=jA
   subst ls;have hx:n<=c:=by simpa using C
   cases base <;> simp[Builtin.append_,run_underlying hu,run_underlying hd,qG T,asInt,asIntOf,hw,Z',hx,kx]
  ·have hb:¬ (i.toNat*re.size=0):=by
    intro h;rcases eO.1 h with h | h <;> omega
   cases base <;> simp[Builtin.append_,run_underlying hu,run_underlying hd,qG T,asInt,asIntOf,hw,hp,Z',hy,hc,C,uw T,hq,hb]
def X2s{t tx ty e:TypeId}{re:ib}(hu:P.underlying t=U (.slice e))(T:vx P e re)(base:Option Addr)(n c m:Nat)(x:V)(hb hp:Array V)
  (hn:J18 P re tx x m hb w) (hB:∀ w':World,w'.heap=w.heap->(Builtin.firstCells re.size n (.slice base n c)).run P w'=.ok hp w') (hk:c < n+m)
  (e2:(n+m)*re.bytes<=140737488355328) (hz:n+m<=140737488355328) :
  ∃ nc,n+m<=nc/\(Builtin.append_ #[t,tx] ty #[.slice base n c,x]).run P w =
   .ok (M (U ⟨w.heap.size,0,O⟩) (n+m) nc) {w with drawn:=w.drawn+1,heap:=w.heap.push (.cells (hp++hb++Builtin.zeroCells re.zero.cells (nc-(n+m))) e)}:=by
 have ho:=T;obtain⟨_,i0,hi,_,hq,_,_,_,hC,_⟩:=ho;have q2:=grownCap_ge w (n+m) c e;refine⟨grownCap w (n+m) c e,q2,?_⟩;have Z':¬ (n+m<=c):=jA
 have q1:¬ (9223372036854775807 < ((n:Int)+(m:Int))):=jA
 have hA:¬ (281474976710656 < Builtin.nextslicecap (n+m) c*re.bytes):=by
  have:=growslice_fits (old:=c) (need:=n+m) hk e2;omega
 have es:∀ w:World,(typeInfo e).run P w=.ok i0 w:=fun w=>by simp[typeInfo,hi]
 have C:=hB w.drew rfl;rcases hn with⟨d,hd,he,hr⟩ | ⟨k,q,i,hd,rfl,h0,h1,h2,h3,rfl,rfl⟩
 ·obtain⟨r1,_⟩:=hr w rfl;obtain⟨_,r2⟩:=hr w.drew rfl;simp[Builtin.append_,run_underlying hu,run_underlying hd,qG T,r1,r2,Z',q1,hA,es,hq,Question.forced,C,uw T,newRow,grownCap];rfl
 ·have hw:IntKind.i64.wrap i=i:=Ma h0 jA;have s1:¬ i < 0:=jA
  have hy:¬ (i*(re.bytes:Int) > 281474976710656):=by rw[Int.mul_comm];omega
  have hc:¬ (281474976710656 < i*(re.bytes:Int)):=hy;have hf:Builtin.zeroCells re.zero.cells i.toNat=(kx re.zero.cells.toList i.toNat).toArray:=HX _ _ jA;have ls:¬ (9223372036854775807 < (n:Int)+max i 0):=jA
  by_cases hm:i.toNat=0
  ·have h4:i=0:=jA
   subst h4;have e1:n+(0:Int).toNat=n:=kA
   rw[e1]at Z' hA q2 ⊢;have hx:¬ (9223372036854775807 < (n:Int)):=jA
   simp[Builtin.append_,run_underlying hu,run_underlying hd,qG T,asInt,asIntOf,hw,es,hq,Z',hx,hA,Question.forced,C,uw T,newRow,grownCap,kx];rfl
  ·have hg:¬ (i.toNat*re.size=0):=by
    intro h;rcases eO.1 h with h | h <;> omega
   simp[Builtin.append_,run_underlying hu,run_underlying hd,qG T,asInt,asIntOf,hw,s1,es,hq,hc,Z',ls,hA,Question.forced,C,uw T,hf,hg,newRow,grownCap];rfl
def J7a(E:iS P)(H:bN G Z h w){tx:TypeId}{re:ib}{x:V}{m:Nat}{C:List V}(hx:c_ (dom Z) x){e:TypeId}(h2:vx P e re)
  (hv:tn E tx re x h=U (m,C)):(∀ v ∈ C,c_ (dom Z) v/\v.oneCell'=Y)/\J18 P re tx (ren Z x) m (C.map (ren Z)).toArray w:=by
 unfold tn at hv;split at hv
 ·cases hv
 ·rename_i rx T;split at hv
  ·rename_i k hd;split at hv
   ·rename_i q i;split at hv
    next hc=>cases hv;obtain⟨_,_,_,_,_,_,hf,hn,h3,_⟩:=h2;have hb:=wP Z (kx re.zero.cells.toList i.toNat) (fun v hv=>E6 hf hn v (Al hv));refine⟨fun v hv=>En hf hn (dom Z) v (Al hv),.inr ⟨k,q,i,by rw[(E.K tx rx T).1,hd],kA,hc.1,hc.2.1,hc.2.2.1,hc.2.2.2,rfl,by rw[hb]⟩⟩
    ·cases hv
   ·cases hv
  ·rename_i hd;split at hv
   ·rename_i n hn;split at hv
    next l hl=>cases hv;refine⟨(Y' (P:=P) H hx hl).1,.inl ⟨_,(E.K tx rx T).1,fun k hk=>hd k hk,fun w' hr=>⟨Jia hn w',(Y' (P:=P) (H.same hr) hx hl).2⟩⟩⟩
    ·cases hv
   ·cases hv
def Jj8{p:Place}{sz:Nat}{cs:List V}(hf:kM Z p w (S Y sz cs)):p.base=0/\L cs<=p.room*sz/\p.sz=sz/\∃ C e lo hi,w.heap[p.blk]? = U (.cells C e (lo,hi)) /\
  (∀ (i:Nat) (v:V),cs[i]? = U v->C[i]? = U (ren Z v)/\c_ (dom Z) v/\v.oneCell'=Y)/\pw sz C.size lo hi/\C.size=p.room*sz:=by
 obtain⟨hz,hf⟩:=hf;rcases hf with⟨h0,_⟩ | ⟨C,e,lo,hi,f1,f2,f3⟩
 ·cases h0
 obtain⟨T,f32,hx⟩:=f3 rfl;refine⟨T,?_,hz,C,e,lo,hi,f1,fun i v hv=>by have:=f2 i v hv;rwa [T,bK]at this,f32,by rw[hx,hz]⟩;rw[<- hz,<- hx];rcases bJ C.size (L cs) with h2 | hc
 ·have:=(f2 C.size _ (List.getElem?_eq_getElem h2)).1;simp[T]at this
 ·exact hc
def Z40(H:bN G Z h w){e:TypeId}{T:ib}(hr:vx P e T){l:List V}(hl:∀ v ∈ l,c_ (dom Z) v/\v.oneCell'=Y){k nc:Nat}(hk:L l=k*T.size)(hy:k<=nc)(C:Array V)
  (hx:C=Builtin.zeroCells T.zero.cells (nc-k)) {w':World} (hc:w' = {w with drawn:=w.drawn+1,heap:=w.heap.push (.cells ((l.map (ren Z)).toArray++C) e)}) :
  ∃ Z',ren Z' (M (U ⟨h.Q,0,O⟩) k iJ)=M (U ⟨w.heap.size,0,O⟩) k nc/\dom Z' h.Q/\iC h.Q Z Z'/\bN G Z' (h.push (S Y T.size l)) w'/\f_ Z h w Z' (h.push (S Y T.size l)) w':=by
 obtain⟨_,i0,hi,_,ls,_,_,_,hA,_⟩:=hr;have h3:C.size=(nc-k)*T.size:=by rw[hx,size_zeroCells,hA]
 let p:Place:={blk:=w.heap.size,base:=0,room:=nc,sz:=T.size,spot:=O}
 let w1:World:={w with drawn:=w.drawn+1}
 have H1:bN G Z h w1:=H.same rfl;have hp:=H1.push (x:=S Y T.size l) rfl (p:=p) rfl (o:=.cells ((l.map (ren Z)).toArray++C) e) (w':=w') (by rw[hc]) (by
  refine⟨rfl,.inr ⟨(l.map (ren Z)).toArray++C,e,0,0,by rw[hc];simp[p],fun i v hv => ?_,fun _=>⟨rfl,.inl rfl,?_⟩⟩⟩
  ·have hm:=hl v (List.mem_of_getElem? hv);have hd:∀ b,dom Z b->Ren.add Z h.Q p b=Z b:=H.add_dom _;refine⟨?_,h_ (fun b hb=>by simpa[dom,hd b hb]using hb) v hm.1,hm.2⟩;rw[ij hd v hm.1];have h2:i < L l:=by
    rcases bJ i (L l) with h | h
    ·exact h
    ·rw[List.getElem?_eq_none h]at hv;cases hv
   rw[show p.base+i=i from bK i,Array.getElem?_append_left (by simpa using h2)];simp[hv]
  ·show((l.map (ren Z)).toArray++C).size=nc*T.size;simp only[fg,fc,aM,hk,h3,<- cr];congr 1;omega)
 refine⟨Ren.add Z h.Q p,?_,by simp[dom,gq],gt _ _ _,hp.1,(f_.drew Z h w (bn _)).trans hp.2⟩;simp[ren,jv,gq,uj,p]
end
section
variable{P:Program}{Z:Ren}{h:N}{w:World}
def ZY(h:N)(b:Nat)(x y:Option Blk):(h.set b x).set b y=h.set b y:=by
 simp only[N.set,Tr.put_put,Nat.min_assoc,Nat.min_self]
def Jy5:∀ (n:Nat) (l r:List V),nF n l=U r->r=l.take n:=fun n l r C=>by
 have:=Ze9 (n:=n) (off:=0) (cs:=l) (l:=r) (by simpa using C);simpa using this
def Jxb(E:iS P)(H:bN E.G Z h w){t tx ty:TypeId}{s x v:V}{h':N}(hs:c_ (dom Z) s)(hx:c_ (dom Z) x)(hv:mR E t tx s x h=U (v,h')) :
  e_ P E.G Z h w (Builtin.append_ #[t,tx] ty #[ren Z s,ren Z x]) v h':=by
 unfold mR at hv;split at hv
 ·rename_i r base n c hr;split at hv
  ·rename_i e hd;split at hv
   ·cases hv
   ·rename_i re x1;have hu:P.underlying t=U (.slice e):=by rw[(E.K t r hr).1,hd]
    have ho:=E.K e re x1;split at hv
    ·cases hv
    ·rename_i h1;have ht:1<=re.size:=(by simpa using h1);split at hv
     ·cases hv
     ·rename_i m hA hf;obtain⟨he,hC⟩:=J7a E H hx ho hf;simp only at hv;split at hv
      ·cases hv
      ·rename_i v';have hn:L hA=m*re.size:=(by simpa using v');split at hv
       ·
        rename_i hb;simp only[au,bne_iff_ne,ne_eq,cY]at hb;obtain⟨hc,hb⟩:=hb;have hy:=SG (w:=w) (ty:=ty) hu ho (base.map (jv Z)) n c m (ren Z x) _ hC hb;rw[wZ _ _ _ _ hc];split at hv
        ·cases hv;refine e_.plain H (by cases base <;> simpa only[c_]using hs) ?_;rw[hy,wZ _ _ _ _ hc];cases base <;> rfl
        next a v0 l0=>rw[aj]at hv;obtain⟨h1,hw,hq⟩:=hv;cases hq;simp only[c_]at hs;obtain⟨w',r1,r2,r3⟩:=HP (P:=P) H (a:=a.add (n*re.size)) (by rw[A2];exact hs.1) (BY _ _ hs.2) he hw;refine⟨Z,w',?_,by simpa only[c_]using hs,iC.refl _ _,r2,r3⟩;rw[hy,wZ _ _ _ _ hc];rw[Cc Z a hs.1 hs.2]at r1;simp only[aL,r1,ae]
        ·cases hv
       ·rename_i hB;split at hv
        ·cases hv
        ·rename_i s1;simp only[cQ,dW,au,cY]at s1;obtain⟨s1,p2⟩:=s1;split at hv
         ·
          rename_i hc;have hm:c≠iJ:=(by simpa using hc);have h5:c < n+m:=by
           simp only[au,bne_iff_ne,ne_eq,cY,not_and]at hB;exact Nat.lt_of_not_le (hB hm)
          split at hv
          ·rename_i hk h3;cases hv;have h7:L hk=n*re.size/\(∀ v ∈ hk,c_ (dom Z) v/\v.oneCell'=Y)/\∀ w':World,w'.heap=w.heap->(Builtin.firstCells re.size n (.slice (base.map (jv Z)) n c)).run P w'=.ok (hk.map (ren Z)).toArray w':=by
            split at h3
            ·split at h3
             next ha=>cases h3;have : n=0:=(by simpa using ha);subst this;exact⟨kA,kA,fun w' _=>by simp[Builtin.firstCells]⟩
             ·cases h3
            next a=>simp only[c_]at hs;have:=Ev H hs.1 hs.2 h3;refine⟨this.1,this.2.1,fun w' ud => ?_⟩;simp only[Builtin.firstCells,aL];exact Km (H.same ud) hs.1 hs.2 h3
           obtain⟨p4,z',hj⟩:=h7;obtain⟨nc,g1,g2⟩:=X2s (w:=w) (ty:=ty) hu ho (base.map (jv Z)) n c m (ren Z x) _ _ hC hj h5 s1 p2;obtain⟨Z',e1,e2,e3,e4,e5⟩:=Z40 (w':=_) H (e:=e) ho (l:=hk++hA) (fun v hv=>(ab.1 hv).elim (z' v) (he v)) (k:=n+m) (nc:=nc)
            (by rw[ah,p4,hn,cr]) g1 _ rfl rfl
           refine⟨Z',_,?_,by simp only[c_];exact⟨e2,trivial⟩,e3,e4,e5⟩;rw[wZ _ _ _ _ hm,g2,e1];simp
          ·cases hv
         ·
          rename_i hc;have hm:c=iJ:=(by simpa using hc);subst hm;split at hv
          ·cases hv
          ·rename_i a;simp only[c_]at hs;obtain⟨p,hp⟩:=aJ.1 hs.1;split at hv
           ·rename_i sz cs hg;split at hv
            ·cases hv
            ·rename_i es;simp only[cQ,dW,au,beq_iff_eq]at es;obtain⟨rfl,m0⟩:=es;obtain⟨s',pD,p1,C,te,lo,hi,f1,f2,f3,f4⟩:=Jj8 (H.fits _ p _ hp hg);have ls:∀ k,ren Z (M (U a) k iJ)=M (U (jv Z a)) k (p.room-a.off / re.size):=fun k=>by rw[GW Z a k hp,p1]
             obtain⟨q,hq⟩:=eK m0;have h6:a.off / re.size=q:=(by rw[hq,dy _ ht]);split at hv
             ·
              rename_i hb;have q3:a.off+(n+m)*re.size<=L cs:=by simpa using hb
              have aA:n+m<=p.room-a.off / re.size:=by
               rw[h6];have : re.size*(q+(n+m))<=re.size*p.room:=by rw[Nat.mul_add,dO re.size (n+m),dO re.size p.room,<- hq];omega
               have:=Nat.le_of_mul_le_mul_left this ht;omega
              have hy:=SG (w:=w) (ty:=ty) hu ho (U (jv Z a)) n _ m (ren Z x) _ hC aA;rw[ls];split at hv
              ·cases hv;refine e_.plain H (by simpa only[c_]using hs) ?_;rw[hy,ls];rfl
              next v0 l0=>rw[aj]at hv;obtain⟨h2,hw,p3⟩:=hv;cases p3;obtain⟨w',r1,r2,r3⟩:=HP (P:=P) H (a:=a.add (n*re.size)) (by rw[A2];exact hs.1) (BY _ _ hs.2) he hw;refine⟨Z,w',?_,by simpa only[c_]using hs,iC.refl _ _,r2,r3⟩;rw[hy,ls];rw[Cc Z a hs.1 hs.2]at r1;simp only[r1,ae]
             ·rename_i pE;split at hv
              ·rename_i hz;have q2:a.off=0:=(by simpa using hz);split at hv
               ·rename_i hk h3;cases hv;have hL:=Jy5 _ _ _ h3;have e0:L hk=n*re.size:=(Cb _ _ _ h3).1;have a3:∀ v ∈ hk,c_ (dom Z) v/\v.oneCell'=Y:=fun v hv=>by
                 obtain⟨i,a2⟩:=List.getElem?_of_mem hv;exact(f2 i v ((Cb _ _ _ h3).2 i v a2)).2
                have h4:∀ v ∈ hk++hA,c_ (dom Z) v/\v.oneCell'=Y:=fun v hv=>(ab.1 hv).elim (a3 v) (he v);have a1:cellsAt h a (n*re.size)=U hk:=by
                 unfold cellsAt;rw[hg];simp only[q2,bw];exact h3
                have lb:h.own a.block=Y:=rH hg;by_cases hb:n+m<=p.room-a.off / re.size
                ·
                 have hy:=SG (w:=w) (ty:=ty) hu ho (U (jv Z a)) n _ m (ren Z x) _ hC hb;rw[ls];have pB:(n+m)*re.size<=C.size:=by rw[f4];rw[q2,Nat.zero_div]at hb;exact ca _ hb
                 obtain⟨C',r1,r2,r3⟩:=SH (P:=P) p.blk te lo hi (hA.map (ren Z)) (n*re.size) C w f1 f3.not (by simp[hn];rw[<- cr];exact pB)
                  (fun v hv=>by obtain⟨u,x2,rfl⟩:=am.1 hv;rw[Zn0];exact(he u x2).2) 0 (n*re.size) jA
                 have q1:kM Z p (World.turned w p.blk (.cells C' te (lo,hi))) (S Y re.size (hk++hA)):=by
                  refine⟨p1,.inr ⟨C',te,lo,hi,Am (H.blk_lt hp hg rfl),fun i v hv => ?_,fun _=>⟨s',by rw[r2];exact f3,by rw[r2,f4,p1]⟩⟩⟩;refine⟨?_,h4 v (List.mem_of_getElem? hv)⟩;rw[s',bK,r3 i];simp only[aM];by_cases a2:i < L hk
                  ·rw[if_neg jA];rw[List.getElem?_append_left a2]at hv;exact(f2 i v ((Cb _ _ _ h3).2 i v hv)).1
                  ·rw[List.getElem?_append_right jA]at hv;have h5:i-L hk < L hA:=by
                    rcases bJ (i-L hk) (L hA) with h | h
                    ·exact h
                    ·rw[List.getElem?_eq_none h]at hv;cases hv
                   rw[if_pos jA,List.getElem?_map,<- e0,hv];rfl
                 obtain⟨H2,T2⟩:=H.upd hp lb (x:=S Y re.size (hk++hA)) rfl q1;have g3:(h.set a.block (U (S Y re.size (hk++hA)))).A a.block=U (S Y re.size (hk++hA)):=by
                  rw[gY (H.dom _ _ hp).1];simp
                 obtain⟨H3,T3⟩:=H2.move hp g3 rfl;have T:=T2.trans T3;rw[ZY]at H3 T;refine⟨Ren.add Z h.Q p,_,?_,?_,gt _ _ _,H3,T⟩
                 ·rw[hy];have q4:jv Z a=⟨p.blk,0,O⟩:=by
                   obtain⟨b0,o0,s0⟩:=a;simp only at hs hp q2;simp[jv,hp,s',q2,hs.2,H.spot hp hg rfl]
                  rw[q4];simp only[r9,bK,r1,ae];congr 1;simp only[ren,aL,jv,uj,if_true];simp[gq,s',q2,H.spot hp hg rfl]
                 ·simp only[c_];exact⟨by simp[dom,gq],trivial⟩
                ·
                 obtain⟨Hk,Tk⟩:=H.kill (H.dom _ _ hp).1;rw[ls];have hj:∀ w':World,w'.heap=w.heap->(Builtin.firstCells re.size n (M (U (jv Z a)) n (p.room-a.off / re.size))).run P w'=.ok (hk.map (ren Z)).toArray w':=fun w' ud=>by
                  simp only[Builtin.firstCells];exact Km (H.same ud) hs.1 hs.2 a1
                 obtain⟨nc,g1,g2⟩:=X2s (w:=w) (ty:=ty) hu ho (U (jv Z a)) n _ m (ren Z x) _ _ hC hj (Nat.lt_of_not_le hb) s1 p2;obtain⟨Z',e1,e2,e3,e4,e5⟩:=Z40 (w':=_) Hk (e:=e) ho (l:=hk++hA) h4 (k:=n+m) (nc:=nc)
                  (by rw[ah,e0,hn,cr]) g1 _ rfl rfl
                 refine⟨Z',_,?_,by simp only[c_];exact⟨e2,trivial⟩,e3,e4,Tk.trans e5⟩;rw[g2];have eA:ren Z' (M (U ⟨h.Q,0,O⟩) (n+m) iJ)=M (U ⟨w.heap.size,0,O⟩) (n+m) nc:=e1;rw[eA];simp
               ·cases hv
              ·cases hv
           ·cases hv
  ·cases hv
 ·cases hv
end
def vK(s:ByteArray):List V:=s.data.toList.map fun b => .int .u8 b.toNat
def yu:List V->Option (List Int)
 | []=>U []
 | .int .u8 n::l=>match yu l with
  | some r=>U (n::r)
  | none=>O
 | _::_=>O
def vT{P:Program}(E:iS P)(C dst:TypeId):Bool :=
 match E.ty.A C,E.ty.A dst with
 | some s,U d=>match d.desc,s.desc with
  | .int _,_=>Y
  | .string,.string=>Y
  | _,_=>J
 | _,_=>J
def wK{P:Program}(E:iS P)(T dst:TypeId)(x:V)(h:N):Option (V × N) :=
 match E.ty.A T,E.ty.A dst,x with
 | some _,U d,.string b=>match d.desc with
  | .slice e=>match E.ty.A e with
   | some C=>match C.desc with
    | .int .u8=>U (M (U ⟨h.Q,0,O⟩) b.size iJ,h.push (S Y 1 (vK b)))
    | _=>O
   | none=>O
  | _=>O
 | some s,U d,.slice a n c=>match s.desc,d.desc with
  | .slice _,.slice e=>match T == dst,a,E.ty.A e with
   | true,U a,U C=>match C.desc,h.A a.block with
    | .int .u8,U (S Y z _)=>match Nat.beq z 1 with
     | true=>U (M (U a) n c,h)
     | false=>O
    | _,_=>O
   | _,_,_=>O
  | .slice e,.string=>match E.ty.A e with
   | some C=>match C.desc with
    | .int .u8=>match a with
     | none=>U (.string .empty,h)
     | some a=>match cellsAt h a n with
      | some l=>match yu l with
       | some bs=>U (.string ⟨⟨bs.map fun n=>UInt8.ofNat n.toNat⟩⟩,h)
       | none=>O
      | none=>O
    | _=>O
   | none=>O
  | _,_=>O
 | _,_,_=>O
section
variable{P:Program}{G:Bs}{Z:Ren}{h:N}{w:World}
def PZ:∀ {l:List V} {bs:List Int},yu l=U bs->l=bs.map (I .u8)
 | [],bs,C=>by simp[yu]at C;subst C;rfl
 | v::l,bs,C=>by
  unfold yu at C;split at C
  next e=>cases e
  ·rename_i n l' e;cases e;split at C
   next r T=>cases C;simp[PZ T]
   ·cases C
  ·cases C
def Z4x(C:List Int):∀ (r:ByteArray),C.foldl (fun r n=>r.push (UInt8.ofNat n.toNat)) r=⟨r.data++(C.map fun n=>UInt8.ofNat n.toNat).toArray⟩:=by
 induction C with
 | nil=>intro r;simp
 | cons n C ih =>
  intro r;rw[eS,ih];simp[ByteArray.push]
def Zek{h:N}{b:Nat}{x:Blk}(C:h.A b=U x)(c:Nat):h.A c=(h.set b (U x)).A c:=by
 rw[gY (N.D C)];split
 next e=>subst e;exact C
 ·rfl
def Vbr(H:bN G Z h w){a:Addr}(ha:dom Z a.block){sz:Nat}(hr:sz=1){c:List V}(hg:h.A a.block=U (S Y sz c)) :
  ∃ w',(markStringish (jv Z a)).run P w=.ok () w'/\bN G Z h w'/\f_ Z h w Z h w':=by
 obtain⟨p,hp⟩:=aJ.1 ha;have h2:=H.fits _ p _ hp hg;obtain⟨f0,f⟩:=h2;rcases f with⟨f,_⟩ | ⟨C,e,lo,hi,f1,f2,f3⟩
 ·cases f
 obtain⟨h3,f32,hA⟩:=f3 rfl;have hk:=H.blk_lt hp hg rfl
 let T:Nat × Nat:=if lo == hi then(C.size,C.size+1)else(min lo C.size,max hi (C.size+1))
 have hc:pw sz C.size T.1 T.2:=by
  simp only[T];split
  ·exact .inr ⟨ac _,hr⟩
  ·rename_i Z';rcases f32 with h | h
   ·simp[h]at Z'
   ·exact .inr ⟨by simp only;omega,hr⟩
 have hw:w.freeze {block:=p.blk,off:=C.size} 1=World.turned w p.blk (.cells C e T):=by
  unfold World.freeze World.turned;rw[if_neg qA];congr 1;apply Array.ext_getElem?;intro i;rw[Array.getElem?_modify,Array.getElem?_setIfInBounds];by_cases h:p.blk=i
  ·subst h;have hx:w.heap[p.blk]=.cells C e (lo,hi):=by
    rw[Array.getElem?_eq_getElem hk]at f1;exact bM f1
   simp[hk,T,hx]
  ·simp[h]
 refine⟨World.turned w p.blk (.cells C e T),?_,?_⟩
 ·have ls:w.shape? p.blk=U (e,C.size):=by unfold World.shape?;rw[f1]
  simp only[markStringish,jv,hp,aq,run_shape,ae,ls,run_freeze,hw]
 ·have:=H.upd hp (rH hg) (x:=S Y sz c) rfl (o:=.cells C e T) ⟨f0,.inr ⟨C,e,T.1,T.2,Am hk,f2,fun _=>⟨h3,hc,hA⟩⟩⟩;exact⟨this.1.congr H.globs (fun b hb=>lJ H hb) (fun b _=>Zek hg b) H.wf,this.2.heap (fun b _=>Zek hg b) (ac _)⟩
def J2p(E:iS P)(H:bN E.G Z h w){hc dst:TypeId}{x v:V}{h':N}(hx:c_ (dom Z) x)(hv:wK E hc dst x h=U (v,h')):e_ P E.G Z h w (convert hc dst (ren Z x)) v h':=by
 unfold wK at hv;split at hv
 ·rename_i s d b hs hd;split at hv
  ·rename_i e hk;split at hv
   ·rename_i re hA;split at hv
    ·rename_i ls;cases hv;have ho:=E.K e re hA;have C:=(E.K dst d hd).1;rw[hk]at C;have T:=ho.1;rw[ls]at T;have hr:=Go.Lib.run_convert_string_bytes (P:=P) w hc dst e b (E.K hc s hs).1 C T;have h4:=grownCap_ge w b.size 0 e;have hb:(Go.Lib.bytesWorld w e b).heap=w.heap.push (.cells (Go.Lib.bytesCells w e b) e ((Go.Lib.bytesCells w e b).size,(Go.Lib.bytesCells w e b).size+1)):=by
      apply Array.ext
      ·rw[Go.Lib.bytesWorld_size];simp
      ·intro i h1 h2;have hh:(Go.Lib.bytesWorld w e b).heap[i]? = (w.heap.push (.cells (Go.Lib.bytesCells w e b) e ((Go.Lib.bytesCells w e b).size,(Go.Lib.bytesCells w e b).size+1)))[i]? := by
        rcases bJ i w.heap.size with hi | hi
        ·rw[Go.Lib.bytesWorld_at_old w e b i hi,Array.getElem?_push,if_neg jA]
        ·have : i=w.heap.size:=(by rw[Go.Lib.bytesWorld_size]at h1;omega);subst this;rw[Go.Lib.bytesWorld_at_new];simp
       rw[Array.getElem?_eq_getElem h1,Array.getElem?_eq_getElem h2]at hh;exact bM hh
     have q2:Go.Lib.bytesWorld w e b = {w with drawn:=w.drawn+1,heap:=w.heap.push (.cells (Go.Lib.bytesCells w e b) e ((Go.Lib.bytesCells w e b).size,(Go.Lib.bytesCells w e b).size+1))}:=by
      rw[<- hb];rfl
     have hn:(Go.Lib.bytesCells w e b).size=grownCap w b.size 0 e:=by
      have : b.data.size=b.size:=rfl;simp[Go.Lib.bytesCells];omega
     let p:Place:={blk:=w.heap.size,base:=0,room:=grownCap w b.size 0 e,sz:=1,spot:=O}
     let w1:World:={w with drawn:=w.drawn+1}
     have H1:bN E.G Z h w1:=H.same rfl;have hp:=H1.push (x:=S Y 1 (vK b)) rfl (p:=p) rfl (w':=Go.Lib.bytesWorld w e b) q2 (by
      refine⟨rfl,.inr ⟨Go.Lib.bytesCells w e b,e,(Go.Lib.bytesCells w e b).size,(Go.Lib.bytesCells w e b).size+1,Go.Lib.bytesWorld_at_new w e b,fun i v hv => ?_,fun _=>⟨rfl,.inr ⟨ac _,rfl⟩,by rw[hn];simp[p]⟩⟩⟩;have hq:i < L (vK b):=by
       rcases bJ i (L (vK b)) with h | h
       ·exact h
       ·rw[List.getElem?_eq_none h]at hv;cases hv
      have h3:i < b.data.size:=(by simpa[vK]using hq);have es:v=.int .u8 (b.data[i]).toNat:=by
       have h0:(vK b)[i]? = U (.int .u8 (b.data[i]).toNat):=by
        rw[List.getElem?_eq_getElem hq];simp[vK]
       exact bM (hv.symm.trans h0)
      subst es;refine⟨?_,by simp[c_],rfl⟩;rw[show p.base+i=i from bK i];unfold Go.Lib.bytesCells;rw[Array.getElem?_append_left (by simpa using h3)];simp[ren];exact⟨_,Array.getElem?_eq_getElem h3,rfl⟩)
     refine⟨Ren.add Z h.Q p,Go.Lib.bytesWorld w e b,?_,?_,gt _ _ _,hp.1,(f_.drew Z h w (bn _)).trans hp.2⟩
     ·rw[jJ,hr];simp[ren,jv,gq,uj,p]
     ·simp only[c_];exact⟨by simp[dom,gq],trivial⟩
    ·cases hv
   ·cases hv
  ·cases hv
 ·rename_i s d a n c hs hd;split at hv
  ·rename_i e0 e e2 hk;split at hv
   ·rename_i a re hB hA;split at hv
    ·rename_i sz cs ls hg;cases Z':Nat.beq sz 1 with
     | false=>simp[Z']at hv
     | true =>
     simp only[Z']at hv;have Z':=aT Z';cases hv;simp only[c_]at hx;have heq:hc=dst:=(by simpa using hB);subst heq;have C:=(E.K hc d hd).1;rw[hk]at C;have T:=(E.K e re hA).1;rw[ls]at T;obtain⟨w',r1,r2,r3⟩:=Vbr (P:=P) H hx.1 Z' hg;refine⟨Z,w',?_,by simp only[c_];exact hx,iC.refl _ _,r2,r3⟩;simp[convert,ren,run_underlying C,run_underlying T,r1]
    ·cases hv
   ·cases hv
  ·rename_i e e2 hk;split at hv
   ·rename_i re hA;split at hv
    ·rename_i ls;have ho:=E.K e re hA;have C:=(E.K dst d hd).1;rw[hk]at C;have e1:=(E.K hc s hs).1;rw[e2]at e1;have T:=ho.1;rw[ls]at T;have hr:=fun(a:Option Addr) (c:Nat)=>run_convert_bytes_string (P:=P) w hc dst e a n c e1 T C;split at hv
     ·cases hv;refine e_.flat H rfl ?_;simp only[ren,d9];rw[hr];simp[Conv.bytesToString]
     ·rename_i a;split at hv
      ·rename_i l hl;split at hv
       next bs s1=>cases hv;refine e_.flat H rfl ?_;simp only[c_]at hx;have hy:=Km (P:=P) H hx.1 hx.2 hl;rw[PZ s1,wP Z _ (fun v hv=>by obtain⟨i,_,rfl⟩:=am.1 hv;rfl)]at hy;simp only[ren,aL];rw[hr,run_bytesToString (P:=P) w _ n _ bs hy,Z4x];simp
       ·cases hv
      ·cases hv
    ·cases hv
   ·cases hv
  ·cases hv
 ·cases hv
def Jxi{E:iS P}{C dst:TypeId}{x v:V}{h h':N}(hv:wK E C dst x h=U (v,h')):h'=h ∨ ∃ x,h'=h.push x:=by
 unfold wK at hv
 repeat' (first | (cases hv;done) | (cases hv;exact .inl rfl) | (cases hv;exact .inr ⟨_,rfl⟩) | split at hv)
end
def Lf:V->Option (List V)
 | .agg C=>U C.toList
 | _=>O
def uq(C:List Nat)(k:List V):List MapEntry->Nat->Option (Option (Nat × V))
 | [],_=>U O
 | e::T,i=>match Lf e.key with
  | some c=>match jz C k c with
   | some Y=>U (U (i,e.val))
   | some J=>uq C k T (i+1)
   | none=>O
  | none=>O
def sM(r:ib)(k:V)(es:List MapEntry):Option (Option (Nat × V)) :=
 match r.desc with
 | .int q=>match k with
  | .int _ _=>Instr.findNow (.int q) k es 0
  | _=>O
 | .string=>match k with
  | .string _=>Instr.findNow .string k es 0
  | _=>O
 | .struct _=>match k with
  | .agg T=>match r.leaf with
   | []=>O
   | l::C=>match Nat.beq (L T.toList) (L (l::C)) with
    | true=>uq (l::C) T.toList es 0
    | false=>O
  | _=>O
 | .array _ _=>match k with
  | .agg T=>match r.leaf with
   | []=>O
   | l::C=>match Nat.beq (L T.toList) (L (l::C)) with
    | true=>uq (l::C) T.toList es 0
    | false=>O
  | _=>O
 | _=>O
section
variable{P:Program}{G:Bs}{Z:Ren}{h:N}{w:World}
def qd(Z:Ren):Option (Nat × V)->Option (Nat × V)
 | some (i,v)=>U (i,ren Z v)
 | none=>O
def QK(d:TypeDesc)(k:V):∀ (C:List MapEntry) (i:Nat) (r:Option (Nat × V)),(∀ e ∈ C,flat e.key=Y)->Instr.findNow d k C i=U r->Instr.findNow d k (C.map (i6 Z)) i=U (qd Z r)
 | [],i,r,_,h=>by simp only[Instr.findNow,av]at h;subst h;rfl
 | e::C,i,r,T,h=>by
  have hk:(i6 Z e).key=e.key:=oz Z (T e kA);simp only[aK,Instr.findNow,hk]at h ⊢;split at h
  ·cases h;rfl
  ·exact QK d k C (i+1) r (fun x hx=>T x (by simp[hx])) h
  ·cases h
def Jup{kt:TypeId}{ls:List Nat}(hq:TG P kt ls)(h2:ls ≠ [])(k:List V)(w:World):∀ (T:List MapEntry) (i:Nat) (r:Option (Nat × V)),(∀ e ∈ T,flat e.key=Y)->uq ls k T i=U r ->
  (Instr.findAsking kt (.agg (k.map (ren Z)).toArray) (T.map (i6 Z)) i).run P w=.ok (qd Z r) w
 | [],i,r,_,h=>by simp only[uq,av]at h;subst h;simp[Instr.findAsking,qd]
 | e::T,i,r,hf,h=>by
  have hk:(i6 Z e).key=e.key:=oz Z (hf e kA);simp only[uq]at h;split at h
  ·rename_i c hc;have hr:e.key=.agg c.toArray:=by
    unfold Lf at hc;split at hc
    next xs hx=>cases hc;simp[hx]
    ·cases hc
   have key:∀ b,jz ls k c=U b->(Op.equal kt (.agg (k.map (ren Z)).toArray) (i6 Z e).key).run P w=.ok b w:=by
    intro b C;rw[hk,hr,(QM Z _ _ _ _ C).1];exact(hq h2).2.1 k c b w C
   split at h
   next C=>cases h;simp[Instr.findAsking,key Y C,qd];rfl
   next C=>simp only[aK,Instr.findAsking,aq,key J C,ae,az,if_false];exact Jup hq h2 k w T (i+1) r (fun x hx=>hf x (by simp[hx])) h
   ·cases h
  ·cases h
def Ll{kt:TypeId}{r:ib}(hr:vx P kt r){k:V}{es:List MapEntry}{x:Option (Nat × V)}(hf:∀ e ∈ es,flat e.key=Y)(C:sM r k es=U x)(w:World)(em:Bool) :
  (Instr.checkKey em 10000 kt (ren Z k)).run P w=.ok () w/\(Instr.findKey kt (ren Z k) (es.map (i6 Z))).run P w=.ok (qd Z x) w:=by
 obtain⟨hu,i,_,_,_,_,_,_,_,hq⟩:=hr;unfold sM at C;have agg:∀ (xs:Array V) (l:Nat) (ls:List Nat),r.leaf=l::ls->(match P.underlying kt with | some (.array _ _) | some (.struct _)=>Y | _=>J)=Y->Nat.beq (L xs.toList) (L (l::ls))=Y->uq (l::ls) xs.toList es 0=U x ->
   (Instr.checkKey em 10000 kt (ren Z (.agg xs))).run P w=.ok () w/\(Instr.findKey kt (ren Z (.agg xs)) (es.map (i6 Z))).run P w=.ok (qd Z x) w:=by
  intro xs l ls hl hw T hb;rw[hl]at hq;have hk:l::ls ≠ []:=kA
  have hc:=aT T;have h2:ren Z (.agg xs)=.agg (xs.toList.map (ren Z)).toArray:=by
   rw[jo];congr 1;apply bR;simp
  rw[h2];refine⟨(hq hk).2.2 em _ w (by rw[aM];exact hc),?_⟩;rw[run_findKey_eq w hw];exact Jup hq hk xs.toList w es 0 x hf hb
 split at C
 ·rename_i q hd;rw[hd]at hu;split at C
  ·rename_i k n;refine⟨?_,?_⟩
   ·rw[show(10000:Nat)=9999+1 from rfl,Instr.checkKey];simp only[aq,run_underlying hu,ae,aN]
   ·have:=QK (Z:=Z) _ _ es 0 x hf C;simp only[jM];exact ge (P:=P) (w:=w) hu this
  ·cases C
 ·rename_i hd;rw[hd]at hu;split at C
  ·refine⟨?_,?_⟩
   ·rw[show(10000:Nat)=9999+1 from rfl,Instr.checkKey];simp only[aq,run_underlying hu,ae,aN]
   ·have:=QK (Z:=Z) _ _ es 0 x hf C;simp only[jJ];exact ge (P:=P) (w:=w) hu this
  ·cases C
 ·rename_i hd;rw[hd]at hu;split at C
  ·split at C
   ·cases C
   ·rename_i l ls hl;split at C
    next T=>exact agg _ l ls hl (by rw[hu]) T C
    ·cases C
  ·cases C
 ·rename_i hd;rw[hd]at hu;split at C
  ·split at C
   ·cases C
   ·rename_i l ls hl;split at C
    next T=>exact agg _ l ls hl (by rw[hu]) T C
    ·cases C
  ·cases C
 ·cases C
end
def uC{P:Program}(E:iS P)(t:TypeId)(hint:Option V)(h:N):Option (V × N) :=
 match E.ty.A t with
 | some r=>match r.desc,hint with
  | .map _ _,O=>U (.map (U h.Q),h.push (.map #[] 0))
  | .map _ _,U (.int _ _)=>U (.map (U h.Q),h.push (.map #[] 0))
  | _,_=>O
 | none=>O
def qi(x:V)(h:N):Option (Array MapEntry) :=
 match x with
 | .map O=>U #[]
 | .map (U b)=>match h.A b with
  | some (.map C _)=>U C
  | _=>O
 | _=>O
def mW{P:Program}(E:iS P)(t:TypeId)(x k:V)(ok:Bool)(h:N):Option V :=
 match E.ty.A t with
 | some r=>match r.desc with
  | .map kt et=>match E.ty.A kt,E.ty.A et,qi x h with
   | some kr,U C,U T=>match sM kr k T.toList,ok with
    | some (U (_,v)),Y=>U (.tuple #[v,.bool Y])
    | some (U (_,v)),J=>U v
    | some O,Y=>U (.tuple #[C.zero,.bool J])
    | some O,J=>U C.zero
    | none,_=>O
   | _,_,_=>O
  | _=>O
 | none=>O
section
variable{P:Program}{G:Bs}{Z:Ren}{h:N}{w:World}
def Jpg(E:iS P)(H:bN E.G Z h w){t:TypeId}{hint:Option V}{v:V}{h':N}(hv:uC E t hint h=U (v,h')):e_ P E.G Z h w (Instr.makeMap t (hint.map (ren Z))) v h':=by
 have base:e_ P E.G Z h w (do pure (.map (U (<- newObj (.map #[] 0))))) (.map (U h.Q)) (h.push (.map #[] 0)):=by
  let p:Place:=⟨w.heap.size,0,0,0,O⟩
  have C:=H.push (x:=.map #[] 0) rfl (p:=p) rfl (o:=.map #[] 0) (w':={w with heap:=w.heap.push (.map #[] 0)}) rfl ⟨rfl,by simp[p],kA⟩;refine⟨Ren.add Z h.Q p,_,?_,?_,gt _ _ _,C.1,C.2⟩
  ·have hn:(newObj (.map #[] 0)).run P w=.ok w.heap.size {w with heap:=w.heap.push (.map #[] 0)}:=rfl;simp only[aq,hn,ae,aN,ren,aL,i4,gq,p]
  ·simp only[c_];simp[dom,gq]
 unfold uC at hv;split at hv
 ·rename_i r hr;split at hv
  ·cases hv;simpa[Instr.makeMap]using base
  next a b c d hd=>cases hv;have T:=(E.K t r hr).1;rw[hd]at T;obtain⟨Z',w',r1,r2⟩:=base;refine⟨Z',w',?_,r2⟩;rw[<- r1];simp[Instr.makeMap,run_underlying T,jM,asInt,asIntOf]
  ·cases hv
 ·cases hv
def J1h{G:Bs}(H:bN G Z h w){x:V}(hx:c_ (dom Z) x){T:Array MapEntry}(C:qi x h=U T) :
  (∀ e ∈ T,flat e.key=Y/\c_ (dom Z) e.val)/\((match ren Z x with
   | .map O=>pure #[]
   | .map (U r)=>do
    let .map T _ <- getObj r | stuck "Lookup: map expected"
    pure T
   | _=>stuck "Lookup: map expected" : Sem (Array MapEntry))).run P w=.ok (T.map (i6 Z)) w:=by
 unfold qi at C;split at C
 ·cases C;exact⟨kA,by simp[ren]⟩
 ·rename_i b;split at C
  next h2 hc hg=>cases C;simp only[c_]at hx;obtain⟨p,hp⟩:=aJ.1 hx;obtain⟨f0,f1,f2⟩:=H.fits b p _ hp hg;refine⟨f2,?_⟩;simp[ren,vU G H hx hg]
  ·cases C
 ·cases C
def PG{r:ib}{k:V}:∀ {C:List MapEntry} {i:Nat} {v:V},sM r k C=U (U (i,v))->∃ e ∈ C,e.val=v/\C[i]? = U e:=by
 have h1:∀ (d:TypeDesc) (k:V) (C:List MapEntry) (i j:Nat) (v:V),Instr.findNow d k C j=U (U (i,v))->∃ n,i=j+n/\∃ e ∈ C,e.val=v/\C[n]? = U e:=by
  intro d k C;induction C with
  | nil=>intro i j v h;simp[Instr.findNow]at h
  | cons e C ih =>
   intro i j v h;simp only[Instr.findNow]at h;split at h
   ·cases h;exact⟨0,kA,e,kA,rfl,kA⟩
   ·obtain⟨n,hn,e',he,hv,hg⟩:=ih _ _ _ h;exact⟨n+1,jA,e',by simp[he],hv,by simpa using hg⟩
   ·cases h
 have h2:∀ (ls:List Nat) (k:List V) (C:List MapEntry) (i j:Nat) (v:V),uq ls k C j=U (U (i,v))->∃ n,i=j+n/\∃ e ∈ C,e.val=v/\C[n]? = U e:=by
  intro ls k C;induction C with
  | nil=>intro i j v h;simp[uq]at h
  | cons e C ih =>
   intro i j v h;simp only[uq]at h;split at h
   ·split at h
    ·cases h;exact⟨0,kA,e,kA,rfl,kA⟩
    ·obtain⟨n,hn,e',he,hv,hg⟩:=ih _ _ _ h;exact⟨n+1,jA,e',by simp[he],hv,by simpa using hg⟩
    ·cases h
   ·cases h
 intro C i v h;have T:(∃ n,i=0+n/\∃ e ∈ C,e.val=v/\C[n]? = U e)->∃ e ∈ C,e.val=v/\C[i]? = U e:=by
  rintro⟨n,hn,e,he⟩;have : i=n:=jA
  subst this;exact⟨e,he⟩
 unfold sM at h
 repeat' (first | (cases h;done) | exact T (h1 _ _ _ _ _ _ h) | exact T (h2 _ _ _ _ _ _ h) | split at h)
def Jy1(E:iS P)(H:bN E.G Z h w){t:TypeId}{x k:V}{ok:Bool}{v:V}(hx:c_ (dom Z) x)(hv:mW E t x k ok h=U v):e_ P E.G Z h w (Instr.lookup t (ren Z x) (ren Z k) ok) v h:=by
 unfold mW at hv;split at hv
 ·rename_i r hr;split at hv
  ·rename_i kt et hd;have hu:=(E.K t r hr).1;rw[hd]at hu;split at hv
   ·rename_i kr er es s1 h3 h2;obtain⟨e1,e2⟩:=J1h (P:=P) H hx h2;have ho:=E.K et er h3;obtain⟨_,i,_,_,_,_,hA,q2,_⟩:=E.K et er h3;have hc:∀ y,sM kr k es.toList=U y->∀ u b,(match qd Z y with | some (_,v)=>(v,Y) | none=>(er.zero,J))=(u,b) ->
      (Instr.lookup t (ren Z x) (ren Z k) ok).run P w=.ok (if ok then .tuple #[u,.bool b]else u) w:=by
     intro y hy u b hk;obtain⟨c1,c2⟩:=Ll (Z:=Z) (E.K kt kr s1) (fun e he=>(e1 e (by simpa using he)).1) hy w (es.map (i6 Z)).isEmpty;have C:(Instr.findKey kt (ren Z k) (es.map (i6 Z)).toList).run P w=.ok (qd Z y) w:=by rw[bL];exact c2
     have hz:=uw (P:=P) (E.K et er h3) w;unfold qi at h2;split at h2
     ·cases h2;have e0:(#[]:Array MapEntry).map (i6 Z) = #[]:=kA
      rw[e0]at c1 C;cases y with
      | none =>
       simp only[qd]at hk C;cases hk;simp only[Instr.lookup,ren,d9,aq,run_underlying hu,ae,aN,c1,C,hz]
      | some q =>
       obtain⟨j,v⟩:=q;simp only[qd]at hk C;cases hk;simp only[Instr.lookup,ren,d9,aq,run_underlying hu,ae,aN,c1,C,hz]
     ·rename_i m;split at h2
      ·rename_i hB hn hg;cases h2;simp only[c_]at hx;have Z':=vU (P:=P) E.G H hx hg;cases y with
       | none =>
        simp only[qd]at hk C;cases hk;simp only[Instr.lookup,ren,aL,aq,run_underlying hu,ae,aN,Z',c1,C,hz]
       | some q =>
        obtain⟨j,v⟩:=q;simp only[qd]at hk C;cases hk;simp only[Instr.lookup,ren,aL,aq,run_underlying hu,ae,aN,Z',c1,C,hz]
      ·cases h2
     ·cases h2
    have ls:c_ (dom Z) er.zero:=iK _ _ hA;have hq:ren Z er.zero=er.zero:=oz Z hA;split at hv
    next i v0 T=>cases hv;obtain⟨e,he,hp,_⟩:=PG T;have hb:=(e1 e (by simpa using he)).2;rw[hp]at hb;refine e_.plain H (by simp only[c_,vO];intro z hz;simp at hz;rcases hz with rfl | rfl;exact hb;simp[c_]) ?_;rw[hc _ T _ _ rfl];simp[ren,rM]
    next i v0 T=>cases hv;obtain⟨e,he,hp,_⟩:=PG T;have hb:=(e1 e (by simpa using he)).2;rw[hp]at hb;refine e_.plain H hb ?_;rw[hc _ T _ _ rfl];simp
    next T=>cases hv;refine e_.plain H (by simp only[c_,vO];intro z hz;simp at hz;rcases hz with rfl | rfl;exact ls;simp[c_]) ?_;rw[hc _ T _ _ rfl];simp[ren,rM,hq]
    next T=>cases hv;refine e_.plain H ls ?_;rw[hc _ T _ _ rfl,hq];simp
    ·cases hv
   ·cases hv
  ·cases hv
 ·cases hv
end
def pY{P:Program}(E:iS P)(t:TypeId)(m k x:V)(h:N):Option N :=
 match E.ty.A t,m with
 | some r,.map (U b)=>match r.desc,h.A b with
  | .map kt _,U (.map T C)=>match E.ty.A kt,flat k with
   | some kr,Y=>match sM kr k T.toList with
    | some O=>U (h.set b (U (.map (T.push {key:=k,val:=x,born:=C}) (C+1))))
    | some (U (i,_))=>match Instr.sameBits 10000 (((T[i]?).map (·.key)).getD k) k with
     | true=>U (h.set b (U (.map (T.modify i fun e=>{e with key:=k,val:=x}) C)))
     | false=>O
    | none=>O
   | _,_=>O
  | _,_=>O
 | _,_=>O
def zg{P:Program}(E:iS P)(t:TypeId)(m k:V)(h:N):Option (V × N) :=
 match E.ty.A t,m with
 | some r,.map (U b)=>match r.desc,h.A b with
  | .map kt _,U (.map T C)=>match E.ty.A kt with
   | some kr=>match sM kr k T.toList with
    | some O=>U (.tuple #[],h.set b (U (.map T C)))
    | some (U (i,_))=>U (.tuple #[],h.set b (U (.map (T.eraseIdxIfInBounds i) C)))
    | none=>O
   | _=>O
  | _,_=>O
 | _,_=>O
section
variable{P:Program}{G:Bs}{Z:Ren}{h:N}{w:World}
def A4(H:bN G Z h w){b:Nat}(hb:dom Z b){es es':Array MapEntry}{T clk':Nat}(hg:h.A b=U (.map es T))(he:∀ e ∈ es',flat e.key=Y/\c_ (dom Z) e.val) :
  ∃ w',(setObj (i4 Z b) (.map (es'.map (i6 Z)) clk')).run P w=.ok () w'/\bN G Z (h.set b (U (.map es' clk'))) w'/\f_ Z h w Z (h.set b (U (.map es' clk'))) w':=by
 obtain⟨p,C⟩:=aJ.1 hb;obtain⟨f0,f1,f2⟩:=H.fits b p _ C hg;have hx:=H.blk_lt C hg rfl;have:=H.upd C (rH hg) (x:=.map es' clk') rfl (o:=.map (es'.map (i6 Z)) clk') ⟨f0,Am hx,he⟩;refine⟨_,?_,this.1,this.2⟩;have hr:i4 Z b=p.blk:=by simp[i4,C]
 rw[hr];exact MapKept.run_setObj_map _ f1
def Y9e(E:iS P)(H:bN E.G Z h w){t:TypeId}{m k x:V}{h':N}(hm:c_ (dom Z) m)(hx:c_ (dom Z) x)(hh:pY E t m k x h=U h') :
  ∃ w',(Instr.mapUpdate t (ren Z m) (ren Z k) (ren Z x)).run P w=.ok () w'/\bN E.G Z h' w'/\f_ Z h w Z h' w':=by
 unfold pY at hh;split at hh
 ·rename_i r b hr;split at hh
  ·rename_i kt et C T hd hg;have hu:=(E.K t r hr).1;rw[hd]at hu;split at hh
   ·rename_i kr ls hb;simp only[c_]at hm;have Z':=vU (P:=P) E.G H hm hg;obtain⟨p,hp⟩:=aJ.1 hm;obtain⟨f0,f1,f2⟩:=H.fits b p _ hp hg;have hk:ren Z k=k:=oz Z hb;have hc:∀ y,sM kr k C.toList=U y->(Instr.checkKey J 10000 kt k).run P w=.ok () w/\(Instr.findKey kt k (C.map (i6 Z)).toList).run P w=.ok (qd Z y) w:=by
     intro y hy;have:=Ll (Z:=Z) (E.K kt kr ls) (fun e he=>(f2 e (by simpa using he)).1) hy w J;rw[hk]at this;rw[bL];exact this
    split at hh
    ·rename_i hf;cases hh;obtain⟨c1,c2⟩:=hc _ hf;obtain⟨w',q1,q2,q3⟩:=A4 (P:=P) H hm hg (es':=C.push {key:=k,val:=x,born:=T}) (clk':=T+1) (by
      intro e he;rcases Array.mem_push.1 he with he | rfl
      ·exact f2 e he
      ·exact⟨hb,hx⟩)
     refine⟨w',?_,q2,q3⟩;rw[<- q1];have h2:(C.push {key:=k,val:=x,born:=T}).map (i6 Z)=(C.map (i6 Z)).push {key:=k,val:=ren Z x,born:=T}:=by simp[i6,hk]
     rw[h2,hk];simp only[Instr.mapUpdate,ren,aL,aq,run_underlying hu,ae,Z',c1,c2,qd]
    ·rename_i i v0 hf;split at hh
     ·rename_i hs;cases hh;obtain⟨c1,c2⟩:=hc _ hf;obtain⟨w',q1,q2,q3⟩:=A4 (P:=P) H hm hg (es':=C.modify i fun e=>{e with key:=k,val:=x}) (clk':=T) (by
       intro e he;obtain⟨j,hj⟩:=Array.mem_iff_getElem?.1 he;rw[Array.getElem?_modify]at hj;split at hj
       ·cases hq:C[j]? with
        | none=>rw[hq]at hj;cases hj
        | some e0=>rw[hq]at hj;cases hj;exact⟨hb,hx⟩
       ·exact f2 e (Array.mem_of_getElem? hj))
      refine⟨w',?_,q2,q3⟩;rw[<- q1];have h3:(C.modify i fun e=>{e with key:=k,val:=x}).map (i6 Z)=(C.map (i6 Z)).modify i fun e=>{e with key:=k,val:=ren Z x}:=by
       apply Array.ext_getElem?;intro j;rw[Array.getElem?_map,Array.getElem?_modify,Array.getElem?_modify,Array.getElem?_map];split
       ·cases C[j]? <;> simp[i6,hk]
       ·rfl
      have hA:(((C.map (i6 Z))[i]?).map (·.key)).getD k=((C[i]?).map (·.key)).getD k:=by
       rw[Array.getElem?_map];cases hq:C[i]? with
       | none=>rfl
       | some e0=>simp[i6,oz Z (f2 e0 (Array.mem_of_getElem? hq)).1]
      rw[h3,hk];simp only[Instr.mapUpdate,ren,aL,aq,run_underlying hu,ae,Z',c1,c2,qd,hA,Instr.keyThatStays,hs,if_true,aN]
     ·cases hh
    ·cases hh
   ·cases hh
  ·cases hh
 ·cases hh
def Jhg{A B:Type}(f:A->B):∀ (l:List A) (i:Nat),(l.eraseIdx i).map f=(l.map f).eraseIdx i
 | [],_=>by simp
 | a::l,0=>by simp
 | a::l,i+1=>by simp[Jhg f l i]
def Jyi(E:iS P)(H:bN E.G Z h w){t ty:TypeId}{tl:List TypeId}{m k v:V}{h':N}(hm:c_ (dom Z) m)(hh:zg E t m k h=U (v,h')) :
  e_ P E.G Z h w (Builtin.delete_ (t::tl).toArray ty #[ren Z m,ren Z k]) v h':=by
 unfold zg at hh;split at hh
 ·rename_i r b hr;split at hh
  ·rename_i kt et C hx hd hg;have hu:=(E.K t r hr).1;rw[hd]at hu;split at hh
   ·rename_i kr hb;simp only[c_]at hm;have hc:=vU (P:=P) E.G H hm hg;obtain⟨p,hp⟩:=aJ.1 hm;obtain⟨f0,f1,f2⟩:=H.fits b p _ hp hg;have T:∀ y,sM kr k C.toList=U y->(Instr.checkKey (C.map (i6 Z)).isEmpty 10000 kt (ren Z k)).run P w=.ok () w/\(Instr.findKey kt (ren Z k) (C.toList.map (i6 Z))).run P w=.ok (qd Z y) w:=by
     intro y hy;exact Ll (Z:=Z) (E.K kt kr hb) (fun e he=>(f2 e (by simpa using he)).1) hy w (C.map (i6 Z)).isEmpty
    have h2:c_ (dom Z) (.tuple #[]):=by simp[c_,lF,mO]
    have ret:ren Z (.tuple #[])=.tuple #[]:=by simp[ren,jk,jT]
    split at hh
    next hf=>cases hh;obtain⟨c1,c2⟩:=T _ hf;obtain⟨w',q1,q2,q3⟩:=A4 (P:=P) H hm hg (es':=C) (clk':=hx) (fun e he=>f2 e he);refine⟨Z,w',?_,h2,iC.refl _ _,q2,q3⟩;simp only[qd]at c2;simp[Builtin.delete_,ren,run_underlying hu,hc,c1,c2,q1,jk,jT]
    ·rename_i i v0 hf;cases hh;obtain⟨c1,c2⟩:=T _ hf;obtain⟨w',q1,q2,q3⟩:=A4 (P:=P) H hm hg (es':=C.eraseIdxIfInBounds i) (clk':=hx) (fun e he=>f2 e (by
      unfold Array.eraseIdxIfInBounds at he;split at he
      ·exact Array.mem_of_mem_eraseIdx he
      ·exact he))
     refine⟨Z,w',?_,h2,iC.refl _ _,q2,q3⟩;have hk:(C.eraseIdxIfInBounds i).map (i6 Z)=(C.map (i6 Z)).eraseIdxIfInBounds i:=by
      unfold Array.eraseIdxIfInBounds;simp only[Array.size_map];split
      ·apply bR;simp[Jhg]
      ·rfl
     simp only[qd]at c2;rw[hk]at q1;simp[Builtin.delete_,ren,run_underlying hu,hc,c1,c2,q1,jk,jT]
    ·cases hh
   ·cases hh
  ·cases hh
 ·cases hh
end
def ON:List Nat->Nat->Bool
 | [],_=>J
 | a::l,b=>match Nat.beq a b with
  | true=>Y
  | false=>ON l b
def qj(seen:List Nat):List MapEntry->List MapEntry
 | []=>[]
 | e::l=>match ON seen e.born with
  | true=>qj seen l
  | false=>e::qj seen l
def we(C:Nat):List MapEntry->List MapEntry
 | []=>[]
 | e::l=>match Nat.blt e.born C with
  | true=>e::we C l
  | false=>we C l
def xM(C:Nat):List MapEntry->List MapEntry
 | []=>[]
 | e::l=>match Nat.blt e.born C with
  | true=>xM C l
  | false=>e::xM C l
def KO(C:Nat)(left:List MapEntry):List (Option MapEntry):=match we C left with
 | []=>O::(xM C left).map U
 | e::l=>(e::(l++xM C left)).map U
def tu(T:List MapEntry)(C:Nat)(seen:List Nat):List (Option MapEntry):=KO C (qj seen T)
def Df(last:Nat):List MapEntry->Bool
 | []=>Y
 | e::l=>match Nat.ble last e.born with
  | true=>Df last l
  | false=>J
def DZ(C:List MapEntry)(seen:List Nat)(last:Nat):Bool:=match seen,C with
 | [],_=>J
 | _,[]=>J
 | _,C=>Df last C
def DO(r m C:Nat)(seen:Array Nat)(T:Nat)(h:N):Option MapEntry->V × N
 | none=>(.tuple #[.bool J],h)
 | some e=>(.tuple #[.bool Y,e.key,e.val],h.set r (U (.obj (.mapIter (U m) C (seen.push e.born) T))))
def sm(it:V)(isS:Bool)(h:N):List (V × N):=match it with
 | .pointer (U ⟨r,0,O⟩)=>match h.A r with
  | some (.obj (.strIter s pos))=>match isS with
   | true=>match Nat.blt pos s.size with
    | true=>[(.tuple #[.bool Y,I X (.ofNat pos),.int .i32 (.ofNat (Utf8.decode s pos).1)],h.set r (U (.obj (.strIter s (pos+(Utf8.decode s pos).2)))))]
    | false=>[(.tuple #[.bool J],h)]
   | false=>[]
  | some (.obj (.mapIter O _ _ _))=>match isS with
   | true=>[]
   | false=>[(.tuple #[.bool J],h)]
  | some (.obj (.mapIter (U m) C seen last))=>match isS,h.A m with
   | false,U (.map es T)=>match DZ es.toList seen.toList last with
    | true=>[]
    | false=>(tu es.toList C seen.toList).map (DO r m C seen T h)
   | _,_=>[]
  | _=>[]
 | _=>[]
def G7(it:V)(isS:Bool)(h:N):Option (V × N):=match sm it isS h with
 | [x]=>U x
 | _=>O
def ym{P:Program}(E:iS P)(t:TypeId)(x:V)(h:N):Option (V × N):=match E.ty.A t with
 | some r=>match r.desc,x with
  | .string,.string s=>U (.pointer (U ⟨h.Q,0,O⟩),h.push (.obj (.strIter s 0)))
  | .map _ _,.map O=>U (.pointer (U ⟨h.Q,0,O⟩),h.push (.obj (.mapIter O 0 #[] 0)))
  | .map _ _,.map (U m)=>match h.A m with
   | some (.map _ C)=>U (.pointer (U ⟨h.Q,0,O⟩),h.push (.obj (.mapIter (U m) C #[] C)))
   | _=>O
  | _,_=>O
 | none=>O
def Ec(b:Nat):List MapEntry->Option MapEntry
 | []=>O
 | e::l=>match Nat.beq e.born b with
  | true=>U e
  | false=>Ec b l
def Ks:List Nat->Option Nat
 | []=>O
 | [a]=>U a
 | _::l=>Ks l
def BN(it:V)(h:N):Option V:=match it with
 | .pointer (U ⟨r,0,O⟩)=>match h.A r with
  | some (.obj (.mapIter (U m) _ seen C))=>match Ks seen.toList,h.A m with
   | some b,U (.map es T)=>match Nat.beq T C with
    | true=>match Ec b es.toList with
     | some e=>U (.tuple #[e.key,e.val])
     | none=>O
    | false=>O
   | _,_=>O
  | _=>O
 | _=>O
def Ju1(l:List Nat)(b:Nat):ON l b=l.contains b:=by
 induction l with
 | nil=>rfl
 | cons a l ih =>
  simp only[ON,List.contains_cons];cases C:Nat.beq a b with
  | true=>have:=aT C;subst this;simp
  | false =>
   have : (b == a)=J:=by
    rw[beq_eq_false_iff_ne];intro e;subst e;simp at C
   simp[ih,this]
def Jw4(seen:List Nat)(l:List MapEntry):qj seen l=l.filter fun e => !seen.contains e.born:=by
 induction l with
 | nil=>rfl
 | cons e l ih=>simp only[qj,Ju1,fq];cases seen.contains e.born <;> simp[ih]
def J47(C:Nat)(l:List MapEntry):we C l=l.filter fun(e:MapEntry)=>decide (e.born < C):=by
 induction l with
 | nil=>rfl
 | cons e l ih =>
  simp only[we,fq];by_cases T:e.born < C
  ·rw[show Nat.blt e.born C=Y from by simpa using T];simp[ih,T]
  ·rw[cm.2 (fun k:Nat.blt e.born C=Y=>T (by simpa using k))];simp[ih,T]
def J21(C:Nat)(l:List MapEntry):xM C l=l.filter fun(e:MapEntry)=>decide (e.born ≥ C):=by
 induction l with
 | nil=>rfl
 | cons e l ih =>
  simp only[xM,fq];by_cases T:e.born < C
  ·rw[show Nat.blt e.born C=Y from by simpa using T];have : ¬ e.born ≥ C:=jA
   simp[ih,this]
  ·rw[cm.2 (fun k:Nat.blt e.born C=Y=>T (by simpa using k))];have : e.born ≥ C:=jA
   simp[ih,this]
def J8g(last:Nat)(l:List MapEntry):Df last l=l.all fun e=>decide (e.born ≥ last):=by
 induction l with
 | nil=>rfl
 | cons e l ih =>
  simp only[Df,List.all_cons];by_cases C:last<=e.born
  ·rw[show Nat.ble last e.born=Y from by simpa using C];simp[ih,C]
  ·rw[cm.2 (fun k:Nat.ble last e.born=Y=>C (by simpa using k))];simp[C]
def Jto(b:Nat)(l:List MapEntry):Ec b l=l.find? fun e=>e.born == b:=by
 induction l with
 | nil=>rfl
 | cons e l ih =>
  simp only[Ec,List.find?_cons];cases C:Nat.beq e.born b with
  | true=>have:=aT C;simp[this]
  | false =>
   have : (e.born == b)=J:=by rw[beq_eq_false_iff_ne];intro T;rw[T]at C;simp at C
   simp[ih,this]
def Jv3:∀ l:List Nat,Ks l=l.getLast?
 | []=>rfl
 | [a]=>rfl
 | a::b::l=>by rw[Ks,Jv3 (b::l)];simp[List.getLast?_cons_cons];intro h;cases h
section
variable{P:Program}{G:Bs}{Z:Ren}{h:N}{w:World}
def bN.drew(H:bN G Z h w){C:World}(hw:C=w∨C=w.drew):bN G Z h C/\f_ Z h w Z h C:=by
 rcases hw with rfl | rfl
 ·exact⟨H,f_.refl _ _ _⟩
 ·exact⟨⟨H.dom,fun b p x hp hx=>by
   have:=H.fits b p x hp hx;exact this.keep (fun _ _=>rfl) rfl,H.apart,H.glob,H.globs,H.wf,H.base,H.bsz⟩,⟨ac _,fun _ _ _=>rfl,fun b p T ho => .inr ⟨b,p,T,ho,rfl⟩,rfl,rfl,rfl,bn _,ac _⟩⟩
def QI(a b:V):ren Z (.tuple #[a,b])=.tuple #[ren Z a,ren Z b]:=by simp[ren,rM]
def Jzw(H:bN G Z h w){r:Nat}(T:c_ (dom Z) (.pointer (U ⟨r,0,O⟩))){a:oU}(hg:h.A r=U (.obj a)) :
  ∃ p o,Z r=U p/\ren Z (.pointer (U ⟨r,0,O⟩))=.pointer (U ⟨p.blk,0,O⟩)/\w.heap[p.blk]? = U o/\kz Z o a:=by
 simp only[c_]at T;obtain⟨p,C⟩:=aJ.1 T.1;obtain⟨f0,o,f1,f2⟩:=H.fits r p _ C hg;exact⟨p,o,C,by simp[ren,jv,C,f0,H.spot C hg rfl],f1,f2⟩
def Jub(H:bN G Z h w){r:Nat}{p:Place}(T:Z r=U p){a a':oU}(C:h.A r=U (.obj a)){O_:Obj}(hf:kz Z O_ a') :
  bN G Z (h.set r (U (.obj a'))) (World.turned w p.blk O_)/\f_ Z h w Z (h.set r (U (.obj a'))) (World.turned w p.blk O_):=by
 obtain⟨f0,_⟩:=H.fits r p _ T C;exact H.upd T (by rw[rH C];rfl) (x:=.obj a') rfl ⟨f0,_,Am (H.blk_lt T C rfl),hf⟩
def Jzt (E : iS P) (H : bN E.G Z h w) {t : TypeId} {x v : V} {h' : N} (hx : c_ (dom Z) x) (hv : ym E t x h = U (v, h')) : e_ P E.G Z h w (Instr.range t (ren Z x)) v h' := by
  have base : ∀ (a : oU) (o : Obj), kz (Ren.add Z h.Q ⟨w.heap.size, 0, 0, 0, O⟩) o a -> ∀ s : Sem Obj, s.run P w = .ok o w ->
      e_ P E.G Z h w (do pure (.pointer (U ⟨<- newObj (<- s), 0, O⟩))) (.pointer (U ⟨h.Q, 0, O⟩)) (h.push (.obj a)) := by
    intro a o hf s hs
    let p : Place := ⟨w.heap.size, 0, 0, 0, O⟩
    have hp := H.push (x := .obj a) rfl (p := p) rfl (o := o) (w' := { w with heap := w.heap.push o }) rfl ⟨rfl, o, by simp [p], hf⟩;refine ⟨Ren.add Z h.Q p, _, ?_, ?_, gt _ _ _, hp.1, hp.2⟩
    · have hn : (newObj o).run P w = .ok w.heap.size { w with heap := w.heap.push o } := rfl
      simp only [aq,hs,hn,ae,aN,ren,aL,jv,gq,p,ite_self]
    · simp only [c_]; simp [dom,gq]
  unfold ym at hv;split at hv
  · rename_i r hr
    have T := (E.K t r hr).1;split at hv
    · rename_i s hd
      cases hv;rw [hd] at T;have := base (.strIter s 0) (.stringIter s 0) rfl (pure (.stringIter s 0)) rfl;obtain ⟨Z', w', r1, r2⟩ := this;refine ⟨Z', w', ?_, r2⟩;rw [<- r1];simp [Instr.range,run_underlying T,ren]
    · rename_i kt et hd
      cases hv;rw [hd] at T;obtain ⟨Z', w', r1, r2⟩ := base (.mapIter O 0 #[] 0) (.mapIter O 0 #[] 0) ⟨fun b hb => (by cases hb), rfl⟩ (pure (.mapIter O 0 #[] 0)) rfl;refine ⟨Z', w', ?_, r2⟩;rw [<- r1];simp [Instr.range,run_underlying T,ren]
    · rename_i kt et m hd
      split at hv
      · rename_i es C hg
        cases hv;rw [hd] at T;simp only [c_] at hx;have hc := vU (P := P) E.G H hx hg;have h2 : m ≠ h.Q := fun e => by have := lJ H hx; omega
        have e1 : i4 (Ren.add Z h.Q ⟨w.heap.size, 0, 0, 0, O⟩) m = i4 Z m := rq (by simp [Ren.add,h2]);have hk : dom (Ren.add Z h.Q ⟨w.heap.size, 0, 0, 0, O⟩) m := by simpa [dom, Ren.add, h2] using hx
        obtain ⟨Z', w', r1, r2⟩ := base (.mapIter (U m) C #[] C) (.mapIter (U (i4 Z m)) C #[] C) ⟨fun b hb => (by cases hb; exact hk), by simp [e1]⟩
          (do let .map _ clock <- getObj (i4 Z m) | stuck "Range: map expected"
              pure (.mapIter (U (i4 Z m)) clock #[] clock)) (by simp [hc])
        refine ⟨Z', w', ?_, r2⟩;rw [<- r1];simp [Instr.range,run_underlying T,ren,hc]
      · cases hv
    · cases hv
  · cases hv
def J4o(seen:List Nat)(l:List MapEntry):(l.map (i6 Z)).filter (fun e => !seen.contains e.born)=(qj seen l).map (i6 Z):=by
 rw[Jw4,fC];rfl
def J1n(T:Array MapEntry)(C:Nat)(seen:Array Nat):((if((T.map (i6 Z)).filter fun(e:MapEntry) => !seen.contains e.born).filter (fun(e:MapEntry)=>decide (e.born < C)) |>.isEmpty then #[O]else #[]) ++
  ((((T.map (i6 Z)).filter fun(e:MapEntry) => !seen.contains e.born).filter fun(e:MapEntry)=>decide (e.born < C))++(((T.map (i6 Z)).filter fun(e:MapEntry) => !seen.contains e.born).filter fun(e:MapEntry)=>decide (e.born ≥ C))).map U).toList =
  (tu T.toList C seen.toList).map (Option.map (i6 Z)):=by
 have h1:((T.map (i6 Z)).filter fun e => !seen.contains e.born).toList=(qj seen.toList T.toList).map (i6 Z):=by
  rw[<- J4o];simp
 have h2:∀ l:List MapEntry,(l.map (i6 Z)).filter (fun e=>decide (e.born < C))=(we C l).map (i6 Z):=fun l=>by rw[J47,fC];rfl
 have h3:∀ l:List MapEntry,(l.map (i6 Z)).filter (fun e=>decide (e.born ≥ C))=(xM C l).map (i6 Z):=fun l=>by rw[J21,fC];rfl
 generalize hL:(T.map (i6 Z)).filter (fun e => !seen.contains e.born)=L_ at h1 ⊢;have h4:(L_.filter fun(e:MapEntry)=>decide (e.born < C)).toList=(we C (qj seen.toList T.toList)).map (i6 Z):=by rw[<- h2,<- h1];simp
 have h5:(L_.filter fun(e:MapEntry)=>decide (e.born ≥ C)).toList=(xM C (qj seen.toList T.toList)).map (i6 Z):=by rw[<- h3,<- h1];simp
 unfold tu KO;have h6:(L_.filter fun(e:MapEntry)=>decide (e.born < C)).isEmpty=(we C (qj seen.toList T.toList)).isEmpty:=by
  rw[<- eX,h4];simp
 rw[h6,gn,bL,gn,h4,h5];cases we C (qj seen.toList T.toList)with
 | nil=>simp[dV]
 | cons e l=>simp[dV]
def Jy8(C:Array MapEntry)(seen:Array Nat)(last:Nat):(!seen.isEmpty && !(C.map (i6 Z)).isEmpty && (C.map (i6 Z)).all (fun e=>decide (e.born ≥ last)))=DZ C.toList seen.toList last:=by
 have T:(C.map (i6 Z)).all (fun e=>decide (e.born ≥ last))=Df last C.toList:=by
  rw[J8g,<- Array.all_toList,bL,List.all_map];rfl
 rw[T,<- eX,<- eX,bL];unfold DZ;cases seen.toList <;> cases C.toList <;> simp[Df]
def J0o{T:List MapEntry}{C:Nat}{seen:List Nat}{e:MapEntry}(h:U e ∈ tu T C seen):e ∈ T:=by
 have hl:∀ x,x ∈ qj seen T->x ∈ T:=fun x hx=>by rw[Jw4]at hx;exact(cS.1 hx).1
 have ho:∀ x,x ∈ we C (qj seen T)->x ∈ T:=fun x hx=>by rw[J47]at hx;exact hl x (cS.1 hx).1
 have hn:∀ x,x ∈ xM C (qj seen T)->x ∈ T:=fun x hx=>by rw[J21]at hx;exact hl x (cS.1 hx).1
 unfold tu KO at h;split at h
 ·simp at h;exact hn _ h
 ·rename_i e0 l0 hq;rw[hq]at ho;simp only[am,av,exists_eq_right,ao,ab]at h;rcases h with rfl | h | h
  ·exact ho _ kA
  ·exact ho _ (by simp[h])
  ·exact hn _ h
def J68(T:List MapEntry)(C:Nat)(seen:List Nat):tu T C seen ≠ []:=by
 unfold tu KO;split <;> simp
def Jww{n:Nat}(hn:n≠0):∃ (j:Nat) (C:World),j < n/\(C=w∨C=w.drew)/\(choose (Question.mapNext n)).run P w=.ok j C:=by
 by_cases T:n<=1
 ·exact⟨0,w,jA,Or.inl rfl,by simp[choose,Sem.run,Question.forced,T]⟩
 ·exact⟨_,w.drew,eJ _ jA,Or.inr rfl,by
   simp only[choose,Sem.run,Question.forced,decide_eq_true_eq,T,if_false,Question.cut];rfl⟩
def Jr9{r:Nat}{m C last hk:Nat}{seen:Array Nat}{T:Array MapEntry}(f1:w.heap[r]? = U (Obj.mapIter (Option.map (i4 Z) (U m)) C seen last))(ls:(getObj (i4 Z m)).run P w=.ok (Obj.map (T.map (i6 Z)) hk) w)
  (hx:DZ T.toList seen.toList last=J) (ty:TypeId) :
  ∃ c ∈ tu T.toList C seen.toList,∃ w1,(w1=w∨w1=w.drew)/\(Instr.next (.pointer (U ⟨r,0,O⟩)) J ty).run P w =
   .ok (match c with | none => .tuple #[.bool J] | some e => .tuple #[.bool Y,ren Z e.key,ren Z e.val]) (match c with | none=>w1 | some e=>World.turned w1 r (.mapIter (U (i4 Z m)) C (seen.push e.born) hk)):=by
 have hg:(getObj r).run P w=.ok (.mapIter (U (i4 Z m)) C seen last) w:=by simp[getObj,Sem.run,f1]
 have hb:=Jy8 (Z:=Z) T seen last;rw[hx]at hb;have hc:=J1n (Z:=Z) T C seen;simp only[Instr.next,aq,hg,ae,ls,hb,az,if_false];generalize hA:(if((T.map (i6 Z)).filter fun(e:MapEntry) => !seen.contains e.born).filter (fun(e:MapEntry)=>decide (e.born < C)) |>.isEmpty then #[O]else #[]) ++
  ((((T.map (i6 Z)).filter fun(e:MapEntry) => !seen.contains e.born).filter fun(e:MapEntry)=>decide (e.born < C))++(((T.map (i6 Z)).filter fun(e:MapEntry) => !seen.contains e.born).filter fun(e:MapEntry)=>decide (e.born ≥ C))).map U=A at hc ⊢
 have hy:A.size≠0:=fun e=>by
  have h2:L A.toList=0:=e;rw[hc,aM]at h2;exact J68 _ _ _ (bI h2)
 obtain⟨j,w1,hj,hw,hr⟩:=Jww (P:=P) (w:=w) hy;have hp:j < L (tu T.toList C seen.toList):=by
  have : L A.toList=_:=congrArg List.length hc;rw[aM]at this;have h3:L A.toList=A.size:=rfl;omega
 refine⟨(tu T.toList C seen.toList)[j],dF hp,w1,hw,?_⟩;have Z':A[j]? = U ((tu T.toList C seen.toList)[j].map (i6 Z)):=by
  rw[<- Array.getElem?_toList,hc,List.getElem?_map,List.getElem?_eq_getElem hp];rfl
 simp only[hr,ae,Z'];have hq:w1.heap[r]? = U (Obj.mapIter (U (i4 Z m)) C seen last):=by rcases hw with rfl | rfl <;> exact f1
 cases e2:(tu T.toList C seen.toList)[j]with
 | none=>simp
 | some e =>
  have hs:∀ o,(setObj r o).run P w1=.ok () (World.turned w1 r o):=fun o=>by simp[setObj,Sem.run,hq,World.turned]
  simp only[aL,aq,hs,ae,aN];simp[i6]
def Z3z(H:bN G Z h w){it:V}{isS:Bool}{ty:TypeId}(hi:c_ (dom Z) it)(C:sm it isS h ≠ []):∃ x ∈ sm it isS h,e_ P G Z h w (Instr.next (ren Z it) isS ty) x.1 x.2:=by
 unfold sm at C ⊢;split
 ·rename_i r;cases T:h.A r with
  | none=>simp[T]at C
  | some x =>
   cases x with
   | cells o s c=>simp[T]at C
   | map es h3=>simp[T]at C
   | obj a =>
    obtain⟨p,o,hp,e1,f1,f2⟩:=Jzw H hi T;rw[e1];cases a with
    | loop st s1 t ps as bd d=>simp[T]at C
    | defs=>simp[T]at C
    | any=>simp[T]at C
    | strIter s pos =>
     simp only[T]at C ⊢;cases isS with
     | false=>simp at C
     | true =>
      simp only at C ⊢;have e2:o=.stringIter s pos:=f2;subst e2;split
      next hr=>refine⟨_,dz _,?_⟩;obtain⟨H1,T1⟩:=Jub H hp T (a':=.strIter s (pos+(Utf8.decode s pos).2)) (O_:=.stringIter s (pos+(Utf8.decode s pos).2)) rfl;refine⟨Z,_,?_,(zt _ _).2 (by simp[c_]),iC.refl _ _,H1,T1⟩;have h2:pos < s.size:=(by simpa using hr);simp[Instr.next,getObj,setObj,Sem.run,f1,h2,jM,np,goInt,Result.andThen,World.turned]
      ·rename_i hr;refine⟨_,dz _,e_.plain H ((zt _ _).2 (by simp[c_])) ?_⟩;have h2:¬ pos < s.size:=fun k=>by rw[show Nat.blt pos s.size=Y from by simpa using k]at hr;cases hr
       simp[Instr.next,getObj,Sem.run,f1,h2,Result.andThen,ren,rM]
    | mapIter m hx seen last =>
     obtain⟨f3,e2⟩:=f2;subst e2;cases m with
     | none =>
      simp only[T]at C ⊢;cases isS with
      | true=>simp at C
      | false =>
       refine⟨_,dz _,e_.plain H ((zt _ _).2 (by simp[c_])) ?_⟩;simp[Instr.next,getObj,Sem.run,f1,Result.andThen,ren,rM]
     | some m =>
      simp only[T]at C ⊢;cases isS with
      | true=>simp at C
      | false =>
       cases hm:h.A m with
       | none=>simp[hm]at C
       | some y =>
        cases y with
        | cells o s c=>simp[hm]at C
        | obj a=>simp[hm]at C
        | map es h3 =>
         simp only[hm]at C ⊢;have Z':dom Z m:=f3 m rfl;have ls:=vU (P:=P) G H Z' hm;split at C
         ·simp at C
         ·rename_i hA;obtain⟨c,hc,w1,hy,hk⟩:=Jr9 (P:=P) (Z:=Z) f1 ls hA ty;obtain⟨H1,T1⟩:=H.drew hy;refine⟨_,am.2 ⟨c,hc,rfl⟩,?_⟩;cases c with
          | none =>
           refine⟨Z,w1,?_,(zt _ _).2 (by simp[c_]),iC.refl _ _,H1,T1⟩;rw[hk];simp[DO,ren,rM]
          | some e =>
           have he:=J0o hc;obtain⟨q,hq⟩:=aJ.1 Z';obtain⟨_,_,g2⟩:=H.fits m q _ hq hm;obtain⟨g3,g4⟩:=g2 e (by simpa using he);obtain⟨H2,T2⟩:=Jub H1 hp T (a':=.mapIter (U m) hx (seen.push e.born) h3) (O_:=.mapIter (U (i4 Z m)) hx (seen.push e.born) h3) ⟨fun b hb=>(by cases hb;exact Z'),rfl⟩;refine⟨Z,_,?_,(zt _ _).2 (by
            intro v hv;simp only[List.mem_toArray,fO,ao,fk,or_false]at hv;rcases hv with rfl | rfl | rfl
            ·trivial
            ·exact iK _ _ g3
            ·exact g4),iC.refl _ _,H2,T1.trans T2⟩
           rw[hk];simp[DO,np]
 ·simp at C
def J5r(H:bN G Z h w){it:V}{isS:Bool}{ty:TypeId}{v:V}{h':N}(hi:c_ (dom Z) it)(hv:G7 it isS h=U (v,h')):e_ P G Z h w (Instr.next (ren Z it) isS ty) v h':=by
 unfold G7 at hv;split at hv
 next x C=>cases hv;obtain⟨y,T,g⟩:=Z3z (P:=P) (ty:=ty) H hi (by rw[C];simp);rw[C,aU]at T;subst T;exact g
 ·cases hv
def J4j(H:bN G Z h w){it v:V}(hi:c_ (dom Z) it)(hv:BN it h=U v):e_ P G Z h w (Instr.entry (ren Z it)) v h:=by
 unfold BN at hv;split at hv
 ·split at hv
  ·rename_i m h2 seen C hg;split at hv
   ·rename_i b es hb hl hm;split at hv
    ·rename_i hk;split at hv
     ·rename_i e he;cases hv;obtain⟨p,o,hp,e1,f1,f2⟩:=Jzw H hi hg;obtain⟨f3,e2⟩:=f2;subst e2;have h3:dom Z m:=f3 m rfl;have Z':=vU (P:=P) G H h3 hm;obtain⟨q,hq⟩:=aJ.1 h3;obtain⟨_,_,g2⟩:=H.fits m q _ hq hm;rw[Jto]at he;have hr:e ∈ es:=(by have:=List.mem_of_find?_eq_some he;simpa using this);obtain⟨g3,g4⟩:=g2 e hr;refine e_.plain H ((zt _ _).2 (by
       intro v hv;simp only[fO,ao,fk,or_false]at hv;rcases hv with rfl | rfl
       ·exact iK _ _ g3
       ·exact g4)) ?_
      have hx:hb=C:=aT hk;subst hx;have T:seen.back?=U b:=(by rw[<- Array.getLast?_toList,<- Jv3];exact hl);have hc:(es.map (i6 Z)).find? (fun x=>x.born == b)=U (i6 Z e):=by
       rw[<- Array.find?_toList,bL,List.find?_map];show Option.map (i6 Z) (es.toList.find? fun x=>x.born == b)=_;rw[he];rfl
      rw[e1];have hA:(getObj p.blk).run P w=.ok (.mapIter (U (i4 Z m)) h2 seen hb) w:=by simp[getObj,Sem.run,f1]
      simp[Instr.entry,hA,T,Z',hc,i6,QI]
     ·cases hv
    ·cases hv
   ·cases hv
  ·cases hv
 ·cases hv
end
def KH{P:Program}(E:iS P)(t:TypeId)(x:V)(h:N):Option (V × N):=match E.ty.A t,x with
 | some _,.map O=>U (.tuple #[],h)
 | some _,M O _ _=>U (.tuple #[],h)
 | some _,M (U _) 0 _=>U (.tuple #[],h)
 | some _,.map (U b)=>match h.A b with
  | some (.map _ C)=>U (.tuple #[],h.set b (U (.map #[] C)))
  | _=>O
 | some r,M (U a) (n+1) _=>match r.desc with
  | .slice e=>match E.ty.A e with
   | some T=>match Nat.ble 1 T.size with
    | true=>(storeAt h a (kx T.zero.cells.toList (n+1))).map fun h'=>(.tuple #[],h')
    | false=>O
   | none=>O
  | _=>O
 | _,_=>O
section
variable{P:Program}{Z:Ren}{h:N}{w:World}
def J3z(E:iS P)(H:bN E.G Z h w){t ty:TypeId}{tl:List TypeId}{x v:V}{h':N}(hx:c_ (dom Z) x)(hh:KH E t x h=U (v,h')) :
  e_ P E.G Z h w (Builtin.clear_ (t::tl).toArray ty #[ren Z x]) v h':=by
 have C:c_ (dom Z) (.tuple #[]):=by simp[c_,lF,mO]
 have ret:ren Z (.tuple #[])=.tuple #[]:=by simp[ren,jk,jT]
 unfold KH at hh;split at hh
 next r T=>cases hh;refine e_.plain H C ?_;simp[Builtin.clear_,ren,run_underlying (E.K t r T).1,jk,jT]
 next r n c T=>cases hh;refine e_.plain H C ?_;simp[Builtin.clear_,ren,run_underlying (E.K t r T).1,jk,jT]
 next r a c T=>cases hh;refine e_.plain H C ?_;simp[Builtin.clear_,ren,run_underlying (E.K t r T).1,jk,jT]
 ·rename_i r b T;split at hh
  next es hk hg=>cases hh;simp only[c_]at hx;have hb:=vU (P:=P) E.G H hx hg;obtain⟨w',q1,q2,q3⟩:=A4 (P:=P) H hx hg (es':=#[]) (clk':=hk) (fun e he=>by simp at he);refine⟨Z,w',?_,C,iC.refl _ _,q2,q3⟩;simp at q1;simp[Builtin.clear_,ren,run_underlying (E.K t r T).1,hb,q1,jk,jT]
  ·cases hh
 ·rename_i r a n c T;split at hh
  ·rename_i e hd;split at hh
   ·rename_i re h2;split at hh
    case h_2=>cases hh
    rename_i hp;rw[aj]at hh;obtain⟨h1,h3,hq⟩:=hh;cases hq;simp only[c_]at hx;have ho:=E.K e re h2;obtain⟨_,i,hi,_,ls,_,hf,hn,hy,_⟩:=ho;have hz:∀ v ∈ kx re.zero.cells.toList (n+1),c_ (dom Z) v/\v.oneCell'=Y:=fun v hv=>En hf hn (dom Z) v (Al hv);have Z':=wP Z (kx re.zero.cells.toList (n+1)) (fun v hv=>E6 hf hn v (Al hv));obtain⟨w',r1,r2,r3⟩:=HP (P:=P) H hx.1 hx.2 hz h3;refine⟨Z,w',?_,C,iC.refl _ _,r2,r3⟩;rw[Z']at r1;have hu:=(E.K t r T).1;rw[hd]at hu;have hc:0 < re.zero.cells.size:=(by have:=dD hp;omega);have hA:(Builtin.zeroCells re.zero.cells (n+1)).toList=kx re.zero.cells.toList (n+1):=by
     have h1:Builtin.zeroCells re.zero.cells (n+1)=(kx re.zero.cells.toList (n+1)).toArray:=HX _ _ hc;rw[h1]
    simp[Builtin.clear_,ren,run_underlying hu,uw (E.K e re h2),hA,r1,jk,jT]
   ·cases hh
  ·cases hh
 ·cases hh
end
inductive pR where
 | compare
 | clone
def OH:pR->Array V->Sem V
 | .compare=>Extern.BytealgCompare.compare
 | .clone=>Extern.MapsClone.clone
def KJ(F:Func):Option pR :=
 if F.body.isNone then
  if F.origin == "" then
   if F.name == "internal/bytealg.Compare" then U .compare
   else if F.name == "maps.clone" then U .clone else O
  else O
 else O
def Z57:Extern.allNextRows.lookup "" = O:=by
 have : (Extern.allNextRows.lookup "").isNone=Y:=kR
 simpa using this
def Jfv:Extern.allNextRows.lookup "internal/bytealg.Compare" = O/\Extern.allGenericRows.lookup "internal/bytealg.Compare" = O/\Extern.allTypedRows.lookup "internal/bytealg.Compare" = O/\Extern.allRows.lookup "internal/bytealg.Compare" = U Extern.BytealgCompare.compare:=by
 have h1:(Extern.allNextRows.lookup "internal/bytealg.Compare").isNone=Y:=kR
 have C:(Extern.allGenericRows.lookup "internal/bytealg.Compare").isNone=Y:=kR
 have T:(Extern.allTypedRows.lookup "internal/bytealg.Compare").isNone=Y:=kR
 exact⟨by simpa using h1,by simpa using C,by simpa using T,by kernel_rfl⟩
def Jy7:Extern.allNextRows.lookup "maps.clone" = O/\Extern.allGenericRows.lookup "maps.clone" = O/\Extern.allTypedRows.lookup "maps.clone" = O/\Extern.allRows.lookup "maps.clone" = U Extern.MapsClone.clone:=by
 have h1:(Extern.allNextRows.lookup "maps.clone").isNone=Y:=kR
 have C:(Extern.allGenericRows.lookup "maps.clone").isNone=Y:=kR
 have T:(Extern.allTypedRows.lookup "maps.clone").isNone=Y:=kR
 exact⟨by simpa using h1,by simpa using C,by simpa using T,by kernel_rfl⟩
def J8d{F:Func}{x:pR}(h:KJ F=U x):(F.name == "runtime.NumGoroutine")=J/\F.body.isNone=Y/\Extern.findNext F=O/\Extern.find F=U (OH x):=by
 unfold KJ at h;split at h
 ·rename_i hb;split at h
  ·rename_i ho;have ho:=eq_of_beq ho;split at h
   ·rename_i C;have C:=eq_of_beq C;cases h;obtain⟨h1,T,h3,h4⟩:=Jfv;refine⟨by rw[C];decide,hb,?_,?_⟩
    ·simp[Extern.findNext,C,ho,h1,Z57]
    ·simp[Extern.find,C,T,h3,h4,OH]
   ·split at h
    ·rename_i C;have C:=eq_of_beq C;cases h;obtain⟨h1,T,h3,h4⟩:=Jy7;refine⟨by rw[C];decide,hb,?_,?_⟩
     ·simp[Extern.findNext,C,ho,h1,Z57]
     ·simp[Extern.find,C,T,h3,h4,OH]
    ·cases h
  ·cases h
 ·cases h
def As(C:List Int):ByteArray:=⟨(C.map fun n=>UInt8.ofNat n.toNat).toArray⟩
def DY(v:V)(h:N):Option ByteArray:=match v with
 | M O _ _=>U .empty
 | M (U a) n _=>match cellsAt h a n with
  | some l=>match yu l with
   | some C=>U (As C)
   | none=>O
  | none=>O
 | _=>O
def AA(x:pR)(args:List V)(h:N):Option (V × N):=match x,args with
 | .compare,[a,b]=>match DY a h,DY b h with
  | some s,U t=>U (I X (Extern.BytealgCompare.cmp s t),h)
  | _,_=>O
 | .clone,[.iface t (.map (U r))]=>match h.A r with
  | some (.map T C)=>U (.iface t (.map (U h.Q)),h.push (.map T C))
  | _=>O
 | _,_=>O
section
variable{P:Program}{G:Bs}{Z:Ren}{h:N}{w:World}
def Y8y:∀ (T:List Int) (a:Addr) (C:ByteArray),(∀ j v,(T.map (I .u8))[j]? = U v->w.cell? (a.add j)=U v) ->
  (Extern.Bytes.loadBytes a (L T) C).run P w=.ok (T.foldl (fun r n=>r.push (UInt8.ofNat n.toNat)) C) w
 | [],a,C,_=>rfl
 | n::T,a,C,hc=>by
  have h0:w.cell? a=U (.int .u8 n):=by
   have:=hc 0 (.int .u8 n) rfl;have e:a.add 0=a:=by unfold Addr.add;split <;> simp_all
   rwa [e]at this
  have ih:=Y8y T (a.add 1) (C.push (UInt8.ofNat n.toNat)) (fun j v hv=>by
   have:=hc (j+1) v (by simpa using hv);have e:(a.add 1).add j=a.add (j+1):=by unfold Addr.add;split <;> simp_all <;> omega
   rw[e];exact this)
  simp only[bm,Extern.Bytes.loadBytes,aq,eS];have hl:(load a).run P w=.ok (.int .u8 n) w:=by simp[load,Sem.run,h0]
  rw[hl];exact ih
def Jj0(H:bN G Z h w){v:V}(hv:c_ (dom Z) v){s:ByteArray}(hs:DY v h=U s):(Extern.Bytes.bytesOf (ren Z v)).run P w=.ok s w:=by
 unfold DY at hs;split at hs
 ·cases hs;rfl
 ·rename_i a n c;split at hs
  ·rename_i l hl;split at hs
   next ns T=>cases hs;simp only[c_]at hv;obtain⟨k1,_,k3⟩:=Ev H hv.1 hv.2 hl;have e:=PZ T;subst e;rw[wP Z _ (fun v hv=>by obtain⟨i,_,rfl⟩:=am.1 hv;rfl)]at k3;have C:n=L ns:=(by rw[<- k1,aM]);subst C;have:=Y8y (P:=P) (w:=w) ns (jv Z a) .empty k3;simp only[ren,aL,Extern.Bytes.bytesOf,this,Z4x,As];show Result.ok (ByteArray.mk (#[]++(ns.map fun n=>UInt8.ofNat n.toNat).toArray)) w=_;rw[Array.empty_append]
   ·cases hs
  ·cases hs
 ·cases hs
def J2f(H:bN G Z h w){x:pR}{args:List V}(ha:∀ v ∈ args,c_ (dom Z) v){v:V}{h':N}(hv:AA x args h=U (v,h')):e_ P G Z h w (OH x (args.map (ren Z)).toArray) v h':=by
 unfold AA at hv;split at hv
 ·rename_i a b;split at hv
  next s t hs ht=>cases hv;refine e_.flat H rfl ?_;have e1:=Jj0 (P:=P) H (ha a kA) hs;have e2:=Jj0 (P:=P) H (ha b kA) ht;have hd:∀ x y:V,Extern.BytealgCompare.compare #[x,y]=(do pure (goInt (Extern.BytealgCompare.cmp (<- Extern.Bytes.bytesOf x) (<- Extern.Bytes.bytesOf y)))):=fun _ _=>rfl;show(Extern.BytealgCompare.compare #[ren Z a,ren Z b]).run P w=_;rw[hd];simp[e1,e2,goInt]
  ·cases hv
 ·rename_i t r;split at hv
  ·rename_i T C hg;cases hv;have hr:=ha _ (dz _);simp only[c_]at hr;have hc:=vU (P:=P) G H hr hg;obtain⟨q,hq⟩:=aJ.1 hr;obtain⟨_,_,f2⟩:=H.fits r q _ hq hg
   let p:Place:=⟨w.heap.size,0,0,0,O⟩
   have hx:T.map (i6 (Ren.add Z h.Q p))=T.map (i6 Z):=by
    apply dJ;intro e he;exact PT (H.add_dom p) (f2 e he).1 (f2 e he).2
   have hp:=H.push (x:=.map T C) rfl (p:=p) rfl (o:=.map (T.map (i6 Z)) C) (w':={w with heap:=w.heap.push (.map (T.map (i6 Z)) C)}) rfl
    ⟨rfl,by rw[hx];simp[p],fun e he=>⟨(f2 e he).1,h_ (fun b hb=>by simpa[dom,H.add_dom p b hb]using hb) _ (f2 e he).2⟩⟩
   refine⟨Ren.add Z h.Q p,_,?_,?_,gt _ _ _,hp.1,hp.2⟩
   ·have hn:(newObj (.map (T.map (i6 Z)) C)).run P w=.ok w.heap.size {w with heap:=w.heap.push (.map (T.map (i6 Z)) C)}:=rfl;have hd:∀ (t:TypeId) (r:Nat),Extern.MapsClone.clone #[.iface t (.map (U r))]=(do
      let .map entries clock <- getObj r | stuck "maps.clone: a map expected"
      pure (.iface t (.map (U (<- newObj (.map entries clock)))))):=fun _ _=>rfl
    have e0:ren Z (.iface t (.map (U r)))=.iface t (.map (U (i4 Z r))):=by simp[ren]
    show(Extern.MapsClone.clone #[ren Z (.iface t (.map (U r)))]).run P w=_;rw[e0,hd];simp only[aq,hc,ae,hn,aN];simp[ren,i4,gq,p]
   ·simp only[c_];simp[dom,gq]
  ·cases hv
 ·cases hv
end
def zv{P:Program}(E:iS P)(t:TypeId)(m k:V)(h:N):Option (V × N) :=
 match E.ty.A t,m with
 | some r,.map (U b)=>match r.desc,h.A b with
  | .map kt et,U (.map T C)=>match E.ty.A kt,E.ty.A et,flat k with
   | some kr,U er,Y=>match sM kr k T.toList with
    | some O=>U (.tuple #[er.zero,I X (.ofNat C)],h.set b (U (.map (T.push {key:=k,val:=er.zero,born:=C}) (C+1))))
    | some (U (i,v))=>match Instr.sameBits 10000 (((T[i]?).map (·.key)).getD k) k with
     | true=>U (.tuple #[v,I X (.ofNat (((T[i]?).map (·.born)).getD 0))],h.set b (U (.map (T.modify i fun e=>{e with key:=k}) C)))
     | false=>O
    | none=>O
   | _,_,_=>O
  | _,_=>O
 | _,_=>O
def Oc(b:Nat):List MapEntry->Nat->Option Nat
 | [],_=>O
 | e::l,i=>match Nat.beq e.born b with
  | true=>U i
  | false=>Oc b l (i+1)
def Ak(m st x:V)(h:N):Option N :=
 match m,st with
 | .map (U b),I X (.ofNat s)=>match h.A b,Nat.blt s 9223372036854775808 with
  | some (.map T C),Y=>match Oc s T.toList 0 with
   | some i=>U (h.set b (U (.map (T.modify i fun e=>{e with val:=x}) C)))
   | none=>O
  | _,_=>O
 | _,_=>O
def Jli(b:Nat):∀ (l:List MapEntry) (i:Nat),Oc b l i=(l.findIdx? fun e=>(e.born:Int) == (b:Int)).map (i + ·)
 | [],i=>rfl
 | e::l,i=>by
  simp only[Oc,List.findIdx?_cons];cases C:Nat.beq e.born b with
  | true=>have:=aT C;simp[this]
  | false =>
   have : ¬ e.born=b:=fun k=>by rw[k]at C;simp at C
   have T:((e.born:Int) == (b:Int))=J:=by
    rw[beq_eq_false_iff_ne];intro k;exact this jA
   simp only[T,az,if_false,Jli b l (i+1),fD];congr 1;funext j;simp;omega
section
variable{P:Program}{G:Bs}{Z:Ren}{h:N}{w:World}
def Jkx(E:iS P)(H:bN E.G Z h w){t:TypeId}{m k v:V}{h':N}(hm:c_ (dom Z) m)(hh:zv E t m k h=U (v,h')) :
  e_ P E.G Z h w (Instr.mapEntry t (ren Z m) (ren Z k)) v h':=by
 unfold zv at hh;split at hh
 ·rename_i r b hr;split at hh
  ·rename_i kt et C T hd hg;have hu:=(E.K t r hr).1;rw[hd]at hu;split at hh
   ·rename_i kr er hC ls h3;simp only[c_]at hm;have e2:=vU (P:=P) E.G H hm hg;obtain⟨p,hp⟩:=aJ.1 hm;obtain⟨f0,f1,f2⟩:=H.fits b p _ hp hg;have hk:ren Z k=k:=oz Z h3;obtain⟨_,_,_,_,_,_,hb,_⟩:=E.K et er ls;have hz:=fun w=>uw (P:=P) (E.K et er ls) w;have s1:ren Z er.zero=er.zero:=oz Z hb;have hx:∀ y,sM kr k C.toList=U y->(Instr.checkKey J 10000 kt k).run P w=.ok () w/\(Instr.findKey kt k (C.map (i6 Z)).toList).run P w=.ok (qd Z y) w:=by
     intro y hy;have:=Ll (Z:=Z) (E.K kt kr hC) (fun e he=>(f2 e (by simpa using he)).1) hy w J;rw[hk]at this;rw[bL];exact this
    have hn:∀ (v:V) (n:Nat),c_ (dom Z) v->c_ (dom Z) (.tuple #[v,I X (.ofNat n)]):=fun v n hv=>(zt _ _).2 (by
     intro u hu;simp only[fO,ao,fk,or_false]at hu;rcases hu with rfl | rfl
     ·exact hv
     ·simp[c_])
    split at hh
    ·rename_i hf;cases hh;obtain⟨c1,c2⟩:=hx _ hf;obtain⟨w',q1,q2,q3⟩:=A4 (P:=P) H hm hg (es':=C.push {key:=k,val:=er.zero,born:=T}) (clk':=T+1) (by
      intro e he;rcases Array.mem_push.1 he with he | rfl
      ·exact f2 e he
      ·exact⟨h3,iK _ _ hb⟩)
     refine⟨Z,w',?_,hn _ _ (iK _ _ hb),iC.refl _ _,q2,q3⟩;have h2:(C.push {key:=k,val:=er.zero,born:=T}).map (i6 Z)=(C.map (i6 Z)).push {key:=k,val:=er.zero,born:=T}:=by simp[i6,hk,s1]
     rw[h2]at q1;rw[hk,QI,s1,jM];simp only[Instr.mapEntry,ren,aL,aq,run_underlying hu,ae,e2,c1,c2,qd,hz,q1,aN,goInt];rfl
    ·rename_i i v0 hf;split at hh
     ·rename_i hs;cases hh;obtain⟨c1,c2⟩:=hx _ hf;obtain⟨e0,hB,h4,_⟩:=PG hf;have e1:=(f2 e0 (by simpa using hB)).2;rw[h4]at e1;obtain⟨w',q1,q2,q3⟩:=A4 (P:=P) H hm hg (es':=C.modify i fun e=>{e with key:=k}) (clk':=T) (by
       intro e he;obtain⟨j,hj⟩:=Array.mem_iff_getElem?.1 he;rw[Array.getElem?_modify]at hj;split at hj
       ·cases hq:C[j]? with
        | none=>rw[hq]at hj;cases hj
        | some e0=>rw[hq]at hj;cases hj;exact⟨h3,(f2 e0 (Array.mem_of_getElem? hq)).2⟩
       ·exact f2 e (Array.mem_of_getElem? hj))
      refine⟨Z,w',?_,hn _ _ e1,iC.refl _ _,q2,q3⟩;have hA:(C.modify i fun e=>{e with key:=k}).map (i6 Z)=(C.map (i6 Z)).modify i fun e=>{e with key:=k}:=by
       apply Array.ext_getElem?;intro j;rw[Array.getElem?_map,Array.getElem?_modify,Array.getElem?_modify,Array.getElem?_map];split
       ·cases C[j]? <;> simp[i6,hk]
       ·rfl
      have Z':(((C.map (i6 Z))[i]?).map (·.key)).getD k=((C[i]?).map (·.key)).getD k:=by
       rw[Array.getElem?_map];cases hq:C[i]? with
       | none=>rfl
       | some e0=>simp[i6,oz Z (f2 e0 (Array.mem_of_getElem? hq)).1]
      have hc:(Option.map (fun x:MapEntry=>(x.born:Int)) (C.map (i6 Z))[i]?).getD 0=Int.ofNat (((C[i]?).map (·.born)).getD 0):=by
       rw[Array.getElem?_map];cases C[i]? <;> rfl
      rw[hA]at q1;rw[hk,QI,jM];simp only[Instr.mapEntry,ren,aL,aq,run_underlying hu,ae,e2,c1,c2,qd,Z',Instr.keyThatStays,hs,if_true,aN,q1,hc,goInt]
     ·cases hh
    ·cases hh
   ·cases hh
  ·cases hh
 ·cases hh
def Zxd(H:bN G Z h w){t:TypeId}{m st x:V}{h':N}(hm:c_ (dom Z) m)(hx:c_ (dom Z) x)(hh:Ak m st x h=U h') :
  ∃ w',(Instr.entryStore t (ren Z m) (ren Z st) (ren Z x)).run P w=.ok () w'/\bN G Z h' w'/\f_ Z h w Z h' w':=by
 unfold Ak at hh;split at hh
 ·rename_i b s;split at hh
  ·rename_i T h2 hg h3;split at hh
   ·rename_i i hi;cases hh;simp only[c_]at hm;have hr:=vU (P:=P) G H hm hg;obtain⟨p,hp⟩:=aJ.1 hm;obtain⟨f0,f1,f2⟩:=H.fits b p _ hp hg;obtain⟨w',q1,q2,q3⟩:=A4 (P:=P) H hm hg (es':=T.modify i fun e=>{e with val:=x}) (clk':=h2) (by
     intro e he;obtain⟨j,C⟩:=Array.mem_iff_getElem?.1 he;rw[Array.getElem?_modify]at C;split at C
     ·cases hq:T[j]? with
      | none=>rw[hq]at C;cases C
      | some e0=>rw[hq]at C;cases C;exact⟨(f2 e0 (Array.mem_of_getElem? hq)).1,hx⟩
     ·exact f2 e (Array.mem_of_getElem? C))
    refine⟨w',?_,q2,q3⟩;have hc:(T.modify i fun e=>{e with val:=x}).map (i6 Z)=(T.map (i6 Z)).modify i fun e=>{e with val:=ren Z x}:=by
     apply Array.ext_getElem?;intro j;rw[Array.getElem?_map,Array.getElem?_modify,Array.getElem?_modify,Array.getElem?_map];split
     ·cases T[j]? <;> simp[i6]
     ·rfl
    rw[hc]at q1;have hk:(T.map (i6 Z)).findIdx? (fun e=>(e.born:Int) == (Int.ofNat s))=U i:=by
     rw[Jli]at hi;rw[aj]at hi;obtain⟨j,C,hb⟩:=hi;have : j=i:=jA;subst this;have e1:T.map (i6 Z)=(T.toList.map (i6 Z)).toArray:=bR (by rw[bL]);rw[e1,List.findIdx?_toArray,List.findIdx?_map];exact C
    simp only[Instr.entryStore,ren,aL,aq,ae,hr,asInt,asIntOf,aN,hk,q1]
   ·cases hh
  ·cases hh
 ·cases hh
end
section
variable{P:Program}{w:World}
def Jnm{a b:Addr}{C D:Array V}{e f:TypeId}{k:Nat}{fr:Nat × Nat}(hx:a.block≠b.block)(T:w.heap[a.block]? = U (.cells C e (k,k)))(hC:C.size≠0)(hb:w.heap[b.block]? = U (.cells D f fr))(hD:D.size≠0) :
  (sameAddr a b).run P w=.ok J w:=by
 have f1:w.frozen? a=J:=by simp[World.frozen?,T]
 have f2:w.frozen? {block:=a.block,off:=C.size}=J:=by simp[World.frozen?,T]
 have s1:w.shape? a.block=U (e,C.size):=by simp[World.shape?,T]
 have s2:w.shape? b.block=U (f,D.size):=by simp[World.shape?,hb]
 simp[sameAddr,hx,f1,f2,s1,s2,noView,viewAt,mayBeOne,stringish,hC,hD]
 done
def Joo{t e:TypeId}{j:TypeInfo}{a b:Addr}(hp:P.underlying t=U (.pointer e))(hx:P.info? e=U j)(T:j.size≠0)(C:a.block=b.block):(Op.equal t (.pointer (U a)) (.pointer (U b))).run P w=.ok (a == b) w:=by
 have h:∀ d:Nat,(Op.equalIn (d+1) t (.pointer (U a)) (.pointer (U b))).run P w=.ok (a == b) w:=fun d=>by
  simp[Op.equalIn,run_underlying hp,sizeOf,typeInfo,hx,T,sameAddr,C]
 exact h 9999
def J1a{t e:TypeId}{j:TypeInfo}{a b:Addr}{C D:Array V}{ec ed:TypeId}{k:Nat}{fr:Nat × Nat}(hp:P.underlying t=U (.pointer e))(hc:P.info? e=U j)(hx:j.size≠0)(T:a.block≠b.block)(ha:w.heap[a.block]? = U (.cells C ec (k,k)))(hC:C.size≠0)(hb:w.heap[b.block]? = U (.cells D ed fr))(hD:D.size≠0) :
  (Op.equal t (.pointer (U a)) (.pointer (U b))).run P w=.ok J w:=by
 have h:∀ d:Nat,(Op.equalIn (d+1) t (.pointer (U a)) (.pointer (U b))).run P w=.ok J w:=fun d=>by
  simp[Op.equalIn,run_underlying hp,sizeOf,typeInfo,hc,hx,Jnm T ha hC hb hD]
 exact h 9999
def Ds{P:Program}(E:iS P)(op:BinOp)(t:TypeId)(k:Bool)(x y:V)(h:N):Option V :=
 match k,x,y with
 | false,.pointer (U ⟨C,o1,O⟩),.pointer (U ⟨T,o2,O⟩)=>match E.ty.A t with
  | some r=>match r.desc with
   | .pointer e=>match E.ty.A e with
    | some re=>match Nat.beq re.size 0,h.A C,h.A T with
     | false,U (S Y z (_::_)),U (S Y _ (_::_))=>match Nat.beq z 1,op with
      | false,.eql=>U (.bool (Nat.beq C T && Nat.beq o1 o2))
      | false,.neq=>U (.bool (!(Nat.beq C T && Nat.beq o1 o2)))
      | _,_=>O
     | _,_,_=>O
    | none=>O
   | _=>O
  | none=>O
 | _,_,_=>O
def J9q{P:Program}(E:iS P){G:Bs}{Z:Ren}{h:N}{w:World}(H:bN G Z h w){t e:TypeId}{r re:ib}(hr:E.ty.A t=U r)(hd:r.desc=.pointer e)(Z':E.ty.A e=U re)(hz:re.size≠0){T o1 b2 o2 z z2:Nat}{v1 v2:V}{l1 l2:List V}
  (d1:dom Z T) (d2:dom Z b2) (g1:h.A T=U (S Y z (v1::l1))) (g2:h.A b2=U (S Y z2 (v2::l2))) (ls:z≠1) :
  (Op.equal t (ren Z (.pointer (U ⟨T,o1,O⟩))) (ren Z (.pointer (U ⟨b2,o2,O⟩)))).run P w=.ok (Nat.beq T b2 && Nat.beq o1 o2) w:=by
 obtain⟨p,hp⟩:=aJ.1 d1;obtain⟨q,hq⟩:=aJ.1 d2;have hu:=(E.K t r hr).1;rw[hd]at hu;obtain⟨-,j,hj,h3, -⟩:=E.K e re Z';have h2:j.size≠0:=by rw[h3];exact hz
 obtain⟨f0,f⟩:=H.fits _ p _ hp g1;obtain⟨k0,kf⟩:=H.fits _ q _ hq g2;rcases f with⟨f, -⟩ | ⟨C,ec,lo,hi,f1,f2,f3⟩
 ·cases f
 rcases kf with⟨kf, -⟩ | ⟨D,ed,hg,e2,k1,k2,k3⟩
 ·cases kf
 obtain⟨hk,f32, -⟩:=f3 rfl;obtain⟨hy, -, -⟩:=k3 rfl;have s1:=((H.base _ p _ hp g1).1 rfl).2;have s2:=((H.base _ q _ hq g2).1 rfl).2;have hC:C.size≠0:=fun e0=>by
  have:=(f2 0 v1 rfl).1;rw[Array.getElem?_eq_none jA]at this;cases this
 have hD:D.size≠0:=fun e0=>by
  have:=(k2 0 v2 rfl).1;rw[Array.getElem?_eq_none jA]at this;cases this
 have hA:lo=hi:=f32.elim id fun x=>absurd x.2 ls;subst hA;have r1:ren Z (.pointer (U ⟨T,o1,O⟩))=.pointer (U ⟨p.blk,o1,O⟩):=by simp[ren,jv,hp,hk,s1]
 have r2:ren Z (.pointer (U ⟨b2,o2,O⟩))=.pointer (U ⟨q.blk,o2,O⟩):=by simp[ren,jv,hq,hy,s2]
 rw[r1,r2];by_cases hb:T=b2
 ·subst hb;rw[hp]at hq;cases hq;rw[Joo (a:=⟨p.blk,o1,O⟩) (b:=⟨p.blk,o2,O⟩) hu hj h2 rfl];have e1:Nat.beq T T=Y:=Nat.beq_refl T;rw[e1,dx];congr 1;by_cases ho:o1=o2
  ·subst ho;simp
  ·have : Nat.beq o1 o2=J:=by
    cases e:Nat.beq o1 o2 with
    | false=>rfl
    | true=>exact absurd (aT e) ho
   rw[this];simp[ho]
 ·have e1:Nat.beq T b2=J:=by
   cases e:Nat.beq T b2 with
   | false=>rfl
   | true=>exact absurd (aT e) hb
  rw[e1,fJ];have hx:h.live b2=Y:=by simp[N.live,g2,Blk.solid]
  have hc:h.own T=Y:=by simp[N.own,g1,Blk.own]
  exact J1a hu hj h2 (H.apart _ _ p q hp hq hb hc hx) f1 hC k1 hD
end
def J8h{P:Program}(E:iS P){G:Bs}{Z:Ren}{h:N}{w:World}(H:bN G Z h w){op:BinOp}{t:TypeId}{ox oy:Operand}{x y v:V}(hx:c_ (dom Z) x)(hy:c_ (dom Z) y)(hv:Ds E op t (Q8 ox || Q8 oy) x y h=U v) :
  e_ P G Z h w (do eqGuard op t ox oy (ren Z x) (ren Z y);binOp op t (ren Z x) (ren Z y)) v h:=by
 unfold Ds at hv;split at hv
 ·rename_i b1 o1 b2 o2 hk;split at hv
  ·rename_i r hr;split at hv
   ·rename_i e hd;split at hv
    ·rename_i re hc;split at hv
     ·rename_i z v1 l1 z2 v2 l2 hz g1 g2;simp only[c_]at hx hy;have h2:re.size≠0:=fun q=>by rw[q]at hz;cases hz
      split at hv
      ·rename_i C;cases hv;have T:z≠1:=fun q=>by rw[q]at C;cases C
       have hq:=J9q E H hr hd hc h2 (o1:=o1) (o2:=o2) hx.1 hy.1 g1 g2 T;refine e_.flat H rfl ?_;have hg:(eqGuard .eql t ox oy (ren Z (.pointer (U ⟨b1,o1,O⟩))) (ren Z (.pointer (U ⟨b2,o2,O⟩)))).run P w=.ok () w:=by simp only[ren,eqGuard];simp
       have h1:binOp .eql t (ren Z (.pointer (U ⟨b1,o1,O⟩))) (ren Z (.pointer (U ⟨b2,o2,O⟩)))=(do pure (.bool (<- Op.equal t (ren Z (.pointer (U ⟨b1,o1,O⟩))) (ren Z (.pointer (U ⟨b2,o2,O⟩)))))):=by simp only[ren];rfl
       simp only[aq,hg,ae,h1,hq,aN]
      ·rename_i C;cases hv;have T:z≠1:=fun q=>by rw[q]at C;cases C
       have hq:=J9q E H hr hd hc h2 (o1:=o1) (o2:=o2) hx.1 hy.1 g1 g2 T;refine e_.flat H rfl ?_;have hg:(eqGuard .neq t ox oy (ren Z (.pointer (U ⟨b1,o1,O⟩))) (ren Z (.pointer (U ⟨b2,o2,O⟩)))).run P w=.ok () w:=by simp only[ren,eqGuard];simp
       have h1:binOp .neq t (ren Z (.pointer (U ⟨b1,o1,O⟩))) (ren Z (.pointer (U ⟨b2,o2,O⟩)))=(do pure (.bool (!(<- Op.equal t (ren Z (.pointer (U ⟨b1,o1,O⟩))) (ren Z (.pointer (U ⟨b2,o2,O⟩))))))):=by simp only[ren];rfl
       simp only[aq,hg,ae,h1,hq,aN]
      ·cases hv
     ·cases hv
    ·cases hv
   ·cases hv
  ·cases hv
 ·cases hv
def Xa{P:Program}(E:iS P)(op:BinOp)(t:TypeId)(k:Bool)(x y:V)(h:N):Option V:=match Yx E op t k x y with
 | some v=>U v
 | none=>Ds E op t k x y h
def Q_{P:Program}{E:iS P}{op:BinOp}{t:TypeId}{k:Bool}{x y v:V}{h:N}(e:Yx E op t k x y=U v):Xa E op t k x y h=U v:=by simp only[Xa,e]
def J87{P:Program}(E:iS P){G:Bs}{Z:Ren}{h:N}{w:World}(H:bN G Z h w){op:BinOp}{t:TypeId}{C T:Operand}{x y v:V}(hx:c_ (dom Z) x)(hy:c_ (dom Z) y)(hv:Xa E op t (Q8 C || Q8 T) x y h=U v) :
  e_ P G Z h w (do eqGuard op t C T (ren Z x) (ren Z y);binOp op t (ren Z x) (ren Z y)) v h:=by
 unfold Xa at hv;split at hv
 next u hu=>cases hv;exact Vax E H hu
 ·exact J8h E H hx hy hv
def N6{P:Program}(E:iS P)(t:TypeId):Bool:=match E.ty.A t with
 | some r=>match r.desc with
  | .pointer _=>Y
  | _=>J
 | none=>J
def P5{P:Program}{E:iS P}{op:BinOp}{t:TypeId}{k:Bool}{x y:V}(T:(k || !N6 E t)=Y)(h h':N):Xa E op t k x y h=Xa E op t k x y h':=by
 have n:∀ C,Ds E op t k x y C=O:=by
  intro C;cases hv:Ds E op t k x y C with
  | none=>rfl
  | some v =>
   unfold Ds at hv;split at hv
   ·split at hv
    ·rename_i r hr;split at hv
     next e hd=>simp[N6,hr,hd]at T
     ·cases hv
    ·cases hv
   ·cases hv
 unfold Xa;rw[n h,n h']
end Go.Ab
