import Derived.Test.YtmgonkaadhbnpaaGreatDoorAbA
import Derived.IntWalk
import Derived.Lib.ConvBytes
import Derived.Laws.BytesString
import Derived.WideKeyRuns
import Derived.Maps.RangeRun
import Derived.KernelRfl
set_option linter.all false
open List renaming length→L
open Option renaming some→U,none→O
open Bool renaming true→Y,false→J
open Go renaming Value→V
open Go.Value renaming int→I,slice→M
open Go.IntKind renaming i64→X
open Go.Ab.Blk renaming cells→S
noncomputable section
namespace Go.Ab
section
variable{P:Program}{M_:Ren}{h:N}{w:World}
def B3(op:UnOp)(x:V):Option V:=if flat x then ja (Op.unary op x)else O
def Wag{G:Bs}(H:c_ G M_ h w){op:UnOp}{x v:V}(hv:B3 op x=U v):e_ P G M_ h w (Op.unary op (b_ M_ x)) v h:=by
 unfold B3 at hv;split at hv
 next C=>obtain⟨h1,j⟩:=SG (P:=P) hv;exact e_.flat H h1 (by rw[tf M_ C];exact j w)
 ·cases hv
def uL(E:jo P)(j dst:TypeId)(x:V):Option V :=
 match E.ty.A j,E.ty.A dst with
 | some _,U d =>
  match d.desc,x with
  | .int k,.int _ n=>U (.int k (k.wrap n))
  | .string,.string s=>U (.string s)
  | _,_=>O
 | _,_=>O
def Uh7(E:jo P)(H:c_ E.G M_ h w){j dst:TypeId}{x v:V}(hv:uL E j dst x=U v):e_ P E.G M_ h w (convert j dst (b_ M_ x)) v h:=by
 unfold uL at hv;split at hv
 ·rename_i s d hs hd;split at hv
  next k q n C=>cases hv;refine e_.flat H rfl ?_;simp only[convert,aw,run_underlying (E.K j s hs).1,run_underlying (E.K dst d hd).1,ak,C,kO];rfl
  next b C=>cases hv;refine e_.flat H rfl ?_;simp only[convert,aw,run_underlying (E.K j s hs).1,run_underlying (E.K dst d hd).1,ak,C,jV];rfl
  ·cases hv
 ·cases hv
def iC(E:jo P)(t:TypeId)(x:V)(h:N):Option V :=
 match E.ty.A t with
 | none=>O
 | some r =>
  match r.desc,x with
  | .string,.string s=>U (I X s.size)
  | .array n _,_=>U (I X n)
  | .pointer a,_=>match E.ty.A a with
   | some C=>match C.desc with
    | .array n _=>U (I X n)
    | _=>O
   | none=>O
  | .slice _,.slice _ n _=>U (I X n)
  | .map _ _,.map O=>U (I X 0)
  | .map _ _,.map (U b)=>match h.A b with
   | some (.map j _)=>U (I X j.size)
   | _=>O
  | _,_=>O
def yV(G:Bs)(H:c_ G M_ h w){b:Nat}(hb:dom M_ b){j:Array MapEntry}{clk:Nat}(hg:h.A b=U (.map j clk)) :
  (getObj (jD M_ b)).run P w=.ok (.map (j.map (jH M_)) clk) w:=by
 obtain⟨p,C⟩:=bf.1 hb;obtain⟨_,T,_⟩:=H.fits b p _ C hg;simp[getObj,Sem.run,jD,C,T]
def U4o(E:jo P)(H:c_ E.G M_ h w){t:TypeId}{ty:TypeId}{x v:V}(hx:d_ (dom M_) x)(hv:iC E t x h=U v) :
  e_ P E.G M_ h w (Builtin.len_ #[t] ty #[b_ M_ x]) v h:=by
 unfold iC at hv;cases hr:E.ty.A t with
 | none=>grind
 | some r =>
  simp only[hr]at hv;have j:=(E.K t r hr).1;split at hv
  next hd=>cases hv;exact e_.flat H rfl (by simp[Builtin.len_,run_underlying j,hd,goInt])
  next hd=>cases hv;exact e_.flat H rfl (by simp[Builtin.len_,run_underlying j,hd,goInt])
  ·rename_i a hd;split at hv
   ·rename_i ra T;split at hv
    next n e C=>cases hv;exact e_.flat H rfl (by simp[Builtin.len_,run_underlying j,hd,run_underlying (E.K a ra T).1,C,goInt])
    ·cases hv
   ·cases hv
  next hd=>cases hv;exact e_.flat H rfl (by simp[Builtin.len_,run_underlying j,hd,goInt,b_])
  next hd=>cases hv;exact e_.flat H rfl (by simp[Builtin.len_,run_underlying j,hd,goInt,b_])
  ·rename_i b hd;split at hv
   next es clk hg=>cases hv;simp only[d_]at hx;exact e_.flat H rfl (by simp[Builtin.len_,run_underlying j,hd,goInt,b_,yV E.G H hx hg])
   ·cases hv
  ·cases hv
def Ic(E:jo P)(t:TypeId)(x:V):Option V :=
 match E.ty.A t,x with
 | some r,.slice _ _ c=>match r.desc with
  | .slice _=>if c == iJ then O else U (I X c)
  | _=>O
 | _,_=>O
def U5n(E:jo P)(H:c_ E.G M_ h w){t:TypeId}{ty:TypeId}{x v:V}(hv:Ic E t x=U v) :
  e_ P E.G M_ h w (Builtin.cap_ #[t] ty #[b_ M_ x]) v h:=by
 unfold Ic at hv;split at hv
 ·rename_i r a n c C;split at hv
  ·rename_i e hd;split at hv
   ·cases hv
   next T=>cases hv;have j:c≠iJ:=(by grind);exact e_.flat H rfl (by simp[Builtin.cap_,run_underlying (E.K t r C).1,hd,goInt,xj _ _ _ _ j])
  ·cases hv
 ·cases hv
def Bf(E:jo P)(t:TypeId)(x:V):Option V :=
 match E.ty.A t with
 | some r=>match r.desc with
  | .interface _=>O
  | _=>U (.iface t x)
 | none=>O
def Uio(E:jo P)(H:c_ E.G M_ h w){t:TypeId}{x v:V}(C:d_ (dom M_) x)(hv:Bf E t x=U v) :
  e_ P E.G M_ h w (Instr.makeInterface t (b_ M_ x)) v h:=by
 unfold Bf at hv;split at hv
 ·rename_i r j;split at hv
  ·cases hv
  next hd=>cases hv;refine e_.plain H (by simpa only[d_]using C) ?_;simp only[Instr.makeInterface,aw,run_underlying (E.K t r j).1,ak,mD];rfl
 ·cases hv
def Cf(fn:Fn)(first captured:List V):Option V :=
 match fn with
 | .func f=>U (.func (.func f) first.toArray captured.toArray)
 | _=>O
def Upx{G:Bs}(H:c_ G M_ h w){fn:Fn}{first captured:List V}{v:V}(h1:∀ x ∈ first,d_ (dom M_) x)(j:∀ x ∈ captured,d_ (dom M_) x)(hv:Cf fn first captured=U v) :
  e_ P G M_ h w (Instr.makeFunc fn (first.map (b_ M_)).toArray (captured.map (b_ M_)).toArray) v h:=by
 unfold Cf at hv;split at hv
 ·cases hv;exact e_.plain H (by simp only[d_,wQ];grind) (by simp[Instr.makeFunc,b_,vC,uo])
 ·cases hv
def GZ(x:V):Option V :=
 match x with
 | .pointer O | .nilIface | .nilFunc=>O
 | .func (.method _) _ _=>O
 | x=>U x
def V79 {x v : V} (hv : GZ x = U v) (w : World) (n : Option Tmp) (j : Operand) (ty : TypeId) (p : String) (C : Array Edge) (g : Option (Nat × Bool)) (ρ : Operand -> V) (T : ρ j = b_ M_ x) :
    v = x /\ (execOp ρ { dst := n, op := .nilCheck j, type := ty, pos := p, after := C, guard := g }).run P w = .ok (.value (b_ M_ v)) w := by
  unfold GZ at hv;split at hv <;> first
    | grind
    | (cases hv
       refine ⟨rfl, ?_⟩;rename_i n1 n2 n3 n4;simp only [execOp,T];cases x with
       | pointer a => cases a with
         | none => exact absurd rfl n1
         | some a => rfl
       | nilIface => exact absurd rfl n2
       | nilFunc => exact absurd rfl n3
       | func fn f c => cases fn <;> first | rfl | exact absurd rfl (n4 _ _ _)
       | _ => rfl)
def zN(E:jo P)(x:V)(t:TypeId)(ok:Bool):Option V :=
 match E.ty.A t with
 | none=>O
 | some r =>
  match r.desc with
  | .interface _=>O
  | _=>match x with
   | .nilIface=>if ok then U (.tuple #[r.zero,.bool J])else O
   | .iface u v=>if u=t then U (if ok then .tuple #[v,.bool Y]else v)else if ok then U (.tuple #[r.zero,.bool J])else O
   | _=>O
def Uqg(E:jo P)(H:c_ E.G M_ h w){x v:V}{xt t:TypeId}{ok:Bool}(hx:d_ (dom M_) x)(hv:zN E x t ok=U v) :
  e_ P E.G M_ h w (Instr.typeAssert (b_ M_ x) xt t ok) v h:=by
 unfold zN at hv;cases hr:E.ty.A t with
 | none=>grind
 | some r =>
  simp only[hr]at hv;have ho:=E.K t r hr;obtain⟨hu,i,hi,_,_,hz,hf,_⟩:=ho;have hk:flat (.tuple #[r.zero,.bool J])=Y:=by simp[flat,iS,lq,hf]
  split at hv
  ·cases hv
  ·rename_i hd;split at hv
   ·split at hv
    next C=>cases hv;subst C;refine e_.flat H hk ?_;simp only[Instr.typeAssert,aw,run_underlying hu,ak,rj];simp[vZ (E.K t r hr)]
    ·cases hv
   ·rename_i u y;have j:∀ h2,(if u=t then(pure (if ok then .tuple #[b_ M_ y,.bool Y]else b_ M_ y):Sem V)else
      (if ok then(do pure (.tuple #[<- zeroValue t,.bool J]))else runtimePanic (.typeAssertion (U xt) (U u) t ""))).run P w=h2 ->
      (Instr.typeAssert (.iface u (b_ M_ y)) xt t ok).run P w=h2:=by
     intro h2 hc;rw[<- hc];simp only[Instr.typeAssert,aw,run_underlying hu,ak]
    split at hv
    next T=>cases hv;simp only[d_]at hx;refine e_.plain H (by cases ok <;> simp[zY,d_,hx]) ?_;rw[mD];refine j _ ?_;rw[if_pos T];cases ok <;> simp
    ·rename_i T;split at hv
     next C=>cases hv;subst C;refine e_.flat H hk ?_;rw[mD];refine j _ ?_;rw[if_neg T];simp[vZ (E.K t r hr)]
     ·cases hv
   ·cases hv
def Gv(E:jo P)(t:TypeId)(x:V):Option V :=
 match E.ty.A t,x with
 | some r,.slice a n _=>match r.desc with
  | .array m _=>if Nat.ble m n then U (.pointer a)else O
  | _=>O
 | _,_=>O
def Uol(E:jo P)(H:c_ E.G M_ h w){t:TypeId}{x v:V}(j:d_ (dom M_) x)(hv:Gv E t x=U v) :
  e_ P E.G M_ h w (Instr.arrayAt t (b_ M_ x)) v h:=by
 unfold Gv at hv;split at hv
 ·rename_i r a n c T;split at hv
  ·rename_i m e hd;split at hv
   next hc=>cases hv;have C:m<=n:=(by simp_all);refine e_.plain H (by cases a <;> simp only[d_]at j ⊢;exact j) ?_;simp only[Instr.arrayAt,aw,run_underlying (E.K t r T).1,hd,ak,b_];rw[if_neg iA];rfl
   ·cases hv
  ·cases hv
 ·cases hv
def DH(mx:Bool)(args:List V):Option V :=
 if lq args then ja (if mx then Builtin.max_ #[] 0 args.toArray else Builtin.min_ #[] 0 args.toArray)else O
def Vqb{G:Bs}(H:c_ G M_ h w){mx:Bool}{args:List V}{v:V}(ts:Array TypeId)(ty:TypeId)(hv:DH mx args=U v) :
  e_ P G M_ h w (if mx then Builtin.max_ ts ty (args.map (b_ M_)).toArray else Builtin.min_ ts ty (args.map (b_ M_)).toArray) v h:=by
 unfold DH at hv;split at hv
 ·rename_i T;obtain⟨h1,C⟩:=SG (P:=P) hv;have j:∀ l:List V,lq l=Y->∀ u ∈ l,flat u=Y:=by
   intro l;induction l with
   | nil=>simp
   | cons u l ih=>intro hl v hv;simp only[lq,ax]at hl;grind
  rw[yM M_ args (j args T)];refine e_.flat H h1 ?_;have:=C w;cases mx <;> exact this
 ·cases hv
end
section
variable{P:Program}{G:Bs}{M_:Ren}{h:N}{w:World}
def c_.move(H:c_ G M_ h w){b:Nat}{p:Place}{x:Blk}(hb:M_ b=U p)(hg:h.A b=U x)(ho:x.own=Y) :
  c_ G (Ren.add M_ h.Q p) ((h.set b O).push x) w/\ig M_ h w (Ren.add M_ h.Q p) ((h.set b O).push x) w:=by
 have hp:=(H.dom b p hb).1;have j:∀ c q,Ren.add M_ h.Q p c=U q->(c=h.Q/\q=p)∨(c < h.Q/\M_ c=U q):=by
  intro c q hc;unfold Ren.add at hc;split at hc
  ·grind
  ·exact .inr ⟨(H.dom c q hc).1,hc⟩
 have hB:h.own b=Y:=by rw[wJ hg];exact ho
 have hA:(h.set b O).Q=h.Q:=rfl;have hk:∀ c,((h.set b O).push x).A c=if h.Q=c then U x else if b=c then O else h.A c:=by
  intro c;rw[N.F,hA];split
  ·rfl
  ·rw[gY hp]
 have hr:∀ c,((h.set b O).push x).own c=if h.Q=c then Y else if b=c then J else h.own c:=by
  intro c;rw[Af,hA,vP hp,ho]
 have hl:∀ c,((h.set b O).push x).live c=if h.Q=c then Y else if b=c then J else h.live c:=by
  intro c;rw[Sx,hA,NH hp,i6 ho]
 constructor
 ·refine⟨fun c q hc => ?_,fun c q y hc C => ?_,fun c d q r hc hd hu T hx => ?_,fun g e1 => ?_,dY H.globs,fun c y C => ?_,fun c q y hc C => ?_,H.bsz⟩
  ·rcases j c q hc with⟨rfl,rfl⟩ | ⟨h1,h2⟩
   ·exact⟨bY _,(H.dom _ _ hb).2⟩
   ·exact⟨ce h1,(H.dom c q h2).2⟩
  ·rw[hk]at C;rcases j c q hc with⟨rfl,rfl⟩ | ⟨h1,h2⟩
   ·simp only[if_true]at C;cases C;exact(H.fits b _ _ hb hg).keep (H.add_dom _) rfl
   ·rw[if_neg iA]at C;split at C
    ·cases C
    ·exact(H.fits c q y h2 C).keep (H.add_dom p) rfl
  ·rw[hr]at T;rw[hl]at hx;rcases j c q hc with⟨rfl,rfl⟩ | ⟨h1,h2⟩
   ·rcases j d r hd with⟨rfl,rfl⟩ | ⟨h3,h4⟩
    ·omega
    ·rw[if_neg iA]at hx;split at hx
     ·cases hx
     next a2=>exact H.apart b d _ r hb h4 a2 hB hx
   ·rcases j d r hd with⟨rfl,rfl⟩ | ⟨h3,h4⟩
    ·rw[if_neg iA]at T;split at T
     ·cases T
     next hn=>exact H.apart c b q _ h2 hb (fun e=>hn e.symm) T (NK hB)
    ·rw[if_neg iA]at T;rw[if_neg iA]at hx;split at T
     ·cases T
     ·split at hx
      ·cases hx
      ·exact H.apart c d q r h2 h4 hu T hx
  ·have:=H.globs;refine⟨by rw[i5 M_ h.Q p g iA];exact(H.glob g e1).1,?_⟩;rw[hr,if_neg iA];split
   ·rfl
   ·exact(H.glob g e1).2
  ·rw[hk]at C;split at C
   ·cases C;exact AY (fun c hc=>ce hc) (H.wf b x hg)
   ·split at C
    ·cases C
    ·exact AY (fun c hc=>ce hc) (H.wf c y C)
  ·rw[hk]at C;rcases j c q hc with⟨rfl,rfl⟩ | ⟨h1,h2⟩
   ·simp only[if_true]at C;cases C;exact H.base b _ _ hb hg
   ·rw[if_neg iA]at C;split at C
    ·cases C
    ·exact H.base c q y h2 C
 ·refine⟨ai _,fun k _ _=>rfl,fun c q hc T => ?_,rfl,rfl,rfl,ai _,bJ _⟩
  grind
def sf(size n:Nat)(x:V)(h:N):Option (List V) :=
 match x with
 | M (U a) _ _=>cellsAt h a (n*size)
 | M O _ _=>U []
 | .string s=>U ((s.data.toList.take n).map fun b => .int .u8 b.toNat)
 | _=>O
def wK(x:V):Option Nat :=
 match x with
 | .slice _ n _=>U n
 | .string s=>U s.size
 | _=>O
def V8u{x:V}{n:Nat}(j:wK x=U n)(w:World):(Builtin.lenOf (b_ M_ x)).run P w=.ok n w:=by
 unfold wK at j;split at j <;> first
  | (cases j;simp[Builtin.lenOf,b_];done)
  | cases j
def Om(H:c_ G M_ h w){size n:Nat}{x:V}{l:List V}(C:d_ (dom M_) x)(j:sf size n x h=U l) :
  (∀ v ∈ l,d_ (dom M_) v/\v.oneCell'=Y)/\(Builtin.firstCells size n (b_ M_ x)).run P w=.ok (l.map (b_ M_)).toArray w:=by
 unfold sf at j;split at j
 next a _ _=>simp only[d_]at C;exact⟨(Cu H C.1 C.2 j).2.1,by simp only[b_,aQ,Builtin.firstCells];exact Gj H C.1 C.2 j⟩
 ·cases j;exact⟨jA,by simp[b_,Builtin.firstCells]⟩
 ·rename_i s;cases j;have T:∀ v ∈ (s.data.toList.take n).map (fun b=>I .u8 b.toNat),∃ k i,v=.int k i:=by
   grind
  refine⟨fun v hv => ?_,?_⟩
  ·obtain⟨k,i,rfl⟩:=T v hv;exact⟨by simp[d_],rfl⟩
  ·rw[yM M_ _ (fun v hv=>by obtain⟨k,i,rfl⟩:=T v hv;rfl)];simp only[jV,Builtin.firstCells,bg];congr 1;apply dj;simp
 ·cases j
def rV(E:jo P)(t:TypeId)(dst C:V)(h:N):Option (V × N) :=
 match E.ty.A t,dst with
 | some r,.slice base j _=>match r.desc,wK C with
  | .slice e,U sl=>match E.ty.A e with
   | some re=>match sf re.size (Nat.min sl j) C h with
    | some l=>match base,l with
     | none,_=>U (I X (Nat.min sl j),h)
     | _,[]=>U (I X (Nat.min sl j),h)
     | some a,v::l=>(storeAt h a (v::l)).map fun T=>(I X (Nat.min sl j),T)
    | none=>O
   | none=>O
  | _,_=>O
 | _,_=>O
def Uya(E:jo P)(H:c_ E.G M_ h w){t tx ty:TypeId}{dst C v:V}{h':N}(hd:d_ (dom M_) dst)(hs:d_ (dom M_) C)(hv:rV E t dst C h=U (v,h')) :
  e_ P E.G M_ h w (Builtin.copy_ #[t,tx] ty #[b_ M_ dst,b_ M_ C]) v h':=by
 unfold rV at hv;split at hv
 ·rename_i r base T c hr;split at hv
  ·rename_i e sl h2 hb;split at hv
   ·rename_i re hk;split at hv
    ·rename_i l hl;obtain⟨s1,s2⟩:=Om (P:=P) H hs hl;have j:∀ hx,((match base with | some a=>storeCells (jS M_ a) (l.map (b_ M_)) | none=>pure ()).run P w).andThen (fun _ w' => .ok (I X (Nat.min sl T)) w')=hx ->
       (Builtin.copy_ #[t,tx] ty #[b_ M_ (.slice base T c),b_ M_ C]).run P w=hx:=by
      intro hx hc;rw[<- hc];cases base <;> simp[Builtin.copy_,run_underlying (E.K t r hr).1,h2,b_,V8u hb,pH (E.K _ re hk),s2,goInt]
     split at hv
     ·cases hv;exact e_.flat H rfl (j _ rfl)
     ·cases hv;exact e_.flat H rfl (j _ (by cases base <;> rfl))
     next a v0 l0=>rw[au]at hv;obtain⟨h1,h3,hq⟩:=hv;cases hq;simp only[d_]at hd;obtain⟨w',r1,r2,r3⟩:=Hd (P:=P) H hd.1 hd.2 s1 h3;exact⟨M_,w',j _ (by simp only[r1,ak,kO]),by simp[d_],iZ.refl _ _,r2,r3⟩
    ·cases hv
   ·cases hv
  ·cases hv
 ·cases hv
def z8(E:jo P)(t:TypeId)(n c:V)(h:N):Option (V × N) :=
 match E.ty.A t,n,c with
 | some r,.int _ n,.int _ c=>match r.desc with
  | .slice e=>match E.ty.A e with
   | some j =>
    if 0<=n/\n<=c/\c<=281474976710656/\j.bytes*c<=281474976710656/\1<=j.size then
     U (M (U ⟨h.Q,0,O⟩) n.toNat c.toNat,h.push (S Y 1 (mK j.zero.cells.toList c.toNat)))
    else O
   | none=>O
  | _=>O
 | _,_,_=>O
def G7{n:Int}(h0:0<=n)(h1:n<=9223372036854775807):IntKind.i64.wrap n=n:=IntWalk.i64_in _ iA
def Uxb{n c:Int}{b:Nat}(h0:0<=n)(h1:n<=c)(j:b*c<=281474976710656):(decide (c < 0) || decide ((b:Int)*c > 2 ^ 48) || decide (n < 0) || decide (n > c))=J:=by
 grind
def Vrg(E:jo P)(H:c_ E.G M_ h w){t:TypeId}{n c v:V}{h':N}(hv:z8 E t n c h=U (v,h')) :
  e_ P E.G M_ h w (Instr.makeSlice t (b_ M_ n) (b_ M_ c)) v h':=by
 unfold z8 at hv;split at hv
 ·rename_i r k n k' c hr;split at hv
  ·rename_i e hd;split at hv
   ·rename_i C j;split at hv
    ·rename_i hc;obtain⟨h0,h1,h2,h3,h4⟩:=hc;cases hv;have ho:=E.K e C j;obtain⟨_,i,hi,_,hk,_,hf,hn,hB,_⟩:=ho;have hz:∀ v ∈ mK C.zero.cells.toList c.toNat,d_ (dom M_) v/\v.oneCell'=Y:=fun v hv=>Ew hf hn (dom M_) v (A' hv);have hy:=yM M_ (mK C.zero.cells.toList c.toNat) (fun v hv=>EG hf hn v (A' hv));have hg:=J9d (P:=P) H e hz n.toNat c.toNat (by unfold iJ;omega);rw[hy]at hg;obtain⟨M',w',r1,r2⟩:=hg;refine⟨M',w',?_,r2⟩;rw[<- r1];have hA:IntKind.i64.wrap n=n:=G7 h0 iA;have hp:IntKind.i64.wrap c=c:=G7 iA iA;have hb:∀ w:World,(typeInfo e).run P w=.ok i w:=fun w=>by simp[typeInfo,hi]
     simp only[Instr.makeSlice,aw,run_underlying (E.K t r hr).1,hd,ak,kO,asInt,asIntOf,bg,hb,hk,hA,hp,dL];have hg:=Uxb h0 h1 h3;simp only[hg,az,if_false,run_askRoom,ak,pH (E.K e C j)];by_cases T:c.toNat*C.size=0
     ·have hx:c.toNat=0:=by rcases f7.1 T with h | h <;> omega
      have hl:∀ f:Nat->V,(Array.range 0).map f = #[]:=fun f=>by simp
      simp only[hx,fu,if_true,hl,mK,aw,bg]
     ·simp only[T,if_false,vZ (E.K e C j),ak];rw[<- hB,HV _ _ iA]
    ·cases hv
   ·cases hv
  ·cases hv
 ·cases hv
end
section
variable{P:Program}{G:Bs}{M_:Ren}{h:N}{w:World}
def sN(E:jo P)(tx:TypeId)(j:ir)(x:V)(h:N):Option (Nat × List V) :=
 match E.ty.A tx with
 | none=>O
 | some C=>match C.desc with
  | .int _=>match x with
   | .int _ n=>if 0<=n/\n<=140737488355328/\j.bytes*n<=140737488355328/\1<=j.size then U (n.toNat,mK j.zero.cells.toList n.toNat)else O
   | _=>O
  | _=>match wK x with
   | some n=>match sf j.size n x h with
    | some l=>U (n,l)
    | none=>O
   | none=>O
def kU(E:jo P)(t tx:TypeId)(s x:V)(h:N):Option (V × N) :=
 match E.ty.A t,s with
 | some r,.slice base n c=>match r.desc with
  | .slice e=>match E.ty.A e with
   | none=>O
   | some re=>if !(Nat.ble 1 re.size)then O else match sN E tx re x h with
    | none=>O
    | some (m,C) =>
     let j:=n+m
     if L C != m*re.size then O else
     if c != iJ && Nat.ble j c then
      match base,C with
      | _,[]=>U (.slice base j c,h)
      | some a,v::l=>(storeAt h (a.add (n*re.size)) (v::l)).map fun h'=>(.slice base j c,h')
      | none,_=>O
     else if !(Nat.ble (j*re.bytes) 140737488355328 && Nat.ble j 140737488355328)then O
     else if c != iJ then
      match (match base with | none=>if n == 0 then U []else O | some a=>cellsAt h a (n*re.size))with
      | some T=>U (M (U ⟨h.Q,0,O⟩) j iJ,h.push (S Y re.size (T++C)))
      | none=>O
     else match base with
      | none=>O
      | some a=>match h.A a.block with
       | some (S Y sz cs) =>
        if !(sz == re.size && a.off % sz == 0)then O
        else if Nat.ble (a.off+j*sz) (L cs) then
         match C with
         | []=>U (.slice base j iJ,h)
         | v::l=>(storeAt h (a.add (n*sz)) (v::l)).map fun h'=>(.slice base j iJ,h')
        else if a.off == 0 then
         match nQ (n*sz) cs with
         | some T=>U (M (U ⟨h.Q,0,O⟩) j iJ,(h.set a.block O).push (S Y sz (T++C)))
         | none=>O
        else O
       | _=>O
  | _=>O
 | _,_=>O
def Oa(P:Program)(T:ir)(tx:TypeId)(x:V)(m:Nat)(j:Array V)(w:World):Prop :=
 (∃ d,P.underlying tx=U d/\(∀ k,d ≠ .int k)/\∀ C:World,C.heap=w.heap->(Builtin.lenOf x).run P C=.ok m C/\(Builtin.firstCells T.size m x).run P C=.ok j C) ∨
 (∃ k q i,P.underlying tx=U (.int k)/\x=.int q i/\0<=i/\i<=140737488355328/\T.bytes*i<=140737488355328/\1<=T.size/\m=i.toNat/\j=(mK T.zero.cells.toList m).toArray)
def Mk{t tx ty e:TypeId}{re:ir}(hu:P.underlying t=U (.slice e))(j:vg P e re)(base:Option Addr)(n c m:Nat)(x:V)(hx:Array V)
  (hn:Oa P re tx x m hx w) (C:n+m<=c) :
  (Builtin.append_ #[t,tx] ty #[.slice base n c,x]).run P w =
   ((match base with | some a=>storeCells (a.add (n*re.size)) hx.toList | none=>pure ()).run P w).andThen fun _ w' => .ok (.slice base (n+m) c) w':=by
 have ho:=j;obtain⟨_,i0,hi,_,hy,_,_,_,a2,_⟩:=ho;rcases hn with⟨d,hd,e1,hr⟩ | ⟨k,q,i,hd,rfl,h0,h1,h2,h3,rfl,rfl⟩
 ·obtain⟨r1,r2⟩:=hr w rfl;cases base <;> simp[Builtin.append_,run_underlying hu,run_underlying hd,pH j,r1,r2,C]
 ·have hw:IntKind.i64.wrap i=i:=G7 h0 iA;have hb:¬ i < 0:=iA
  have hk:¬ (i*(re.bytes:Int) > 281474976710656):=by grind
  have hc:¬ (281474976710656 < i*(re.bytes:Int)):=hk;have hp:∀ w:World,(typeInfo e).run P w=.ok i0 w:=fun w=>by simp[typeInfo,hi]
  have hB:Builtin.zeroCells re.zero.cells i.toNat=(mK re.zero.cells.toList i.toNat).toArray:=HV _ _ iA;by_cases hm:i.toNat=0
  ·have hA:i=0:=iA
   subst hA;have T:n<=c:=iA
   cases base <;> simp[Builtin.append_,run_underlying hu,run_underlying hd,pH j,asInt,asIntOf,hw,hp,T,mK]
  ·have hl:¬ (i.toNat*re.size=0):=by
    intro h;rcases f7.1 h with h | h <;> omega
   cases base <;> simp[Builtin.append_,run_underlying hu,run_underlying hd,pH j,asInt,asIntOf,hw,hb,hp,hy,hc,C,vZ j,hB,hl]
def UT{t tx ty e:TypeId}{T:ir}(hu:P.underlying t=U (.slice e))(C:vg P e T)(base:Option Addr)(n c m:Nat)(x:V)(hb hr:Array V)
  (hn:Oa P T tx x m hb w) (hq:∀ w':World,w'.heap=w.heap->(Builtin.firstCells T.size n (.slice base n c)).run P w'=.ok hr w') (hk:c < n+m)
  (h4:(n+m)*T.bytes<=140737488355328) (q1:n+m<=140737488355328) :
  ∃ nc,n+m<=nc/\(Builtin.append_ #[t,tx] ty #[.slice base n c,x]).run P w =
   .ok (M (U ⟨w.heap.size,0,O⟩) (n+m) nc) {w with drawn:=w.drawn+1,heap:=w.heap.push (.cells (hr++hb++Builtin.zeroCells T.zero.cells (nc-(n+m))) e)}:=by
 have ho:=C;obtain⟨_,i0,hi,_,a2,_,_,_,es,_⟩:=ho;have a1:=grownCap_ge w (n+m) c e;refine⟨grownCap w (n+m) c e,a1,?_⟩;have hA:¬ (n+m<=c):=iA
 have hz:¬ (9223372036854775807 < ((n:Int)+(m:Int))):=iA
 have hp:¬ (281474976710656 < Builtin.nextslicecap (n+m) c*T.bytes):=by
  have:=growslice_fits (old:=c) (need:=n+m) hk h4;omega
 have v':∀ w:World,(typeInfo e).run P w=.ok i0 w:=fun w=>by simp[typeInfo,hi]
 have j:=hq w.drew rfl;rcases hn with⟨d,hd,g1,hl⟩ | ⟨k,q,i,hd,rfl,h0,h1,h2,h3,rfl,rfl⟩
 ·obtain⟨r1,_⟩:=hl w rfl;obtain⟨_,r2⟩:=hl w.drew rfl;simp[Builtin.append_,run_underlying hu,run_underlying hd,pH C,r1,r2,hA,hz,hp,v',a2,Question.forced,j,vZ C,newRow,grownCap];rfl
 ·have hw:IntKind.i64.wrap i=i:=G7 h0 iA;have M':¬ i < 0:=iA
  have hB:¬ (i*(T.bytes:Int) > 281474976710656):=by grind
  have hx:¬ (281474976710656 < i*(T.bytes:Int)):=hB;have hg:Builtin.zeroCells T.zero.cells i.toNat=(mK T.zero.cells.toList i.toNat).toArray:=HV _ _ iA;have hy:¬ (9223372036854775807 < (n:Int)+max i 0):=iA
  by_cases hm:i.toNat=0
  ·have q2:i=0:=iA
   subst q2;have e1:n+(0:Int).toNat=n:=jA
   rw[e1]at hA hp a1 ⊢;have hc:¬ (9223372036854775807 < (n:Int)):=iA
   simp[Builtin.append_,run_underlying hu,run_underlying hd,pH C,asInt,asIntOf,hw,v',a2,hA,hc,hp,Question.forced,j,vZ C,newRow,grownCap,mK];rfl
  ·have e2:¬ (i.toNat*T.size=0):=by
    intro h;rcases f7.1 h with h | h <;> omega
   simp[Builtin.append_,run_underlying hu,run_underlying hd,pH C,asInt,asIntOf,hw,M',v',a2,hx,hA,hy,hp,Question.forced,j,vZ C,hg,e2,newRow,grownCap];rfl
def Uzj(E:jo P)(H:c_ G M_ h w){tx:TypeId}{re:ir}{x:V}{m:Nat}{j:List V}(hx:d_ (dom M_) x){e:TypeId}(h2:vg P e re)
  (hv:sN E tx re x h=U (m,j)):(∀ v ∈ j,d_ (dom M_) v/\v.oneCell'=Y)/\Oa P re tx (b_ M_ x) m (j.map (b_ M_)).toArray w:=by
 unfold sN at hv;split at hv
 ·cases hv
 ·rename_i rx C;split at hv
  ·rename_i k hd;split at hv
   ·rename_i q i;split at hv
    next T=>cases hv;obtain⟨_,_,_,_,_,_,hf,hn,h3,_⟩:=h2;have hr:=yM M_ (mK re.zero.cells.toList i.toNat) (fun v hv=>EG hf hn v (A' hv));refine⟨fun v hv=>Ew hf hn (dom M_) v (A' hv),.inr ⟨k,q,i,by rw[(E.K tx rx C).1,hd],jA,T.1,T.2.1,T.2.2.1,T.2.2.2,rfl,by rw[hr]⟩⟩
    ·cases hv
   ·cases hv
  ·rename_i hd;split at hv
   ·rename_i n hn;split at hv
    next l hl=>cases hv;refine⟨(Om (P:=P) H hx hl).1,.inl ⟨_,(E.K tx rx C).1,fun k hk=>hd k hk,fun w' hb=>⟨V8u hn w',(Om (P:=P) (H.same hb) hx hl).2⟩⟩⟩
    ·cases hv
   ·cases hv
def Ua1{p:Place}{sz:Nat}{cs:List V}(hf:mC M_ p w (S Y sz cs)):p.base=0/\L cs<=p.room*sz/\p.sz=sz/\∃ C e lo hi,w.heap[p.blk]? = U (.cells C e (lo,hi)) /\
  (∀ (i:Nat) (v:V),cs[i]? = U v->C[i]? = U (b_ M_ v)/\d_ (dom M_) v/\v.oneCell'=Y)/\pD C.size lo hi/\C.size=p.room*sz:=by
 obtain⟨hz,hf⟩:=hf;rcases hf with⟨h0,_⟩ | ⟨C,e,lo,hi,f1,f2,f3⟩
 ·cases h0
 obtain⟨j,f32,T⟩:=f3 rfl;refine⟨j,?_,hz,C,e,lo,hi,f1,fun i v hv=>by grind,f32,by grind⟩;rw[<- hz,<- T];rcases cf C.size (L cs) with hc | hx
 ·have:=(f2 C.size _ (ac hc)).1
  grind
 omega
def Vpd(H:c_ G M_ h w){e:TypeId}{C:ir}(hc:vg P e C){l:List V}(hl:∀ v ∈ l,d_ (dom M_) v/\v.oneCell'=Y){k nc:Nat}(hk:L l=k*C.size)(hA:k<=nc)(j:Array V)
  (T:j=Builtin.zeroCells C.zero.cells (nc-k)) {w':World} (h2:w' = {w with drawn:=w.drawn+1,heap:=w.heap.push (.cells ((l.map (b_ M_)).toArray++j) e)}) :
  ∃ M',b_ M' (M (U ⟨h.Q,0,O⟩) k iJ)=M (U ⟨w.heap.size,0,O⟩) k nc/\dom M' h.Q/\iZ h.Q M_ M'/\c_ G M' (h.push (S Y C.size l)) w'/\ig M_ h w M' (h.push (S Y C.size l)) w':=by
 obtain⟨_,i0,hi,_,h3,_,_,_,hr,_⟩:=hc;have hx:j.size=(nc-k)*C.size:=by rw[T,size_zeroCells,hr]
 let p:Place:={blk:=w.heap.size,base:=0,room:=nc,sz:=C.size,spot:=O}
 let w1:World:={w with drawn:=w.drawn+1}
 have H1:c_ G M_ h w1:=H.same rfl;have hp:=H1.push (x:=S Y C.size l) rfl (p:=p) rfl (o:=.cells ((l.map (b_ M_)).toArray++j) e) (w':=w') (by rw[h2]) (by
  refine⟨rfl,.inr ⟨(l.map (b_ M_)).toArray++j,e,0,0,by grind,fun i v hv => ?_,fun _=>⟨rfl,.inl rfl,?_⟩⟩⟩
  ·have hm:=hl v (ae hv);have hd:∀ b,dom M_ b->Ren.add M_ h.Q p b=M_ b:=H.add_dom _;refine⟨?_,iq (fun b hb=>by grind) v hm.1,hm.2⟩;rw[iB hd v hm.1]
   grind
  ·show((l.map (b_ M_)).toArray++j).size=nc*C.size;simp only[Array.size_append,fw,bo,hk,hx,<- cz]
   grind)
 refine⟨Ren.add M_ h.Q p,?_,by simp[dom,hU],i5 _ _ _,hp.1,(ig.drew M_ h w (bJ _)).trans hp.2⟩;simp[b_,jS,hU,uA,p]
end
section
variable{P:Program}{M_:Ren}{h:N}{w:World}
def OS(h:N)(b:Nat)(x y:Option Blk):(h.set b x).set b y=h.set b y:=by
 simp only[N.set,Tr.put_put,Nat.min_assoc,Nat.min_self]
def Vqk:∀ (n:Nat) (l r:List V),nQ n l=U r->r=l.take n:=fun n l r j=>by
 have:=Jf3 (n:=n) (off:=0) (cs:=l) (l:=r) (by grind)
 grind
def Up2(E:jo P)(H:c_ E.G M_ h w){t tx ty:TypeId}{s x v:V}{h':N}(hs:d_ (dom M_) s)(hx:d_ (dom M_) x)(hv:kU E t tx s x h=U (v,h')) :
  e_ P E.G M_ h w (Builtin.append_ #[t,tx] ty #[b_ M_ s,b_ M_ x]) v h':=by
 unfold kU at hv;split at hv
 ·rename_i r base n c hr;split at hv
  ·rename_i e hd;split at hv
   ·cases hv
   ·rename_i re w1;have hu:P.underlying t=U (.slice e):=by rw[(E.K t r hr).1,hd]
    have ho:=E.K e re w1;split at hv
    ·cases hv
    ·rename_i h1;have h5:1<=re.size:=(by simpa using h1);split at hv
     ·cases hv
     ·rename_i m hb q2;obtain⟨q1,es⟩:=Uzj E H hx ho q2;simp only at hv;split at hv
      ·cases hv
      ·rename_i he;have hB:L hb=m*re.size:=(by simpa using he);split at hv
       ·
        rename_i hk;simp only[ax,bne_iff_ne,ne_eq,cR]at hk;obtain⟨hc,hk⟩:=hk;have hA:=Mk (w:=w) (ty:=ty) hu ho (base.map (jS M_)) n c m (b_ M_ x) _ es hk;rw[xj _ _ _ _ hc];split at hv
        ·cases hv;refine e_.plain H (by cases base <;> simpa only[d_]using hs) ?_;rw[hA,xj _ _ _ _ hc];cases base <;> rfl
        next a v0 l0=>rw[au]at hv;obtain⟨h1,x1,hq⟩:=hv;cases hq;simp only[d_]at hs;obtain⟨w',r1,r2,r3⟩:=Hd (P:=P) H (a:=a.add (n*re.size)) (by rw[wP];exact hs.1) (xM _ _ hs.2) q1 x1;refine⟨M_,w',?_,by simpa only[d_]using hs,iZ.refl _ _,r2,r3⟩;rw[hA,xj _ _ _ _ hc];rw[yu M_ a hs.1 hs.2]at r1;simp only[aQ,r1,ak]
        ·cases hv
       ·rename_i hn;split at hv
        ·cases hv
        ·rename_i hy;simp only[cx,ee,ax,cR]at hy;obtain⟨hy,g3⟩:=hy;split at hv
         ·
          rename_i hc;have hw:c≠iJ:=(by simpa using hc);have eA:c < n+m:=by
           simp only[ax,bne_iff_ne,ne_eq,cR,not_and]at hn;exact Nat.lt_of_not_le (hn hw)
          split at hv
          ·rename_i j hl;cases hv;have q4:L j=n*re.size/\(∀ v ∈ j,d_ (dom M_) v/\v.oneCell'=Y)/\∀ w':World,w'.heap=w.heap->(Builtin.firstCells re.size n (.slice (base.map (jS M_)) n c)).run P w'=.ok (j.map (b_ M_)).toArray w':=by
            split at hl
            ·split at hl
             next dv=>cases hl;have : n=0:=(by simpa using dv);subst this;exact⟨jA,jA,fun w' _=>by simp[Builtin.firstCells]⟩
             ·cases hl
            next a=>simp only[d_]at hs;have:=Cu H hs.1 hs.2 hl;refine⟨this.1,this.2.1,fun w' t4 => ?_⟩;simp only[Builtin.firstCells,aQ];exact Gj (H.same t4) hs.1 hs.2 hl
           obtain⟨hj,c0,hC⟩:=q4;obtain⟨nc,g1,g2⟩:=UT (w:=w) (ty:=ty) hu ho (base.map (jS M_)) n c m (b_ M_ x) _ _ es hC eA hy g3;obtain⟨M',e1,e2,e3,e4,e5⟩:=Vpd (w':=_) H (e:=e) ho (l:=j++hb) (fun v hv=>(ah.1 hv).elim (c0 v) (q1 v)) (k:=n+m) (nc:=nc)
            (by rw[aJ,hj,hB,cz]) g1 _ rfl rfl
           refine⟨M',_,?_,by simp only[d_];exact⟨e2,trivial⟩,e3,e4,e5⟩;rw[xj _ _ _ _ hw,g2,e1];simp
          ·cases hv
         ·
          rename_i hc;have hw:c=iJ:=(by simpa using hc);subst hw;split at hv
          ·cases hv
          ·rename_i a;simp only[d_]at hs;obtain⟨p,hp⟩:=bf.1 hs.1;split at hv
           ·rename_i sz cs hg;split at hv
            ·cases hv
            ·rename_i a2;simp only[cx,ee,ax,beq_iff_eq]at a2;obtain⟨rfl,a3⟩:=a2;obtain⟨s1,ha,q3,C,te,lo,hi,f1,f2,f3,f4⟩:=Ua1 (H.fits _ p _ hp hg);have h3:∀ k,b_ M_ (M (U a) k iJ)=M (U (jS M_ a)) k (p.room-a.off / re.size):=fun k=>by rw[Ds M_ a k hp,q3]
             obtain⟨q,hq⟩:=eO a3;have c2:a.off / re.size=q:=(by rw[hq,dE _ h5]);split at hv
             ·
              rename_i hk;have hm:a.off+(n+m)*re.size<=L cs:=by simpa using hk
              have h6:n+m<=p.room-a.off / re.size:=by
               rw[c2];have : re.size*(q+(n+m))<=re.size*p.room:=by rw[Nat.mul_add,dR re.size (n+m),dR re.size p.room,<- hq];omega
               have:=Nat.le_of_mul_le_mul_left this h5;omega
              have hA:=Mk (w:=w) (ty:=ty) hu ho (U (jS M_ a)) n _ m (b_ M_ x) _ es h6;rw[h3];split at hv
              ·cases hv;refine e_.plain H (by simpa only[d_]using hs) ?_;rw[hA,h3];rfl
              next v0 l0=>rw[au]at hv;obtain⟨h2,x1,p1⟩:=hv;cases p1;obtain⟨w',r1,r2,r3⟩:=Hd (P:=P) H (a:=a.add (n*re.size)) (by rw[wP];exact hs.1) (xM _ _ hs.2) q1 x1;refine⟨M_,w',?_,by simpa only[d_]using hs,iZ.refl _ _,r2,r3⟩;rw[hA,h3];rw[yu M_ a hs.1 hs.2]at r1;simp only[r1,ak]
             ·rename_i t9;split at hv
              ·rename_i hz;have h4:a.off=0:=(by simpa using hz);split at hv
               ·rename_i j hl;cases hv;have aB:=Vqk _ _ _ hl;have ht:L j=n*re.size:=(z_ _ _ _ hl).1;have gA:∀ v ∈ j,d_ (dom M_) v/\v.oneCell'=Y:=fun v hv=>by
                 obtain⟨i,hf⟩:=d7 hv;exact(f2 i v ((z_ _ _ _ hl).2 i v hf)).2
                have v':∀ v ∈ j++hb,d_ (dom M_) v/\v.oneCell'=Y:=fun v hv=>(ah.1 hv).elim (gA v) (q1 v);have s':cellsAt h a (n*re.size)=U j:=by
                 unfold cellsAt;rw[hg];simp only[h4,ba];exact hl
                have c1:h.own a.block=Y:=wJ hg;by_cases hk:n+m<=p.room-a.off / re.size
                ·
                 have hA:=Mk (w:=w) (ty:=ty) hu ho (U (jS M_ a)) n _ m (b_ M_ x) _ es hk;rw[h3];have p2:(n+m)*re.size<=C.size:=by rw[f4];rw[h4,Nat.zero_div]at hk;exact bV _ hk
                 obtain⟨C',r1,r2,r3⟩:=Ml (P:=P) p.blk te lo hi (hb.map (b_ M_)) (n*re.size) C w f1 f3.not (by simp[hB];rw[<- cz];exact p2)
                  (fun v hv=>by obtain⟨u,eB,rfl⟩:=am.1 hv;rw[Jsn];exact(q1 u eB).2) 0 (n*re.size) iA
                 have a1:mC M_ p (World.turned w p.blk (.cells C' te (lo,hi))) (S Y re.size (j++hb)):=by
                  refine⟨q3,.inr ⟨C',te,lo,hi,zH (H.blk_lt hp hg rfl),fun i v hv => ?_,fun _=>⟨s1,by rw[r2];exact f3,by rw[r2,f4,q3]⟩⟩⟩;refine⟨?_,v' v (ae hv)⟩;rw[s1,bW,r3 i];simp only[bo];by_cases hf:i < L j
                  ·rw[if_neg iA];rw[aN hf]at hv;exact(f2 i v ((z_ _ _ _ hl).2 i v hv)).1
                  ·rw[aL iA]at hv;have eA:i-L j < L hb:=by
                    rcases cf (i-L j) (L hb) with h | h
                    ·exact h
                    ·rw[cm h]at hv;cases hv
                   rw[if_pos iA,b7,<- ht,hv];rfl
                 obtain⟨H2,T2⟩:=H.upd hp c1 (x:=S Y re.size (j++hb)) rfl a1;have aA:(h.set a.block (U (S Y re.size (j++hb)))).A a.block=U (S Y re.size (j++hb)):=by
                  rw[gY (H.dom _ _ hp).1];simp
                 obtain⟨H3,T3⟩:=H2.move hp aA rfl;have T:=T2.trans T3;rw[OS]at H3 T;refine⟨Ren.add M_ h.Q p,_,?_,?_,i5 _ _ _,H3,T⟩
                 ·rw[hA];have e0:jS M_ a=⟨p.blk,0,O⟩:=by
                   obtain⟨b0,o0,s0⟩:=a;simp only at hs hp h4;simp[jS,hp,s1,h4,hs.2,H.spot hp hg rfl]
                  rw[e0];simp only[t_,bW,r1,ak];congr 1;simp only[b_,aQ,jS,uA,if_true];simp[hU,s1,h4,H.spot hp hg rfl]
                 ·simp only[d_];exact⟨by simp[dom,hU],trivial⟩
                ·
                 obtain⟨Hk,Tk⟩:=H.kill (H.dom _ _ hp).1;rw[h3];have hC:∀ w':World,w'.heap=w.heap->(Builtin.firstCells re.size n (M (U (jS M_ a)) n (p.room-a.off / re.size))).run P w'=.ok (j.map (b_ M_)).toArray w':=fun w' t4=>by
                  simp only[Builtin.firstCells];exact Gj (H.same t4) hs.1 hs.2 s'
                 obtain⟨nc,g1,g2⟩:=UT (w:=w) (ty:=ty) hu ho (U (jS M_ a)) n _ m (b_ M_ x) _ _ es hC (Nat.lt_of_not_le hk) hy g3;obtain⟨M',e1,e2,e3,e4,e5⟩:=Vpd (w':=_) Hk (e:=e) ho (l:=j++hb) v' (k:=n+m) (nc:=nc)
                  (by rw[aJ,ht,hB,cz]) g1 _ rfl rfl
                 refine⟨M',_,?_,by simp only[d_];exact⟨e2,trivial⟩,e3,e4,Tk.trans e5⟩;rw[g2];have x2:b_ M' (M (U ⟨h.Q,0,O⟩) (n+m) iJ)=M (U ⟨w.heap.size,0,O⟩) (n+m) nc:=e1;rw[x2];simp
               ·cases hv
              ·cases hv
           ·cases hv
  ·cases hv
 ·cases hv
end
def uS(s:ByteArray):List V:=s.data.toList.map fun b => .int .u8 b.toNat
def xY:List V->Option (List Int)
 | []=>U []
 | .int .u8 n::l=>match xY l with
  | some r=>U (n::r)
  | none=>O
 | _::_=>O
def uy{P:Program}(E:jo P)(j dst:TypeId):Bool :=
 match E.ty.A j,E.ty.A dst with
 | some s,U d=>match d.desc,s.desc with
  | .int _,_=>Y
  | .string,.string=>Y
  | _,_=>J
 | _,_=>J
def uV{P:Program}(E:jo P)(C dst:TypeId)(x:V)(h:N):Option (V × N) :=
 match E.ty.A C,E.ty.A dst,x with
 | some _,U d,.string b=>match d.desc with
  | .slice e=>match E.ty.A e with
   | some j=>match j.desc with
    | .int .u8=>U (M (U ⟨h.Q,0,O⟩) b.size iJ,h.push (S Y 1 (uS b)))
    | _=>O
   | none=>O
  | _=>O
 | some s,U d,.slice a n c=>match s.desc,d.desc with
  | .slice _,.slice e=>match C == dst,a,E.ty.A e with
   | true,U a,U j=>match j.desc,h.A a.block with
    | .int .u8,U (S Y _ _)=>U (M (U a) n c,h)
    | _,_=>O
   | _,_,_=>O
  | .slice e,.string=>match E.ty.A e with
   | some j=>match j.desc with
    | .int .u8=>match a with
     | none=>U (.string .empty,h)
     | some a=>match cellsAt h a n with
      | some l=>match xY l with
       | some bs=>U (.string ⟨⟨bs.map fun n=>UInt8.ofNat n.toNat⟩⟩,h)
       | none=>O
      | none=>O
    | _=>O
   | none=>O
  | _,_=>O
 | _,_,_=>O
section
variable{P:Program}{G:Bs}{M_:Ren}{h:N}{w:World}
def Sj:∀ {l:List V} {bs:List Int},xY l=U bs->l=bs.map (I .u8)
 | [],bs,j=>by simp[xY]at j;grind
 | v::l,bs,j=>by
  unfold xY at j;split at j
  ·grind
  ·rename_i n T e;cases e;split at j
   next r C=>cases j;simp[Sj C]
   ·cases j
  ·cases j
def Vq6(j:List Int):∀ (r:ByteArray),j.foldl (fun r n=>r.push (UInt8.ofNat n.toNat)) r=⟨r.data++(j.map fun n=>UInt8.ofNat n.toNat).toArray⟩:=by
 induction j with
 | nil=>simp
 | cons n j ih =>
  simp_all
def Jfc{h:N}{b:Nat}{x:Blk}(j:h.A b=U x)(c:Nat):h.A c=(h.set b (U x)).A c:=by
 rw[gY (N.D j)]
 grind
def U4e(H:c_ G M_ h w){a:Addr}(ha:dom M_ a.block){sz:Nat}{c:List V}(hg:h.A a.block=U (S Y sz c)) :
  ∃ w',(markStringish (jS M_ a)).run P w=.ok () w'/\c_ G M_ h w'/\ig M_ h w M_ h w':=by
 obtain⟨p,hp⟩:=bf.1 ha;have hc:=H.fits _ p _ hp hg;obtain⟨f0,f⟩:=hc;rcases f with⟨f,_⟩ | ⟨C,e,lo,hi,f1,f2,f3⟩
 ·cases f
 obtain⟨hx,f32,h2⟩:=f3 rfl;have hk:=H.blk_lt hp hg rfl
 let j:Nat × Nat:=if lo == hi then(C.size,C.size+1)else(min lo C.size,max hi (C.size+1))
 have T:pD C.size j.1 j.2:=by
  simp only[j];split
  ·exact .inr (ai _)
  ·rename_i hr;rcases f32 with h | h
   ·grind
   ·right;omega
 have hw:w.freeze {block:=p.blk,off:=C.size} 1=World.turned w p.blk (.cells C e j):=by
  unfold World.freeze World.turned;rw[if_neg kA];congr 1
  grind
 refine⟨World.turned w p.blk (.cells C e j),?_,?_⟩
 ·have hl:w.shape? p.blk=U (e,C.size):=by unfold World.shape?;rw[f1]
  simp only[markStringish,jS,hp,aw,run_shape,ak,hl,run_freeze,hw]
 ·have:=H.upd hp (wJ hg) (x:=S Y sz c) rfl (o:=.cells C e j) ⟨f0,.inr ⟨C,e,j.1,j.2,zH hk,f2,fun _=>⟨hx,T,h2⟩⟩⟩;exact⟨this.1.congr H.globs (fun b hb=>np H hb) (fun b _=>Jfc hg b) H.wf,this.2.heap (fun b _=>Jfc hg b) (ai _)⟩
def Uun(E:jo P)(H:c_ E.G M_ h w){T dst:TypeId}{x v:V}{h':N}(hx:d_ (dom M_) x)(hv:uV E T dst x h=U (v,h')):e_ P E.G M_ h w (convert T dst (b_ M_ x)) v h':=by
 unfold uV at hv;split at hv
 ·rename_i s d b hs hd;split at hv
  ·rename_i e hc;split at hv
   ·rename_i re hb;split at hv
    ·rename_i h3;cases hv;have ho:=E.K e re hb;have j:=(E.K dst d hd).1;rw[hc]at j;have C:=ho.1;rw[h3]at C;have hr:=Go.Lib.run_convert_string_bytes (P:=P) w T dst e b (E.K T s hs).1 j C;have M':=grownCap_ge w b.size 0 e;have hk:(Go.Lib.bytesWorld w e b).heap=w.heap.push (.cells (Go.Lib.bytesCells w e b) e ((Go.Lib.bytesCells w e b).size,(Go.Lib.bytesCells w e b).size+1)):=by
      apply Array.ext
      ·rw[Go.Lib.bytesWorld_size];simp
      ·intro i h1 h2;have hh:(Go.Lib.bytesWorld w e b).heap[i]? = (w.heap.push (.cells (Go.Lib.bytesCells w e b) e ((Go.Lib.bytesCells w e b).size,(Go.Lib.bytesCells w e b).size+1)))[i]? := by
        rcases cf i w.heap.size with hi | hi
        ·rw[Go.Lib.bytesWorld_at_old w e b i hi,Array.getElem?_push,if_neg iA]
        ·have : i=w.heap.size:=(by grind);subst this;rw[Go.Lib.bytesWorld_at_new];simp
       grind
     have hu:Go.Lib.bytesWorld w e b = {w with drawn:=w.drawn+1,heap:=w.heap.push (.cells (Go.Lib.bytesCells w e b) e ((Go.Lib.bytesCells w e b).size,(Go.Lib.bytesCells w e b).size+1))}:=by
      rw[<- hk];rfl
     have e2:(Go.Lib.bytesCells w e b).size=grownCap w b.size 0 e:=by
      have : b.data.size=b.size:=rfl;simp[Go.Lib.bytesCells];omega
     let p:Place:={blk:=w.heap.size,base:=0,room:=grownCap w b.size 0 e,sz:=1,spot:=O}
     let w1:World:={w with drawn:=w.drawn+1}
     have H1:c_ E.G M_ h w1:=H.same rfl;have hp:=H1.push (x:=S Y 1 (uS b)) rfl (p:=p) rfl (w':=Go.Lib.bytesWorld w e b) hu (by
      refine⟨rfl,.inr ⟨Go.Lib.bytesCells w e b,e,(Go.Lib.bytesCells w e b).size,(Go.Lib.bytesCells w e b).size+1,Go.Lib.bytesWorld_at_new w e b,fun i v hv => ?_,fun _=>⟨rfl,.inr (ai _),by grind⟩⟩⟩;have hy:i < L (uS b):=by
       grind
      have a2:i < b.data.size:=(by simpa[uS]using hy);have h4:v=.int .u8 (b.data[i]).toNat:=by
       have h0:(uS b)[i]? = U (.int .u8 (b.data[i]).toNat):=by
        rw[ac hy];simp[uS]
       grind
      subst h4;refine⟨?_,by simp[d_],rfl⟩;rw[show p.base+i=i from bW i];unfold Go.Lib.bytesCells;rw[fS (by grind)];simp[b_]
      grind)
     refine⟨Ren.add M_ h.Q p,Go.Lib.bytesWorld w e b,?_,?_,i5 _ _ _,hp.1,(ig.drew M_ h w (bJ _)).trans hp.2⟩
     ·rw[jV,hr];simp[b_,jS,hU,uA,p]
     ·simp only[d_];exact⟨by simp[dom,hU],trivial⟩
    ·cases hv
   ·cases hv
  ·cases hv
 ·rename_i s d a n c hs hd;split at hv
  ·rename_i e0 e hB hc;split at hv
   ·rename_i a re hq hb;split at hv
    next sz cs h3 hg=>cases hv;simp only[d_]at hx;have heq:T=dst:=(by grind);subst heq;have j:=(E.K T d hd).1;rw[hc]at j;have C:=(E.K e re hb).1;rw[h3]at C;obtain⟨w',r1,r2,r3⟩:=U4e (P:=P) H hx.1 hg;refine⟨M_,w',?_,by simp only[d_];exact hx,iZ.refl _ _,r2,r3⟩;simp[convert,b_,run_underlying j,run_underlying C,r1]
    ·cases hv
   ·cases hv
  ·rename_i e hB hc;split at hv
   ·rename_i re hb;split at hv
    ·rename_i h3;have ho:=E.K e re hb;have j:=(E.K dst d hd).1;rw[hc]at j;have e1:=(E.K T s hs).1;rw[hB]at e1;have C:=ho.1;rw[h3]at C;have hr:=fun(a:Option Addr) (c:Nat)=>run_convert_bytes_string (P:=P) w T dst e a n c e1 C j;split at hv
     ·cases hv;refine e_.flat H rfl ?_;simp only[b_,cQ];rw[hr];simp[Conv.bytesToString]
     ·rename_i a;split at hv
      ·rename_i l hl;split at hv
       next bs hn=>cases hv;refine e_.flat H rfl ?_;simp only[d_]at hx;have hA:=Gj (P:=P) H hx.1 hx.2 hl;rw[Sj hn,yM M_ _ (fun v hv=>by obtain⟨i,_,rfl⟩:=am.1 hv;rfl)]at hA;simp only[b_,aQ];rw[hr,run_bytesToString (P:=P) w _ n _ bs hA,Vq6];simp
       ·cases hv
      ·cases hv
    ·cases hv
   ·cases hv
  ·cases hv
 ·cases hv
def Up7{E:jo P}{j dst:TypeId}{x v:V}{h h':N}(hv:uV E j dst x h=U (v,h')):h'=h ∨ ∃ x,h'=h.push x:=by
 unfold uV at hv
 repeat' (first | grind | grind | grind | split at hv)
end
def Ns:V->Option (List V)
 | .agg j=>U j.toList
 | _=>O
def vN(ls:List Nat)(k:List V):List MapEntry->Nat->Option (Option (Nat × V))
 | [],_=>U O
 | e::j,i=>match Ns e.key with
  | some c=>match kw ls k c with
   | some Y=>U (U (i,e.val))
   | some J=>vN ls k j (i+1)
   | none=>O
  | none=>O
def wy(r:ir)(k:V)(C:List MapEntry):Option (Option (Nat × V)) :=
 match r.desc with
 | .int q=>match k with
  | .int _ _=>Instr.findNow (.int q) k C 0
  | _=>O
 | .string=>match k with
  | .string _=>Instr.findNow .string k C 0
  | _=>O
 | .struct _=>match k with
  | .agg j=>match r.leaf with
   | []=>O
   | l::ls=>match Nat.beq (L j.toList) (L (l::ls)) with
    | true=>vN (l::ls) j.toList C 0
    | false=>O
  | _=>O
 | .array _ _=>match k with
  | .agg j=>match r.leaf with
   | []=>O
   | l::ls=>match Nat.beq (L j.toList) (L (l::ls)) with
    | true=>vN (l::ls) j.toList C 0
    | false=>O
  | _=>O
 | _=>O
section
variable{P:Program}{G:Bs}{M_:Ren}{h:N}{w:World}
def rJ(M_:Ren):Option (Nat × V)->Option (Nat × V)
 | some (i,v)=>U (i,b_ M_ v)
 | none=>O
def Lo(d:TypeDesc)(k:V):∀ (j:List MapEntry) (i:Nat) (r:Option (Nat × V)),(∀ e ∈ j,flat e.key=Y)->Instr.findNow d k j i=U r->Instr.findNow d k (j.map (jH M_)) i=U (rJ M_ r)
 | [],i,r,_,h=>by simp only[Instr.findNow,aU]at h;subst h;rfl
 | e::j,i,r,C,h=>by
  have T:(jH M_ e).key=e.key:=tf M_ (C e jA);simp only[aH,Instr.findNow,T]at h ⊢;split at h
  ·cases h;rfl
  ·exact Lo d k j (i+1) r (fun x hx=>C x (by simp[hx])) h
  ·cases h
def Um5{kt:TypeId}{ls:List Nat}(hq:Nd P kt ls)(T:ls ≠ [])(k:List V)(w:World):∀ (C:List MapEntry) (i:Nat) (r:Option (Nat × V)),(∀ e ∈ C,flat e.key=Y)->vN ls k C i=U r ->
  (Instr.findAsking kt (.agg (k.map (b_ M_)).toArray) (C.map (jH M_)) i).run P w=.ok (rJ M_ r) w
 | [],i,r,_,h=>by simp only[vN,aU]at h;subst h;simp[Instr.findAsking,rJ]
 | e::C,i,r,hf,h=>by
  have hk:(jH M_ e).key=e.key:=tf M_ (hf e jA);simp only[vN]at h;split at h
  ·rename_i c hc;have h2:e.key=.agg c.toArray:=by
    unfold Ns at hc;split at hc
    next xs hx=>cases hc;simp[hx]
    ·cases hc
   have key:∀ b,kw ls k c=U b->(Op.equal kt (.agg (k.map (b_ M_)).toArray) (jH M_ e).key).run P w=.ok b w:=by
    intro b j;rw[hk,h2,(Lq M_ _ _ _ _ j).1];exact(hq T).2.1 k c b w j
   split at h
   next j=>cases h;simp[Instr.findAsking,key Y j,rJ];rfl
   next j=>simp only[aH,Instr.findAsking,aw,key J j,ak,az,if_false];exact Um5 hq T k w C (i+1) r (fun x hx=>hf x (by simp[hx])) h
   ·cases h
  ·cases h
def NE{kt:TypeId}{r:ir}(hr:vg P kt r){k:V}{C:List MapEntry}{x:Option (Nat × V)}(hf:∀ e ∈ C,flat e.key=Y)(j:wy r k C=U x)(w:World)(em:Bool) :
  (Instr.checkKey em 10000 kt (b_ M_ k)).run P w=.ok () w/\(Instr.findKey kt (b_ M_ k) (C.map (jH M_))).run P w=.ok (rJ M_ x) w:=by
 obtain⟨hu,i,_,_,_,_,_,_,_,hq⟩:=hr;unfold wy at j;have agg:∀ (T:Array V) (l:Nat) (ls:List Nat),r.leaf=l::ls->(match P.underlying kt with | some (.array _ _) | some (.struct _)=>Y | _=>J)=Y->Nat.beq (L T.toList) (L (l::ls))=Y->vN (l::ls) T.toList C 0=U x ->
   (Instr.checkKey em 10000 kt (b_ M_ (.agg T))).run P w=.ok () w/\(Instr.findKey kt (b_ M_ (.agg T)) (C.map (jH M_))).run P w=.ok (rJ M_ x) w:=by
  intro T l ls hl hw hc h3;rw[hl]at hq;have hb:l::ls ≠ []:=jA
  have hk:=cF hc;have h2:b_ M_ (.agg T)=.agg (T.toList.map (b_ M_)).toArray:=by
   rw[jZ];congr 1;grind
  rw[h2];refine⟨(hq hb).2.2 em _ w (by grind),?_⟩;rw[run_findKey_eq w hw];exact Um5 hq hb T.toList w C 0 x hf h3
 split at j
 ·rename_i q hd;rw[hd]at hu;split at j
  ·rename_i k n;refine⟨?_,?_⟩
   ·rw[show(10000:Nat)=9999+1 from rfl,Instr.checkKey];simp only[aw,run_underlying hu,ak,bg]
   ·have:=Lo (M_:=M_) _ _ C 0 x hf j;simp only[kO];exact gL (P:=P) (w:=w) hu this
  ·cases j
 ·rename_i hd;rw[hd]at hu;split at j
  ·refine⟨?_,?_⟩
   ·rw[show(10000:Nat)=9999+1 from rfl,Instr.checkKey];simp only[aw,run_underlying hu,ak,bg]
   ·have:=Lo (M_:=M_) _ _ C 0 x hf j;simp only[jV];exact gL (P:=P) (w:=w) hu this
  ·cases j
 ·grind
 ·grind
 ·cases j
end
def yO{P:Program}(E:jo P)(t:TypeId)(hint:Option V)(h:N):Option (V × N) :=
 match E.ty.A t with
 | some r=>match r.desc,hint with
  | .map _ _,O=>U (.map (U h.Q),h.push (.map #[] 0))
  | .map _ _,U (.int _ _)=>U (.map (U h.Q),h.push (.map #[] 0))
  | _,_=>O
 | none=>O
def rG(x:V)(h:N):Option (Array MapEntry) :=
 match x with
 | .map O=>U #[]
 | .map (U b)=>match h.A b with
  | some (.map j _)=>U j
  | _=>O
 | _=>O
def qN{P:Program}(E:jo P)(t:TypeId)(x k:V)(ok:Bool)(h:N):Option V :=
 match E.ty.A t with
 | some r=>match r.desc with
  | .map kt T=>match E.ty.A kt,E.ty.A T,rG x h with
   | some kr,U j,U C=>match wy kr k C.toList,ok with
    | some (U (_,v)),Y=>U (.tuple #[v,.bool Y])
    | some (U (_,v)),J=>U v
    | some O,Y=>U (.tuple #[j.zero,.bool J])
    | some O,J=>U j.zero
    | none,_=>O
   | _,_,_=>O
  | _=>O
 | none=>O
section
variable{P:Program}{G:Bs}{M_:Ren}{h:N}{w:World}
def Ugh(E:jo P)(H:c_ E.G M_ h w){t:TypeId}{hint:Option V}{v:V}{h':N}(hv:yO E t hint h=U (v,h')):e_ P E.G M_ h w (Instr.makeMap t (hint.map (b_ M_))) v h':=by
 have base:e_ P E.G M_ h w (do pure (.map (U (<- newObj (.map #[] 0))))) (.map (U h.Q)) (h.push (.map #[] 0)):=by
  let p:Place:=⟨w.heap.size,0,0,0,O⟩
  have j:=H.push (x:=.map #[] 0) rfl (p:=p) rfl (o:=.map #[] 0) (w':={w with heap:=w.heap.push (.map #[] 0)}) rfl ⟨rfl,by simp[p],jA⟩;refine⟨Ren.add M_ h.Q p,_,?_,?_,i5 _ _ _,j.1,j.2⟩
  ·have hn:(newObj (.map #[] 0)).run P w=.ok w.heap.size {w with heap:=w.heap.push (.map #[] 0)}:=rfl;simp only[aw,hn,ak,bg,b_,aQ,jD,hU,p]
  ·simp only[d_];simp[dom,hU]
 unfold yO at hv;split at hv
 ·rename_i r hr;split at hv
  ·cases hv;simpa[Instr.makeMap]using base
  next a b c d hd=>cases hv;have C:=(E.K t r hr).1;rw[hd]at C;obtain⟨T,w',r1,r2⟩:=base;refine⟨T,w',?_,r2⟩;rw[<- r1];simp[Instr.makeMap,run_underlying C,kO,asInt,asIntOf]
  ·cases hv
 ·cases hv
def Utr{G:Bs}(H:c_ G M_ h w){x:V}(T:d_ (dom M_) x){C:Array MapEntry}(j:rG x h=U C) :
  (∀ e ∈ C,flat e.key=Y/\d_ (dom M_) e.val)/\((match b_ M_ x with
   | .map O=>pure #[]
   | .map (U r)=>do
    let .map C _ <- getObj r | stuck "Lookup: map expected"
    pure C
   | _=>stuck "Lookup: map expected" : Sem (Array MapEntry))).run P w=.ok (C.map (jH M_)) w:=by
 unfold rG at j;split at j
 ·cases j;exact⟨jA,by simp[b_]⟩
 ·rename_i b;split at j
  next hc clk hg=>cases j;simp only[d_]at T;obtain⟨p,hp⟩:=bf.1 T;obtain⟨f0,f1,f2⟩:=H.fits b p _ hp hg;refine⟨f2,?_⟩;simp[b_,yV G H T hg]
  ·cases j
 ·cases j
def V5o{r:ir}{k:V}:∀ {C:List MapEntry} {i:Nat} {v:V},wy r k C=U (U (i,v))->∃ e ∈ C,e.val=v/\C[i]? = U e:=by
 have h1:∀ (d:TypeDesc) (k:V) (C:List MapEntry) (i j:Nat) (v:V),Instr.findNow d k C j=U (U (i,v))->∃ n,i=j+n/\∃ e ∈ C,e.val=v/\C[n]? = U e:=by
  intro d k C;induction C with
  | nil=>intro i j v h;simp[Instr.findNow]at h
  | cons e C ih =>
   intro i j v h;simp only[Instr.findNow]at h;split at h
   ·simp_all
   ·obtain⟨n,hn,T,he,hv,hg⟩:=ih _ _ _ h;exact⟨n+1,iA,T,by simp[he],hv,by grind⟩
   ·cases h
 have h2:∀ (ls:List Nat) (k:List V) (C:List MapEntry) (i j:Nat) (v:V),vN ls k C j=U (U (i,v))->∃ n,i=j+n/\∃ e ∈ C,e.val=v/\C[n]? = U e:=by
  intro ls k C;induction C with
  | nil=>intro i j v h;simp[vN]at h
  | cons e C ih =>
   intro i j v h;simp only[vN]at h;split at h
   ·split at h
    ·simp_all
    ·obtain⟨n,hn,T,he,hv,hg⟩:=ih _ _ _ h;exact⟨n+1,iA,T,by simp[he],hv,by grind⟩
    ·cases h
   ·cases h
 intro C i v h;have hc:(∃ n,i=0+n/\∃ e ∈ C,e.val=v/\C[n]? = U e)->∃ e ∈ C,e.val=v/\C[i]? = U e:=by
  simp
 unfold wy at h
 grind
def Upv(E:jo P)(H:c_ E.G M_ h w){t:TypeId}{x k:V}{ok:Bool}{v:V}(hx:d_ (dom M_) x)(hv:qN E t x k ok h=U v):e_ P E.G M_ h w (Instr.lookup t (b_ M_ x) (b_ M_ k) ok) v h:=by
 unfold qN at hv;split at hv
 ·rename_i r hr;split at hv
  ·rename_i kt et hd;have hu:=(E.K t r hr).1;rw[hd]at hu;split at hv
   ·rename_i kr er es a2 hb hk;obtain⟨e1,e2⟩:=Utr (P:=P) H hx hk;have ho:=E.K et er hb;obtain⟨_,i,_,_,_,_,hp,M',_⟩:=E.K et er hb;have hc:∀ y,wy kr k es.toList=U y->∀ u b,(match rJ M_ y with | some (_,v)=>(v,Y) | none=>(er.zero,J))=(u,b) ->
      (Instr.lookup t (b_ M_ x) (b_ M_ k) ok).run P w=.ok (if ok then .tuple #[u,.bool b]else u) w:=by
     intro y hy u b h2;obtain⟨c1,c2⟩:=NE (M_:=M_) (E.K kt kr a2) (fun e he=>(e1 e (by grind)).1) hy w (es.map (jH M_)).isEmpty;have C:(Instr.findKey kt (b_ M_ k) (es.map (jH M_)).toList).run P w=.ok (rJ M_ y) w:=by rw[cM];exact c2
     have hz:=vZ (P:=P) (E.K et er hb) w;unfold rG at hk;split at hk
     ·cases hk;have e0:(#[]:Array MapEntry).map (jH M_) = #[]:=jA
      rw[e0]at c1 C;cases y with
      | none =>
       simp only[rJ]at h2 C;cases h2;simp only[Instr.lookup,b_,cQ,aw,run_underlying hu,ak,bg,c1,C,hz]
      | some q =>
       obtain⟨j,v⟩:=q;simp only[rJ]at h2 C;cases h2;simp only[Instr.lookup,b_,cQ,aw,run_underlying hu,ak,bg,c1,C,hz]
     ·rename_i m;split at hk
      ·rename_i h4 clk hg;cases hk;simp only[d_]at hx;have hA:=yV (P:=P) E.G H hx hg;cases y with
       | none =>
        simp only[rJ]at h2 C;cases h2;simp only[Instr.lookup,b_,aQ,aw,run_underlying hu,ak,bg,hA,c1,C,hz]
       | some q =>
        obtain⟨j,v⟩:=q;simp only[rJ]at h2 C;cases h2;simp only[Instr.lookup,b_,aQ,aw,run_underlying hu,ak,bg,hA,c1,C,hz]
      grind
     grind
    have hB:d_ (dom M_) er.zero:=jB _ _ hp;have hn:b_ M_ er.zero=er.zero:=tf M_ hp;split at hv
    next i v0 T=>cases hv;obtain⟨e,he,h3,_⟩:=V5o T;have hl:=(e1 e (by grind)).2;rw[h3]at hl;refine e_.plain H (by simp only[d_,wQ];intro z hz;simp at hz;rcases hz with rfl | rfl;exact hl;simp[d_]) ?_;rw[hc _ T _ _ rfl];simp
    next i v0 T=>cases hv;obtain⟨e,he,h3,_⟩:=V5o T;have hl:=(e1 e (by grind)).2;rw[h3]at hl;refine e_.plain H hl ?_;rw[hc _ T _ _ rfl];simp
    next T=>cases hv;refine e_.plain H (by simp only[d_,wQ];intro z hz;simp at hz;rcases hz with rfl | rfl;exact hB;simp[d_]) ?_;rw[hc _ T _ _ rfl];simp[b_,uo,hn]
    next T=>cases hv;refine e_.plain H hB ?_;rw[hc _ T _ _ rfl,hn];simp
    ·cases hv
   ·cases hv
  ·cases hv
 ·cases hv
end
def ta{P:Program}(E:jo P)(t:TypeId)(m k x:V)(h:N):Option N :=
 match E.ty.A t,m with
 | some r,.map (U b)=>match r.desc,h.A b with
  | .map T _,U (.map j clk)=>match E.ty.A T,flat k with
   | some C,Y=>match wy C k j.toList with
    | some O=>U (h.set b (U (.map (j.push {key:=k,val:=x,born:=clk}) (clk+1))))
    | some (U (i,_))=>match Instr.sameBits 10000 (((j[i]?).map (·.key)).getD k) k with
     | true=>U (h.set b (U (.map (j.modify i fun e=>{e with key:=k,val:=x}) clk)))
     | false=>O
    | none=>O
   | _,_=>O
  | _,_=>O
 | _,_=>O
def yJ{P:Program}(E:jo P)(t:TypeId)(m k:V)(h:N):Option (V × N) :=
 match E.ty.A t,m with
 | some r,.map (U b)=>match r.desc,h.A b with
  | .map T _,U (.map j clk)=>match E.ty.A T with
   | some C=>match wy C k j.toList with
    | some O=>U (.tuple #[],h.set b (U (.map j clk)))
    | some (U (i,_))=>U (.tuple #[],h.set b (U (.map (j.eraseIdxIfInBounds i) clk)))
    | none=>O
   | _=>O
  | _,_=>O
 | _,_=>O
section
variable{P:Program}{G:Bs}{M_:Ren}{h:N}{w:World}
def G9(H:c_ G M_ h w){b:Nat}(hb:dom M_ b){es es':Array MapEntry}{clk clk':Nat}(C:h.A b=U (.map es clk))(he:∀ e ∈ es',flat e.key=Y/\d_ (dom M_) e.val) :
  ∃ w',(setObj (jD M_ b) (.map (es'.map (jH M_)) clk')).run P w=.ok () w'/\c_ G M_ (h.set b (U (.map es' clk'))) w'/\ig M_ h w M_ (h.set b (U (.map es' clk'))) w':=by
 obtain⟨p,j⟩:=bf.1 hb;obtain⟨f0,f1,f2⟩:=H.fits b p _ j C;have T:=H.blk_lt j C rfl;have:=H.upd j (wJ C) (x:=.map es' clk') rfl (o:=.map (es'.map (jH M_)) clk') ⟨f0,zH T,he⟩;refine⟨_,?_,this.1,this.2⟩;have hr:jD M_ b=p.blk:=by simp[jD,j]
 rw[hr];exact MapKept.run_setObj_map _ f1
def V3p(E:jo P)(H:c_ E.G M_ h w){t:TypeId}{m k x:V}{h':N}(hm:d_ (dom M_) m)(hx:d_ (dom M_) x)(hh:ta E t m k x h=U h') :
  ∃ w',(Instr.mapUpdate t (b_ M_ m) (b_ M_ k) (b_ M_ x)).run P w=.ok () w'/\c_ E.G M_ h' w'/\ig M_ h w M_ h' w':=by
 unfold ta at hh;split at hh
 ·rename_i r b hr;split at hh
  ·rename_i kt et C clk hd hg;have hu:=(E.K t r hr).1;rw[hd]at hu;split at hh
   ·rename_i kr hA h3;simp only[d_]at hm;have hb:=yV (P:=P) E.G H hm hg;obtain⟨p,hp⟩:=bf.1 hm;obtain⟨f0,f1,f2⟩:=H.fits b p _ hp hg;have hk:b_ M_ k=k:=tf M_ h3;have T:∀ y,wy kr k C.toList=U y->(Instr.checkKey J 10000 kt k).run P w=.ok () w/\(Instr.findKey kt k (C.map (jH M_)).toList).run P w=.ok (rJ M_ y) w:=by
     intro y hy;have:=NE (M_:=M_) (E.K kt kr hA) (fun e he=>(f2 e (by grind)).1) hy w J;rw[hk]at this;rw[cM];exact this
    split at hh
    ·rename_i hf;cases hh;obtain⟨c1,c2⟩:=T _ hf;obtain⟨w',q1,q2,q3⟩:=G9 (P:=P) H hm hg (es':=C.push {key:=k,val:=x,born:=clk}) (clk':=clk+1) (by
      grind)
     refine⟨w',?_,q2,q3⟩;rw[<- q1];have hc:(C.push {key:=k,val:=x,born:=clk}).map (jH M_)=(C.map (jH M_)).push {key:=k,val:=b_ M_ x,born:=clk}:=by simp[jH,hk]
     rw[hc,hk];simp only[Instr.mapUpdate,b_,aQ,aw,run_underlying hu,ak,hb,c1,c2,rJ]
    ·rename_i i v0 hf;split at hh
     ·rename_i hs;cases hh;obtain⟨c1,c2⟩:=T _ hf;obtain⟨w',q1,q2,q3⟩:=G9 (P:=P) H hm hg (es':=C.modify i fun e=>{e with key:=k,val:=x}) (clk':=clk) (by
       intro e he;obtain⟨j,hj⟩:=Array.mem_iff_getElem?.1 he
       grind)
      refine⟨w',?_,q2,q3⟩;rw[<- q1];have h2:(C.modify i fun e=>{e with key:=k,val:=x}).map (jH M_)=(C.map (jH M_)).modify i fun e=>{e with key:=k,val:=b_ M_ x}:=by
       apply dD;intro j;rw[ft,fe,fe,ft];split
       ·cases C[j]? <;> simp[jH,hk]
       ·rfl
      have hl:(((C.map (jH M_))[i]?).map (·.key)).getD k=((C[i]?).map (·.key)).getD k:=by
       rw[ft];cases hq:C[i]? with
       | none=>rfl
       | some e0=>simp[jH,tf M_ (f2 e0 (fc hq)).1]
      rw[h2,hk];simp only[Instr.mapUpdate,b_,aQ,aw,run_underlying hu,ak,hb,c1,c2,rJ,hl,Instr.keyThatStays,hs,if_true,bg]
     ·cases hh
    ·cases hh
   ·cases hh
  ·cases hh
 ·cases hh
def Uqf(E:jo P)(H:c_ E.G M_ h w){t ty:TypeId}{tl:List TypeId}{m k v:V}{h':N}(hm:d_ (dom M_) m)(hh:yJ E t m k h=U (v,h')) :
  e_ P E.G M_ h w (Builtin.delete_ (t::tl).toArray ty #[b_ M_ m,b_ M_ k]) v h':=by
 unfold yJ at hh;split at hh
 ·rename_i r b hr;split at hh
  ·rename_i kt et j clk hd hg;have hu:=(E.K t r hr).1;rw[hd]at hu;split at hh
   ·rename_i kr hk;simp only[d_]at hm;have hc:=yV (P:=P) E.G H hm hg;obtain⟨p,hp⟩:=bf.1 hm;obtain⟨f0,f1,f2⟩:=H.fits b p _ hp hg;have C:∀ y,wy kr k j.toList=U y->(Instr.checkKey (j.map (jH M_)).isEmpty 10000 kt (b_ M_ k)).run P w=.ok () w/\(Instr.findKey kt (b_ M_ k) (j.toList.map (jH M_))).run P w=.ok (rJ M_ y) w:=by
     intro y hy;exact NE (M_:=M_) (E.K kt kr hk) (fun e he=>(f2 e (by grind)).1) hy w (j.map (jH M_)).isEmpty
    have hx:d_ (dom M_) (.tuple #[]):=by simp[d_,mH,nr]
    have ret:b_ M_ (.tuple #[])=.tuple #[]:=jA
    split at hh
    next hf=>cases hh;obtain⟨c1,T⟩:=C _ hf;obtain⟨w',q1,q2,q3⟩:=G9 (P:=P) H hm hg (es':=j) (clk':=clk) (fun e he=>f2 e he);refine⟨M_,w',?_,hx,iZ.refl _ _,q2,q3⟩;simp only[rJ]at T;simp[Builtin.delete_,b_,run_underlying hu,hc,c1,T,q1,kn,mA]
    ·rename_i i v0 hf;cases hh;obtain⟨c1,T⟩:=C _ hf;obtain⟨w',q1,q2,q3⟩:=G9 (P:=P) H hm hg (es':=j.eraseIdxIfInBounds i) (clk':=clk) (fun e he=>f2 e (by
      grind))
     refine⟨M_,w',?_,hx,iZ.refl _ _,q2,q3⟩;have h2:(j.eraseIdxIfInBounds i).map (jH M_)=(j.map (jH M_)).eraseIdxIfInBounds i:=by
      grind
     simp only[rJ]at T;rw[h2]at q1;simp[Builtin.delete_,b_,run_underlying hu,hc,c1,T,q1,kn,mA]
    ·cases hh
   ·cases hh
  ·cases hh
 ·cases hh
end
def IK:List Nat->Nat->Bool
 | [],_=>J
 | a::l,b=>match Nat.beq a b with
  | true=>Y
  | false=>IK l b
def qX(seen:List Nat):List MapEntry->List MapEntry
 | []=>[]
 | e::l=>match IK seen e.born with
  | true=>qX seen l
  | false=>e::qX seen l
def vT(j:Nat):List MapEntry->List MapEntry
 | []=>[]
 | e::l=>match Nat.blt e.born j with
  | true=>e::vT j l
  | false=>vT j l
def wT(j:Nat):List MapEntry->List MapEntry
 | []=>[]
 | e::l=>match Nat.blt e.born j with
  | true=>wT j l
  | false=>e::wT j l
def EW(j:Nat)(left:List MapEntry):List (Option MapEntry):=match vT j left with
 | []=>O::(wT j left).map U
 | e::l=>(e::(l++wT j left)).map U
def tG(C:List MapEntry)(j:Nat)(seen:List Nat):List (Option MapEntry):=EW j (qX seen C)
def Bi(last:Nat):List MapEntry->Bool
 | []=>Y
 | e::l=>match Nat.ble last e.born with
  | true=>Bi last l
  | false=>J
def CF(j:List MapEntry)(seen:List Nat)(last:Nat):Bool:=match seen,j with
 | [],_=>J
 | _,[]=>J
 | _,j=>Bi last j
def DK(r m j:Nat)(seen:Array Nat)(clk:Nat)(h:N):Option MapEntry->V × N
 | none=>(.tuple #[.bool J],h)
 | some e=>(.tuple #[.bool Y,e.key,e.val],h.set r (U (.obj (.mapIter (U m) j (seen.push e.born) clk))))
def r8(it:V)(isS:Bool)(h:N):List (V × N):=match it with
 | .pointer (U ⟨r,0,O⟩)=>match h.A r with
  | some (.obj (.strIter s pos))=>match isS with
   | true=>match Nat.blt pos s.size with
    | true=>[(.tuple #[.bool Y,I X (.ofNat pos),.int .i32 (.ofNat (Utf8.decode s pos).1)],h.set r (U (.obj (.strIter s (pos+(Utf8.decode s pos).2)))))]
    | false=>[(.tuple #[.bool J],h)]
   | false=>[]
  | some (.obj (.mapIter O _ _ _))=>match isS with
   | true=>[]
   | false=>[(.tuple #[.bool J],h)]
  | some (.obj (.mapIter (U m) j seen last))=>match isS,h.A m with
   | false,U (.map C clk)=>match CF C.toList seen.toList last with
    | true=>[]
    | false=>(tG C.toList j seen.toList).map (DK r m j seen clk h)
   | _,_=>[]
  | _=>[]
 | _=>[]
def E2(it:V)(isS:Bool)(h:N):Option (V × N):=match r8 it isS h with
 | [x]=>U x
 | _=>O
def yI{P:Program}(E:jo P)(t:TypeId)(x:V)(h:N):Option (V × N):=match E.ty.A t with
 | some r=>match r.desc,x with
  | .string,.string s=>U (.pointer (U ⟨h.Q,0,O⟩),h.push (.obj (.strIter s 0)))
  | .map _ _,.map O=>U (.pointer (U ⟨h.Q,0,O⟩),h.push (.obj (.mapIter O 0 #[] 0)))
  | .map _ _,.map (U m)=>match h.A m with
   | some (.map _ clk)=>U (.pointer (U ⟨h.Q,0,O⟩),h.push (.obj (.mapIter (U m) clk #[] clk)))
   | _=>O
  | _,_=>O
 | none=>O
def B8(b:Nat):List MapEntry->Option MapEntry
 | []=>O
 | e::l=>match Nat.beq e.born b with
  | true=>U e
  | false=>B8 b l
def E4:List Nat->Option Nat
 | []=>O
 | [a]=>U a
 | _::l=>E4 l
def CG(it:V)(h:N):Option V:=match it with
 | .pointer (U ⟨r,0,O⟩)=>match h.A r with
  | some (.obj (.mapIter (U m) _ seen j))=>match E4 seen.toList,h.A m with
   | some b,U (.map C clk)=>match Nat.beq clk j with
    | true=>match B8 b C.toList with
     | some e=>U (.tuple #[e.key,e.val])
     | none=>O
    | false=>O
   | _,_=>O
  | _=>O
 | _=>O
def Uls(l:List Nat)(b:Nat):IK l b=l.contains b:=by
 induction l with
 | nil=>rfl
 | cons a l ih =>
  simp only[IK,List.contains_cons];cases j:Nat.beq a b with
  | true=>simp_all
  | false =>
   have : (b == a)=J:=by
    rw[beq_eq_false_iff_ne];intro e;simp_all
   grind
def Unm(seen:List Nat)(l:List MapEntry):qX seen l=l.filter fun e => !seen.contains e.born:=by
 induction l with
 | nil=>rfl
 | cons e l ih=>simp only[qX,Uls,ek];grind
def Uw2(j:Nat)(l:List MapEntry):vT j l=l.filter fun(e:MapEntry)=>decide (e.born < j):=by
 induction l with
 | nil=>rfl
 | cons e l ih =>
  simp only[vT,ek];by_cases C:e.born < j
  ·rw[show Nat.blt e.born j=Y from by simp_all];grind
  ·rw[bM.2 (fun k:Nat.blt e.born j=Y=>C (by simp_all))];grind
def Uu8(j:Nat)(l:List MapEntry):wT j l=l.filter fun(e:MapEntry)=>decide (e.born ≥ j):=by
 induction l with
 | nil=>rfl
 | cons e l ih =>
  simp only[wT,ek];by_cases C:e.born < j
  ·rw[show Nat.blt e.born j=Y from by simp_all]
   grind
  ·rw[bM.2 (fun k:Nat.blt e.born j=Y=>C (by simp_all))]
   grind
def U0r(last:Nat)(l:List MapEntry):Bi last l=l.all fun e=>decide (e.born ≥ last):=by
 induction l with
 | nil=>rfl
 | cons e l ih =>
  simp only[Bi,List.all_cons];by_cases j:last<=e.born
  ·rw[show Nat.ble last e.born=Y from by simp_all];grind
  ·rw[bM.2 (fun k:Nat.ble last e.born=Y=>j (by simp_all))];simp[j]
def Ulc(b:Nat)(l:List MapEntry):B8 b l=l.find? fun e=>e.born == b:=by
 induction l with
 | nil=>rfl
 | cons e l ih =>
  simp only[B8,List.find?_cons];cases C:Nat.beq e.born b with
  | true=>simp_all
  | false =>
   have : (e.born == b)=J:=by rw[beq_eq_false_iff_ne];intro j;simp_all
   grind
def Umj:∀ l:List Nat,E4 l=l.getLast?
 | []=>rfl
 | [a]=>rfl
 | a::b::l=>by rw[E4,Umj (b::l)];simp[List.getLast?_cons_cons];simp
section
variable{P:Program}{G:Bs}{M_:Ren}{h:N}{w:World}
def c_.drew(H:c_ G M_ h w){j:World}(hw:j=w∨j=w.drew):c_ G M_ h j/\ig M_ h w M_ h j:=by
 rcases hw with rfl | rfl
 ·exact⟨H,ig.refl _ _ _⟩
 ·exact⟨⟨H.dom,fun b p x hp hx=>by
   have:=H.fits b p x hp hx;exact this.keep (fun _ _=>rfl) rfl,H.apart,H.glob,H.globs,H.wf,H.base,H.bsz⟩,⟨ai _,fun _ _ _=>rfl,fun b p C T => .inr ⟨b,p,C,T,rfl⟩,rfl,rfl,rfl,bJ _,ai _⟩⟩
def Us1(H:c_ G M_ h w){r:Nat}(C:d_ (dom M_) (.pointer (U ⟨r,0,O⟩))){a:pV}(T:h.A r=U (.obj a)) :
  ∃ p o,M_ r=U p/\b_ M_ (.pointer (U ⟨r,0,O⟩))=.pointer (U ⟨p.blk,0,O⟩)/\w.heap[p.blk]? = U o/\kV M_ o a:=by
 simp only[d_]at C;obtain⟨p,j⟩:=bf.1 C.1;obtain⟨f0,o,f1,f2⟩:=H.fits r p _ j T;exact⟨p,o,j,by simp[b_,jS,j,f0,H.spot j T rfl],f1,f2⟩
def Um0(H:c_ G M_ h w){r:Nat}{p:Place}(C:M_ r=U p){a a':pV}(j:h.A r=U (.obj a)){O_:Obj}(hf:kV M_ O_ a') :
  c_ G M_ (h.set r (U (.obj a'))) (World.turned w p.blk O_)/\ig M_ h w M_ (h.set r (U (.obj a'))) (World.turned w p.blk O_):=by
 obtain⟨T,_⟩:=H.fits r p _ C j;exact H.upd C (by rw[wJ j];rfl) (x:=.obj a') rfl ⟨T,_,zH (H.blk_lt C j rfl),hf⟩
def Urz (E : jo P) (H : c_ E.G M_ h w) {t : TypeId} {x v : V} {h' : N} (hx : d_ (dom M_) x) (hv : yI E t x h = U (v, h')) : e_ P E.G M_ h w (Instr.range t (b_ M_ x)) v h' := by
  have base : ∀ (a : pV) (o : Obj), kV (Ren.add M_ h.Q ⟨w.heap.size, 0, 0, 0, O⟩) o a -> ∀ s : Sem Obj, s.run P w = .ok o w ->
      e_ P E.G M_ h w (do pure (.pointer (U ⟨<- newObj (<- s), 0, O⟩))) (.pointer (U ⟨h.Q, 0, O⟩)) (h.push (.obj a)) := by
    intro a o hf s hs
    let p : Place := ⟨w.heap.size, 0, 0, 0, O⟩
    have hp := H.push (x := .obj a) rfl (p := p) rfl (o := o) (w' := { w with heap := w.heap.push o }) rfl ⟨rfl, o, by simp [p], hf⟩;refine ⟨Ren.add M_ h.Q p, _, ?_, ?_, i5 _ _ _, hp.1, hp.2⟩
    · have hn : (newObj o).run P w = .ok w.heap.size { w with heap := w.heap.push o } := rfl
      simp only [aw,hs,hn,ak,bg,b_,aQ,jS,hU,p,ite_self]
    · simp only [d_]; simp [dom,hU]
  unfold yI at hv;split at hv
  · rename_i r hr
    have j := (E.K t r hr).1;split at hv
    · rename_i s hd
      cases hv;rw [hd] at j;have := base (.strIter s 0) (.stringIter s 0) rfl (pure (.stringIter s 0)) rfl;obtain ⟨C, w', r1, r2⟩ := this;refine ⟨C, w', ?_, r2⟩;rw [<- r1];simp [Instr.range,run_underlying j,b_]
    · rename_i kt et hd
      cases hv;rw [hd] at j;obtain ⟨C, w', r1, r2⟩ := base (.mapIter O 0 #[] 0) (.mapIter O 0 #[] 0) ⟨fun b hb => (by cases hb), rfl⟩ (pure (.mapIter O 0 #[] 0)) rfl;refine ⟨C, w', ?_, r2⟩;rw [<- r1];simp [Instr.range,run_underlying j,b_]
    · rename_i kt et m hd
      split at hv
      · rename_i es clk hg
        cases hv;rw [hd] at j;simp only [d_] at hx;have T := yV (P := P) E.G H hx hg;have hc : m ≠ h.Q := fun e => by have := np H hx; omega
        have e1 : jD (Ren.add M_ h.Q ⟨w.heap.size, 0, 0, 0, O⟩) m = jD M_ m := tU (by simp [Ren.add,hc]);have h2 : dom (Ren.add M_ h.Q ⟨w.heap.size, 0, 0, 0, O⟩) m := by simpa [dom, Ren.add, hc] using hx
        obtain ⟨C, w', r1, r2⟩ := base (.mapIter (U m) clk #[] clk) (.mapIter (U (jD M_ m)) clk #[] clk) ⟨fun b hb => (by grind), by simp [e1]⟩
          (do let .map _ clock <- getObj (jD M_ m) | stuck "Range: map expected"
              pure (.mapIter (U (jD M_ m)) clock #[] clock)) (by simp [T])
        refine ⟨C, w', ?_, r2⟩;rw [<- r1];simp [Instr.range,run_underlying j,b_,T]
      · cases hv
    · cases hv
  · cases hv
def Uwj(seen:List Nat)(l:List MapEntry):(l.map (jH M_)).filter (fun e => !seen.contains e.born)=(qX seen l).map (jH M_):=by
 rw[Unm,fL];rfl
def Utx(C:Array MapEntry)(j:Nat)(seen:Array Nat):((if((C.map (jH M_)).filter fun(e:MapEntry) => !seen.contains e.born).filter (fun(e:MapEntry)=>decide (e.born < j)) |>.isEmpty then #[O]else #[]) ++
  ((((C.map (jH M_)).filter fun(e:MapEntry) => !seen.contains e.born).filter fun(e:MapEntry)=>decide (e.born < j))++(((C.map (jH M_)).filter fun(e:MapEntry) => !seen.contains e.born).filter fun(e:MapEntry)=>decide (e.born ≥ j))).map U).toList =
  (tG C.toList j seen.toList).map (Option.map (jH M_)):=by
 have h1:((C.map (jH M_)).filter fun e => !seen.contains e.born).toList=(qX seen.toList C.toList).map (jH M_):=by
  rw[<- Uwj];simp
 have h2:∀ l:List MapEntry,(l.map (jH M_)).filter (fun e=>decide (e.born < j))=(vT j l).map (jH M_):=fun l=>by rw[Uw2,fL];rfl
 have h3:∀ l:List MapEntry,(l.map (jH M_)).filter (fun e=>decide (e.born ≥ j))=(wT j l).map (jH M_):=fun l=>by rw[Uu8,fL];rfl
 generalize hL:(C.map (jH M_)).filter (fun e => !seen.contains e.born)=T at h1 ⊢;have h4:(T.filter fun(e:MapEntry)=>decide (e.born < j)).toList=(vT j (qX seen.toList C.toList)).map (jH M_):=by grind
 have h5:(T.filter fun(e:MapEntry)=>decide (e.born ≥ j)).toList=(wT j (qX seen.toList C.toList)).map (jH M_):=by grind
 unfold tG EW;have h6:(T.filter fun(e:MapEntry)=>decide (e.born < j)).isEmpty=(vT j (qX seen.toList C.toList)).isEmpty:=by
  rw[<- fk,h4];simp
 rw[h6,hN,cM,hN,h4,h5];cases vT j (qX seen.toList C.toList)with
 | nil=>simp
 | cons e l=>simp[dH]
def Uq3(j:Array MapEntry)(seen:Array Nat)(last:Nat):(!seen.isEmpty && !(j.map (jH M_)).isEmpty && (j.map (jH M_)).all (fun e=>decide (e.born ≥ last)))=CF j.toList seen.toList last:=by
 have C:(j.map (jH M_)).all (fun e=>decide (e.born ≥ last))=Bi last j.toList:=by
  rw[U0r,<- Array.all_toList,cM,List.all_map];rfl
 rw[C,<- fk,<- fk,cM];unfold CF;cases seen.toList <;> cases j.toList <;> simp[Bi]
def Usq{C:List MapEntry}{j:Nat}{seen:List Nat}{e:MapEntry}(h:U e ∈ tG C j seen):e ∈ C:=by
 have hl:∀ x,x ∈ qX seen C->x ∈ C:=fun x T=>by rw[Unm]at T;grind
 have ho:∀ x,x ∈ vT j (qX seen C)->x ∈ C:=fun x T=>by rw[Uw2]at T;grind
 have hn:∀ x,x ∈ wT j (qX seen C)->x ∈ C:=fun x T=>by rw[Uu8]at T;grind
 unfold tG EW at h
 grind
def Uyf(C:List MapEntry)(j:Nat)(seen:List Nat):tG C j seen ≠ []:=by
 unfold tG EW;grind
def Uon{n:Nat}(hn:n≠0):∃ (j:Nat) (C:World),j < n/\(C=w∨C=w.drew)/\(choose (Question.mapNext n)).run P w=.ok j C:=by
 by_cases T:n<=1
 ·exact⟨0,w,iA,Or.inl rfl,by simp[choose,Sem.run,Question.forced,T]⟩
 ·exact⟨_,w.drew,eN _ iA,Or.inr rfl,by
   simp only[choose,Sem.run,Question.forced,decide_eq_true_eq,T,if_false,Question.cut];rfl⟩
def Uik{r:Nat}{m C last clk:Nat}{seen:Array Nat}{T:Array MapEntry}(f1:w.heap[r]? = U (Obj.mapIter (Option.map (jD M_) (U m)) C seen last))(h3:(getObj (jD M_ m)).run P w=.ok (Obj.map (T.map (jH M_)) clk) w)
  (hx:CF T.toList seen.toList last=J) (ty:TypeId) :
  ∃ c ∈ tG T.toList C seen.toList,∃ w1,(w1=w∨w1=w.drew)/\(Instr.next (.pointer (U ⟨r,0,O⟩)) J ty).run P w =
   .ok (match c with | none => .tuple #[.bool J] | some e => .tuple #[.bool Y,b_ M_ e.key,b_ M_ e.val]) (match c with | none=>w1 | some e=>World.turned w1 r (.mapIter (U (jD M_ m)) C (seen.push e.born) clk)):=by
 have hg:(getObj r).run P w=.ok (.mapIter (U (jD M_ m)) C seen last) w:=by simp[getObj,Sem.run,f1]
 have hb:=Uq3 (M_:=M_) T seen last;rw[hx]at hb;have hc:=Utx (M_:=M_) T C seen;simp only[Instr.next,aw,hg,ak,h3,hb,az,if_false];generalize hA:(if((T.map (jH M_)).filter fun(e:MapEntry) => !seen.contains e.born).filter (fun(e:MapEntry)=>decide (e.born < C)) |>.isEmpty then #[O]else #[]) ++
  ((((T.map (jH M_)).filter fun(e:MapEntry) => !seen.contains e.born).filter fun(e:MapEntry)=>decide (e.born < C))++(((T.map (jH M_)).filter fun(e:MapEntry) => !seen.contains e.born).filter fun(e:MapEntry)=>decide (e.born ≥ C))).map U=A at hc ⊢
 have hp:A.size≠0:=fun e=>by
  have h2:L A.toList=0:=e;rw[hc,bo]at h2;exact Uyf _ _ _ (bB h2)
 obtain⟨j,w1,hj,hw,hr⟩:=Uon (P:=P) (w:=w) hp;have hk:j < L (tG T.toList C seen.toList):=by
  have : L A.toList=_:=congrArg List.length hc
  grind
 refine⟨(tG T.toList C seen.toList)[j],List.getElem_mem hk,w1,hw,?_⟩;have hl:A[j]? = U ((tG T.toList C seen.toList)[j].map (jH M_)):=by
  rw[<- gF,hc,b7,ac hk];rfl
 simp only[hr,ak,hl];have hy:w1.heap[r]? = U (Obj.mapIter (U (jD M_ m)) C seen last):=by rcases hw with rfl | rfl <;> exact f1
 cases ho:(tG T.toList C seen.toList)[j]with
 | none=>simp
 | some e =>
  have hs:∀ o,(setObj r o).run P w1=.ok () (World.turned w1 r o):=fun o=>by simp[setObj,Sem.run,hy,World.turned]
  simp only[aQ,aw,hs,ak,bg];simp[jH]
def Vpb(H:c_ G M_ h w){it:V}{isS:Bool}{ty:TypeId}(hi:d_ (dom M_) it)(j:r8 it isS h ≠ []):∃ x ∈ r8 it isS h,e_ P G M_ h w (Instr.next (b_ M_ it) isS ty) x.1 x.2:=by
 unfold r8 at j ⊢;split
 ·rename_i r;cases hg:h.A r with
  | none=>grind
  | some x =>
   cases x with
   | cells o s c=>grind
   | map es clk=>grind
   | obj a =>
    obtain⟨p,o,hp,e1,f1,f2⟩:=Us1 H hi hg;rw[e1];cases a with
    | loop st hA t ps as bd d=>grind
    | defs=>grind
    | any=>grind
    | strIter s pos =>
     simp only[hg]at j ⊢;cases isS with
     | false=>simp at j
     | true =>
      simp only at j ⊢;have e2:o=.stringIter s pos:=f2;subst e2;split
      next hl=>refine⟨_,dF _,?_⟩;obtain⟨H1,T1⟩:=Um0 H hp hg (a':=.strIter s (pos+(Utf8.decode s pos).2)) (O_:=.stringIter s (pos+(Utf8.decode s pos).2)) rfl;refine⟨M_,_,?_,(zY _ _).2 (by simp[d_]),iZ.refl _ _,H1,T1⟩;have C:pos < s.size:=(by simp_all);simp[Instr.next,getObj,setObj,Sem.run,f1,C,kO,nL,goInt,Result.andThen,World.turned]
      ·rename_i hl;refine⟨_,dF _,e_.plain H ((zY _ _).2 (by simp[d_])) ?_⟩;have C:¬ pos < s.size:=fun k=>by rw[show Nat.blt pos s.size=Y from by simpa using k]at hl;cases hl
       simp[Instr.next,getObj,Sem.run,f1,C,Result.andThen,b_,uo]
    | mapIter m T seen last =>
     obtain⟨f3,e2⟩:=f2;subst e2;cases m with
     | none =>
      simp only[hg]at j ⊢;cases isS with
      | true=>simp at j
      | false =>
       refine⟨_,dF _,e_.plain H ((zY _ _).2 (by simp[d_])) ?_⟩;simp[Instr.next,getObj,Sem.run,f1,Result.andThen,b_,uo]
     | some m =>
      simp only[hg]at j ⊢;cases isS with
      | true=>simp at j
      | false =>
       cases hm:h.A m with
       | none=>grind
       | some y =>
        cases y with
        | cells o s c=>grind
        | obj a=>grind
        | map es clk =>
         simp only[hm]at j ⊢;have hk:dom M_ m:=f3 m rfl;have hr:=yV (P:=P) G H hk hm;split at j
         ·simp at j
         ·rename_i h2;obtain⟨c,hc,w1,h3,hx⟩:=Uik (P:=P) (M_:=M_) f1 hr h2 ty;obtain⟨H1,T1⟩:=H.drew h3;refine⟨_,am.2 ⟨c,hc,rfl⟩,?_⟩;cases c with
          | none =>
           refine⟨M_,w1,?_,(zY _ _).2 (by simp[d_]),iZ.refl _ _,H1,T1⟩;rw[hx];simp[DK,b_,uo]
          | some e =>
           have he:=Usq hc;obtain⟨q,hq⟩:=bf.1 hk;obtain⟨_,_,g2⟩:=H.fits m q _ hq hm;obtain⟨g3,g4⟩:=g2 e (by simpa using he);obtain⟨H2,T2⟩:=Um0 H1 hp hg (a':=.mapIter (U m) T (seen.push e.born) clk) (O_:=.mapIter (U (jD M_ m)) T (seen.push e.born) clk) ⟨fun b hb=>(by cases hb;exact hk),rfl⟩;refine⟨M_,_,?_,(zY _ _).2 (by
            intro v hv;simp only[List.mem_toArray,Array.mem_def,ar,List.mem_nil_iff,or_false]at hv;rcases hv with rfl | rfl | rfl
            ·trivial
            ·exact jB _ _ g3
            ·exact g4),iZ.refl _ _,H2,T1.trans T2⟩
           rw[hx];simp[DK,nL]
 grind
def Uxu(H:c_ G M_ h w){it:V}{isS:Bool}{ty:TypeId}{v:V}{h':N}(hi:d_ (dom M_) it)(hv:E2 it isS h=U (v,h')):e_ P G M_ h w (Instr.next (b_ M_ it) isS ty) v h':=by
 unfold E2 at hv;split at hv
 ·rename_i x j;cases hv;obtain⟨y,C,g⟩:=Vpb (P:=P) (ty:=ty) H hi (by rw[j];simp)
  grind
 ·cases hv
def Uwe(H:c_ G M_ h w){it v:V}(hi:d_ (dom M_) it)(hv:CG it h=U v):e_ P G M_ h w (Instr.entry (b_ M_ it)) v h:=by
 unfold CG at hv;split at hv
 ·split at hv
  ·rename_i m hx seen j hg;split at hv
   ·rename_i b es clk hl hm;split at hv
    ·rename_i h2;split at hv
     ·rename_i e he;cases hv;obtain⟨p,o,hp,e1,f1,f2⟩:=Us1 H hi hg;obtain⟨f3,e2⟩:=f2;subst e2;have hb:dom M_ m:=f3 m rfl;have h3:=yV (P:=P) G H hb hm;obtain⟨q,hq⟩:=bf.1 hb;obtain⟨_,_,g2⟩:=H.fits m q _ hq hm;rw[Ulc]at he;have hk:e ∈ es:=(by grind);obtain⟨g3,g4⟩:=g2 e hk;refine e_.plain H ((zY _ _).2 (by
       intro v hv;simp only[Array.mem_def,ar,List.mem_nil_iff,or_false]at hv;rcases hv with rfl | rfl
       ·exact jB _ _ g3
       ·exact g4)) ?_
      have T:clk=j:=cF h2;subst T;have C:seen.back?=U b:=(by rw[<- Array.getLast?_toList,<- Umj];exact hl);have hc:(es.map (jH M_)).find? (fun x=>x.born == b)=U (jH M_ e):=by
       rw[<- Array.find?_toList,cM,List.find?_map];show Option.map (jH M_) (es.toList.find? fun x=>x.born == b)=_
       grind
      rw[e1];have hr:(getObj p.blk).run P w=.ok (.mapIter (U (jD M_ m)) hx seen clk) w:=by simp[getObj,Sem.run,f1]
      simp[Instr.entry,hr,C,h3,hc,jH]
     ·cases hv
    ·cases hv
   ·cases hv
  ·cases hv
 ·cases hv
end
inductive pS where
 | compare
 | clone
def I9:pS->Array V->Sem V
 | .compare=>Extern.BytealgCompare.compare
 | .clone=>Extern.MapsClone.clone
def ES(F:Func):Option pS :=
 if F.body.isNone then
  if F.origin == "" then
   if F.name == "internal/bytealg.Compare" then U .compare
   else if F.name == "maps.clone" then U .clone else O
  else O
 else O
def Vqi:Extern.allNextRows.lookup "" = O:=by
 have : (Extern.allNextRows.lookup "").isNone=Y:=kR
 simpa using this
def V5t:Extern.allNextRows.lookup "internal/bytealg.Compare" = O/\Extern.allGenericRows.lookup "internal/bytealg.Compare" = O/\Extern.allTypedRows.lookup "internal/bytealg.Compare" = O/\Extern.allRows.lookup "internal/bytealg.Compare" = U Extern.BytealgCompare.compare:=by
 have h1:(Extern.allNextRows.lookup "internal/bytealg.Compare").isNone=Y:=kR
 have j:(Extern.allGenericRows.lookup "internal/bytealg.Compare").isNone=Y:=kR
 have C:(Extern.allTypedRows.lookup "internal/bytealg.Compare").isNone=Y:=kR
 exact⟨by simpa using h1,by simpa using j,by simpa using C,by kernel_rfl⟩
def Uq1:Extern.allNextRows.lookup "maps.clone" = O/\Extern.allGenericRows.lookup "maps.clone" = O/\Extern.allTypedRows.lookup "maps.clone" = O/\Extern.allRows.lookup "maps.clone" = U Extern.MapsClone.clone:=by
 have h1:(Extern.allNextRows.lookup "maps.clone").isNone=Y:=kR
 have j:(Extern.allGenericRows.lookup "maps.clone").isNone=Y:=kR
 have C:(Extern.allTypedRows.lookup "maps.clone").isNone=Y:=kR
 exact⟨by simpa using h1,by simpa using j,by simpa using C,by kernel_rfl⟩
def U0p{F:Func}{x:pS}(h:ES F=U x):(F.name == "runtime.NumGoroutine")=J/\F.body.isNone=Y/\Extern.findNext F=O/\Extern.find F=U (I9 x):=by
 unfold ES at h;split at h
 ·rename_i hb;split at h
  ·rename_i C;have C:=eq_of_beq C;split at h
   ·rename_i j;have j:=eq_of_beq j;cases h;obtain⟨h1,T,h3,h4⟩:=V5t;refine⟨by grind,hb,?_,?_⟩
    ·simp[Extern.findNext,j,C,h1,Vqi]
    ·simp[Extern.find,j,T,h3,h4,I9]
   ·split at h
    ·rename_i j;have j:=eq_of_beq j;cases h;obtain⟨h1,T,h3,h4⟩:=Uq1;refine⟨by grind,hb,?_,?_⟩
     ·simp[Extern.findNext,j,C,h1,Vqi]
     ·simp[Extern.find,j,T,h3,h4,I9]
    ·cases h
  ·cases h
 ·cases h
def zn(j:List Int):ByteArray:=⟨(j.map fun n=>UInt8.ofNat n.toNat).toArray⟩
def CE(v:V)(h:N):Option ByteArray:=match v with
 | M O _ _=>U .empty
 | M (U a) n _=>match cellsAt h a n with
  | some l=>match xY l with
   | some j=>U (zn j)
   | none=>O
  | none=>O
 | _=>O
def BU(x:pS)(args:List V)(h:N):Option (V × N):=match x,args with
 | .compare,[a,b]=>match CE a h,CE b h with
  | some s,U t=>U (I X (Extern.BytealgCompare.cmp s t),h)
  | _,_=>O
 | .clone,[.iface t (.map (U r))]=>match h.A r with
  | some (.map j clk)=>U (.iface t (.map (U h.Q)),h.push (.map j clk))
  | _=>O
 | _,_=>O
section
variable{P:Program}{G:Bs}{M_:Ren}{h:N}{w:World}
def TN:∀ (T:List Int) (a:Addr) (C:ByteArray),(∀ j v,(T.map (I .u8))[j]? = U v->w.cell? (a.add j)=U v) ->
  (Extern.Bytes.loadBytes a (L T) C).run P w=.ok (T.foldl (fun r n=>r.push (UInt8.ofNat n.toNat)) C) w
 | [],a,C,_=>rfl
 | n::T,a,C,hc=>by
  have h0:w.cell? a=U (.int .u8 n):=by
   have:=hc 0 (.int .u8 n) rfl;have e:a.add 0=a:=by unfold Addr.add;simp
   grind
  have ih:=TN T (a.add 1) (C.push (UInt8.ofNat n.toNat)) (fun j v hv=>by
   have:=hc (j+1) v (by grind);have e:(a.add 1).add j=a.add (j+1):=by unfold Addr.add;grind
   grind)
  simp only[bI,Extern.Bytes.loadBytes,aw,dC];simp_all
def V9q(H:c_ G M_ h w){v:V}(hv:d_ (dom M_) v){s:ByteArray}(hs:CE v h=U s):(Extern.Bytes.bytesOf (b_ M_ v)).run P w=.ok s w:=by
 unfold CE at hs;split at hs
 ·cases hs;rfl
 ·rename_i a n c;split at hs
  ·rename_i l hl;split at hs
   next T C=>cases hs;simp only[d_]at hv;obtain⟨k1,_,k3⟩:=Cu H hv.1 hv.2 hl;have e:=Sj C;subst e;rw[yM M_ _ (fun v hv=>by obtain⟨i,_,rfl⟩:=am.1 hv;rfl)]at k3;have j:n=L T:=(by grind);subst j;have:=TN (P:=P) (w:=w) T (jS M_ a) .empty k3;simp only[b_,aQ,Extern.Bytes.bytesOf,this,Vq6,zn];simp
   ·cases hs
  ·cases hs
 ·cases hs
def Uue(H:c_ G M_ h w){x:pS}{args:List V}(ha:∀ v ∈ args,d_ (dom M_) v){v:V}{h':N}(hv:BU x args h=U (v,h')):e_ P G M_ h w (I9 x (args.map (b_ M_)).toArray) v h':=by
 unfold BU at hv;split at hv
 ·rename_i a b;split at hv
  next s t hs ht=>cases hv;refine e_.flat H rfl ?_;have e1:=V9q (P:=P) H (ha a jA) hs;have e2:=V9q (P:=P) H (ha b jA) ht;have hd:∀ x y:V,Extern.BytealgCompare.compare #[x,y]=(do pure (goInt (Extern.BytealgCompare.cmp (<- Extern.Bytes.bytesOf x) (<- Extern.Bytes.bytesOf y)))):=fun _ _=>rfl;show(Extern.BytealgCompare.compare #[b_ M_ a,b_ M_ b]).run P w=_;rw[hd];simp[e1,e2,goInt]
  ·cases hv
 ·rename_i t r;split at hv
  ·rename_i j clk hg;cases hv;have hr:=ha _ (dF _);simp only[d_]at hr;have hc:=yV (P:=P) G H hr hg;obtain⟨q,hq⟩:=bf.1 hr;obtain⟨_,_,T⟩:=H.fits r q _ hq hg
   let p:Place:=⟨w.heap.size,0,0,0,O⟩
   have hx:j.map (jH (Ren.add M_ h.Q p))=j.map (jH M_):=by
    apply dM;intro e C;exact R_ (H.add_dom p) (T e C).1 (T e C).2
   have hp:=H.push (x:=.map j clk) rfl (p:=p) rfl (o:=.map (j.map (jH M_)) clk) (w':={w with heap:=w.heap.push (.map (j.map (jH M_)) clk)}) rfl
    ⟨rfl,by grind,fun e C=>⟨(T e C).1,iq (fun b hb=>by simpa[dom,H.add_dom p b hb]using hb) _ (T e C).2⟩⟩
   refine⟨Ren.add M_ h.Q p,_,?_,?_,i5 _ _ _,hp.1,hp.2⟩
   ·have hn:(newObj (.map (j.map (jH M_)) clk)).run P w=.ok w.heap.size {w with heap:=w.heap.push (.map (j.map (jH M_)) clk)}:=rfl;have hd:∀ (t:TypeId) (r:Nat),Extern.MapsClone.clone #[.iface t (.map (U r))]=(do
      let .map entries clock <- getObj r | stuck "maps.clone: a map expected"
      pure (.iface t (.map (U (<- newObj (.map entries clock)))))):=fun _ _=>rfl
    have e0:b_ M_ (.iface t (.map (U r)))=.iface t (.map (U (jD M_ r))):=by simp[b_]
    show(Extern.MapsClone.clone #[b_ M_ (.iface t (.map (U r)))]).run P w=_;rw[e0,hd];simp only[aw,hc,ak,hn,bg];simp[b_,jD,hU,p]
   ·simp only[d_];simp[dom,hU]
  ·cases hv
 ·cases hv
end
end Go.Ab
