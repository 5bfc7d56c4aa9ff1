import Derived.Test.YtapodfgjkmddlaaGreatDoorAbA
import Derived.IntWalk
import Derived.Lib.ConvBytes
import Derived.Laws.BytesString
import Derived.WideKeyRuns
import Derived.Maps.RangeRun
import Derived.KernelRfl
set_option linter.all false
noncomputable section
namespace Go.Ab
section
variable{P:Program}{Y:Ren}{h:Heap}{w:World}
def aUn(op:UnOp)(x:Value):Option Value:=if flat x then Qfz (Op.unary op x)else none
def Jrh{G:Bs}(H:HRel G Y h w){op:UnOp}{x v:Value}(hv:aUn op x=some v):Gives P G Y h w (Op.unary op (ren Y x)) v h:=by
 unfold aUn at hv;split at hv
 ·rename_i hf;obtain⟨h1,h2⟩:=Y3o (P:=P) hv;exact Gives.flat H h1 (by rw[Qgu Y hf];exact h2 w)
 ·cases hv
def Q3n(E:Env P)(src dst:TypeId)(x:Value):Option Value :=
 match E.ty.get src,E.ty.get dst with
 | some _,some d =>
  match d.desc,x with
  | .int k,.int _ n=>some (.int k (k.wrap n))
  | .string,.string s=>some (.string s)
  | _,_=>none
 | _,_=>none
def Z0w(E:Env P)(H:HRel E.G Y h w){src dst:TypeId}{x v:Value}(hv:Q3n E src dst x=some v):Gives P E.G Y h w (convert src dst (ren Y x)) v h:=by
 unfold Q3n at hv;split at hv
 ·rename_i s d hs hd;split at hv
  ·rename_i k q n hk;cases hv;refine Gives.flat H rfl ?_;simp only[convert,aq,run_underlying (E.tyok src s hs).1,run_underlying (E.tyok dst d hd).1,ac,hk,ren_int];rfl
  ·rename_i b hk;cases hv;refine Gives.flat H rfl ?_;simp only[convert,aq,run_underlying (E.tyok src s hs).1,run_underlying (E.tyok dst d hd).1,ac,hk,ren_string];rfl
  ·cases hv
 ·cases hv
def Qkc(E:Env P)(t:TypeId)(x:Value)(h:Heap):Option Value :=
 match E.ty.get t with
 | none=>none
 | some r =>
  match r.desc,x with
  | .string,.string s=>some (.int .i64 s.size)
  | .array n _,_=>some (.int .i64 n)
  | .pointer a,_=>match E.ty.get a with
   | some ra=>match ra.desc with
    | .array n _=>some (.int .i64 n)
    | _=>none
   | none=>none
  | .slice _,.slice _ n _=>some (.int .i64 n)
  | .map _ _,.map none=>some (.int .i64 0)
  | .map _ _,.map (some b)=>match h.get b with
   | some (.map es _)=>some (.int .i64 es.size)
   | _=>none
  | _,_=>none
def Qp5(G:Bs)(H:HRel G Y h w){b:Nat}(hb:dom Y b){es:Array MapEntry}{clk:Nat}(hg:h.get b=some (.map es clk)) :
  (getObj (W8 Y b)).run P w=.ok (.map (es.map (Qtk Y)) clk) w:=by
 obtain⟨p,hp⟩:=az.1 hb;obtain⟨_,h2,_⟩:=H.fits b p _ hp hg;simp[getObj,Sem.run,W8,hp,h2]
def Jlz(E:Env P)(H:HRel E.G Y h w){t:TypeId}{ty:TypeId}{x v:Value}(hx:okV (dom Y) x)(hv:Qkc E t x h=some v) :
  Gives P E.G Y h w (Builtin.len_ #[t] ty #[ren Y x]) v h:=by
 unfold Qkc at hv;cases hr:E.ty.get t with
 | none=>simp[hr]at hv
 | some r =>
  simp only[hr]at hv;have hu:=(E.tyok t r hr).1;split at hv
  ·rename_i hd;cases hv;exact Gives.flat H rfl (by simp[Builtin.len_,run_underlying hu,hd,goInt])
  ·rename_i hd;cases hv;exact Gives.flat H rfl (by simp[Builtin.len_,run_underlying hu,hd,goInt])
  ·rename_i a hd;split at hv
   ·rename_i ra hra;split at hv
    ·rename_i n e hda;cases hv;exact Gives.flat H rfl (by simp[Builtin.len_,run_underlying hu,hd,run_underlying (E.tyok a ra hra).1,hda,goInt])
    ·cases hv
   ·cases hv
  ·rename_i hd;cases hv;exact Gives.flat H rfl (by simp[Builtin.len_,run_underlying hu,hd,goInt,ren])
  ·rename_i hd;cases hv;exact Gives.flat H rfl (by simp[Builtin.len_,run_underlying hu,hd,goInt,ren])
  ·rename_i b hd;split at hv
   ·rename_i es clk hg;cases hv;simp only[okV]at hx;exact Gives.flat H rfl (by simp[Builtin.len_,run_underlying hu,hd,goInt,ren,Qp5 E.G H hx hg])
   ·cases hv
  ·cases hv
def Jsc(E:Env P)(t:TypeId)(x:Value):Option Value :=
 match E.ty.get t,x with
 | some r,.slice _ _ c=>match r.desc with
  | .slice _=>if c == Ql9 then none else some (.int .i64 c)
  | _=>none
 | _,_=>none
def Jmz(E:Env P)(H:HRel E.G Y h w){t:TypeId}{ty:TypeId}{x v:Value}(hv:Jsc E t x=some v) :
  Gives P E.G Y h w (Builtin.cap_ #[t] ty #[ren Y x]) v h:=by
 unfold Jsc at hv;split at hv
 ·rename_i r a n c hr;split at hv
  ·rename_i e hd;split at hv
   ·cases hv
   ·rename_i hc;cases hv;have hc':c≠Ql9:=(by simpa using hc);exact Gives.flat H rfl (by simp[Builtin.cap_,run_underlying (E.tyok t r hr).1,hd,goInt,Qfa _ _ _ _ hc'])
  ·cases hv
 ·cases hv
def Xi2(E:Env P)(t:TypeId)(x:Value):Option Value :=
 match E.ty.get t with
 | some r=>match r.desc with
  | .interface _=>none
  | _=>some (.iface t x)
 | none=>none
def Z28(E:Env P)(H:HRel E.G Y h w){t:TypeId}{x v:Value}(hx:okV (dom Y) x)(hv:Xi2 E t x=some v) :
  Gives P E.G Y h w (Instr.makeInterface t (ren Y x)) v h:=by
 unfold Xi2 at hv;split at hv
 ·rename_i r hr;split at hv
  ·cases hv
  ·rename_i hd;cases hv;refine Gives.plain H (by simpa only[okV]using hx) ?_;simp only[Instr.makeInterface,aq,run_underlying (E.tyok t r hr).1,ac,ren_iface];rfl
 ·cases hv
def X93(fn:Fn)(first captured:List Value):Option Value :=
 match fn with
 | .func f=>some (.func (.func f) first.toArray captured.toArray)
 | _=>none
def Z8s{G:Bs}(H:HRel G Y h w){fn:Fn}{first captured:List Value}{v:Value}(h1:∀ x ∈ first,okV (dom Y) x)(h2:∀ x ∈ captured,okV (dom Y) x)(hv:X93 fn first captured=some v) :
  Gives P G Y h w (Instr.makeFunc fn (first.map (ren Y)).toArray (captured.map (ren Y)).toArray) v h:=by
 unfold X93 at hv;split at hv
 ·cases hv;exact Gives.plain H (by simp only[okV,Q8x];exact⟨by simpa using h1,by simpa using h2⟩) (by simp[Instr.makeFunc,ren,Ykn,Qub])
 ·cases hv
def Xzw(x:Value):Option Value :=
 match x with
 | .pointer none | .nilIface | .nilFunc=>none
 | .func (.method _) _ _=>none
 | x=>some x
def Zsp {x v : Value} (hv : Xzw x = some v) (w : World) (n : Option Tmp) (x0 : Operand) (ty : TypeId) (p : String) (af : Array Edge) (g : Option (Nat × Bool)) (ρ : Operand -> Value) (hρ : ρ x0 = ren Y x) :
    v = x /\ (execOp ρ { dst := n, op := .nilCheck x0, type := ty, pos := p, after := af, guard := g }).run P w = .ok (.value (ren Y v)) w := by
  unfold Xzw at hv;split at hv <;> first
    | cases hv; done
    | (cases hv
       refine ⟨rfl, ?_⟩;rename_i n1 n2 n3 n4;simp only [execOp,hρ];cases x with
       | pointer a => cases a with
         | none => exact absurd rfl n1
         | some a => rfl
       | nilIface => exact absurd rfl n2
       | nilFunc => exact absurd rfl n3
       | func fn f c => cases fn <;> first | rfl | exact absurd rfl (n4 _ _ _)
       | _ => rfl)
def Xzy(E:Env P)(x:Value)(t:TypeId)(ok:Bool):Option Value :=
 match E.ty.get t with
 | none=>none
 | some r =>
  match r.desc with
  | .interface _=>none
  | _=>match x with
   | .nilIface=>if ok then some (.tuple #[r.zero,.bool false])else none
   | .iface u v=>if u=t then some (if ok then .tuple #[v,.bool true]else v)else if ok then some (.tuple #[r.zero,.bool false])else none
   | _=>none
def Z9a(E:Env P)(H:HRel E.G Y h w){x v:Value}{xt t:TypeId}{ok:Bool}(hx:okV (dom Y) x)(hv:Xzy E x t ok=some v) :
  Gives P E.G Y h w (Instr.typeAssert (ren Y x) xt t ok) v h:=by
 unfold Xzy at hv;cases hr:E.ty.get t with
 | none=>simp[hr]at hv
 | some r =>
  simp only[hr]at hv;have ho:=E.tyok t r hr;obtain⟨hu,i,hi,_,_,hz,hf,_⟩:=ho;have hfl:flat (.tuple #[r.zero,.bool false])=true:=by simp[flat,flatA,flatL,hf]
  split at hv
  ·cases hv
  ·rename_i hd;split at hv
   ·split at hv
    ·rename_i hok;cases hv;subst hok;refine Gives.flat H hfl ?_;simp only[Instr.typeAssert,aq,run_underlying hu,ac,ren_nilIface];simp[Qif (E.tyok t r hr)]
    ·cases hv
   ·rename_i u y;have hrun:∀ res,(if u=t then(pure (if ok then .tuple #[ren Y y,.bool true]else ren Y y):Sem Value)else
      (if ok then(do pure (.tuple #[<- zeroValue t,.bool false]))else runtimePanic (.typeAssertion (some xt) (some u) t ""))).run P w=res ->
      (Instr.typeAssert (.iface u (ren Y y)) xt t ok).run P w=res:=by
     intro res hres;rw[<- hres];simp only[Instr.typeAssert,aq,run_underlying hu,ac]
    split at hv
    ·rename_i hut;cases hv;simp only[okV]at hx;refine Gives.plain H (by cases ok <;> simp[Q36,okV,hx]) ?_;rw[ren_iface];refine hrun _ ?_;rw[if_pos hut];cases ok <;> simp
    ·rename_i hut;split at hv
     ·rename_i hok;cases hv;subst hok;refine Gives.flat H hfl ?_;rw[ren_iface];refine hrun _ ?_;rw[if_neg hut];simp[Qif (E.tyok t r hr)]
     ·cases hv
   ·cases hv
def Yni(E:Env P)(t:TypeId)(x:Value):Option Value :=
 match E.ty.get t,x with
 | some r,.slice a n _=>match r.desc with
  | .array m _=>if Nat.ble m n then some (.pointer a)else none
  | _=>none
 | _,_=>none
def Z7c(E:Env P)(H:HRel E.G Y h w){t:TypeId}{x v:Value}(hx:okV (dom Y) x)(hv:Yni E t x=some v) :
  Gives P E.G Y h w (Instr.arrayAt t (ren Y x)) v h:=by
 unfold Yni at hv;split at hv
 ·rename_i r a n c hr;split at hv
  ·rename_i m e hd;split at hv
   ·rename_i hc;cases hv;have hle:m<=n:=(by simpa using hc);refine Gives.plain H (by cases a <;> simp only[okV]at hx ⊢;exact hx) ?_;simp only[Instr.arrayAt,aq,run_underlying (E.tyok t r hr).1,hd,ac,ren];rw[if_neg (by omega)];rfl
   ·cases hv
  ·cases hv
 ·cases hv
def Yox(mx:Bool)(args:List Value):Option Value :=
 if flatL args then Qfz (if mx then Builtin.max_ #[] 0 args.toArray else Builtin.min_ #[] 0 args.toArray)else none
def Zho{G:Bs}(H:HRel G Y h w){mx:Bool}{args:List Value}{v:Value}(ts:Array TypeId)(ty:TypeId)(hv:Yox mx args=some v) :
  Gives P G Y h w (if mx then Builtin.max_ ts ty (args.map (ren Y)).toArray else Builtin.min_ ts ty (args.map (ren Y)).toArray) v h:=by
 unfold Yox at hv;split at hv
 ·rename_i hf;obtain⟨h1,h2⟩:=Y3o (P:=P) hv;have hall:∀ l:List Value,flatL l=true->∀ u ∈ l,flat u=true:=by
   intro l;induction l with
   | nil=>simp
   | cons u l ih=>intro hl v hv;simp only[flatL,ao]at hl;rcases ap.1 hv with rfl | h;exact hl.1;exact ih hl.2 v h
  rw[Q6v Y args (hall args hf)];refine Gives.flat H h1 ?_;have:=h2 w;cases mx <;> exact this
 ·cases hv
end
section
variable{P:Program}{G:Bs}{Y:Ren}{h:Heap}{w:World}
def HRel.move(H:HRel G Y h w){b:Nat}{p:Place}{x:Blk}(hb:Y b=some p)(hg:h.get b=some x)(ho:x.own=true) :
  HRel G (Ren.add Y h.next p) ((h.set b none).push x) w/\Turn Y h w (Ren.add Y h.next p) ((h.set b none).push x) w:=by
 have hlt:=(H.dom b p hb).1;have hcase:∀ c q,Ren.add Y h.next p c=some q->(c=h.next/\q=p)∨(c < h.next/\Y c=some q):=by
  intro c q hc;unfold Ren.add at hc;split at hc
  ·cases hc;exact .inl ⟨by assumption,rfl⟩
  ·exact .inr ⟨(H.dom c q hc).1,hc⟩
 have hbo:h.own b=true:=by rw[Q05 hg];exact ho
 have hnx:(h.set b none).next=h.next:=rfl;have hget:∀ c,((h.set b none).push x).get c=if h.next=c then some x else if b=c then none else h.get c:=by
  intro c;rw[Heap.get_push,hnx];split
  ·rfl
  ·rw[gY hlt]
 have hown:∀ c,((h.set b none).push x).own c=if h.next=c then true else if b=c then false else h.own c:=by
  intro c;rw[Q2v,hnx,Q34 hlt,ho]
 have hlive:∀ c,((h.set b none).push x).live c=if h.next=c then true else if b=c then false else h.live c:=by
  intro c;rw[Ykh,hnx,Yxx hlt,eJ ho]
 constructor
 ·refine⟨fun c q hc => ?_,fun c q y hc hy => ?_,fun c d q r hc hd hne hoc hld => ?_,fun g hg' => ?_,cF H.globs,fun c y hy => ?_,fun c q y hc hy => ?_,H.bsz⟩
  ·rcases hcase c q hc with⟨rfl,rfl⟩ | ⟨h1,h2⟩
   ·exact⟨bD _,(H.dom _ _ hb).2⟩
   ·exact⟨bE h1,(H.dom c q h2).2⟩
  ·rw[hget]at hy;rcases hcase c q hc with⟨rfl,rfl⟩ | ⟨h1,h2⟩
   ·simp only[if_true]at hy;cases hy;exact(H.fits b _ _ hb hg).keep (H.add_dom _) rfl
   ·rw[if_neg (by omega)]at hy;split at hy
    ·cases hy
    ·exact(H.fits c q y h2 hy).keep (H.add_dom p) rfl
  ·rw[hown]at hoc;rw[hlive]at hld;rcases hcase c q hc with⟨rfl,rfl⟩ | ⟨h1,h2⟩
   ·rcases hcase d r hd with⟨rfl,rfl⟩ | ⟨h3,h4⟩
    ·exact absurd rfl hne
    ·rw[if_neg (by omega)]at hld;split at hld
     ·cases hld
     ·rename_i hbd;exact H.apart b d _ r hb h4 hbd hbo hld
   ·rcases hcase d r hd with⟨rfl,rfl⟩ | ⟨h3,h4⟩
    ·rw[if_neg (by omega)]at hoc;split at hoc
     ·cases hoc
     ·rename_i hbc;exact H.apart c b q _ h2 hb (fun e=>hbc e.symm) hoc (Yxu hbo)
    ·rw[if_neg (by omega)]at hoc;rw[if_neg (by omega)]at hld;split at hoc
     ·cases hoc
     ·split at hld
      ·cases hld
      ·exact H.apart c d q r h2 h4 hne hoc hld
  ·have:=H.globs;refine⟨by rw[eH Y h.next p g (by omega)];exact(H.glob g hg').1,?_⟩;rw[hown,if_neg (by omega)];split
   ·rfl
   ·exact(H.glob g hg').2
  ·rw[hget]at hy;split at hy
   ·cases hy;exact Xho (fun c hc=>bE hc) (H.wf b x hg)
   ·split at hy
    ·cases hy
    ·exact Xho (fun c hc=>bE hc) (H.wf c y hy)
  ·rw[hget]at hy;rcases hcase c q hc with⟨rfl,rfl⟩ | ⟨h1,h2⟩
   ·simp only[if_true]at hy;cases hy;exact H.base b _ _ hb hg
   ·rw[if_neg (by omega)]at hy;split at hy
    ·cases hy
    ·exact H.base c q y h2 hy
 ·refine⟨ab _,fun k _ _=>rfl,fun c q hc hoc => ?_,rfl,rfl,rfl,ab _,bH _⟩;rw[hown]at hoc;rcases hcase c q hc with⟨rfl,rfl⟩ | ⟨h1,h2⟩
  ·exact .inr ⟨b,_,hb,hbo,rfl⟩
  ·rw[if_neg (by omega)]at hoc;split at hoc
   ·cases hoc
   ·exact .inr ⟨c,q,h2,hoc,rfl⟩
def Zzn(size n:Nat)(x:Value)(h:Heap):Option (List Value) :=
 match x with
 | .slice (some a) _ _=>cellsAt h a (n*size)
 | .slice none _ _=>some []
 | .string s=>some ((s.data.toList.take n).map fun b => .int .u8 b.toNat)
 | _=>none
def X7n(x:Value):Option Nat :=
 match x with
 | .slice _ n _=>some n
 | .string s=>some s.size
 | _=>none
def Ztz{x:Value}{n:Nat}(hx:X7n x=some n)(w:World):(Builtin.lenOf (ren Y x)).run P w=.ok n w:=by
 unfold X7n at hx;split at hx <;> first
  | (cases hx;simp[Builtin.lenOf,ren];done)
  | cases hx
def Z4i(H:HRel G Y h w){size n:Nat}{x:Value}{l:List Value}(hx:okV (dom Y) x)(hl:Zzn size n x h=some l) :
  (∀ v ∈ l,okV (dom Y) v/\v.oneCell'=true)/\(Builtin.firstCells size n (ren Y x)).run P w=.ok (l.map (ren Y)).toArray w:=by
 unfold Zzn at hl;split at hl
 ·rename_i a _ _;simp only[okV]at hx;exact⟨(Q22 H hx.1 hx.2 hl).2.1,by simp only[ren,ax,Builtin.firstCells];exact Qup H hx.1 hx.2 hl⟩
 ·cases hl;exact⟨by simp,by simp[ren,Builtin.firstCells]⟩
 ·rename_i s;cases hl;have hf:∀ v ∈ (s.data.toList.take n).map (fun b=>Value.int .u8 b.toNat),∃ k i,v=.int k i:=by
   intro v hv;obtain⟨b,_,rfl⟩:=am.1 hv;exact⟨_,_,rfl⟩
  refine⟨fun v hv => ?_,?_⟩
  ·obtain⟨k,i,rfl⟩:=hf v hv;exact⟨by simp[okV],rfl⟩
  ·rw[Q6v Y _ (fun v hv=>by obtain⟨k,i,rfl⟩:=hf v hv;rfl)];simp only[ren_string,Builtin.firstCells,aJ];congr 1;apply bu;simp[ByteArray.data_extract,List.extract]
 ·cases hl
def Ybj(E:Env P)(t:TypeId)(dst src:Value)(h:Heap):Option (Value × Heap) :=
 match E.ty.get t,dst with
 | some r,.slice base dLen _=>match r.desc,X7n src with
  | .slice e,some sl=>match E.ty.get e with
   | some re=>match Zzn re.size (Nat.min sl dLen) src h with
    | some l=>match base,l with
     | none,_=>some (.int .i64 (Nat.min sl dLen),h)
     | _,[]=>some (.int .i64 (Nat.min sl dLen),h)
     | some a,v::l=>(storeAt h a (v::l)).map fun h'=>(.int .i64 (Nat.min sl dLen),h')
    | none=>none
   | none=>none
  | _,_=>none
 | _,_=>none
def Jgv(E:Env P)(H:HRel E.G Y h w){t tx ty:TypeId}{dst src v:Value}{h':Heap}(hd:okV (dom Y) dst)(hs:okV (dom Y) src)(hv:Ybj E t dst src h=some (v,h')) :
  Gives P E.G Y h w (Builtin.copy_ #[t,tx] ty #[ren Y dst,ren Y src]) v h':=by
 unfold Ybj at hv;split at hv
 ·rename_i r base dLen c hr;split at hv
  ·rename_i e sl hde hsl;split at hv
   ·rename_i re hre;split at hv
    ·rename_i l hl;obtain⟨s1,s2⟩:=Z4i (P:=P) H hs hl;have hrun:∀ res,((match base with | some a=>storeCells (Wc Y a) (l.map (ren Y)) | none=>pure ()).run P w).andThen (fun _ w' => .ok (.int .i64 (Nat.min sl dLen)) w')=res ->
       (Builtin.copy_ #[t,tx] ty #[ren Y (.slice base dLen c),ren Y src]).run P w=res:=by
      intro res hres;rw[<- hres];cases base <;> simp[Builtin.copy_,run_underlying (E.tyok t r hr).1,hde,ren,Ztz hsl,Qap (E.tyok _ re hre),s2,goInt]
     split at hv
     ·cases hv;exact Gives.flat H rfl (hrun _ rfl)
     ·cases hv;exact Gives.flat H rfl (hrun _ (by cases base <;> rfl))
     ·rename_i a v0 l0;rw[ak]at hv;obtain⟨h1,hst,hq⟩:=hv;cases hq;simp only[okV]at hd;obtain⟨w',r1,r2,r3⟩:=Xef (P:=P) H hd.1 hd.2 s1 hst;exact⟨Y,w',hrun _ (by simp only[r1,ac,ren_int]),by simp[okV],Ext.refl _ _,r2,r3⟩
    ·cases hv
   ·cases hv
  ·cases hv
 ·cases hv
def Qpf(E:Env P)(t:TypeId)(n c:Value)(h:Heap):Option (Value × Heap) :=
 match E.ty.get t,n,c with
 | some r,.int _ n,.int _ c=>match r.desc with
  | .slice e=>match E.ty.get e with
   | some re =>
    if 0<=n/\n<=c/\c<=281474976710656/\re.bytes*c<=281474976710656/\1<=re.size then
     some (.slice (some ⟨h.next,0,none⟩) n.toNat c.toNat,h.push (.cells true 1 (Qc2 re.zero.cells.toList c.toNat)))
    else none
   | none=>none
  | _=>none
 | _,_,_=>none
def Yfb{n:Int}(h0:0<=n)(h1:n<=9223372036854775807):IntKind.i64.wrap n=n:=IntWalk.i64_in _ (by omega)
def Jg5{n c:Int}{b:Nat}(h0:0<=n)(h1:n<=c)(h3:b*c<=281474976710656):(decide (c < 0) || decide ((b:Int)*c > 2 ^ 48) || decide (n < 0) || decide (n > c))=false:=by
 simp only[Bool.or_eq_false_iff,decide_eq_false_iff_not];refine⟨⟨⟨by omega,?_⟩,by omega⟩,by omega⟩;have : (2:Int) ^ 48=281474976710656:=by decide
 omega
def Zie(E:Env P)(H:HRel E.G Y h w){t:TypeId}{n c v:Value}{h':Heap}(hv:Qpf E t n c h=some (v,h')) :
  Gives P E.G Y h w (Instr.makeSlice t (ren Y n) (ren Y c)) v h':=by
 unfold Qpf at hv;split at hv
 ·rename_i r k n k' c hr;split at hv
  ·rename_i e hd;split at hv
   ·rename_i re hre;split at hv
    ·rename_i hc;obtain⟨h0,h1,h2,h3,h4⟩:=hc;cases hv;have ho:=E.tyok e re hre;obtain⟨_,i,hi,_,hby,_,hf,hn,hzs,_⟩:=ho;have hz:∀ v ∈ Qc2 re.zero.cells.toList c.toNat,okV (dom Y) v/\v.oneCell'=true:=fun v hv=>Xcs hf hn (dom Y) v (Qu9 hv);have hzm:=Q6v Y (Qc2 re.zero.cells.toList c.toNat) (fun v hv=>Qsp hf hn v (Qu9 hv));have hg:=Y6u (P:=P) H e hz n.toNat c.toNat (by unfold Ql9;omega);rw[hzm]at hg;obtain⟨Y',w',r1,r2⟩:=hg;refine⟨Y',w',?_,r2⟩;rw[<- r1];have hwn:IntKind.i64.wrap n=n:=Yfb h0 (by omega);have hwc:IntKind.i64.wrap c=c:=Yfb (by omega) (by omega);have hti:∀ w:World,(typeInfo e).run P w=.ok i w:=fun w=>by simp[typeInfo,hi]
     simp only[Instr.makeSlice,aq,run_underlying (E.tyok t r hr).1,hd,ac,ren_int,asInt,asIntOf,aJ,hti,hby,hwn,hwc,dw];have hg:=Jg5 h0 h1 h3;simp only[hg,av,if_false,run_askRoom,ac,Qap (E.tyok e re hre)];by_cases hc0:c.toNat*re.size=0
     ·have h00:c.toNat=0:=by rcases dq.1 hc0 with h | h <;> omega
      have hr0:∀ f:Nat->Value,(Array.range 0).map f = #[]:=fun f=>by simp
      simp only[h00,di,if_true,hr0,Qc2,aq,aJ]
     ·simp only[hc0,if_false,Qif (E.tyok e re hre),ac];rw[<- hzs,Q7s _ _ (by omega)]
    ·cases hv
   ·cases hv
  ·cases hv
 ·cases hv
end
section
variable{P:Program}{G:Bs}{Y:Ren}{h:Heap}{w:World}
def Ybb(E:Env P)(tx:TypeId)(re:TyRec)(x:Value)(h:Heap):Option (Nat × List Value) :=
 match E.ty.get tx with
 | none=>none
 | some rx=>match rx.desc with
  | .int _=>match x with
   | .int _ n=>if 0<=n/\n<=140737488355328/\re.bytes*n<=140737488355328/\1<=re.size then some (n.toNat,Qc2 re.zero.cells.toList n.toNat)else none
   | _=>none
  | _=>match X7n x with
   | some n=>match Zzn re.size n x h with
    | some l=>some (n,l)
    | none=>none
   | none=>none
def Qjr(E:Env P)(t tx:TypeId)(s x:Value)(h:Heap):Option (Value × Heap) :=
 match E.ty.get t,s with
 | some r,.slice base n c=>match r.desc with
  | .slice e=>match E.ty.get e with
   | none=>none
   | some re=>if !(Nat.ble 1 re.size)then none else match Ybb E tx re x h with
    | none=>none
    | some (m,news) =>
     let need:=n+m
     if news.length != m*re.size then none else
     if c != Ql9 && Nat.ble need c then
      match base,news with
      | _,[]=>some (.slice base need c,h)
      | some a,v::l=>(storeAt h (a.add (n*re.size)) (v::l)).map fun h'=>(.slice base need c,h')
      | none,_=>none
     else if !(Nat.ble (need*re.bytes) 140737488355328 && Nat.ble need 140737488355328)then none
     else if c != Ql9 then
      match (match base with | none=>if n == 0 then some []else none | some a=>cellsAt h a (n*re.size))with
      | some olds=>some (.slice (some ⟨h.next,0,none⟩) need Ql9,h.push (.cells true re.size (olds++news)))
      | none=>none
     else match base with
      | none=>none
      | some a=>match h.get a.block with
       | some (.cells true sz cs) =>
        if !(sz == re.size && a.off % sz == 0)then none
        else if Nat.ble (a.off+need*sz) cs.length then
         match news with
         | []=>some (.slice base need Ql9,h)
         | v::l=>(storeAt h (a.add (n*sz)) (v::l)).map fun h'=>(.slice base need Ql9,h')
        else if a.off == 0 then
         match Q72 (n*sz) cs with
         | some olds=>some (.slice (some ⟨h.next,0,none⟩) need Ql9,(h.set a.block none).push (.cells true sz (olds++news)))
         | none=>none
        else none
       | _=>none
  | _=>none
 | _,_=>none
def Jcb(P:Program)(re:TyRec)(tx:TypeId)(x:Value)(m:Nat)(news:Array Value)(w:World):Prop :=
 (∃ d,P.underlying tx=some d/\(∀ k,d ≠ .int k)/\∀ w':World,w'.heap=w.heap->(Builtin.lenOf x).run P w'=.ok m w'/\(Builtin.firstCells re.size m x).run P w'=.ok news w') ∨
 (∃ k q i,P.underlying tx=some (.int k)/\x=.int q i/\0<=i/\i<=140737488355328/\re.bytes*i<=140737488355328/\1<=re.size/\m=i.toNat/\news=(Qc2 re.zero.cells.toList m).toArray)
def Q2x{t tx ty e:TypeId}{re:TyRec}(hu:P.underlying t=some (.slice e))(hre:Z77 P e re)(base:Option Addr)(n c m:Nat)(x:Value)(news:Array Value)
  (hn:Jcb P re tx x m news w) (hroom:n+m<=c) :
  (Builtin.append_ #[t,tx] ty #[.slice base n c,x]).run P w =
   ((match base with | some a=>storeCells (a.add (n*re.size)) news.toList | none=>pure ()).run P w).andThen fun _ w' => .ok (.slice base (n+m) c) w':=by
 have ho:=hre;obtain⟨_,i0,hi,_,hby,_,_,_,hzs,_⟩:=ho;rcases hn with⟨d,hd,hni,hrun⟩ | ⟨k,q,i,hd,rfl,h0,h1,h2,h3,rfl,rfl⟩
 ·obtain⟨r1,r2⟩:=hrun w rfl;cases base <;> simp[Builtin.append_,run_underlying hu,run_underlying hd,Qap hre,r1,r2,hroom]
 ·have hw:IntKind.i64.wrap i=i:=Yfb h0 (by omega);have hneg:¬ i < 0:=by omega
  have hbig:¬ (i*(re.bytes:Int) > 281474976710656):=by rw[Int.mul_comm];omega
  have hbig':¬ (281474976710656 < i*(re.bytes:Int)):=hbig;have hti:∀ w:World,(typeInfo e).run P w=.ok i0 w:=fun w=>by simp[typeInfo,hi]
  have hzc:Builtin.zeroCells re.zero.cells i.toNat=(Qc2 re.zero.cells.toList i.toNat).toArray:=Q7s _ _ (by omega);by_cases hm:i.toNat=0
  ·have h00:i=0:=by omega
   subst h00;have hroom':n<=c:=by simpa using hroom
   cases base <;> simp[Builtin.append_,run_underlying hu,run_underlying hd,Qap hre,asInt,asIntOf,hw,hti,hroom',Qc2]
  ·have hne':¬ (i.toNat*re.size=0):=by
    intro h;rcases dq.1 h with h | h <;> omega
   cases base <;> simp[Builtin.append_,run_underlying hu,run_underlying hd,Qap hre,asInt,asIntOf,hw,hneg,hti,hby,hbig',hroom,Qif hre,hzc,hne']
def Xmu{t tx ty e:TypeId}{re:TyRec}(hu:P.underlying t=some (.slice e))(hre:Z77 P e re)(base:Option Addr)(n c m:Nat)(x:Value)(news olds:Array Value)
  (hn:Jcb P re tx x m news w) (hold:∀ w':World,w'.heap=w.heap->(Builtin.firstCells re.size n (.slice base n c)).run P w'=.ok olds w') (hroom:c < n+m)
  (hfit:(n+m)*re.bytes<=140737488355328) (hle:n+m<=140737488355328) :
  ∃ nc,n+m<=nc/\(Builtin.append_ #[t,tx] ty #[.slice base n c,x]).run P w =
   .ok (.slice (some ⟨w.heap.size,0,none⟩) (n+m) nc) {w with drawn:=w.drawn+1,heap:=w.heap.push (.cells (olds++news++Builtin.zeroCells re.zero.cells (nc-(n+m))) e)}:=by
 have ho:=hre;obtain⟨_,i0,hi,_,hby,_,_,_,hzs,_⟩:=ho;have hge:=grownCap_ge w (n+m) c e;refine⟨grownCap w (n+m) c e,hge,?_⟩;have hnr:¬ (n+m<=c):=by omega
 have h63:¬ (9223372036854775807 < ((n:Int)+(m:Int))):=by omega
 have h48:¬ (281474976710656 < Builtin.nextslicecap (n+m) c*re.bytes):=by
  have:=growslice_fits (old:=c) (need:=n+m) hroom hfit;omega
 have hti:∀ w:World,(typeInfo e).run P w=.ok i0 w:=fun w=>by simp[typeInfo,hi]
 have hold':=hold w.drew rfl;rcases hn with⟨d,hd,hni,hrun⟩ | ⟨k,q,i,hd,rfl,h0,h1,h2,h3,rfl,rfl⟩
 ·obtain⟨r1,_⟩:=hrun w rfl;obtain⟨_,r2⟩:=hrun w.drew rfl;simp[Builtin.append_,run_underlying hu,run_underlying hd,Qap hre,r1,r2,hnr,h63,h48,hti,hby,Question.forced,hold',Qif hre,newRow,grownCap];rfl
 ·have hw:IntKind.i64.wrap i=i:=Yfb h0 (by omega);have hneg:¬ i < 0:=by omega
  have hbig:¬ (i*(re.bytes:Int) > 281474976710656):=by rw[Int.mul_comm];omega
  have hbig':¬ (281474976710656 < i*(re.bytes:Int)):=hbig;have hzc:Builtin.zeroCells re.zero.cells i.toNat=(Qc2 re.zero.cells.toList i.toNat).toArray:=Q7s _ _ (by omega);have h63':¬ (9223372036854775807 < (n:Int)+max i 0):=by omega
  by_cases hm:i.toNat=0
  ·have h00:i=0:=by omega
   subst h00;have e1:n+(0:Int).toNat=n:=by simp
   rw[e1]at hnr h48 hge ⊢;have h63'':¬ (9223372036854775807 < (n:Int)):=by omega
   simp[Builtin.append_,run_underlying hu,run_underlying hd,Qap hre,asInt,asIntOf,hw,hti,hby,hnr,h63'',h48,Question.forced,hold',Qif hre,newRow,grownCap,Qc2];rfl
  ·have hne':¬ (i.toNat*re.size=0):=by
    intro h;rcases dq.1 h with h | h <;> omega
   simp[Builtin.append_,run_underlying hu,run_underlying hd,Qap hre,asInt,asIntOf,hw,hneg,hti,hby,hbig',hnr,h63',h48,Question.forced,hold',Qif hre,hzc,hne',newRow,grownCap];rfl
def Ji0(E:Env P)(H:HRel G Y h w){tx:TypeId}{re:TyRec}{x:Value}{m:Nat}{news:List Value}(hx:okV (dom Y) x){e:TypeId}(hre:Z77 P e re)
  (hv:Ybb E tx re x h=some (m,news)):(∀ v ∈ news,okV (dom Y) v/\v.oneCell'=true)/\Jcb P re tx (ren Y x) m (news.map (ren Y)).toArray w:=by
 unfold Ybb at hv;split at hv
 ·cases hv
 ·rename_i rx hrx;split at hv
  ·rename_i k hd;split at hv
   ·rename_i q i;split at hv
    ·rename_i hc;cases hv;obtain⟨_,_,_,_,_,_,hf,hn,hzs,_⟩:=hre;have hzm:=Q6v Y (Qc2 re.zero.cells.toList i.toNat) (fun v hv=>Qsp hf hn v (Qu9 hv));refine⟨fun v hv=>Xcs hf hn (dom Y) v (Qu9 hv),.inr ⟨k,q,i,by rw[(E.tyok tx rx hrx).1,hd],by simp,hc.1,hc.2.1,hc.2.2.1,hc.2.2.2,rfl,by rw[hzm]⟩⟩
    ·cases hv
   ·cases hv
  ·rename_i hd;split at hv
   ·rename_i n hn;split at hv
    ·rename_i l hl;cases hv;refine⟨(Z4i (P:=P) H hx hl).1,.inl ⟨_,(E.tyok tx rx hrx).1,fun k hk=>hd k hk,fun w' hw'=>⟨Ztz hn w',(Z4i (P:=P) (H.same hw') hx hl).2⟩⟩⟩
    ·cases hv
   ·cases hv
def Zuy{p:Place}{sz:Nat}{cs:List Value}(hf:Fits Y p w (.cells true sz cs)):p.base=0/\cs.length<=p.room*sz/\p.sz=sz/\∃ C e lo hi,w.heap[p.blk]? = some (.cells C e (lo,hi)) /\
  (∀ (i:Nat) (v:Value),cs[i]? = some v->C[i]? = some (ren Y v)/\okV (dom Y) v/\v.oneCell'=true)/\Thawed C.size lo hi/\C.size=p.room*sz:=by
 obtain⟨hz,hf⟩:=hf;rcases hf with⟨h0,_⟩ | ⟨C,e,lo,hi,f1,f2,f3⟩
 ·cases h0
 obtain⟨f31,f32,f33⟩:=f3 rfl;refine⟨f31,?_,hz,C,e,lo,hi,f1,fun i v hv=>by have:=f2 i v hv;rwa [f31,ba]at this,f32,by rw[f33,hz]⟩;rw[<- hz,<- f33];rcases aU C.size cs.length with hlt | hge
 ·have:=(f2 C.size _ (List.getElem?_eq_getElem hlt)).1;simp[f31]at this
 ·exact hge
def Zgr(H:HRel G Y h w){e:TypeId}{re:TyRec}(hre:Z77 P e re){l:List Value}(hl:∀ v ∈ l,okV (dom Y) v/\v.oneCell'=true){k nc:Nat}(hk:l.length=k*re.size)(hnc:k<=nc)(rest:Array Value)
  (hrest:rest=Builtin.zeroCells re.zero.cells (nc-k)) {w':World} (hw':w' = {w with drawn:=w.drawn+1,heap:=w.heap.push (.cells ((l.map (ren Y)).toArray++rest) e)}) :
  ∃ Y',ren Y' (.slice (some ⟨h.next,0,none⟩) k Ql9)=.slice (some ⟨w.heap.size,0,none⟩) k nc/\dom Y' h.next/\Ext h.next Y Y'/\HRel G Y' (h.push (.cells true re.size l)) w'/\Turn Y h w Y' (h.push (.cells true re.size l)) w':=by
 obtain⟨_,i0,hi,_,hby,_,_,_,hzs,_⟩:=hre;have hsz:rest.size=(nc-k)*re.size:=by rw[hrest,size_zeroCells,hzs]
 let p:Place:={blk:=w.heap.size,base:=0,room:=nc,sz:=re.size,spot:=none}
 let w1:World:={w with drawn:=w.drawn+1}
 have H1:HRel G Y h w1:=H.same rfl;have hp:=H1.push (x:=.cells true re.size l) rfl (p:=p) rfl (o:=.cells ((l.map (ren Y)).toArray++rest) e) (w':=w') (by rw[hw']) (by
  refine⟨rfl,.inr ⟨(l.map (ren Y)).toArray++rest,e,0,0,by rw[hw'];simp[p],fun i v hv => ?_,fun _=>⟨rfl,.inl rfl,?_⟩⟩⟩
  ·have hm:=hl v (List.mem_of_getElem? hv);have hd:∀ b,dom Y b->Ren.add Y h.next p b=Y b:=H.add_dom _;refine⟨?_,okV_mono (fun b hb=>by simpa[dom,hd b hb]using hb) v hm.1,hm.2⟩;rw[ren_congr hd v hm.1];have hlt:i < l.length:=by
    rcases aU i l.length with h | h
    ·exact h
    ·rw[List.getElem?_eq_none h]at hv;cases hv
   rw[show p.base+i=i from ba i,Array.getElem?_append_left (by simpa using hlt)];simp[hv]
  ·show((l.map (ren Y)).toArray++rest).size=nc*re.size;simp only[dK,dI,aL,hk,hsz,<- bF];congr 1;omega)
 refine⟨Ren.add Y h.next p,?_,by simp[dom,eF],eH _ _ _,hp.1,(Turn.drew Y h w (bH _)).trans hp.2⟩;simp[ren,Wc,eF,Xfs,p]
end
section
variable{P:Program}{Y:Ren}{h:Heap}{w:World}
def Z06(h:Heap)(b:Nat)(x y:Option Blk):(h.set b x).set b y=h.set b y:=by
 simp only[Heap.set,Tr.put_put,Nat.min_assoc,Nat.min_self]
def Z8u:∀ (n:Nat) (l r:List Value),Q72 n l=some r->r=l.take n:=fun n l r hr=>by
 have:=Yqq (n:=n) (off:=0) (cs:=l) (l:=r) (by simpa using hr);simpa using this
def Z80(E:Env P)(H:HRel E.G Y h w){t tx ty:TypeId}{s x v:Value}{h':Heap}(hs:okV (dom Y) s)(hx:okV (dom Y) x)(hv:Qjr E t tx s x h=some (v,h')) :
  Gives P E.G Y h w (Builtin.append_ #[t,tx] ty #[ren Y s,ren Y x]) v h':=by
 unfold Qjr at hv;split at hv
 ·rename_i r base n c hr;split at hv
  ·rename_i e hd;split at hv
   ·cases hv
   ·rename_i re hre;have hu:P.underlying t=some (.slice e):=by rw[(E.tyok t r hr).1,hd]
    have ho:=E.tyok e re hre;split at hv
    ·cases hv
    ·rename_i h1;have h1':1<=re.size:=(by simpa using h1);split at hv
     ·cases hv
     ·rename_i m news hnews;obtain⟨nw1,nw2⟩:=Ji0 E H hx ho hnews;simp only at hv;split at hv
      ·cases hv
      ·rename_i hlen;have hlen':news.length=m*re.size:=(by simpa using hlen);split at hv
       ·
        rename_i hroom;simp only[ao,bne_iff_ne,ne_eq,bU]at hroom;obtain⟨hc,hroom⟩:=hroom;have hrun:=Q2x (w:=w) (ty:=ty) hu ho (base.map (Wc Y)) n c m (ren Y x) _ nw2 hroom;rw[Qfa _ _ _ _ hc];split at hv
        ·cases hv;refine Gives.plain H (by cases base <;> simpa only[okV]using hs) ?_;rw[hrun,Qfa _ _ _ _ hc];cases base <;> rfl
        ·rename_i a v0 l0;rw[ak]at hv;obtain⟨h1,hst,hq⟩:=hv;cases hq;simp only[okV]at hs;obtain⟨w',r1,r2,r3⟩:=Xef (P:=P) H (a:=a.add (n*re.size)) (by rw[Q7x];exact hs.1) (Xu6 _ _ hs.2) nw1 hst;refine⟨Y,w',?_,by simpa only[okV]using hs,Ext.refl _ _,r2,r3⟩;rw[hrun,Qfa _ _ _ _ hc];rw[Q1u Y a hs.1 hs.2]at r1;simp only[ax,r1,ac]
        ·cases hv
       ·rename_i hnroom;split at hv
        ·cases hv
        ·rename_i hfit;simp only[bS,da,ao,bU]at hfit;obtain⟨hfit,hle⟩:=hfit;split at hv
         ·
          rename_i hc;have hc':c≠Ql9:=(by simpa using hc);have hlt:c < n+m:=by
           simp only[ao,bne_iff_ne,ne_eq,bU,not_and]at hnroom;exact Nat.lt_of_not_le (hnroom hc')
          split at hv
          ·rename_i olds hold;cases hv;have hol:olds.length=n*re.size/\(∀ v ∈ olds,okV (dom Y) v/\v.oneCell'=true)/\∀ w':World,w'.heap=w.heap->(Builtin.firstCells re.size n (.slice (base.map (Wc Y)) n c)).run P w'=.ok (olds.map (ren Y)).toArray w':=by
            split at hold
            ·split at hold
             ·rename_i hn0;cases hold;have : n=0:=(by simpa using hn0);subst this;exact⟨by simp,by simp,fun w' _=>by simp[Builtin.firstCells]⟩
             ·cases hold
            ·rename_i a;simp only[okV]at hs;have:=Q22 H hs.1 hs.2 hold;refine⟨this.1,this.2.1,fun w' hw' => ?_⟩;simp only[Builtin.firstCells,ax];exact Qup (H.same hw') hs.1 hs.2 hold
           obtain⟨ol1,ol2,ol3⟩:=hol;obtain⟨nc,g1,g2⟩:=Xmu (w:=w) (ty:=ty) hu ho (base.map (Wc Y)) n c m (ren Y x) _ _ nw2 ol3 hlt hfit hle;obtain⟨Y',e1,e2,e3,e4,e5⟩:=Zgr (w':=_) H (e:=e) ho (l:=olds++news) (fun v hv=>(al.1 hv).elim (ol2 v) (nw1 v)) (k:=n+m) (nc:=nc)
            (by rw[ae,ol1,hlen',bF]) g1 _ rfl rfl
           refine⟨Y',_,?_,by simp only[okV];exact⟨e2,trivial⟩,e3,e4,e5⟩;rw[Qfa _ _ _ _ hc',g2,e1];simp
          ·cases hv
         ·
          rename_i hc;have hc':c=Ql9:=(by simpa using hc);subst hc';split at hv
          ·cases hv
          ·rename_i a;simp only[okV]at hs;obtain⟨p,hp⟩:=az.1 hs.1;split at hv
           ·rename_i sz cs hg;split at hv
            ·cases hv
            ·rename_i hcond;simp only[bS,da,ao,beq_iff_eq]at hcond;obtain⟨rfl,hoff⟩:=hcond;obtain⟨hb0,hcl,hpz,C,te,lo,hi,f1,f2,f3,f4⟩:=Zuy (H.fits _ p _ hp hg);have hopen:∀ k,ren Y (.slice (some a) k Ql9)=.slice (some (Wc Y a)) k (p.room-a.off / re.size):=fun k=>by rw[Qv4 Y a k hp,hpz]
             obtain⟨q,hq⟩:=dn hoff;have hqd:a.off / re.size=q:=(by rw[hq,cz _ h1']);split at hv
             ·
              rename_i hroom;have hroom':a.off+(n+m)*re.size<=cs.length:=by simpa using hroom
              have hr2:n+m<=p.room-a.off / re.size:=by
               rw[hqd];have : re.size*(q+(n+m))<=re.size*p.room:=by rw[Nat.mul_add,d8 re.size (n+m),d8 re.size p.room,<- hq];omega
               have:=Nat.le_of_mul_le_mul_left this h1';omega
              have hrun:=Q2x (w:=w) (ty:=ty) hu ho (some (Wc Y a)) n _ m (ren Y x) _ nw2 hr2;rw[hopen];split at hv
              ·cases hv;refine Gives.plain H (by simpa only[okV]using hs) ?_;rw[hrun,hopen];rfl
              ·rename_i v0 l0;rw[ak]at hv;obtain⟨h2,hst,hq2⟩:=hv;cases hq2;obtain⟨w',r1,r2,r3⟩:=Xef (P:=P) H (a:=a.add (n*re.size)) (by rw[Q7x];exact hs.1) (Xu6 _ _ hs.2) nw1 hst;refine⟨Y,w',?_,by simpa only[okV]using hs,Ext.refl _ _,r2,r3⟩;rw[hrun,hopen];rw[Q1u Y a hs.1 hs.2]at r1;simp only[r1,ac]
             ·rename_i hnr;split at hv
              ·rename_i hoff0;have ha0:a.off=0:=(by simpa using hoff0);split at hv
               ·rename_i olds hold;cases hv;have hotk:=Z8u _ _ _ hold;have ho1:olds.length=n*re.size:=(Q5e _ _ _ hold).1;have hoc:∀ v ∈ olds,okV (dom Y) v/\v.oneCell'=true:=fun v hv=>by
                 obtain⟨i,hi'⟩:=List.getElem?_of_mem hv;exact(f2 i v ((Q5e _ _ _ hold).2 i v hi')).2
                have hall:∀ v ∈ olds++news,okV (dom Y) v/\v.oneCell'=true:=fun v hv=>(al.1 hv).elim (hoc v) (nw1 v);have hcat:cellsAt h a (n*re.size)=some olds:=by
                 unfold cellsAt;rw[hg];simp only[ha0,bB];exact hold
                have hown:h.own a.block=true:=Q05 hg;by_cases hroom:n+m<=p.room-a.off / re.size
                ·
                 have hrun:=Q2x (w:=w) (ty:=ty) hu ho (some (Wc Y a)) n _ m (ren Y x) _ nw2 hroom;rw[hopen];have hsz:(n+m)*re.size<=C.size:=by rw[f4];rw[ha0,Nat.zero_div]at hroom;exact bC _ hroom
                 obtain⟨C',r1,r2,r3⟩:=Q2t (P:=P) p.blk te lo hi (news.map (ren Y)) (n*re.size) C w f1 f3.not (by simp[hlen'];rw[<- bF];exact hsz)
                  (fun v hv=>by obtain⟨u,hu',rfl⟩:=am.1 hv;rw[Yyt];exact(nw1 u hu').2) 0 (n*re.size) (by omega)
                 have hfit':Fits Y p (World.turned w p.blk (.cells C' te (lo,hi))) (.cells true re.size (olds++news)):=by
                  refine⟨hpz,.inr ⟨C',te,lo,hi,Qtz (H.blk_lt hp hg rfl),fun i v hv => ?_,fun _=>⟨hb0,by rw[r2];exact f3,by rw[r2,f4,hpz]⟩⟩⟩;refine⟨?_,hall v (List.mem_of_getElem? hv)⟩;rw[hb0,ba,r3 i];simp only[aL];by_cases hi':i < olds.length
                  ·rw[if_neg (by omega)];rw[List.getElem?_append_left hi']at hv;exact(f2 i v ((Q5e _ _ _ hold).2 i v hv)).1
                  ·rw[List.getElem?_append_right (by omega)]at hv;have hlt:i-olds.length < news.length:=by
                    rcases aU (i-olds.length) news.length with h | h
                    ·exact h
                    ·rw[List.getElem?_eq_none h]at hv;cases hv
                   rw[if_pos (by omega),List.getElem?_map,<- ho1,hv];rfl
                 obtain⟨H2,T2⟩:=H.upd hp hown (x:=.cells true re.size (olds++news)) rfl hfit';have hgs:(h.set a.block (some (.cells true re.size (olds++news)))).get a.block=some (.cells true re.size (olds++news)):=by
                  rw[gY (H.dom _ _ hp).1];simp
                 obtain⟨H3,T3⟩:=H2.move hp hgs rfl;have T:=T2.trans T3;rw[Z06]at H3 T;refine⟨Ren.add Y h.next p,_,?_,?_,eH _ _ _,H3,T⟩
                 ·rw[hrun];have hra:Wc Y a=⟨p.blk,0,none⟩:=by
                   obtain⟨b0,o0,s0⟩:=a;simp only at hs hp ha0;simp[Wc,hp,hb0,ha0,hs.2,H.spot hp hg rfl]
                  rw[hra];simp only[Qq7,ba,r1,ac];congr 1;simp only[ren,ax,Wc,Xfs,if_true];simp[eF,hb0,ha0,H.spot hp hg rfl]
                 ·simp only[okV];exact⟨by simp[dom,eF],trivial⟩
                ·
                 obtain⟨Hk,Tk⟩:=H.kill (H.dom _ _ hp).1;rw[hopen];have ol3:∀ w':World,w'.heap=w.heap->(Builtin.firstCells re.size n (.slice (some (Wc Y a)) n (p.room-a.off / re.size))).run P w'=.ok (olds.map (ren Y)).toArray w':=fun w' hw'=>by
                  simp only[Builtin.firstCells];exact Qup (H.same hw') hs.1 hs.2 hcat
                 obtain⟨nc,g1,g2⟩:=Xmu (w:=w) (ty:=ty) hu ho (some (Wc Y a)) n _ m (ren Y x) _ _ nw2 ol3 (Nat.lt_of_not_le hroom) hfit hle;obtain⟨Y',e1,e2,e3,e4,e5⟩:=Zgr (w':=_) Hk (e:=e) ho (l:=olds++news) hall (k:=n+m) (nc:=nc)
                  (by rw[ae,ho1,hlen',bF]) g1 _ rfl rfl
                 refine⟨Y',_,?_,by simp only[okV];exact⟨e2,trivial⟩,e3,e4,Tk.trans e5⟩;rw[g2];have e1':ren Y' (.slice (some ⟨h.next,0,none⟩) (n+m) Ql9)=.slice (some ⟨w.heap.size,0,none⟩) (n+m) nc:=e1;rw[e1'];simp
               ·cases hv
              ·cases hv
           ·cases hv
  ·cases hv
 ·cases hv
end
def Xuy(s:ByteArray):List Value:=s.data.toList.map fun b => .int .u8 b.toNat
def Xj9:List Value->Option (List Int)
 | []=>some []
 | .int .u8 n::l=>match Xj9 l with
  | some r=>some (n::r)
  | none=>none
 | _::_=>none
def Qy5{P:Program}(E:Env P)(src dst:TypeId):Bool :=
 match E.ty.get src,E.ty.get dst with
 | some s,some d=>match d.desc,s.desc with
  | .int _,_=>true
  | .string,.string=>true
  | _,_=>false
 | _,_=>false
def Xla{P:Program}(E:Env P)(src dst:TypeId)(x:Value)(h:Heap):Option (Value × Heap) :=
 match E.ty.get src,E.ty.get dst,x with
 | some _,some d,.string b=>match d.desc with
  | .slice e=>match E.ty.get e with
   | some re=>match re.desc with
    | .int .u8=>some (.slice (some ⟨h.next,0,none⟩) b.size Ql9,h.push (.cells true 1 (Xuy b)))
    | _=>none
   | none=>none
  | _=>none
 | some s,some d,.slice a n c=>match s.desc,d.desc with
  | .slice _,.slice e=>match src == dst,a,E.ty.get e with
   | true,some a,some re=>match re.desc,h.get a.block with
    | .int .u8,some (.cells true _ _)=>some (.slice (some a) n c,h)
    | _,_=>none
   | _,_,_=>none
  | .slice e,.string=>match E.ty.get e with
   | some re=>match re.desc with
    | .int .u8=>match a with
     | none=>some (.string .empty,h)
     | some a=>match cellsAt h a n with
      | some l=>match Xj9 l with
       | some bs=>some (.string ⟨⟨bs.map fun n=>UInt8.ofNat n.toNat⟩⟩,h)
       | none=>none
      | none=>none
    | _=>none
   | none=>none
  | _,_=>none
 | _,_,_=>none
section
variable{P:Program}{G:Bs}{Y:Ren}{h:Heap}{w:World}
def Yoo:∀ {l:List Value} {bs:List Int},Xj9 l=some bs->l=bs.map (Value.int .u8)
 | [],bs,hb=>by simp[Xj9]at hb;subst hb;rfl
 | v::l,bs,hb=>by
  unfold Xj9 at hb;split at hb
  ·rename_i e;cases e
  ·rename_i n l' e;cases e;split at hb
   ·rename_i r hr;cases hb;simp[Yoo hr]
   ·cases hb
  ·cases hb
def Zhl(ns:List Int):∀ (r:ByteArray),ns.foldl (fun r n=>r.push (UInt8.ofNat n.toNat)) r=⟨r.data++(ns.map fun n=>UInt8.ofNat n.toNat).toArray⟩:=by
 induction ns with
 | nil=>intro r;simp
 | cons n ns ih =>
  intro r;rw[du,ih];simp[ByteArray.push]
def Yqy{h:Heap}{b:Nat}{x:Blk}(hg:h.get b=some x)(c:Nat):h.get c=(h.set b (some x)).get c:=by
 rw[gY (Heap.get_lt hg)];split
 ·rename_i e;subst e;exact hg
 ·rfl
def Jls(H:HRel G Y h w){a:Addr}(ha:dom Y a.block){sz:Nat}{c:List Value}(hg:h.get a.block=some (.cells true sz c)) :
  ∃ w',(markStringish (Wc Y a)).run P w=.ok () w'/\HRel G Y h w'/\Turn Y h w Y h w':=by
 obtain⟨p,hp⟩:=az.1 ha;have hfit:=H.fits _ p _ hp hg;obtain⟨f0,f⟩:=hfit;rcases f with⟨f,_⟩ | ⟨C,e,lo,hi,f1,f2,f3⟩
 ·cases f
 obtain⟨f31,f32,f33⟩:=f3 rfl;have hlt:=H.blk_lt hp hg rfl
 let fr:Nat × Nat:=if lo == hi then(C.size,C.size+1)else(min lo C.size,max hi (C.size+1))
 have hthaw:Thawed C.size fr.1 fr.2:=by
  simp only[fr];split
  ·exact .inr (ab _)
  ·rename_i hne;rcases f32 with h | h
   ·simp[h]at hne
   ·right;simp only;omega
 have hw:w.freeze {block:=p.blk,off:=C.size} 1=World.turned w p.blk (.cells C e fr):=by
  unfold World.freeze World.turned;rw[if_neg (by decide)];congr 1;apply Array.ext_getElem?;intro i;rw[Array.getElem?_modify,Array.getElem?_setIfInBounds];by_cases h:p.blk=i
  ·subst h;have hx:w.heap[p.blk]=.cells C e (lo,hi):=by
    rw[Array.getElem?_eq_getElem hlt]at f1;exact bz f1
   simp[hlt,fr,hx]
  ·simp[h]
 refine⟨World.turned w p.blk (.cells C e fr),?_,?_⟩
 ·have hsh:w.shape? p.blk=some (e,C.size):=by unfold World.shape?;rw[f1]
  simp only[markStringish,Wc,hp,aq,run_shape,ac,hsh,run_freeze,hw]
 ·have:=H.upd hp (Q05 hg) (x:=.cells true sz c) rfl (o:=.cells C e fr) ⟨f0,.inr ⟨C,e,fr.1,fr.2,Qtz hlt,f2,fun _=>⟨f31,hthaw,f33⟩⟩⟩;exact⟨this.1.congr H.globs (fun b hb=>Qkr H hb) (fun b _=>Yqy hg b) H.wf,this.2.heap (fun b _=>Yqy hg b) (ab _)⟩
def Jdq(E:Env P)(H:HRel E.G Y h w){src dst:TypeId}{x v:Value}{h':Heap}(hx:okV (dom Y) x)(hv:Xla E src dst x h=some (v,h')):Gives P E.G Y h w (convert src dst (ren Y x)) v h':=by
 unfold Xla at hv;split at hv
 ·rename_i s d b hs hd;split at hv
  ·rename_i e hde;split at hv
   ·rename_i re hre;split at hv
    ·rename_i hu8;cases hv;have ho:=E.tyok e re hre;have hdu:=(E.tyok dst d hd).1;rw[hde]at hdu;have heu:=ho.1;rw[hu8]at heu;have hr:=Go.Lib.run_convert_string_bytes (P:=P) w src dst e b (E.tyok src s hs).1 hdu heu;have hge:=grownCap_ge w b.size 0 e;have hheap:(Go.Lib.bytesWorld w e b).heap=w.heap.push (.cells (Go.Lib.bytesCells w e b) e ((Go.Lib.bytesCells w e b).size,(Go.Lib.bytesCells w e b).size+1)):=by
      apply Array.ext
      ·rw[Go.Lib.bytesWorld_size];simp
      ·intro i h1 h2;have hh:(Go.Lib.bytesWorld w e b).heap[i]? = (w.heap.push (.cells (Go.Lib.bytesCells w e b) e ((Go.Lib.bytesCells w e b).size,(Go.Lib.bytesCells w e b).size+1)))[i]? := by
        rcases aU i w.heap.size with hi | hi
        ·rw[Go.Lib.bytesWorld_at_old w e b i hi,Array.getElem?_push,if_neg (by omega)]
        ·have : i=w.heap.size:=(by rw[Go.Lib.bytesWorld_size]at h1;omega);subst this;rw[Go.Lib.bytesWorld_at_new];simp
       rw[Array.getElem?_eq_getElem h1,Array.getElem?_eq_getElem h2]at hh;exact bz hh
     have hw':Go.Lib.bytesWorld w e b = {w with drawn:=w.drawn+1,heap:=w.heap.push (.cells (Go.Lib.bytesCells w e b) e ((Go.Lib.bytesCells w e b).size,(Go.Lib.bytesCells w e b).size+1))}:=by
      rw[<- hheap];rfl
     have hcs:(Go.Lib.bytesCells w e b).size=grownCap w b.size 0 e:=by
      have : b.data.size=b.size:=rfl;simp[Go.Lib.bytesCells];omega
     let p:Place:={blk:=w.heap.size,base:=0,room:=grownCap w b.size 0 e,sz:=1,spot:=none}
     let w1:World:={w with drawn:=w.drawn+1}
     have H1:HRel E.G Y h w1:=H.same rfl;have hp:=H1.push (x:=.cells true 1 (Xuy b)) rfl (p:=p) rfl (w':=Go.Lib.bytesWorld w e b) hw' (by
      refine⟨rfl,.inr ⟨Go.Lib.bytesCells w e b,e,(Go.Lib.bytesCells w e b).size,(Go.Lib.bytesCells w e b).size+1,Go.Lib.bytesWorld_at_new w e b,fun i v hv => ?_,fun _=>⟨rfl,.inr (ab _),by rw[hcs];simp[p]⟩⟩⟩;have hlt:i < (Xuy b).length:=by
       rcases aU i (Xuy b).length with h | h
       ·exact h
       ·rw[List.getElem?_eq_none h]at hv;cases hv
      have hlt':i < b.data.size:=(by simpa[Xuy]using hlt);have hv':v=.int .u8 (b.data[i]).toNat:=by
       have h0:(Xuy b)[i]? = some (.int .u8 (b.data[i]).toNat):=by
        rw[List.getElem?_eq_getElem hlt];simp[Xuy]
       exact bz (hv.symm.trans h0)
      subst hv';refine⟨?_,by simp[okV],rfl⟩;rw[show p.base+i=i from ba i];unfold Go.Lib.bytesCells;rw[Array.getElem?_append_left (by simpa using hlt')];simp[ren];exact⟨_,Array.getElem?_eq_getElem hlt',rfl⟩)
     refine⟨Ren.add Y h.next p,Go.Lib.bytesWorld w e b,?_,?_,eH _ _ _,hp.1,(Turn.drew Y h w (bH _)).trans hp.2⟩
     ·rw[ren_string,hr];simp[ren,Wc,eF,Xfs,p]
     ·simp only[okV];exact⟨by simp[dom,eF],trivial⟩
    ·cases hv
   ·cases hv
  ·cases hv
 ·rename_i s d a n c hs hd;split at hv
  ·rename_i e0 e hse hde;split at hv
   ·rename_i a re hsd hre;split at hv
    ·rename_i sz cs hu8 hg;cases hv;simp only[okV]at hx;have heq:src=dst:=(by simpa using hsd);subst heq;have hdu:=(E.tyok src d hd).1;rw[hde]at hdu;have heu:=(E.tyok e re hre).1;rw[hu8]at heu;obtain⟨w',r1,r2,r3⟩:=Jls (P:=P) H hx.1 hg;refine⟨Y,w',?_,by simp only[okV];exact hx,Ext.refl _ _,r2,r3⟩;simp[convert,ren,run_underlying hdu,run_underlying heu,r1]
    ·cases hv
   ·cases hv
  ·rename_i e hse hde;split at hv
   ·rename_i re hre;split at hv
    ·rename_i hu8;have ho:=E.tyok e re hre;have hdu:=(E.tyok dst d hd).1;rw[hde]at hdu;have hsu:=(E.tyok src s hs).1;rw[hse]at hsu;have heu:=ho.1;rw[hu8]at heu;have hr:=fun(a:Option Addr) (c:Nat)=>run_convert_bytes_string (P:=P) w src dst e a n c hsu heu hdu;split at hv
     ·cases hv;refine Gives.flat H rfl ?_;simp only[ren,ca];rw[hr];simp[Conv.bytesToString]
     ·rename_i a;split at hv
      ·rename_i l hl;split at hv
       ·rename_i bs hbs;cases hv;refine Gives.flat H rfl ?_;simp only[okV]at hx;have hlc:=Qup (P:=P) H hx.1 hx.2 hl;rw[Yoo hbs,Q6v Y _ (fun v hv=>by obtain⟨i,_,rfl⟩:=am.1 hv;rfl)]at hlc;simp only[ren,ax];rw[hr,run_bytesToString (P:=P) w _ n _ bs hlc,Zhl];simp
       ·cases hv
      ·cases hv
    ·cases hv
   ·cases hv
  ·cases hv
 ·cases hv
def Z88{E:Env P}{src dst:TypeId}{x v:Value}{h h':Heap}(hv:Xla E src dst x h=some (v,h')):h'=h ∨ ∃ x,h'=h.push x:=by
 unfold Xla at hv
 repeat' (first | (cases hv;done) | (cases hv;exact .inl rfl) | (cases hv;exact .inr ⟨_,rfl⟩) | split at hv)
end
def Zlz:Value->Option (List Value)
 | .agg xs=>some xs.toList
 | _=>none
def Xud(ls:List Nat)(k:List Value):List MapEntry->Nat->Option (Option (Nat × Value))
 | [],_=>some none
 | e::es,i=>match Zlz e.key with
  | some c=>match Wr ls k c with
   | some true=>some (some (i,e.val))
   | some false=>Xud ls k es (i+1)
   | none=>none
  | none=>none
def Yhu(r:TyRec)(k:Value)(es:List MapEntry):Option (Option (Nat × Value)) :=
 match r.desc with
 | .int q=>match k with
  | .int _ _=>Instr.findNow (.int q) k es 0
  | _=>none
 | .string=>match k with
  | .string _=>Instr.findNow .string k es 0
  | _=>none
 | .struct _=>match k with
  | .agg xs=>match r.leaf with
   | []=>none
   | l::ls=>match Nat.beq xs.toList.length (l::ls).length with
    | true=>Xud (l::ls) xs.toList es 0
    | false=>none
  | _=>none
 | .array _ _=>match k with
  | .agg xs=>match r.leaf with
   | []=>none
   | l::ls=>match Nat.beq xs.toList.length (l::ls).length with
    | true=>Xud (l::ls) xs.toList es 0
    | false=>none
  | _=>none
 | _=>none
section
variable{P:Program}{G:Bs}{Y:Ren}{h:Heap}{w:World}
def Zfj(Y:Ren):Option (Nat × Value)->Option (Nat × Value)
 | some (i,v)=>some (i,ren Y v)
 | none=>none
def Yb0(d:TypeDesc)(k:Value):∀ (es:List MapEntry) (i:Nat) (r:Option (Nat × Value)),(∀ e ∈ es,flat e.key=true)->Instr.findNow d k es i=some r->Instr.findNow d k (es.map (Qtk Y)) i=some (Zfj Y r)
 | [],i,r,_,h=>by simp only[Instr.findNow,ar]at h;subst h;rfl
 | e::es,i,r,hf,h=>by
  have hk:(Qtk Y e).key=e.key:=Qgu Y (hf e (by simp));simp only[aE,Instr.findNow,hk]at h ⊢;split at h
  ·cases h;rfl
  ·exact Yb0 d k es (i+1) r (fun x hx=>hf x (by simp[hx])) h
  ·cases h
def Z5i{kt:TypeId}{ls:List Nat}(hq:Jt1 P kt ls)(hne:ls ≠ [])(k:List Value)(w:World):∀ (es:List MapEntry) (i:Nat) (r:Option (Nat × Value)),(∀ e ∈ es,flat e.key=true)->Xud ls k es i=some r ->
  (Instr.findAsking kt (.agg (k.map (ren Y)).toArray) (es.map (Qtk Y)) i).run P w=.ok (Zfj Y r) w
 | [],i,r,_,h=>by simp only[Xud,ar]at h;subst h;simp[Instr.findAsking,Zfj]
 | e::es,i,r,hf,h=>by
  have hk:(Qtk Y e).key=e.key:=Qgu Y (hf e (by simp));simp only[Xud]at h;split at h
  ·rename_i c hc;have hek:e.key=.agg c.toArray:=by
    unfold Zlz at hc;split at hc
    ·rename_i xs hx;cases hc;simp[hx]
    ·cases hc
   have key:∀ b,Wr ls k c=some b->(Op.equal kt (.agg (k.map (ren Y)).toArray) (Qtk Y e).key).run P w=.ok b w:=by
    intro b hb;rw[hk,hek,(Ya0 Y _ _ _ _ hb).1];exact(hq hne).2.1 k c b w hb
   split at h
   ·rename_i hb;cases h;simp[Instr.findAsking,key true hb,Zfj];rfl
   ·rename_i hb;simp only[aE,Instr.findAsking,aq,key false hb,ac,av,if_false];exact Z5i hq hne k w es (i+1) r (fun x hx=>hf x (by simp[hx])) h
   ·cases h
  ·cases h
def Yxi{kt:TypeId}{r:TyRec}(hr:Z77 P kt r){k:Value}{es:List MapEntry}{x:Option (Nat × Value)}(hf:∀ e ∈ es,flat e.key=true)(hx:Yhu r k es=some x)(w:World)(em:Bool) :
  (Instr.checkKey em 10000 kt (ren Y k)).run P w=.ok () w/\(Instr.findKey kt (ren Y k) (es.map (Qtk Y))).run P w=.ok (Zfj Y x) w:=by
 obtain⟨hu,i,_,_,_,_,_,_,_,hq⟩:=hr;unfold Yhu at hx;have agg:∀ (xs:Array Value) (l:Nat) (ls:List Nat),r.leaf=l::ls->(match P.underlying kt with | some (.array _ _) | some (.struct _)=>true | _=>false)=true->Nat.beq xs.toList.length (l::ls).length=true->Xud (l::ls) xs.toList es 0=some x ->
   (Instr.checkKey em 10000 kt (ren Y (.agg xs))).run P w=.ok () w/\(Instr.findKey kt (ren Y (.agg xs)) (es.map (Qtk Y))).run P w=.ok (Zfj Y x) w:=by
  intro xs l ls hl hw hlen hfd;rw[hl]at hq;have hne:l::ls ≠ []:=by simp
  have hlen':=aK hlen;have hren:ren Y (.agg xs)=.agg (xs.toList.map (ren Y)).toArray:=by
   rw[ren_agg];congr 1;apply bu;simp
  rw[hren];refine⟨(hq hne).2.2 em _ w (by rw[aL];exact hlen'),?_⟩;rw[run_findKey_eq w hw];exact Z5i hq hne xs.toList w es 0 x hf hfd
 split at hx
 ·rename_i q hd;rw[hd]at hu;split at hx
  ·rename_i k n;refine⟨?_,?_⟩
   ·rw[show(10000:Nat)=9999+1 from rfl,Instr.checkKey];simp only[aq,run_underlying hu,ac,aJ]
   ·have:=Yb0 (Y:=Y) _ _ es 0 x hf hx;simp only[ren_int];exact MapKept.run_findKey (P:=P) (w:=w) hu this
  ·cases hx
 ·rename_i hd;rw[hd]at hu;split at hx
  ·refine⟨?_,?_⟩
   ·rw[show(10000:Nat)=9999+1 from rfl,Instr.checkKey];simp only[aq,run_underlying hu,ac,aJ]
   ·have:=Yb0 (Y:=Y) _ _ es 0 x hf hx;simp only[ren_string];exact MapKept.run_findKey (P:=P) (w:=w) hu this
  ·cases hx
 ·rename_i hd;rw[hd]at hu;split at hx
  ·split at hx
   ·cases hx
   ·rename_i l ls hl;split at hx
    ·rename_i hlen;exact agg _ l ls hl (by rw[hu]) hlen hx
    ·cases hx
  ·cases hx
 ·rename_i hd;rw[hd]at hu;split at hx
  ·split at hx
   ·cases hx
   ·rename_i l ls hl;split at hx
    ·rename_i hlen;exact agg _ l ls hl (by rw[hu]) hlen hx
    ·cases hx
  ·cases hx
 ·cases hx
end
def Q3w{P:Program}(E:Env P)(t:TypeId)(hint:Option Value)(h:Heap):Option (Value × Heap) :=
 match E.ty.get t with
 | some r=>match r.desc,hint with
  | .map _ _,none=>some (.map (some h.next),h.push (.map #[] 0))
  | .map _ _,some (.int _ _)=>some (.map (some h.next),h.push (.map #[] 0))
  | _,_=>none
 | none=>none
def Q51(x:Value)(h:Heap):Option (Array MapEntry) :=
 match x with
 | .map none=>some #[]
 | .map (some b)=>match h.get b with
  | some (.map es _)=>some es
  | _=>none
 | _=>none
def Qjo{P:Program}(E:Env P)(t:TypeId)(x k:Value)(ok:Bool)(h:Heap):Option Value :=
 match E.ty.get t with
 | some r=>match r.desc with
  | .map kt et=>match E.ty.get kt,E.ty.get et,Q51 x h with
   | some kr,some er,some es=>match Yhu kr k es.toList,ok with
    | some (some (_,v)),true=>some (.tuple #[v,.bool true])
    | some (some (_,v)),false=>some v
    | some none,true=>some (.tuple #[er.zero,.bool false])
    | some none,false=>some er.zero
    | none,_=>none
   | _,_,_=>none
  | _=>none
 | none=>none
section
variable{P:Program}{G:Bs}{Y:Ren}{h:Heap}{w:World}
def Z0h(E:Env P)(H:HRel E.G Y h w){t:TypeId}{hint:Option Value}{v:Value}{h':Heap}(hv:Q3w E t hint h=some (v,h')):Gives P E.G Y h w (Instr.makeMap t (hint.map (ren Y))) v h':=by
 have base:Gives P E.G Y h w (do pure (.map (some (<- newObj (.map #[] 0))))) (.map (some h.next)) (h.push (.map #[] 0)):=by
  let p:Place:=⟨w.heap.size,0,0,0,none⟩
  have hp:=H.push (x:=.map #[] 0) rfl (p:=p) rfl (o:=.map #[] 0) (w':={w with heap:=w.heap.push (.map #[] 0)}) rfl ⟨rfl,by simp[p],by simp⟩;refine⟨Ren.add Y h.next p,_,?_,?_,eH _ _ _,hp.1,hp.2⟩
  ·have hn:(newObj (.map #[] 0)).run P w=.ok w.heap.size {w with heap:=w.heap.push (.map #[] 0)}:=rfl;simp only[aq,hn,ac,aJ,ren,ax,W8,eF,p]
  ·simp only[okV];simp[dom,eF]
 unfold Q3w at hv;split at hv
 ·rename_i r hr;split at hv
  ·cases hv;simpa[Instr.makeMap]using base
  ·rename_i a b c d hd;cases hv;have hu:=(E.tyok t r hr).1;rw[hd]at hu;obtain⟨Y',w',r1,r2⟩:=base;refine⟨Y',w',?_,r2⟩;rw[<- r1];simp[Instr.makeMap,run_underlying hu,ren_int,asInt,asIntOf]
  ·cases hv
 ·cases hv
def Jcn{G:Bs}(H:HRel G Y h w){x:Value}(hx:okV (dom Y) x){es:Array MapEntry}(he:Q51 x h=some es) :
  (∀ e ∈ es,flat e.key=true/\okV (dom Y) e.val)/\((match ren Y x with
   | .map none=>pure #[]
   | .map (some r)=>do
    let .map es _ <- getObj r | stuck "Lookup: map expected"
    pure es
   | _=>stuck "Lookup: map expected" : Sem (Array MapEntry))).run P w=.ok (es.map (Qtk Y)) w:=by
 unfold Q51 at he;split at he
 ·cases he;exact⟨by simp,by simp[ren]⟩
 ·rename_i b;split at he
  ·rename_i es' clk hg;cases he;simp only[okV]at hx;obtain⟨p,hp⟩:=az.1 hx;obtain⟨f0,f1,f2⟩:=H.fits b p _ hp hg;refine⟨f2,?_⟩;simp[ren,Qp5 G H hx hg]
  ·cases he
 ·cases he
def Yz3{r:TyRec}{k:Value}:∀ {es:List MapEntry} {i:Nat} {v:Value},Yhu r k es=some (some (i,v))->∃ e ∈ es,e.val=v/\es[i]? = some e:=by
 have h1:∀ (d:TypeDesc) (k:Value) (es:List MapEntry) (i j:Nat) (v:Value),Instr.findNow d k es j=some (some (i,v))->∃ n,i=j+n/\∃ e ∈ es,e.val=v/\es[n]? = some e:=by
  intro d k es;induction es with
  | nil=>intro i j v h;simp[Instr.findNow]at h
  | cons e es ih =>
   intro i j v h;simp only[Instr.findNow]at h;split at h
   ·cases h;exact⟨0,by simp,e,by simp,rfl,by simp⟩
   ·obtain⟨n,hn,e',he,hv,hg⟩:=ih _ _ _ h;exact⟨n+1,by omega,e',by simp[he],hv,by simpa using hg⟩
   ·cases h
 have h2:∀ (ls:List Nat) (k:List Value) (es:List MapEntry) (i j:Nat) (v:Value),Xud ls k es j=some (some (i,v))->∃ n,i=j+n/\∃ e ∈ es,e.val=v/\es[n]? = some e:=by
  intro ls k es;induction es with
  | nil=>intro i j v h;simp[Xud]at h
  | cons e es ih =>
   intro i j v h;simp only[Xud]at h;split at h
   ·split at h
    ·cases h;exact⟨0,by simp,e,by simp,rfl,by simp⟩
    ·obtain⟨n,hn,e',he,hv,hg⟩:=ih _ _ _ h;exact⟨n+1,by omega,e',by simp[he],hv,by simpa using hg⟩
    ·cases h
   ·cases h
 intro es i v h;have fin:(∃ n,i=0+n/\∃ e ∈ es,e.val=v/\es[n]? = some e)->∃ e ∈ es,e.val=v/\es[i]? = some e:=by
  rintro⟨n,hn,e,he⟩;have : i=n:=by omega
  subst this;exact⟨e,he⟩
 unfold Yhu at h
 repeat' (first | (cases h;done) | exact fin (h1 _ _ _ _ _ _ h) | exact fin (h2 _ _ _ _ _ _ h) | split at h)
def Z8q(E:Env P)(H:HRel E.G Y h w){t:TypeId}{x k:Value}{ok:Bool}{v:Value}(hx:okV (dom Y) x)(hv:Qjo E t x k ok h=some v):Gives P E.G Y h w (Instr.lookup t (ren Y x) (ren Y k) ok) v h:=by
 unfold Qjo at hv;split at hv
 ·rename_i r hr;split at hv
  ·rename_i kt et hd;have hu:=(E.tyok t r hr).1;rw[hd]at hu;split at hv
   ·rename_i kr er es hkr her hes;obtain⟨e1,e2⟩:=Jcn (P:=P) H hx hes;have ho:=E.tyok et er her;obtain⟨_,i,_,_,_,_,hfz,hnz,_⟩:=E.tyok et er her;have main:∀ y,Yhu kr k es.toList=some y->∀ u b,(match Zfj Y y with | some (_,v)=>(v,true) | none=>(er.zero,false))=(u,b) ->
      (Instr.lookup t (ren Y x) (ren Y k) ok).run P w=.ok (if ok then .tuple #[u,.bool b]else u) w:=by
     intro y hy u b hub;obtain⟨c1,c2⟩:=Yxi (Y:=Y) (E.tyok kt kr hkr) (fun e he=>(e1 e (by simpa using he)).1) hy w (es.map (Qtk Y)).isEmpty;have c2':(Instr.findKey kt (ren Y k) (es.map (Qtk Y)).toList).run P w=.ok (Zfj Y y) w:=by rw[bh];exact c2
     have hz:=Qif (P:=P) (E.tyok et er her) w;unfold Q51 at hes;split at hes
     ·cases hes;have e0:(#[]:Array MapEntry).map (Qtk Y) = #[]:=by simp
      rw[e0]at c1 c2';cases y with
      | none =>
       simp only[Zfj]at hub c2';cases hub;simp only[Instr.lookup,ren,ca,aq,run_underlying hu,ac,aJ,c1,c2',hz]
      | some q =>
       obtain⟨j,v⟩:=q;simp only[Zfj]at hub c2';cases hub;simp only[Instr.lookup,ren,ca,aq,run_underlying hu,ac,aJ,c1,c2',hz]
     ·rename_i m;split at hes
      ·rename_i es' clk hg;cases hes;simp only[okV]at hx;have hgm:=Qp5 (P:=P) E.G H hx hg;cases y with
       | none =>
        simp only[Zfj]at hub c2';cases hub;simp only[Instr.lookup,ren,ax,aq,run_underlying hu,ac,aJ,hgm,c1,c2',hz]
       | some q =>
        obtain⟨j,v⟩:=q;simp only[Zfj]at hub c2';cases hub;simp only[Instr.lookup,ren,ax,aq,run_underlying hu,ac,aJ,hgm,c1,c2',hz]
      ·cases hes
     ·cases hes
    have hzf:okV (dom Y) er.zero:=flat_ok _ _ hfz;have hzr:ren Y er.zero=er.zero:=Qgu Y hfz;split at hv
    ·rename_i i v0 hfd;cases hv;obtain⟨e,he,hev,_⟩:=Yz3 hfd;have hvo:=(e1 e (by simpa using he)).2;rw[hev]at hvo;refine Gives.plain H (by simp only[okV,Q8x];intro z hz;simp at hz;rcases hz with rfl | rfl;exact hvo;simp[okV]) ?_;rw[main _ hfd _ _ rfl];simp[ren,Qub]
    ·rename_i i v0 hfd;cases hv;obtain⟨e,he,hev,_⟩:=Yz3 hfd;have hvo:=(e1 e (by simpa using he)).2;rw[hev]at hvo;refine Gives.plain H hvo ?_;rw[main _ hfd _ _ rfl];simp
    ·rename_i hfd;cases hv;refine Gives.plain H (by simp only[okV,Q8x];intro z hz;simp at hz;rcases hz with rfl | rfl;exact hzf;simp[okV]) ?_;rw[main _ hfd _ _ rfl];simp[ren,Qub,hzr]
    ·rename_i hfd;cases hv;refine Gives.plain H hzf ?_;rw[main _ hfd _ _ rfl,hzr];simp
    ·cases hv
   ·cases hv
  ·cases hv
 ·cases hv
end
def Qgc{P:Program}(E:Env P)(t:TypeId)(m k x:Value)(h:Heap):Option Heap :=
 match E.ty.get t,m with
 | some r,.map (some b)=>match r.desc,h.get b with
  | .map kt _,some (.map es clk)=>match E.ty.get kt,flat k with
   | some kr,true=>match Yhu kr k es.toList with
    | some none=>some (h.set b (some (.map (es.push {key:=k,val:=x,born:=clk}) (clk+1))))
    | some (some (i,_))=>match Instr.sameBits 10000 (((es[i]?).map (·.key)).getD k) k with
     | true=>some (h.set b (some (.map (es.modify i fun e=>{e with key:=k,val:=x}) clk)))
     | false=>none
    | none=>none
   | _,_=>none
  | _,_=>none
 | _,_=>none
def Ydq{P:Program}(E:Env P)(t:TypeId)(m k:Value)(h:Heap):Option (Value × Heap) :=
 match E.ty.get t,m with
 | some r,.map (some b)=>match r.desc,h.get b with
  | .map kt _,some (.map es clk)=>match E.ty.get kt with
   | some kr=>match Yhu kr k es.toList with
    | some none=>some (.tuple #[],h.set b (some (.map es clk)))
    | some (some (i,_))=>some (.tuple #[],h.set b (some (.map (es.eraseIdxIfInBounds i) clk)))
    | none=>none
   | _=>none
  | _,_=>none
 | _,_=>none
section
variable{P:Program}{G:Bs}{Y:Ren}{h:Heap}{w:World}
def Q6w(H:HRel G Y h w){b:Nat}(hb:dom Y b){es es':Array MapEntry}{clk clk':Nat}(hg:h.get b=some (.map es clk))(he:∀ e ∈ es',flat e.key=true/\okV (dom Y) e.val) :
  ∃ w',(setObj (W8 Y b) (.map (es'.map (Qtk Y)) clk')).run P w=.ok () w'/\HRel G Y (h.set b (some (.map es' clk'))) w'/\Turn Y h w Y (h.set b (some (.map es' clk'))) w':=by
 obtain⟨p,hp⟩:=az.1 hb;obtain⟨f0,f1,f2⟩:=H.fits b p _ hp hg;have hlt:=H.blk_lt hp hg rfl;have:=H.upd hp (Q05 hg) (x:=.map es' clk') rfl (o:=.map (es'.map (Qtk Y)) clk') ⟨f0,Qtz hlt,he⟩;refine⟨_,?_,this.1,this.2⟩;have hr:W8 Y b=p.blk:=by simp[W8,hp]
 rw[hr];exact MapKept.run_setObj_map _ f1
def Yla(E:Env P)(H:HRel E.G Y h w){t:TypeId}{m k x:Value}{h':Heap}(hm:okV (dom Y) m)(hx:okV (dom Y) x)(hh:Qgc E t m k x h=some h') :
  ∃ w',(Instr.mapUpdate t (ren Y m) (ren Y k) (ren Y x)).run P w=.ok () w'/\HRel E.G Y h' w'/\Turn Y h w Y h' w':=by
 unfold Qgc at hh;split at hh
 ·rename_i r b hr;split at hh
  ·rename_i kt et es clk hd hg;have hu:=(E.tyok t r hr).1;rw[hd]at hu;split at hh
   ·rename_i kr hkr hkf;simp only[okV]at hm;have hgm:=Qp5 (P:=P) E.G H hm hg;obtain⟨p,hp⟩:=az.1 hm;obtain⟨f0,f1,f2⟩:=H.fits b p _ hp hg;have hk:ren Y k=k:=Qgu Y hkf;have find:∀ y,Yhu kr k es.toList=some y->(Instr.checkKey false 10000 kt k).run P w=.ok () w/\(Instr.findKey kt k (es.map (Qtk Y)).toList).run P w=.ok (Zfj Y y) w:=by
     intro y hy;have:=Yxi (Y:=Y) (E.tyok kt kr hkr) (fun e he=>(f2 e (by simpa using he)).1) hy w false;rw[hk]at this;rw[bh];exact this
    split at hh
    ·rename_i hf;cases hh;obtain⟨c1,c2⟩:=find _ hf;obtain⟨w',q1,q2,q3⟩:=Q6w (P:=P) H hm hg (es':=es.push {key:=k,val:=x,born:=clk}) (clk':=clk+1) (by
      intro e he;rcases Array.mem_push.1 he with he | rfl
      ·exact f2 e he
      ·exact⟨hkf,hx⟩)
     refine⟨w',?_,q2,q3⟩;rw[<- q1];have hpush:(es.push {key:=k,val:=x,born:=clk}).map (Qtk Y)=(es.map (Qtk Y)).push {key:=k,val:=ren Y x,born:=clk}:=by simp[Qtk,hk]
     rw[hpush,hk];simp only[Instr.mapUpdate,ren,ax,aq,run_underlying hu,ac,hgm,c1,c2,Zfj]
    ·rename_i i v0 hf;split at hh
     ·rename_i hs;cases hh;obtain⟨c1,c2⟩:=find _ hf;obtain⟨w',q1,q2,q3⟩:=Q6w (P:=P) H hm hg (es':=es.modify i fun e=>{e with key:=k,val:=x}) (clk':=clk) (by
       intro e he;obtain⟨j,hj⟩:=Array.mem_iff_getElem?.1 he;rw[Array.getElem?_modify]at hj;split at hj
       ·cases hq:es[j]? with
        | none=>rw[hq]at hj;cases hj
        | some e0=>rw[hq]at hj;cases hj;exact⟨hkf,hx⟩
       ·exact f2 e (Array.mem_of_getElem? hj))
      refine⟨w',?_,q2,q3⟩;rw[<- q1];have hmod:(es.modify i fun e=>{e with key:=k,val:=x}).map (Qtk Y)=(es.map (Qtk Y)).modify i fun e=>{e with key:=k,val:=ren Y x}:=by
       apply Array.ext_getElem?;intro j;rw[Array.getElem?_map,Array.getElem?_modify,Array.getElem?_modify,Array.getElem?_map];split
       ·cases es[j]? <;> simp[Qtk,hk]
       ·rfl
      have hold:(((es.map (Qtk Y))[i]?).map (·.key)).getD k=((es[i]?).map (·.key)).getD k:=by
       rw[Array.getElem?_map];cases hq:es[i]? with
       | none=>rfl
       | some e0=>simp[Qtk,Qgu Y (f2 e0 (Array.mem_of_getElem? hq)).1]
      rw[hmod,hk];simp only[Instr.mapUpdate,ren,ax,aq,run_underlying hu,ac,hgm,c1,c2,Zfj,hold,Instr.keyThatStays,hs,if_true,aJ]
     ·cases hh
    ·cases hh
   ·cases hh
  ·cases hh
 ·cases hh
def Zt5{A B:Type}(f:A->B):∀ (l:List A) (i:Nat),(l.eraseIdx i).map f=(l.map f).eraseIdx i
 | [],_=>by simp
 | a::l,0=>by simp
 | a::l,i+1=>by simp[Zt5 f l i]
def Z99(E:Env P)(H:HRel E.G Y h w){t ty:TypeId}{tl:List TypeId}{m k v:Value}{h':Heap}(hm:okV (dom Y) m)(hh:Ydq E t m k h=some (v,h')) :
  Gives P E.G Y h w (Builtin.delete_ (t::tl).toArray ty #[ren Y m,ren Y k]) v h':=by
 unfold Ydq at hh;split at hh
 ·rename_i r b hr;split at hh
  ·rename_i kt et es clk hd hg;have hu:=(E.tyok t r hr).1;rw[hd]at hu;split at hh
   ·rename_i kr hkr;simp only[okV]at hm;have hgm:=Qp5 (P:=P) E.G H hm hg;obtain⟨p,hp⟩:=az.1 hm;obtain⟨f0,f1,f2⟩:=H.fits b p _ hp hg;have find:∀ y,Yhu kr k es.toList=some y->(Instr.checkKey (es.map (Qtk Y)).isEmpty 10000 kt (ren Y k)).run P w=.ok () w/\(Instr.findKey kt (ren Y k) (es.toList.map (Qtk Y))).run P w=.ok (Zfj Y y) w:=by
     intro y hy;exact Yxi (Y:=Y) (E.tyok kt kr hkr) (fun e he=>(f2 e (by simpa using he)).1) hy w (es.map (Qtk Y)).isEmpty
    have okt:okV (dom Y) (.tuple #[]):=by simp[okV,okA,okL]
    have ret:ren Y (.tuple #[])=.tuple #[]:=by simp[ren,renA,renL]
    split at hh
    ·rename_i hf;cases hh;obtain⟨c1,c2⟩:=find _ hf;obtain⟨w',q1,q2,q3⟩:=Q6w (P:=P) H hm hg (es':=es) (clk':=clk) (fun e he=>f2 e he);refine⟨Y,w',?_,okt,Ext.refl _ _,q2,q3⟩;simp only[Zfj]at c2;simp[Builtin.delete_,ren,run_underlying hu,hgm,c1,c2,q1,renA,renL]
    ·rename_i i v0 hf;cases hh;obtain⟨c1,c2⟩:=find _ hf;obtain⟨w',q1,q2,q3⟩:=Q6w (P:=P) H hm hg (es':=es.eraseIdxIfInBounds i) (clk':=clk) (fun e he=>f2 e (by
      unfold Array.eraseIdxIfInBounds at he;split at he
      ·exact Array.mem_of_mem_eraseIdx he
      ·exact he))
     refine⟨Y,w',?_,okt,Ext.refl _ _,q2,q3⟩;have her:(es.eraseIdxIfInBounds i).map (Qtk Y)=(es.map (Qtk Y)).eraseIdxIfInBounds i:=by
      unfold Array.eraseIdxIfInBounds;simp only[Array.size_map];split
      ·apply bu;simp[Zt5]
      ·rfl
     simp only[Zfj]at c2;rw[her]at q1;simp[Builtin.delete_,ren,run_underlying hu,hgm,c1,c2,q1,renA,renL]
    ·cases hh
   ·cases hh
  ·cases hh
 ·cases hh
end
def Jhm:List Nat->Nat->Bool
 | [],_=>false
 | a::l,b=>match Nat.beq a b with
  | true=>true
  | false=>Jhm l b
def Xkv(seen:List Nat):List MapEntry->List MapEntry
 | []=>[]
 | e::l=>match Jhm seen e.born with
  | true=>Xkv seen l
  | false=>e::Xkv seen l
def Ja9(since:Nat):List MapEntry->List MapEntry
 | []=>[]
 | e::l=>match Nat.blt e.born since with
  | true=>e::Ja9 since l
  | false=>Ja9 since l
def Jcc(since:Nat):List MapEntry->List MapEntry
 | []=>[]
 | e::l=>match Nat.blt e.born since with
  | true=>Jcc since l
  | false=>e::Jcc since l
def Jdf(since:Nat)(left:List MapEntry):List (Option MapEntry):=match Ja9 since left with
 | []=>none::(Jcc since left).map some
 | e::l=>(e::(l++Jcc since left)).map some
def X9g(es:List MapEntry)(since:Nat)(seen:List Nat):List (Option MapEntry):=Jdf since (Xkv seen es)
def Z33(last:Nat):List MapEntry->Bool
 | []=>true
 | e::l=>match Nat.ble last e.born with
  | true=>Z33 last l
  | false=>false
def Zhp(es:List MapEntry)(seen:List Nat)(last:Nat):Bool:=match seen,es with
 | [],_=>false
 | _,[]=>false
 | _,es=>Z33 last es
def Yoa(r m since:Nat)(seen:Array Nat)(clk:Nat)(h:Heap):Option MapEntry->Value × Heap
 | none=>(.tuple #[.bool false],h)
 | some e=>(.tuple #[.bool true,e.key,e.val],h.set r (some (.obj (.mapIter (some m) since (seen.push e.born) clk))))
def Qxn(it:Value)(isS:Bool)(h:Heap):List (Value × Heap):=match it with
 | .pointer (some ⟨r,0,none⟩)=>match h.get r with
  | some (.obj (.strIter s pos))=>match isS with
   | true=>match Nat.blt pos s.size with
    | true=>[(.tuple #[.bool true,.int .i64 (.ofNat pos),.int .i32 (.ofNat (Utf8.decode s pos).1)],h.set r (some (.obj (.strIter s (pos+(Utf8.decode s pos).2)))))]
    | false=>[(.tuple #[.bool false],h)]
   | false=>[]
  | some (.obj (.mapIter none _ _ _))=>match isS with
   | true=>[]
   | false=>[(.tuple #[.bool false],h)]
  | some (.obj (.mapIter (some m) since seen last))=>match isS,h.get m with
   | false,some (.map es clk)=>match Zhp es.toList seen.toList last with
    | true=>[]
    | false=>(X9g es.toList since seen.toList).map (Yoa r m since seen clk h)
   | _,_=>[]
  | _=>[]
 | _=>[]
def Z7a(it:Value)(isS:Bool)(h:Heap):Option (Value × Heap):=match Qxn it isS h with
 | [x]=>some x
 | _=>none
def Yqp{P:Program}(E:Env P)(t:TypeId)(x:Value)(h:Heap):Option (Value × Heap):=match E.ty.get t with
 | some r=>match r.desc,x with
  | .string,.string s=>some (.pointer (some ⟨h.next,0,none⟩),h.push (.obj (.strIter s 0)))
  | .map _ _,.map none=>some (.pointer (some ⟨h.next,0,none⟩),h.push (.obj (.mapIter none 0 #[] 0)))
  | .map _ _,.map (some m)=>match h.get m with
   | some (.map _ clk)=>some (.pointer (some ⟨h.next,0,none⟩),h.push (.obj (.mapIter (some m) clk #[] clk)))
   | _=>none
  | _,_=>none
 | none=>none
def X2d(b:Nat):List MapEntry->Option MapEntry
 | []=>none
 | e::l=>match Nat.beq e.born b with
  | true=>some e
  | false=>X2d b l
def Jae:List Nat->Option Nat
 | []=>none
 | [a]=>some a
 | _::l=>Jae l
def Zhd(it:Value)(h:Heap):Option Value:=match it with
 | .pointer (some ⟨r,0,none⟩)=>match h.get r with
  | some (.obj (.mapIter (some m) _ seen stepped))=>match Jae seen.toList,h.get m with
   | some b,some (.map es clk)=>match Nat.beq clk stepped with
    | true=>match X2d b es.toList with
     | some e=>some (.tuple #[e.key,e.val])
     | none=>none
    | false=>none
   | _,_=>none
  | _=>none
 | _=>none
def Z52(l:List Nat)(b:Nat):Jhm l b=l.contains b:=by
 induction l with
 | nil=>rfl
 | cons a l ih =>
  simp only[Jhm,List.contains_cons];cases hb:Nat.beq a b with
  | true=>have:=aK hb;subst this;simp
  | false =>
   have : (b == a)=false:=by
    rw[beq_eq_false_iff_ne];intro e;subst e;simp at hb
   simp[ih,this]
def Z6s(seen:List Nat)(l:List MapEntry):Xkv seen l=l.filter fun e => !seen.contains e.born:=by
 induction l with
 | nil=>rfl
 | cons e l ih=>simp only[Xkv,Z52,dO];cases seen.contains e.born <;> simp[ih]
def Jf6(since:Nat)(l:List MapEntry):Ja9 since l=l.filter fun(e:MapEntry)=>decide (e.born < since):=by
 induction l with
 | nil=>rfl
 | cons e l ih =>
  simp only[Ja9,dO];by_cases hb:e.born < since
  ·rw[show Nat.blt e.born since=true from by simpa using hb];simp[ih,hb]
  ·rw[bJ.2 (fun k:Nat.blt e.born since=true=>hb (by simpa using k))];simp[ih,hb]
def Jd4(since:Nat)(l:List MapEntry):Jcc since l=l.filter fun(e:MapEntry)=>decide (e.born ≥ since):=by
 induction l with
 | nil=>rfl
 | cons e l ih =>
  simp only[Jcc,dO];by_cases hb:e.born < since
  ·rw[show Nat.blt e.born since=true from by simpa using hb];have : ¬ e.born ≥ since:=by omega
   simp[ih,this]
  ·rw[bJ.2 (fun k:Nat.blt e.born since=true=>hb (by simpa using k))];have : e.born ≥ since:=by omega
   simp[ih,this]
def Jiz(last:Nat)(l:List MapEntry):Z33 last l=l.all fun e=>decide (e.born ≥ last):=by
 induction l with
 | nil=>rfl
 | cons e l ih =>
  simp only[Z33,List.all_cons];by_cases hb:last<=e.born
  ·rw[show Nat.ble last e.born=true from by simpa using hb];simp[ih,hb]
  ·rw[bJ.2 (fun k:Nat.ble last e.born=true=>hb (by simpa using k))];simp[hb]
def Z4j(b:Nat)(l:List MapEntry):X2d b l=l.find? fun e=>e.born == b:=by
 induction l with
 | nil=>rfl
 | cons e l ih =>
  simp only[X2d,List.find?_cons];cases hb:Nat.beq e.born b with
  | true=>have:=aK hb;simp[this]
  | false =>
   have : (e.born == b)=false:=by rw[beq_eq_false_iff_ne];intro e';rw[e']at hb;simp at hb
   simp[ih,this]
def Z5v:∀ l:List Nat,Jae l=l.getLast?
 | []=>rfl
 | [a]=>rfl
 | a::b::l=>by rw[Jae,Z5v (b::l)];simp[List.getLast?_cons_cons];intro h;cases h
section
variable{P:Program}{G:Bs}{Y:Ren}{h:Heap}{w:World}
def HRel.drew(H:HRel G Y h w){w1:World}(hw:w1=w∨w1=w.drew):HRel G Y h w1/\Turn Y h w Y h w1:=by
 rcases hw with rfl | rfl
 ·exact⟨H,Turn.refl _ _ _⟩
 ·exact⟨⟨H.dom,fun b p x hp hx=>by
   have:=H.fits b p x hp hx;exact this.keep (fun _ _=>rfl) rfl,H.apart,H.glob,H.globs,H.wf,H.base,H.bsz⟩,⟨ab _,fun _ _ _=>rfl,fun b p hb ho => .inr ⟨b,p,hb,ho,rfl⟩,rfl,rfl,rfl,bH _,ab _⟩⟩
def Yc7(a b:Value):ren Y (.tuple #[a,b])=.tuple #[ren Y a,ren Y b]:=by simp[ren,Qub]
def Jav(H:HRel G Y h w){r:Nat}(hb:okV (dom Y) (.pointer (some ⟨r,0,none⟩))){a:AObj}(hg:h.get r=some (.obj a)) :
  ∃ p o,Y r=some p/\ren Y (.pointer (some ⟨r,0,none⟩))=.pointer (some ⟨p.blk,0,none⟩)/\w.heap[p.blk]? = some o/\FitObj Y o a:=by
 simp only[okV]at hb;obtain⟨p,hp⟩:=az.1 hb.1;obtain⟨f0,o,f1,f2⟩:=H.fits r p _ hp hg;exact⟨p,o,hp,by simp[ren,Wc,hp,f0,H.spot hp hg rfl],f1,f2⟩
def Z5d(H:HRel G Y h w){r:Nat}{p:Place}(hp:Y r=some p){a a':AObj}(hg:h.get r=some (.obj a)){O:Obj}(hf:FitObj Y O a') :
  HRel G Y (h.set r (some (.obj a'))) (World.turned w p.blk O)/\Turn Y h w Y (h.set r (some (.obj a'))) (World.turned w p.blk O):=by
 obtain⟨f0,_⟩:=H.fits r p _ hp hg;exact H.upd hp (by rw[Q05 hg];rfl) (x:=.obj a') rfl ⟨f0,_,Qtz (H.blk_lt hp hg rfl),hf⟩
def Jau (E : Env P) (H : HRel E.G Y h w) {t : TypeId} {x v : Value} {h' : Heap} (hx : okV (dom Y) x) (hv : Yqp E t x h = some (v, h')) : Gives P E.G Y h w (Instr.range t (ren Y x)) v h' := by
  have base : ∀ (a : AObj) (o : Obj), FitObj (Ren.add Y h.next ⟨w.heap.size, 0, 0, 0, none⟩) o a -> ∀ s : Sem Obj, s.run P w = .ok o w ->
      Gives P E.G Y h w (do pure (.pointer (some ⟨<- newObj (<- s), 0, none⟩))) (.pointer (some ⟨h.next, 0, none⟩)) (h.push (.obj a)) := by
    intro a o hf s hs
    let p : Place := ⟨w.heap.size, 0, 0, 0, none⟩
    have hp := H.push (x := .obj a) rfl (p := p) rfl (o := o) (w' := { w with heap := w.heap.push o }) rfl ⟨rfl, o, by simp [p], hf⟩;refine ⟨Ren.add Y h.next p, _, ?_, ?_, eH _ _ _, hp.1, hp.2⟩
    · have hn : (newObj o).run P w = .ok w.heap.size { w with heap := w.heap.push o } := rfl
      simp only [aq,hs,hn,ac,aJ,ren,ax,Wc,eF,p,ite_self]
    · simp only [okV]; simp [dom,eF]
  unfold Yqp at hv;split at hv
  · rename_i r hr
    have hu := (E.tyok t r hr).1;split at hv
    · rename_i s hd
      cases hv;rw [hd] at hu;have := base (.strIter s 0) (.stringIter s 0) rfl (pure (.stringIter s 0)) rfl;obtain ⟨Y', w', r1, r2⟩ := this;refine ⟨Y', w', ?_, r2⟩;rw [<- r1];simp [Instr.range,run_underlying hu,ren]
    · rename_i kt et hd
      cases hv;rw [hd] at hu;obtain ⟨Y', w', r1, r2⟩ := base (.mapIter none 0 #[] 0) (.mapIter none 0 #[] 0) ⟨fun b hb => (by cases hb), rfl⟩ (pure (.mapIter none 0 #[] 0)) rfl;refine ⟨Y', w', ?_, r2⟩;rw [<- r1];simp [Instr.range,run_underlying hu,ren]
    · rename_i kt et m hd
      split at hv
      · rename_i es clk hg
        cases hv;rw [hd] at hu;simp only [okV] at hx;have hgm := Qp5 (P := P) E.G H hx hg;have hlt : m ≠ h.next := fun e => by have := Qkr H hx; omega
        have e1 : W8 (Ren.add Y h.next ⟨w.heap.size, 0, 0, 0, none⟩) m = W8 Y m := Qc5 (by simp [Ren.add,hlt]);have hdm : dom (Ren.add Y h.next ⟨w.heap.size, 0, 0, 0, none⟩) m := by simpa [dom, Ren.add, hlt] using hx
        obtain ⟨Y', w', r1, r2⟩ := base (.mapIter (some m) clk #[] clk) (.mapIter (some (W8 Y m)) clk #[] clk) ⟨fun b hb => (by cases hb; exact hdm), by simp [e1]⟩
          (do let .map _ clock <- getObj (W8 Y m) | stuck "Range: map expected"
              pure (.mapIter (some (W8 Y m)) clock #[] clock)) (by simp [hgm])
        refine ⟨Y', w', ?_, r2⟩;rw [<- r1];simp [Instr.range,run_underlying hu,ren,hgm]
      · cases hv
    · cases hv
  · cases hv
def Jfh(seen:List Nat)(l:List MapEntry):(l.map (Qtk Y)).filter (fun e => !seen.contains e.born)=(Xkv seen l).map (Qtk Y):=by
 rw[Z6s,dV];rfl
def Jcs(es:Array MapEntry)(since:Nat)(seen:Array Nat):((if((es.map (Qtk Y)).filter fun(e:MapEntry) => !seen.contains e.born).filter (fun(e:MapEntry)=>decide (e.born < since)) |>.isEmpty then #[none]else #[]) ++
  ((((es.map (Qtk Y)).filter fun(e:MapEntry) => !seen.contains e.born).filter fun(e:MapEntry)=>decide (e.born < since))++(((es.map (Qtk Y)).filter fun(e:MapEntry) => !seen.contains e.born).filter fun(e:MapEntry)=>decide (e.born ≥ since))).map some).toList =
  (X9g es.toList since seen.toList).map (Option.map (Qtk Y)):=by
 have h1:((es.map (Qtk Y)).filter fun e => !seen.contains e.born).toList=(Xkv seen.toList es.toList).map (Qtk Y):=by
  rw[<- Jfh];simp
 have h2:∀ l:List MapEntry,(l.map (Qtk Y)).filter (fun e=>decide (e.born < since))=(Ja9 since l).map (Qtk Y):=fun l=>by rw[Jf6,dV];rfl
 have h3:∀ l:List MapEntry,(l.map (Qtk Y)).filter (fun e=>decide (e.born ≥ since))=(Jcc since l).map (Qtk Y):=fun l=>by rw[Jd4,dV];rfl
 generalize hL:(es.map (Qtk Y)).filter (fun e => !seen.contains e.born)=L at h1 ⊢;have h4:(L.filter fun(e:MapEntry)=>decide (e.born < since)).toList=(Ja9 since (Xkv seen.toList es.toList)).map (Qtk Y):=by rw[<- h2,<- h1];simp
 have h5:(L.filter fun(e:MapEntry)=>decide (e.born ≥ since)).toList=(Jcc since (Xkv seen.toList es.toList)).map (Qtk Y):=by rw[<- h3,<- h1];simp
 unfold X9g Jdf;have h6:(L.filter fun(e:MapEntry)=>decide (e.born < since)).isEmpty=(Ja9 since (Xkv seen.toList es.toList)).isEmpty:=by
  rw[<- dz,h4];simp
 rw[h6,Array.toList_append,bh,Array.toList_append,h4,h5];cases Ja9 since (Xkv seen.toList es.toList)with
 | nil=>simp[cj]
 | cons e l=>simp[cj]
def Z8x(es:Array MapEntry)(seen:Array Nat)(last:Nat):(!seen.isEmpty && !(es.map (Qtk Y)).isEmpty && (es.map (Qtk Y)).all (fun e=>decide (e.born ≥ last)))=Zhp es.toList seen.toList last:=by
 have e1:(es.map (Qtk Y)).all (fun e=>decide (e.born ≥ last))=Z33 last es.toList:=by
  rw[Jiz,<- Array.all_toList,bh,List.all_map];rfl
 rw[e1,<- dz,<- dz,bh];unfold Zhp;cases seen.toList <;> cases es.toList <;> simp[Z33]
def Jbn{es:List MapEntry}{since:Nat}{seen:List Nat}{e:MapEntry}(h:some e ∈ X9g es since seen):e ∈ es:=by
 have hl:∀ x,x ∈ Xkv seen es->x ∈ es:=fun x hx=>by rw[Z6s]at hx;exact(bW.1 hx).1
 have ho:∀ x,x ∈ Ja9 since (Xkv seen es)->x ∈ es:=fun x hx=>by rw[Jf6]at hx;exact hl x (bW.1 hx).1
 have hn:∀ x,x ∈ Jcc since (Xkv seen es)->x ∈ es:=fun x hx=>by rw[Jd4]at hx;exact hl x (bW.1 hx).1
 unfold X9g Jdf at h;split at h
 ·simp at h;exact hn _ h
 ·rename_i e0 l0 hq;rw[hq]at ho;simp only[am,ar,exists_eq_right,ap,al]at h;rcases h with rfl | h | h
  ·exact ho _ (by simp)
  ·exact ho _ (by simp[h])
  ·exact hn _ h
def Jh0(es:List MapEntry)(since:Nat)(seen:List Nat):X9g es since seen ≠ []:=by
 unfold X9g Jdf;split <;> simp
def Z7e{n:Nat}(hn:n≠0):∃ (j:Nat) (w1:World),j < n/\(w1=w∨w1=w.drew)/\(choose (Question.mapNext n)).run P w=.ok j w1:=by
 by_cases hf:n<=1
 ·exact⟨0,w,by omega,Or.inl rfl,by simp[choose,Sem.run,Question.forced,hf]⟩
 ·exact⟨_,w.drew,dm _ (by omega),Or.inr rfl,by
   simp only[choose,Sem.run,Question.forced,decide_eq_true_eq,hf,if_false,Question.cut];rfl⟩
def Z25{r:Nat}{m since last clk:Nat}{seen:Array Nat}{es:Array MapEntry}(f1:w.heap[r]? = some (Obj.mapIter (Option.map (W8 Y) (some m)) since seen last))(hgm:(getObj (W8 Y m)).run P w=.ok (Obj.map (es.map (Qtk Y)) clk) w)
  (hbar:Zhp es.toList seen.toList last=false) (ty:TypeId) :
  ∃ c ∈ X9g es.toList since seen.toList,∃ w1,(w1=w∨w1=w.drew)/\(Instr.next (.pointer (some ⟨r,0,none⟩)) false ty).run P w =
   .ok (match c with | none => .tuple #[.bool false] | some e => .tuple #[.bool true,ren Y e.key,ren Y e.val]) (match c with | none=>w1 | some e=>World.turned w1 r (.mapIter (some (W8 Y m)) since (seen.push e.born) clk)):=by
 have hg:(getObj r).run P w=.ok (.mapIter (some (W8 Y m)) since seen last) w:=by simp[getObj,Sem.run,f1]
 have hb:=Z8x (Y:=Y) es seen last;rw[hbar]at hb;have hc:=Jcs (Y:=Y) es since seen;simp only[Instr.next,aq,hg,ac,hgm,hb,av,if_false];generalize hA:(if((es.map (Qtk Y)).filter fun(e:MapEntry) => !seen.contains e.born).filter (fun(e:MapEntry)=>decide (e.born < since)) |>.isEmpty then #[none]else #[]) ++
  ((((es.map (Qtk Y)).filter fun(e:MapEntry) => !seen.contains e.born).filter fun(e:MapEntry)=>decide (e.born < since))++(((es.map (Qtk Y)).filter fun(e:MapEntry) => !seen.contains e.born).filter fun(e:MapEntry)=>decide (e.born ≥ since))).map some=A at hc ⊢
 have hne:A.size≠0:=fun e=>by
  have h2:A.toList.length=0:=e;rw[hc,aL]at h2;exact Jh0 _ _ _ (aY h2)
 obtain⟨j,w1,hj,hw,hr⟩:=Z7e (P:=P) (w:=w) hne;have hj2:j < (X9g es.toList since seen.toList).length:=by
  have : A.toList.length=_:=congrArg List.length hc;rw[aL]at this;have h3:A.toList.length=A.size:=rfl;omega
 refine⟨(X9g es.toList since seen.toList)[j],cP hj2,w1,hw,?_⟩;have hAj:A[j]? = some ((X9g es.toList since seen.toList)[j].map (Qtk Y)):=by
  rw[<- Array.getElem?_toList,hc,List.getElem?_map,List.getElem?_eq_getElem hj2];rfl
 simp only[hr,ac,hAj];have hr1:w1.heap[r]? = some (Obj.mapIter (some (W8 Y m)) since seen last):=by rcases hw with rfl | rfl <;> exact f1
 cases hcj:(X9g es.toList since seen.toList)[j]with
 | none=>simp
 | some e =>
  have hs:∀ o,(setObj r o).run P w1=.ok () (World.turned w1 r o):=fun o=>by simp[setObj,Sem.run,hr1,World.turned]
  simp only[ax,aq,hs,ac,aJ];simp[Qtk]
def Zgp(H:HRel G Y h w){it:Value}{isS:Bool}{ty:TypeId}(hi:okV (dom Y) it)(hne:Qxn it isS h ≠ []):∃ x ∈ Qxn it isS h,Gives P G Y h w (Instr.next (ren Y it) isS ty) x.1 x.2:=by
 unfold Qxn at hne ⊢;split
 ·rename_i r;cases hg:h.get r with
  | none=>simp[hg]at hne
  | some x =>
   cases x with
   | cells o s c=>simp[hg]at hne
   | map es clk=>simp[hg]at hne
   | obj a =>
    obtain⟨p,o,hp,e1,f1,f2⟩:=Jav H hi hg;rw[e1];cases a with
    | loop st pend t ps as bd d=>simp[hg]at hne
    | defs=>simp[hg]at hne
    | any=>simp[hg]at hne
    | strIter s pos =>
     simp only[hg]at hne ⊢;cases isS with
     | false=>simp at hne
     | true =>
      simp only at hne ⊢;have e2:o=.stringIter s pos:=f2;subst e2;split
      ·rename_i hlt;refine⟨_,cB _,?_⟩;obtain⟨H1,T1⟩:=Z5d H hp hg (a':=.strIter s (pos+(Utf8.decode s pos).2)) (O:=.stringIter s (pos+(Utf8.decode s pos).2)) rfl;refine⟨Y,_,?_,(Q36 _ _).2 (by simp[okV]),Ext.refl _ _,H1,T1⟩;have hlt':pos < s.size:=(by simpa using hlt);simp[Instr.next,getObj,setObj,Sem.run,f1,hlt',ren_int,ren_bool,goInt,Result.andThen,World.turned]
      ·rename_i hlt;refine⟨_,cB _,Gives.plain H ((Q36 _ _).2 (by simp[okV])) ?_⟩;have hlt':¬ pos < s.size:=fun k=>by rw[show Nat.blt pos s.size=true from by simpa using k]at hlt;cases hlt
       simp[Instr.next,getObj,Sem.run,f1,hlt',Result.andThen,ren,Qub]
    | mapIter m since seen last =>
     obtain⟨f3,e2⟩:=f2;subst e2;cases m with
     | none =>
      simp only[hg]at hne ⊢;cases isS with
      | true=>simp at hne
      | false =>
       refine⟨_,cB _,Gives.plain H ((Q36 _ _).2 (by simp[okV])) ?_⟩;simp[Instr.next,getObj,Sem.run,f1,Result.andThen,ren,Qub]
     | some m =>
      simp only[hg]at hne ⊢;cases isS with
      | true=>simp at hne
      | false =>
       cases hm:h.get m with
       | none=>simp[hm]at hne
       | some y =>
        cases y with
        | cells o s c=>simp[hm]at hne
        | obj a=>simp[hm]at hne
        | map es clk =>
         simp only[hm]at hne ⊢;have hdm:dom Y m:=f3 m rfl;have hgm:=Qp5 (P:=P) G H hdm hm;split at hne
         ·simp at hne
         ·rename_i hbar;obtain⟨c,hc,w1,hw1,hrun⟩:=Z25 (P:=P) (Y:=Y) f1 hgm hbar ty;obtain⟨H1,T1⟩:=H.drew hw1;refine⟨_,am.2 ⟨c,hc,rfl⟩,?_⟩;cases c with
          | none =>
           refine⟨Y,w1,?_,(Q36 _ _).2 (by simp[okV]),Ext.refl _ _,H1,T1⟩;rw[hrun];simp[Yoa,ren,Qub]
          | some e =>
           have he:=Jbn hc;obtain⟨q,hq⟩:=az.1 hdm;obtain⟨_,_,g2⟩:=H.fits m q _ hq hm;obtain⟨g3,g4⟩:=g2 e (by simpa using he);obtain⟨H2,T2⟩:=Z5d H1 hp hg (a':=.mapIter (some m) since (seen.push e.born) clk) (O:=.mapIter (some (W8 Y m)) since (seen.push e.born) clk) ⟨fun b hb=>(by cases hb;exact hdm),rfl⟩;refine⟨Y,_,?_,(Q36 _ _).2 (by
            intro v hv;simp only[List.mem_toArray,ef,ap,dN,or_false]at hv;rcases hv with rfl | rfl | rfl
            ·trivial
            ·exact flat_ok _ _ g3
            ·exact g4),Ext.refl _ _,H2,T1.trans T2⟩
           rw[hrun];simp[Yoa,ren_bool]
 ·simp at hne
def Jgl(H:HRel G Y h w){it:Value}{isS:Bool}{ty:TypeId}{v:Value}{h':Heap}(hi:okV (dom Y) it)(hv:Z7a it isS h=some (v,h')):Gives P G Y h w (Instr.next (ren Y it) isS ty) v h':=by
 unfold Z7a at hv;split at hv
 ·rename_i x hx;cases hv;obtain⟨y,hy,g⟩:=Zgp (P:=P) (ty:=ty) H hi (by rw[hx];simp);rw[hx,aw]at hy;subst hy;exact g
 ·cases hv
def Jfe(H:HRel G Y h w){it v:Value}(hi:okV (dom Y) it)(hv:Zhd it h=some v):Gives P G Y h w (Instr.entry (ren Y it)) v h:=by
 unfold Zhd at hv;split at hv
 ·split at hv
  ·rename_i m since seen stepped hg;split at hv
   ·rename_i b es clk hl hm;split at hv
    ·rename_i hclk;split at hv
     ·rename_i e he;cases hv;obtain⟨p,o,hp,e1,f1,f2⟩:=Jav H hi hg;obtain⟨f3,e2⟩:=f2;subst e2;have hdm:dom Y m:=f3 m rfl;have hgm:=Qp5 (P:=P) G H hdm hm;obtain⟨q,hq⟩:=az.1 hdm;obtain⟨_,_,g2⟩:=H.fits m q _ hq hm;rw[Z4j]at he;have hmem:e ∈ es:=(by have:=List.mem_of_find?_eq_some he;simpa using this);obtain⟨g3,g4⟩:=g2 e hmem;refine Gives.plain H ((Q36 _ _).2 (by
       intro v hv;simp only[ef,ap,dN,or_false]at hv;rcases hv with rfl | rfl
       ·exact flat_ok _ _ g3
       ·exact g4)) ?_
      have hclk':clk=stepped:=aK hclk;subst hclk';have hback:seen.back?=some b:=(by rw[<- Array.getLast?_toList,<- Z5v];exact hl);have hfind:(es.map (Qtk Y)).find? (fun x=>x.born == b)=some (Qtk Y e):=by
       rw[<- Array.find?_toList,bh,List.find?_map];show Option.map (Qtk Y) (es.toList.find? fun x=>x.born == b)=_;rw[he];rfl
      rw[e1];have hg1:(getObj p.blk).run P w=.ok (.mapIter (some (W8 Y m)) since seen clk) w:=by simp[getObj,Sem.run,f1]
      simp[Instr.entry,hg1,hback,hgm,hfind,Qtk,Yc7]
     ·cases hv
    ·cases hv
   ·cases hv
  ·cases hv
 ·cases hv
end
def Yf0{P:Program}(E:Env P)(t:TypeId)(x:Value)(h:Heap):Option (Value × Heap):=match E.ty.get t,x with
 | some _,.map none=>some (.tuple #[],h)
 | some _,.slice none _ _=>some (.tuple #[],h)
 | some _,.slice (some _) 0 _=>some (.tuple #[],h)
 | some _,.map (some b)=>match h.get b with
  | some (.map _ clk)=>some (.tuple #[],h.set b (some (.map #[] clk)))
  | _=>none
 | some r,.slice (some a) (n+1) _=>match r.desc with
  | .slice e=>match E.ty.get e with
   | some re=>match Nat.ble 1 re.size with
    | true=>(storeAt h a (Qc2 re.zero.cells.toList (n+1))).map fun h'=>(.tuple #[],h')
    | false=>none
   | none=>none
  | _=>none
 | _,_=>none
section
variable{P:Program}{Y:Ren}{h:Heap}{w:World}
def Jew(E:Env P)(H:HRel E.G Y h w){t ty:TypeId}{tl:List TypeId}{x v:Value}{h':Heap}(hx:okV (dom Y) x)(hh:Yf0 E t x h=some (v,h')) :
  Gives P E.G Y h w (Builtin.clear_ (t::tl).toArray ty #[ren Y x]) v h':=by
 have okt:okV (dom Y) (.tuple #[]):=by simp[okV,okA,okL]
 have ret:ren Y (.tuple #[])=.tuple #[]:=by simp[ren,renA,renL]
 unfold Yf0 at hh;split at hh
 ·rename_i r hr;cases hh;refine Gives.plain H okt ?_;simp[Builtin.clear_,ren,run_underlying (E.tyok t r hr).1,renA,renL]
 ·rename_i r n c hr;cases hh;refine Gives.plain H okt ?_;simp[Builtin.clear_,ren,run_underlying (E.tyok t r hr).1,renA,renL]
 ·rename_i r a c hr;cases hh;refine Gives.plain H okt ?_;simp[Builtin.clear_,ren,run_underlying (E.tyok t r hr).1,renA,renL]
 ·rename_i r b hr;split at hh
  ·rename_i es clk hg;cases hh;simp only[okV]at hx;have hgm:=Qp5 (P:=P) E.G H hx hg;obtain⟨w',q1,q2,q3⟩:=Q6w (P:=P) H hx hg (es':=#[]) (clk':=clk) (fun e he=>by simp at he);refine⟨Y,w',?_,okt,Ext.refl _ _,q2,q3⟩;simp at q1;simp[Builtin.clear_,ren,run_underlying (E.tyok t r hr).1,hgm,q1,renA,renL]
  ·cases hh
 ·rename_i r a n c hr;split at hh
  ·rename_i e hd;split at hh
   ·rename_i re hre;split at hh
    case h_2=>cases hh
    rename_i hsz;rw[ak]at hh;obtain⟨h1,hst,hq⟩:=hh;cases hq;simp only[okV]at hx;have ho:=E.tyok e re hre;obtain⟨_,i,hi,_,hby,_,hf,hn,hzs,_⟩:=ho;have hz:∀ v ∈ Qc2 re.zero.cells.toList (n+1),okV (dom Y) v/\v.oneCell'=true:=fun v hv=>Xcs hf hn (dom Y) v (Qu9 hv);have hzm:=Q6v Y (Qc2 re.zero.cells.toList (n+1)) (fun v hv=>Qsp hf hn v (Qu9 hv));obtain⟨w',r1,r2,r3⟩:=Xef (P:=P) H hx.1 hx.2 hz hst;refine⟨Y,w',?_,okt,Ext.refl _ _,r2,r3⟩;rw[hzm]at r1;have hu:=(E.tyok t r hr).1;rw[hd]at hu;have hpos:0 < re.zero.cells.size:=(by have:=cK hsz;omega);have hzc:(Builtin.zeroCells re.zero.cells (n+1)).toList=Qc2 re.zero.cells.toList (n+1):=by
     have h1:Builtin.zeroCells re.zero.cells (n+1)=(Qc2 re.zero.cells.toList (n+1)).toArray:=Q7s _ _ hpos;rw[h1]
    simp[Builtin.clear_,ren,run_underlying hu,Qif (E.tyok e re hre),hzc,r1,renA,renL]
   ·cases hh
  ·cases hh
 ·cases hh
end
inductive ExtK where
 | compare
 | clone
def Jis:ExtK->Array Value->Sem Value
 | .compare=>Extern.BytealgCompare.compare
 | .clone=>Extern.MapsClone.clone
def Jet(F:Func):Option ExtK :=
 if F.body.isNone then
  if F.origin == "" then
   if F.name == "internal/bytealg.Compare" then some .compare
   else if F.name == "maps.clone" then some .clone else none
  else none
 else none
def Zht:Extern.allNextRows.lookup "" = none:=by
 have : (Extern.allNextRows.lookup "").isNone=true:=kR
 simpa using this
def Zrh:Extern.allNextRows.lookup "internal/bytealg.Compare" = none/\Extern.allGenericRows.lookup "internal/bytealg.Compare" = none/\Extern.allTypedRows.lookup "internal/bytealg.Compare" = none/\Extern.allRows.lookup "internal/bytealg.Compare" = some Extern.BytealgCompare.compare:=by
 have h1:(Extern.allNextRows.lookup "internal/bytealg.Compare").isNone=true:=kR
 have h2:(Extern.allGenericRows.lookup "internal/bytealg.Compare").isNone=true:=kR
 have h3:(Extern.allTypedRows.lookup "internal/bytealg.Compare").isNone=true:=kR
 exact⟨by simpa using h1,by simpa using h2,by simpa using h3,by kernel_rfl⟩
def Z8w:Extern.allNextRows.lookup "maps.clone" = none/\Extern.allGenericRows.lookup "maps.clone" = none/\Extern.allTypedRows.lookup "maps.clone" = none/\Extern.allRows.lookup "maps.clone" = some Extern.MapsClone.clone:=by
 have h1:(Extern.allNextRows.lookup "maps.clone").isNone=true:=kR
 have h2:(Extern.allGenericRows.lookup "maps.clone").isNone=true:=kR
 have h3:(Extern.allTypedRows.lookup "maps.clone").isNone=true:=kR
 exact⟨by simpa using h1,by simpa using h2,by simpa using h3,by kernel_rfl⟩
def Jix{F:Func}{x:ExtK}(h:Jet F=some x):(F.name == "runtime.NumGoroutine")=false/\F.body.isNone=true/\Extern.findNext F=none/\Extern.find F=some (Jis x):=by
 unfold Jet at h;split at h
 ·rename_i hb;split at h
  ·rename_i ho;have ho:=eq_of_beq ho;split at h
   ·rename_i hn;have hn:=eq_of_beq hn;cases h;obtain⟨h1,h2,h3,h4⟩:=Zrh;refine⟨by rw[hn];decide,hb,?_,?_⟩
    ·simp[Extern.findNext,hn,ho,h1,Zht]
    ·simp[Extern.find,hn,h2,h3,h4,Jis]
   ·split at h
    ·rename_i hn;have hn:=eq_of_beq hn;cases h;obtain⟨h1,h2,h3,h4⟩:=Z8w;refine⟨by rw[hn];decide,hb,?_,?_⟩
     ·simp[Extern.findNext,hn,ho,h1,Zht]
     ·simp[Extern.find,hn,h2,h3,h4,Jis]
    ·cases h
  ·cases h
 ·cases h
def Jii(ns:List Int):ByteArray:=⟨(ns.map fun n=>UInt8.ofNat n.toNat).toArray⟩
def Zhr(v:Value)(h:Heap):Option ByteArray:=match v with
 | .slice none _ _=>some .empty
 | .slice (some a) n _=>match cellsAt h a n with
  | some l=>match Xj9 l with
   | some ns=>some (Jii ns)
   | none=>none
  | none=>none
 | _=>none
def Y2m(x:ExtK)(args:List Value)(h:Heap):Option (Value × Heap):=match x,args with
 | .compare,[a,b]=>match Zhr a h,Zhr b h with
  | some s,some t=>some (.int .i64 (Extern.BytealgCompare.cmp s t),h)
  | _,_=>none
 | .clone,[.iface t (.map (some r))]=>match h.get r with
  | some (.map es clk)=>some (.iface t (.map (some h.next)),h.push (.map es clk))
  | _=>none
 | _,_=>none
section
variable{P:Program}{G:Bs}{Y:Ren}{h:Heap}{w:World}
def Yl3:∀ (ns:List Int) (a:Addr) (acc:ByteArray),(∀ j v,(ns.map (Value.int .u8))[j]? = some v->w.cell? (a.add j)=some v) ->
  (Extern.Bytes.loadBytes a ns.length acc).run P w=.ok (ns.foldl (fun r n=>r.push (UInt8.ofNat n.toNat)) acc) w
 | [],a,acc,_=>rfl
 | n::ns,a,acc,hc=>by
  have h0:w.cell? a=some (.int .u8 n):=by
   have:=hc 0 (.int .u8 n) rfl;have e:a.add 0=a:=by unfold Addr.add;split <;> simp_all
   rwa [e]at this
  have ih:=Yl3 ns (a.add 1) (acc.push (UInt8.ofNat n.toNat)) (fun j v hv=>by
   have:=hc (j+1) v (by simpa using hv);have e:(a.add 1).add j=a.add (j+1):=by unfold Addr.add;split <;> simp_all <;> omega
   rw[e];exact this)
  simp only[aS,Extern.Bytes.loadBytes,aq,du];have hl:(load a).run P w=.ok (.int .u8 n) w:=by simp[load,Sem.run,h0]
  rw[hl];exact ih
def Zur(H:HRel G Y h w){v:Value}(hv:okV (dom Y) v){s:ByteArray}(hs:Zhr v h=some s):(Extern.Bytes.bytesOf (ren Y v)).run P w=.ok s w:=by
 unfold Zhr at hs;split at hs
 ·cases hs;rfl
 ·rename_i a n c;split at hs
  ·rename_i l hl;split at hs
   ·rename_i ns hns;cases hs;simp only[okV]at hv;obtain⟨k1,_,k3⟩:=Q22 H hv.1 hv.2 hl;have e:=Yoo hns;subst e;rw[Q6v Y _ (fun v hv=>by obtain⟨i,_,rfl⟩:=am.1 hv;rfl)]at k3;have hlen:n=ns.length:=(by rw[<- k1,aL]);subst hlen;have:=Yl3 (P:=P) (w:=w) ns (Wc Y a) .empty k3;simp only[ren,ax,Extern.Bytes.bytesOf,this,Zhl,Jii];show Result.ok (ByteArray.mk (#[]++(ns.map fun n=>UInt8.ofNat n.toNat).toArray)) w=_;rw[Array.empty_append]
   ·cases hs
  ·cases hs
 ·cases hs
def Jdh(H:HRel G Y h w){x:ExtK}{args:List Value}(ha:∀ v ∈ args,okV (dom Y) v){v:Value}{h':Heap}(hv:Y2m x args h=some (v,h')):Gives P G Y h w (Jis x (args.map (ren Y)).toArray) v h':=by
 unfold Y2m at hv;split at hv
 ·rename_i a b;split at hv
  ·rename_i s t hs ht;cases hv;refine Gives.flat H rfl ?_;have e1:=Zur (P:=P) H (ha a (by simp)) hs;have e2:=Zur (P:=P) H (ha b (by simp)) ht;have hd:∀ x y:Value,Extern.BytealgCompare.compare #[x,y]=(do pure (goInt (Extern.BytealgCompare.cmp (<- Extern.Bytes.bytesOf x) (<- Extern.Bytes.bytesOf y)))):=fun _ _=>rfl;show(Extern.BytealgCompare.compare #[ren Y a,ren Y b]).run P w=_;rw[hd];simp[e1,e2,goInt]
  ·cases hv
 ·rename_i t r;split at hv
  ·rename_i es clk hg;cases hv;have hr:=ha _ (cB _);simp only[okV]at hr;have hgm:=Qp5 (P:=P) G H hr hg;obtain⟨q,hq⟩:=az.1 hr;obtain⟨_,_,f2⟩:=H.fits r q _ hq hg
   let p:Place:=⟨w.heap.size,0,0,0,none⟩
   have hes:es.map (Qtk (Ren.add Y h.next p))=es.map (Qtk Y):=by
    apply cZ;intro e he;exact Ypp (H.add_dom p) (f2 e he).1 (f2 e he).2
   have hp:=H.push (x:=.map es clk) rfl (p:=p) rfl (o:=.map (es.map (Qtk Y)) clk) (w':={w with heap:=w.heap.push (.map (es.map (Qtk Y)) clk)}) rfl
    ⟨rfl,by rw[hes];simp[p],fun e he=>⟨(f2 e he).1,okV_mono (fun b hb=>by simpa[dom,H.add_dom p b hb]using hb) _ (f2 e he).2⟩⟩
   refine⟨Ren.add Y h.next p,_,?_,?_,eH _ _ _,hp.1,hp.2⟩
   ·have hn:(newObj (.map (es.map (Qtk Y)) clk)).run P w=.ok w.heap.size {w with heap:=w.heap.push (.map (es.map (Qtk Y)) clk)}:=rfl;have hd:∀ (t:TypeId) (r:Nat),Extern.MapsClone.clone #[.iface t (.map (some r))]=(do
      let .map entries clock <- getObj r | stuck "maps.clone: a map expected"
      pure (.iface t (.map (some (<- newObj (.map entries clock)))))):=fun _ _=>rfl
    have e0:ren Y (.iface t (.map (some r)))=.iface t (.map (some (W8 Y r))):=by simp[ren]
    show(Extern.MapsClone.clone #[ren Y (.iface t (.map (some r)))]).run P w=_;rw[e0,hd];simp only[aq,hgm,ac,hn,aJ];simp[ren,W8,eF,p]
   ·simp only[okV];simp[dom,eF]
  ·cases hv
 ·cases hv
end
def Qpu{P:Program}(E:Env P)(t:TypeId)(m k:Value)(h:Heap):Option (Value × Heap) :=
 match E.ty.get t,m with
 | some r,.map (some b)=>match r.desc,h.get b with
  | .map kt et,some (.map es clk)=>match E.ty.get kt,E.ty.get et,flat k with
   | some kr,some er,true=>match Yhu kr k es.toList with
    | some none=>some (.tuple #[er.zero,.int .i64 (.ofNat clk)],h.set b (some (.map (es.push {key:=k,val:=er.zero,born:=clk}) (clk+1))))
    | some (some (i,v))=>match Instr.sameBits 10000 (((es[i]?).map (·.key)).getD k) k with
     | true=>some (.tuple #[v,.int .i64 (.ofNat (((es[i]?).map (·.born)).getD 0))],h.set b (some (.map (es.modify i fun e=>{e with key:=k}) clk)))
     | false=>none
    | none=>none
   | _,_,_=>none
  | _,_=>none
 | _,_=>none
def Yr9(b:Nat):List MapEntry->Nat->Option Nat
 | [],_=>none
 | e::l,i=>match Nat.beq e.born b with
  | true=>some i
  | false=>Yr9 b l (i+1)
def Qir(m st x:Value)(h:Heap):Option Heap :=
 match m,st with
 | .map (some b),.int .i64 (.ofNat s)=>match h.get b,Nat.blt s 9223372036854775808 with
  | some (.map es clk),true=>match Yr9 s es.toList 0 with
   | some i=>some (h.set b (some (.map (es.modify i fun e=>{e with val:=x}) clk)))
   | none=>none
  | _,_=>none
 | _,_=>none
def Zx3(b:Nat):∀ (l:List MapEntry) (i:Nat),Yr9 b l i=(l.findIdx? fun e=>(e.born:Int) == (b:Int)).map (i + ·)
 | [],i=>rfl
 | e::l,i=>by
  simp only[Yr9,List.findIdx?_cons];cases hb:Nat.beq e.born b with
  | true=>have:=aK hb;simp[this]
  | false =>
   have : ¬ e.born=b:=fun k=>by rw[k]at hb;simp at hb
   have h2:((e.born:Int) == (b:Int))=false:=by
    rw[beq_eq_false_iff_ne];intro k;exact this (by omega)
   simp only[h2,av,if_false,Zx3 b l (i+1),dW];congr 1;funext j;simp;omega
section
variable{P:Program}{G:Bs}{Y:Ren}{h:Heap}{w:World}
def Zwj(E:Env P)(H:HRel E.G Y h w){t:TypeId}{m k v:Value}{h':Heap}(hm:okV (dom Y) m)(hh:Qpu E t m k h=some (v,h')) :
  Gives P E.G Y h w (Instr.mapEntry t (ren Y m) (ren Y k)) v h':=by
 unfold Qpu at hh;split at hh
 ·rename_i r b hr;split at hh
  ·rename_i kt et es clk hd hg;have hu:=(E.tyok t r hr).1;rw[hd]at hu;split at hh
   ·rename_i kr er hkr her hkf;simp only[okV]at hm;have hgm:=Qp5 (P:=P) E.G H hm hg;obtain⟨p,hp⟩:=az.1 hm;obtain⟨f0,f1,f2⟩:=H.fits b p _ hp hg;have hk:ren Y k=k:=Qgu Y hkf;obtain⟨_,_,_,_,_,_,hfz,_⟩:=E.tyok et er her;have hz:=fun w=>Qif (P:=P) (E.tyok et er her) w;have hzr:ren Y er.zero=er.zero:=Qgu Y hfz;have find:∀ y,Yhu kr k es.toList=some y->(Instr.checkKey false 10000 kt k).run P w=.ok () w/\(Instr.findKey kt k (es.map (Qtk Y)).toList).run P w=.ok (Zfj Y y) w:=by
     intro y hy;have:=Yxi (Y:=Y) (E.tyok kt kr hkr) (fun e he=>(f2 e (by simpa using he)).1) hy w false;rw[hk]at this;rw[bh];exact this
    have okt:∀ (v:Value) (n:Nat),okV (dom Y) v->okV (dom Y) (.tuple #[v,.int .i64 (.ofNat n)]):=fun v n hv=>(Q36 _ _).2 (by
     intro u hu;simp only[ef,ap,dN,or_false]at hu;rcases hu with rfl | rfl
     ·exact hv
     ·simp[okV])
    split at hh
    ·rename_i hf;cases hh;obtain⟨c1,c2⟩:=find _ hf;obtain⟨w',q1,q2,q3⟩:=Q6w (P:=P) H hm hg (es':=es.push {key:=k,val:=er.zero,born:=clk}) (clk':=clk+1) (by
      intro e he;rcases Array.mem_push.1 he with he | rfl
      ·exact f2 e he
      ·exact⟨hkf,flat_ok _ _ hfz⟩)
     refine⟨Y,w',?_,okt _ _ (flat_ok _ _ hfz),Ext.refl _ _,q2,q3⟩;have hpush:(es.push {key:=k,val:=er.zero,born:=clk}).map (Qtk Y)=(es.map (Qtk Y)).push {key:=k,val:=er.zero,born:=clk}:=by simp[Qtk,hk,hzr]
     rw[hpush]at q1;rw[hk,Yc7,hzr,ren_int];simp only[Instr.mapEntry,ren,ax,aq,run_underlying hu,ac,hgm,c1,c2,Zfj,hz,q1,aJ,goInt];rfl
    ·rename_i i v0 hf;split at hh
     ·rename_i hs;cases hh;obtain⟨c1,c2⟩:=find _ hf;obtain⟨e0,he0,hev,_⟩:=Yz3 hf;have hvo:=(f2 e0 (by simpa using he0)).2;rw[hev]at hvo;obtain⟨w',q1,q2,q3⟩:=Q6w (P:=P) H hm hg (es':=es.modify i fun e=>{e with key:=k}) (clk':=clk) (by
       intro e he;obtain⟨j,hj⟩:=Array.mem_iff_getElem?.1 he;rw[Array.getElem?_modify]at hj;split at hj
       ·cases hq:es[j]? with
        | none=>rw[hq]at hj;cases hj
        | some e0=>rw[hq]at hj;cases hj;exact⟨hkf,(f2 e0 (Array.mem_of_getElem? hq)).2⟩
       ·exact f2 e (Array.mem_of_getElem? hj))
      refine⟨Y,w',?_,okt _ _ hvo,Ext.refl _ _,q2,q3⟩;have hmod:(es.modify i fun e=>{e with key:=k}).map (Qtk Y)=(es.map (Qtk Y)).modify i fun e=>{e with key:=k}:=by
       apply Array.ext_getElem?;intro j;rw[Array.getElem?_map,Array.getElem?_modify,Array.getElem?_modify,Array.getElem?_map];split
       ·cases es[j]? <;> simp[Qtk,hk]
       ·rfl
      have hold:(((es.map (Qtk Y))[i]?).map (·.key)).getD k=((es[i]?).map (·.key)).getD k:=by
       rw[Array.getElem?_map];cases hq:es[i]? with
       | none=>rfl
       | some e0=>simp[Qtk,Qgu Y (f2 e0 (Array.mem_of_getElem? hq)).1]
      have hborn:(Option.map (fun x:MapEntry=>(x.born:Int)) (es.map (Qtk Y))[i]?).getD 0=Int.ofNat (((es[i]?).map (·.born)).getD 0):=by
       rw[Array.getElem?_map];cases es[i]? <;> rfl
      rw[hmod]at q1;rw[hk,Yc7,ren_int];simp only[Instr.mapEntry,ren,ax,aq,run_underlying hu,ac,hgm,c1,c2,Zfj,hold,Instr.keyThatStays,hs,if_true,aJ,q1,hborn,goInt]
     ·cases hh
    ·cases hh
   ·cases hh
  ·cases hh
 ·cases hh
def Y8t(H:HRel G Y h w){t:TypeId}{m st x:Value}{h':Heap}(hm:okV (dom Y) m)(hx:okV (dom Y) x)(hh:Qir m st x h=some h') :
  ∃ w',(Instr.entryStore t (ren Y m) (ren Y st) (ren Y x)).run P w=.ok () w'/\HRel G Y h' w'/\Turn Y h w Y h' w':=by
 unfold Qir at hh;split at hh
 ·rename_i b s;split at hh
  ·rename_i es clk hg hlt;split at hh
   ·rename_i i hi;cases hh;simp only[okV]at hm;have hgm:=Qp5 (P:=P) G H hm hg;obtain⟨p,hp⟩:=az.1 hm;obtain⟨f0,f1,f2⟩:=H.fits b p _ hp hg;obtain⟨w',q1,q2,q3⟩:=Q6w (P:=P) H hm hg (es':=es.modify i fun e=>{e with val:=x}) (clk':=clk) (by
     intro e he;obtain⟨j,hj⟩:=Array.mem_iff_getElem?.1 he;rw[Array.getElem?_modify]at hj;split at hj
     ·cases hq:es[j]? with
      | none=>rw[hq]at hj;cases hj
      | some e0=>rw[hq]at hj;cases hj;exact⟨(f2 e0 (Array.mem_of_getElem? hq)).1,hx⟩
     ·exact f2 e (Array.mem_of_getElem? hj))
    refine⟨w',?_,q2,q3⟩;have hmod:(es.modify i fun e=>{e with val:=x}).map (Qtk Y)=(es.map (Qtk Y)).modify i fun e=>{e with val:=ren Y x}:=by
     apply Array.ext_getElem?;intro j;rw[Array.getElem?_map,Array.getElem?_modify,Array.getElem?_modify,Array.getElem?_map];split
     ·cases es[j]? <;> simp[Qtk]
     ·rfl
    rw[hmod]at q1;have hfi:(es.map (Qtk Y)).findIdx? (fun e=>(e.born:Int) == (Int.ofNat s))=some i:=by
     rw[Zx3]at hi;rw[ak]at hi;obtain⟨j,hj,hji⟩:=hi;have : j=i:=(by omega);subst this;have e1:es.map (Qtk Y)=(es.toList.map (Qtk Y)).toArray:=bu (by rw[bh]);rw[e1,List.findIdx?_toArray,List.findIdx?_map];exact hj
    simp only[Instr.entryStore,ren,ax,aq,ac,hgm,asInt,asIntOf,aJ,hfi,q1]
   ·cases hh
  ·cases hh
 ·cases hh
end
end Go.Ab
