import Derived.Test.YtgjlmnnggnajmaaGreatDoorAbA
import Derived.IntWalk
import Derived.Lib.ConvBytes
import Derived.Laws.BytesString
import Derived.WideKeyRuns
import Derived.Maps.RangeRun
import Derived.KernelRfl
set_option linter.all false
noncomputable section
namespace Go.Ab
section
variable{P:Program}{α:Ren}{h:Heap}{w:World}
def aUn(op:UnOp)(x:Value):Option Value:=if flat x then Qep (Op.unary op x)else none
theorem Zx2{G:Bs}(H:HRel G α h w){op:UnOp}{x v:Value}(hv:aUn op x=some v):Gives P G α h w (Op.unary op (ren α x)) v h:=by
 unfold aUn at hv
 split at hv
 ·rename_i hf
  obtain⟨h1,h2⟩:=Yf6 (P:=P) hv
  exact Gives.flat H h1 (by rw[Qhp α hf];exact h2 w)
 ·cases hv
def Qv7(E:Env P)(src dst:TypeId)(x:Value):Option Value :=
 match E.ty.get src,E.ty.get dst with
 | some _,some d =>
  match d.desc,x with
  | .int k,.int _ n=>some (.int k (k.wrap n))
  | .string,.string s=>some (.string s)
  | _,_=>none
 | _,_=>none
theorem Y8c(E:Env P)(H:HRel E.G α h w){src dst:TypeId}{x v:Value}(hv:Qv7 E src dst x=some v):Gives P E.G α h w (convert src dst (ren α x)) v h:=by
 unfold Qv7 at hv
 split at hv
 ·rename_i s d hs hd
  split at hv
  ·rename_i k q n hk
   cases hv
   refine Gives.flat H rfl ?_
   simp only[convert,Sem.run_bind,run_underlying (E.tyok src s hs).1,run_underlying (E.tyok dst d hd).1,Result.andThen_ok,hk,ren_int]
   rfl
  ·rename_i b hk
   cases hv
   refine Gives.flat H rfl ?_
   simp only[convert,Sem.run_bind,run_underlying (E.tyok src s hs).1,run_underlying (E.tyok dst d hd).1,Result.andThen_ok,hk,ren_string]
   rfl
  ·cases hv
 ·cases hv
def Qn4(E:Env P)(t:TypeId)(x:Value)(h:Heap):Option Value :=
 match E.ty.get t with
 | none=>none
 | some r =>
  match r.desc,x with
  | .string,.string s=>some (.int .i64 s.size)
  | .array n _,_=>some (.int .i64 n)
  | .pointer a,_=>match E.ty.get a with
   | some ra=>match ra.desc with
    | .array n _=>some (.int .i64 n)
    | _=>none
   | none=>none
  | .slice _,.slice _ n _=>some (.int .i64 n)
  | .map _ _,.map none=>some (.int .i64 0)
  | .map _ _,.map (some b)=>match h.get b with
   | some (.map es _)=>some (.int .i64 es.size)
   | _=>none
  | _,_=>none
theorem Qkz(G:Bs)(H:HRel G α h w){b:Nat}(hb:dom α b){es:Array MapEntry}{clk:Nat}(hg:h.get b=some (.map es clk)) :
  (getObj (Uu α b)).run P w=.ok (.map (es.map (Qn3 α)) clk) w:=by
 obtain⟨p,hp⟩:=Option.isSome_iff_exists.1 hb
 obtain⟨_,h2,_⟩:=H.fits b p _ hp hg
 simp[getObj,Sem.run,Uu,hp,h2]
theorem Zrs(E:Env P)(H:HRel E.G α h w){t:TypeId}{ty:TypeId}{x v:Value}(hx:okV (dom α) x)(hv:Qn4 E t x h=some v) :
  Gives P E.G α h w (Builtin.len_ #[t] ty #[ren α x]) v h:=by
 unfold Qn4 at hv
 cases hr:E.ty.get t with
 | none=>simp[hr]at hv
 | some r =>
  simp only[hr]at hv
  have hu:=(E.tyok t r hr).1
  split at hv
  ·rename_i hd;cases hv;exact Gives.flat H rfl (by simp[Builtin.len_,run_underlying hu,hd,goInt])
  ·rename_i hd;cases hv;exact Gives.flat H rfl (by simp[Builtin.len_,run_underlying hu,hd,goInt])
  ·rename_i a hd
   split at hv
   ·rename_i ra hra
    split at hv
    ·rename_i n e hda
     cases hv
     exact Gives.flat H rfl (by simp[Builtin.len_,run_underlying hu,hd,run_underlying (E.tyok a ra hra).1,hda,goInt])
    ·cases hv
   ·cases hv
  ·rename_i hd;cases hv;exact Gives.flat H rfl (by simp[Builtin.len_,run_underlying hu,hd,goInt,ren])
  ·rename_i hd;cases hv;exact Gives.flat H rfl (by simp[Builtin.len_,run_underlying hu,hd,goInt,ren])
  ·rename_i b hd
   split at hv
   ·rename_i es clk hg
    cases hv
    simp only[okV]at hx
    exact Gives.flat H rfl (by simp[Builtin.len_,run_underlying hu,hd,goInt,ren,Qkz E.G H hx hg])
   ·cases hv
  ·cases hv
def Zxr(E:Env P)(t:TypeId)(x:Value):Option Value :=
 match E.ty.get t,x with
 | some r,.slice _ _ c=>match r.desc with
  | .slice _=>if c == Qhx then none else some (.int .i64 c)
  | _=>none
 | _,_=>none
theorem Zsv(E:Env P)(H:HRel E.G α h w){t:TypeId}{ty:TypeId}{x v:Value}(hv:Zxr E t x=some v) :
  Gives P E.G α h w (Builtin.cap_ #[t] ty #[ren α x]) v h:=by
 unfold Zxr at hv
 split at hv
 ·rename_i r a n c hr
  split at hv
  ·rename_i e hd
   split at hv
   ·cases hv
   ·rename_i hc
    cases hv
    have hc':c≠Qhx:=by simpa using hc
    exact Gives.flat H rfl (by simp[Builtin.cap_,run_underlying (E.tyok t r hr).1,hd,goInt,Qg8 _ _ _ _ hc'])
  ·cases hv
 ·cases hv
def Q8b(E:Env P)(t:TypeId)(x:Value):Option Value :=
 match E.ty.get t with
 | some r=>match r.desc with
  | .interface _=>none
  | _=>some (.iface t x)
 | none=>none
theorem Y9o(E:Env P)(H:HRel E.G α h w){t:TypeId}{x v:Value}(hx:okV (dom α) x)(hv:Q8b E t x=some v) :
  Gives P E.G α h w (Instr.makeInterface t (ren α x)) v h:=by
 unfold Q8b at hv
 split at hv
 ·rename_i r hr
  split at hv
  ·cases hv
  ·rename_i hd
   cases hv
   refine Gives.plain H (by simpa only[okV]using hx) ?_
   simp only[Instr.makeInterface,Sem.run_bind,run_underlying (E.tyok t r hr).1,Result.andThen_ok,ren_iface]
   rfl
 ·cases hv
def Xwm(fn:Fn)(first captured:List Value):Option Value :=
 match fn with
 | .func f=>some (.func (.func f) first.toArray captured.toArray)
 | _=>none
theorem Zfp{G:Bs}(H:HRel G α h w){fn:Fn}{first captured:List Value}{v:Value}(h1:∀ x ∈ first,okV (dom α) x)(h2:∀ x ∈ captured,okV (dom α) x)(hv:Xwm fn first captured=some v) :
  Gives P G α h w (Instr.makeFunc fn (first.map (ren α)).toArray (captured.map (ren α)).toArray) v h:=by
 unfold Xwm at hv
 split at hv
 ·cases hv
  exact Gives.plain H (by simp only[okV,Q00];exact⟨by simpa using h1,by simpa using h2⟩) (by simp[Instr.makeFunc,ren,X2e,Qnf])
 ·cases hv
def Xq7(x:Value):Option Value :=
 match x with
 | .pointer none | .nilIface | .nilFunc=>none
 | .func (.method _) _ _=>none
 | x=>some x
theorem Y05 {x v : Value} (hv : Xq7 x = some v) (w : World) (n : Option Tmp) (x0 : Operand) (ty : TypeId) (p : String) (af : Array Edge) (g : Option (Nat × Bool)) (ρ : Operand -> Value) (hρ : ρ x0 = ren α x) :
    v = x /\ (execOp ρ { dst := n, op := .nilCheck x0, type := ty, pos := p, after := af, guard := g }).run P w = .ok (.value (ren α v)) w := by
  unfold Xq7 at hv
  split at hv <;> first
    | cases hv; done
    | (cases hv
       refine ⟨rfl, ?_⟩
       rename_i n1 n2 n3 n4
       simp only [execOp,hρ]
       cases x with
       | pointer a => cases a with
         | none => exact absurd rfl n1
         | some a => rfl
       | nilIface => exact absurd rfl n2
       | nilFunc => exact absurd rfl n3
       | func fn f c => cases fn <;> first | rfl | exact absurd rfl (n4 _ _ _)
       | _ => rfl)
def Xq9(E:Env P)(x:Value)(t:TypeId)(ok:Bool):Option Value :=
 match E.ty.get t with
 | none=>none
 | some r =>
  match r.desc with
  | .interface _=>none
  | _=>match x with
   | .nilIface=>if ok then some (.tuple #[r.zero,.bool false])else none
   | .iface u v=>if u=t then some (if ok then .tuple #[v,.bool true]else v)else if ok then some (.tuple #[r.zero,.bool false])else none
   | _=>none
theorem Zg4(E:Env P)(H:HRel E.G α h w){x v:Value}{xt t:TypeId}{ok:Bool}(hx:okV (dom α) x)(hv:Xq9 E x t ok=some v) :
  Gives P E.G α h w (Instr.typeAssert (ren α x) xt t ok) v h:=by
 unfold Xq9 at hv
 cases hr:E.ty.get t with
 | none=>simp[hr]at hv
 | some r =>
  simp only[hr]at hv
  have ho:=E.tyok t r hr
  obtain⟨hu,i,hi,_,_,hz,hf,_⟩:=ho
  have hfl:flat (.tuple #[r.zero,.bool false])=true:=by simp[flat,flatA,flatL,hf]
  split at hv
  ·cases hv
  ·rename_i hd
   split at hv
   ·split at hv
    ·rename_i hok
     cases hv;subst hok
     refine Gives.flat H hfl ?_
     simp only[Instr.typeAssert,Sem.run_bind,run_underlying hu,Result.andThen_ok,ren_nilIface]
     simp[Qg2 (E.tyok t r hr)]
    ·cases hv
   ·rename_i u y
    have hrun:∀ res,(if u=t then(pure (if ok then .tuple #[ren α y,.bool true]else ren α y):Sem Value)else
      (if ok then(do pure (.tuple #[<- zeroValue t,.bool false]))else runtimePanic (.typeAssertion (some xt) (some u) t ""))).run P w=res ->
      (Instr.typeAssert (.iface u (ren α y)) xt t ok).run P w=res:=by
     intro res hres
     rw[<- hres]
     simp only[Instr.typeAssert,Sem.run_bind,run_underlying hu,Result.andThen_ok]
    split at hv
    ·rename_i hut
     cases hv
     simp only[okV]at hx
     refine Gives.plain H (by cases ok <;> simp[Quq,okV,hx]) ?_
     rw[ren_iface]
     refine hrun _ ?_
     rw[if_pos hut]
     cases ok <;> simp
    ·rename_i hut
     split at hv
     ·rename_i hok
      cases hv;subst hok
      refine Gives.flat H hfl ?_
      rw[ren_iface]
      refine hrun _ ?_
      rw[if_neg hut]
      simp[Qg2 (E.tyok t r hr)]
     ·cases hv
   ·cases hv
def X3x(E:Env P)(t:TypeId)(x:Value):Option Value :=
 match E.ty.get t,x with
 | some r,.slice a n _=>match r.desc with
  | .array m _=>if Nat.ble m n then some (.pointer a)else none
  | _=>none
 | _,_=>none
theorem Zej(E:Env P)(H:HRel E.G α h w){t:TypeId}{x v:Value}(hx:okV (dom α) x)(hv:X3x E t x=some v) :
  Gives P E.G α h w (Instr.arrayAt t (ren α x)) v h:=by
 unfold X3x at hv
 split at hv
 ·rename_i r a n c hr
  split at hv
  ·rename_i m e hd
   split at hv
   ·rename_i hc
    cases hv
    have hle:m<=n:=by simpa using hc
    refine Gives.plain H (by cases a <;> simp only[okV]at hx ⊢;exact hx) ?_
    simp only[Instr.arrayAt,Sem.run_bind,run_underlying (E.tyok t r hr).1,hd,Result.andThen_ok,ren]
    rw[if_neg (by omega)]
    rfl
   ·cases hv
  ·cases hv
 ·cases hv
def Yve(mx:Bool)(args:List Value):Option Value :=
 if flatL args then Qep (if mx then Builtin.max_ #[] 0 args.toArray else Builtin.min_ #[] 0 args.toArray)else none
theorem Ypm{G:Bs}(H:HRel G α h w){mx:Bool}{args:List Value}{v:Value}(ts:Array TypeId)(ty:TypeId)(hv:Yve mx args=some v) :
  Gives P G α h w (if mx then Builtin.max_ ts ty (args.map (ren α)).toArray else Builtin.min_ ts ty (args.map (ren α)).toArray) v h:=by
 unfold Yve at hv
 split at hv
 ·rename_i hf
  obtain⟨h1,h2⟩:=Yf6 (P:=P) hv
  have hall:∀ l:List Value,flatL l=true->∀ u ∈ l,flat u=true:=by
   intro l
   induction l with
   | nil=>simp
   | cons u l ih=>intro hl v hv;simp only[flatL,Bool.and_eq_true]at hl;rcases List.mem_cons.1 hv with rfl | h;exact hl.1;exact ih hl.2 v h
  rw[Qy5 α args (hall args hf)]
  refine Gives.flat H h1 ?_
  have:=h2 w
  cases mx <;> exact this
 ·cases hv
end
section
variable{P:Program}{G:Bs}{α:Ren}{h:Heap}{w:World}
theorem HRel.move(H:HRel G α h w){b:Nat}{p:Place}{x:Blk}(hb:α b=some p)(hg:h.get b=some x)(ho:x.own=true) :
  HRel G (Ren.add α h.next p) ((h.set b none).push x) w/\Turn α h w (Ren.add α h.next p) ((h.set b none).push x) w:=by
 have hlt:=(H.dom b p hb).1
 have hcase:∀ c q,Ren.add α h.next p c=some q->(c=h.next/\q=p)∨(c < h.next/\α c=some q):=by
  intro c q hc
  unfold Ren.add at hc
  split at hc
  ·cases hc;exact .inl ⟨by assumption,rfl⟩
  ·exact .inr ⟨(H.dom c q hc).1,hc⟩
 have hbo:h.own b=true:=by rw[Qs7 hg];exact ho
 have hnx:(h.set b none).next=h.next:=rfl
 have hget:∀ c,((h.set b none).push x).get c=if h.next=c then some x else if b=c then none else h.get c:=by
  intro c
  rw[Heap.get_push,hnx]
  split
  ·rfl
  ·rw[Heap.get_set _ _ _ _ hlt]
 have hown:∀ c,((h.set b none).push x).own c=if h.next=c then true else if b=c then false else h.own c:=by
  intro c
  rw[Qxp,hnx,Qun hlt,ho]
 have hlive:∀ c,((h.set b none).push x).live c=if h.next=c then true else if b=c then false else h.live c:=by
  intro c
  rw[X2c,hnx,Yb2 hlt,Blk.solid_of_own ho]
 constructor
 ·refine⟨fun c q hc => ?_,fun c q y hc hy => ?_,fun c d q r hc hd hne hoc hld => ?_,fun g hg' => ?_,Nat.le_succ_of_le H.globs,fun c y hy => ?_,fun c q y hc hy => ?_,H.bsz⟩
  ·rcases hcase c q hc with⟨rfl,rfl⟩ | ⟨h1,h2⟩
   ·exact⟨Nat.lt_succ_self _,(H.dom _ _ hb).2⟩
   ·exact⟨Nat.lt_succ_of_lt h1,(H.dom c q h2).2⟩
  ·rw[hget]at hy
   rcases hcase c q hc with⟨rfl,rfl⟩ | ⟨h1,h2⟩
   ·simp only[if_true]at hy;cases hy
    exact(H.fits b _ _ hb hg).keep (H.add_dom _) rfl
   ·rw[if_neg (by omega)]at hy
    split at hy
    ·cases hy
    ·exact(H.fits c q y h2 hy).keep (H.add_dom p) rfl
  ·rw[hown]at hoc
   rw[hlive]at hld
   rcases hcase c q hc with⟨rfl,rfl⟩ | ⟨h1,h2⟩
   ·rcases hcase d r hd with⟨rfl,rfl⟩ | ⟨h3,h4⟩
    ·exact absurd rfl hne
    ·rw[if_neg (by omega)]at hld
     split at hld
     ·cases hld
     ·rename_i hbd
      exact H.apart b d _ r hb h4 hbd hbo hld
   ·rcases hcase d r hd with⟨rfl,rfl⟩ | ⟨h3,h4⟩
    ·rw[if_neg (by omega)]at hoc
     split at hoc
     ·cases hoc
     ·rename_i hbc
      exact H.apart c b q _ h2 hb (fun e=>hbc e.symm) hoc (Yaz hbo)
    ·rw[if_neg (by omega)]at hoc
     rw[if_neg (by omega)]at hld
     split at hoc
     ·cases hoc
     ·split at hld
      ·cases hld
      ·exact H.apart c d q r h2 h4 hne hoc hld
  ·have:=H.globs
   refine⟨by rw[Ren.add_ext α h.next p g (by omega)];exact(H.glob g hg').1,?_⟩
   rw[hown,if_neg (by omega)]
   split
   ·rfl
   ·exact(H.glob g hg').2
  ·rw[hget]at hy
   split at hy
   ·cases hy;exact Xfi (fun c hc=>Nat.lt_succ_of_lt hc) (H.wf b x hg)
   ·split at hy
    ·cases hy
    ·exact Xfi (fun c hc=>Nat.lt_succ_of_lt hc) (H.wf c y hy)
  ·rw[hget]at hy
   rcases hcase c q hc with⟨rfl,rfl⟩ | ⟨h1,h2⟩
   ·simp only[if_true]at hy;cases hy
    exact H.base b _ _ hb hg
   ·rw[if_neg (by omega)]at hy
    split at hy
    ·cases hy
    ·exact H.base c q y h2 hy
 ·refine⟨Nat.le_refl _,fun k _ _=>rfl,fun c q hc hoc => ?_,rfl,rfl,rfl,Nat.le_succ _⟩
  rw[hown]at hoc
  rcases hcase c q hc with⟨rfl,rfl⟩ | ⟨h1,h2⟩
  ·exact .inr ⟨b,_,hb,hbo,rfl⟩
  ·rw[if_neg (by omega)]at hoc
   split at hoc
   ·cases hoc
   ·exact .inr ⟨c,q,h2,hoc,rfl⟩
def Y76(size n:Nat)(x:Value)(h:Heap):Option (List Value) :=
 match x with
 | .slice (some a) _ _=>cellsAt h a (n*size)
 | .slice none _ _=>some []
 | .string s=>some ((s.data.toList.take n).map fun b => .int .u8 b.toNat)
 | _=>none
def Xvw(x:Value):Option Nat :=
 match x with
 | .slice _ n _=>some n
 | .string s=>some s.size
 | _=>none
theorem Y1h{x:Value}{n:Nat}(hx:Xvw x=some n)(w:World):(Builtin.lenOf (ren α x)).run P w=.ok n w:=by
 unfold Xvw at hx
 split at hx <;> first
  | (cases hx;simp[Builtin.lenOf,ren];done)
  | cases hx
theorem Zbp(H:HRel G α h w){size n:Nat}{x:Value}{l:List Value}(hx:okV (dom α) x)(hl:Y76 size n x h=some l) :
  (∀ v ∈ l,okV (dom α) v/\v.oneCell'=true)/\(Builtin.firstCells size n (ren α x)).run P w=.ok (l.map (ren α)).toArray w:=by
 unfold Y76 at hl
 split at hl
 ·rename_i a _ _
  simp only[okV]at hx
  exact⟨(Qtq H hx.1 hx.2 hl).2.1,by simp only[ren,Option.map_some,Builtin.firstCells];exact Qnp H hx.1 hx.2 hl⟩
 ·cases hl;exact⟨by simp,by simp[ren,Builtin.firstCells]⟩
 ·rename_i s
  cases hl
  have hf:∀ v ∈ (s.data.toList.take n).map (fun b=>Value.int .u8 b.toNat),∃ k i,v=.int k i:=by
   intro v hv
   obtain⟨b,_,rfl⟩:=List.mem_map.1 hv
   exact⟨_,_,rfl⟩
  refine⟨fun v hv => ?_,?_⟩
  ·obtain⟨k,i,rfl⟩:=hf v hv
   exact⟨by simp[okV],rfl⟩
  ·rw[Qy5 α _ (fun v hv=>by obtain⟨k,i,rfl⟩:=hf v hv;rfl)]
   simp only[ren_string,Builtin.firstCells,Sem.run_pure]
   congr 1
   apply Array.ext'
   simp[ByteArray.data_extract,List.extract]
 ·cases hl
def Xxn(E:Env P)(t:TypeId)(dst src:Value)(h:Heap):Option (Value × Heap) :=
 match E.ty.get t,dst with
 | some r,.slice base dLen _=>match r.desc,Xvw src with
  | .slice e,some sl=>match E.ty.get e with
   | some re=>match Y76 re.size (Nat.min sl dLen) src h with
    | some l=>match base,l with
     | none,_=>some (.int .i64 (Nat.min sl dLen),h)
     | _,[]=>some (.int .i64 (Nat.min sl dLen),h)
     | some a,v::l=>(storeAt h a (v::l)).map fun h'=>(.int .i64 (Nat.min sl dLen),h')
    | none=>none
   | none=>none
  | _,_=>none
 | _,_=>none
theorem Zmr(E:Env P)(H:HRel E.G α h w){t tx ty:TypeId}{dst src v:Value}{h':Heap}(hd:okV (dom α) dst)(hs:okV (dom α) src)(hv:Xxn E t dst src h=some (v,h')) :
  Gives P E.G α h w (Builtin.copy_ #[t,tx] ty #[ren α dst,ren α src]) v h':=by
 unfold Xxn at hv
 split at hv
 ·rename_i r base dLen c hr
  split at hv
  ·rename_i e sl hde hsl
   split at hv
   ·rename_i re hre
    split at hv
    ·rename_i l hl
     obtain⟨s1,s2⟩:=Zbp (P:=P) H hs hl
     have hrun:∀ res,((match base with | some a=>storeCells (Wa α a) (l.map (ren α)) | none=>pure ()).run P w).andThen (fun _ w' => .ok (.int .i64 (Nat.min sl dLen)) w')=res ->
       (Builtin.copy_ #[t,tx] ty #[ren α (.slice base dLen c),ren α src]).run P w=res:=by
      intro res hres
      rw[<- hres]
      cases base <;> simp[Builtin.copy_,run_underlying (E.tyok t r hr).1,hde,ren,Y1h hsl,W3 (E.tyok _ re hre),s2,goInt]
     split at hv
     ·cases hv
      exact Gives.flat H rfl (hrun _ rfl)
     ·cases hv
      exact Gives.flat H rfl (hrun _ (by cases base <;> rfl))
     ·rename_i a v0 l0
      rw[Option.map_eq_some_iff]at hv
      obtain⟨h1,hst,hq⟩:=hv
      cases hq
      simp only[okV]at hd
      obtain⟨w',r1,r2,r3⟩:=Q4t (P:=P) H hd.1 hd.2 s1 hst
      exact⟨α,w',hrun _ (by simp only[r1,Result.andThen_ok,ren_int]),by simp[okV],Ext.refl _ _,r2,r3⟩
    ·cases hv
   ·cases hv
  ·cases hv
 ·cases hv
def Qqn(E:Env P)(t:TypeId)(n c:Value)(h:Heap):Option (Value × Heap) :=
 match E.ty.get t,n,c with
 | some r,.int _ n,.int _ c=>match r.desc with
  | .slice e=>match E.ty.get e with
   | some re =>
    if 0<=n/\n<=c/\c<=281474976710656/\re.bytes*c<=281474976710656/\1<=re.size then
     some (.slice (some ⟨h.next,0,none⟩) n.toNat c.toNat,h.push (.cells true 1 (Qdi re.zero.cells.toList c.toNat)))
    else none
   | none=>none
  | _=>none
 | _,_,_=>none
theorem Xzo{n:Int}(h0:0<=n)(h1:n<=9223372036854775807):IntKind.i64.wrap n=n:=IntWalk.i64_in _ (by omega)
theorem Zm3{n c:Int}{b:Nat}(h0:0<=n)(h1:n<=c)(h3:b*c<=281474976710656):(decide (c < 0) || decide ((b:Int)*c > 2 ^ 48) || decide (n < 0) || decide (n > c))=false:=by
 simp only[Bool.or_eq_false_iff,decide_eq_false_iff_not]
 refine⟨⟨⟨by omega,?_⟩,by omega⟩,by omega⟩
 have : (2:Int) ^ 48=281474976710656:=by decide
 omega
theorem Yqd(E:Env P)(H:HRel E.G α h w){t:TypeId}{n c v:Value}{h':Heap}(hv:Qqn E t n c h=some (v,h')) :
  Gives P E.G α h w (Instr.makeSlice t (ren α n) (ren α c)) v h':=by
 unfold Qqn at hv
 split at hv
 ·rename_i r k n k' c hr
  split at hv
  ·rename_i e hd
   split at hv
   ·rename_i re hre
    split at hv
    ·rename_i hc
     obtain⟨h0,h1,h2,h3,h4⟩:=hc
     cases hv
     have ho:=E.tyok e re hre
     obtain⟨_,i,hi,_,hby,_,hf,hn,hzs,_⟩:=ho
     have hz:∀ v ∈ Qdi re.zero.cells.toList c.toNat,okV (dom α) v/\v.oneCell'=true:=fun v hv=>Q3a hf hn (dom α) v (Qne hv)
     have hzm:=Qy5 α (Qdi re.zero.cells.toList c.toNat) (fun v hv=>Qmm hf hn v (Qne hv))
     have hg:=Yhl (P:=P) H e hz n.toNat c.toNat (by unfold Qhx;omega)
     rw[hzm]at hg
     obtain⟨α',w',r1,r2⟩:=hg
     refine⟨α',w',?_,r2⟩
     rw[<- r1]
     have hwn:IntKind.i64.wrap n=n:=Xzo h0 (by omega)
     have hwc:IntKind.i64.wrap c=c:=Xzo (by omega) (by omega)
     have hti:∀ w:World,(typeInfo e).run P w=.ok i w:=fun w=>by simp[typeInfo,hi]
     simp only[Instr.makeSlice,Sem.run_bind,run_underlying (E.tyok t r hr).1,hd,Result.andThen_ok,ren_int,asInt,asIntOf,Sem.run_pure,hti,hby,hwn,hwc,Sem.run_ite]
     have hg:=Zm3 h0 h1 h3
     simp only[hg,Bool.false_eq_true,if_false,run_askRoom,Result.andThen_ok,W3 (E.tyok e re hre)]
     by_cases hc0:c.toNat*re.size=0
     ·have h00:c.toNat=0:=by rcases Nat.mul_eq_zero.1 hc0 with h | h <;> omega
      have hr0:∀ f:Nat->Value,(Array.range 0).map f = #[]:=fun f=>by simp
      simp only[h00,Nat.zero_mul,if_true,hr0,Qdi,Sem.run_bind,Sem.run_pure]
     ·simp only[hc0,if_false,Qg2 (E.tyok e re hre),Result.andThen_ok]
      rw[<- hzs,Qyu _ _ (by omega)]
    ·cases hv
   ·cases hv
  ·cases hv
 ·cases hv
end
section
variable{P:Program}{G:Bs}{α:Ren}{h:Heap}{w:World}
def Xxi(E:Env P)(tx:TypeId)(re:TyRec)(x:Value)(h:Heap):Option (Nat × List Value) :=
 match E.ty.get tx with
 | none=>none
 | some rx=>match rx.desc with
  | .int _=>match x with
   | .int _ n=>if 0<=n/\n<=140737488355328/\re.bytes*n<=140737488355328/\1<=re.size then some (n.toNat,Qdi re.zero.cells.toList n.toNat)else none
   | _=>none
  | _=>match Xvw x with
   | some n=>match Y76 re.size n x h with
    | some l=>some (n,l)
    | none=>none
   | none=>none
def Qgq(E:Env P)(t tx:TypeId)(s x:Value)(h:Heap):Option (Value × Heap) :=
 match E.ty.get t,s with
 | some r,.slice base n c=>match r.desc with
  | .slice e=>match E.ty.get e with
   | none=>none
   | some re=>if !(Nat.ble 1 re.size)then none else match Xxi E tx re x h with
    | none=>none
    | some (m,news) =>
     let need:=n+m
     if news.length != m*re.size then none else
     if c != Qhx && Nat.ble need c then
      match base,news with
      | _,[]=>some (.slice base need c,h)
      | some a,v::l=>(storeAt h (a.add (n*re.size)) (v::l)).map fun h'=>(.slice base need c,h')
      | none,_=>none
     else if !(Nat.ble (need*re.bytes) 140737488355328 && Nat.ble need 140737488355328)then none
     else if c != Qhx then
      match (match base with | none=>if n == 0 then some []else none | some a=>cellsAt h a (n*re.size))with
      | some olds=>some (.slice (some ⟨h.next,0,none⟩) need Qhx,h.push (.cells true re.size (olds++news)))
      | none=>none
     else match base with
      | none=>none
      | some a=>match h.get a.block with
       | some (.cells true sz cs) =>
        if !(sz == re.size && a.off % sz == 0)then none
        else if Nat.ble (a.off+need*sz) cs.length then
         match news with
         | []=>some (.slice base need Qhx,h)
         | v::l=>(storeAt h (a.add (n*sz)) (v::l)).map fun h'=>(.slice base need Qhx,h')
        else if a.off == 0 then
         match Q1n (n*sz) cs with
         | some olds=>some (.slice (some ⟨h.next,0,none⟩) need Qhx,(h.set a.block none).push (.cells true sz (olds++news)))
         | none=>none
        else none
       | _=>none
  | _=>none
 | _,_=>none
def Zip(P:Program)(re:TyRec)(tx:TypeId)(x:Value)(m:Nat)(news:Array Value)(w:World):Prop :=
 (∃ d,P.underlying tx=some d/\(∀ k,d ≠ .int k)/\∀ w':World,w'.heap=w.heap->(Builtin.lenOf x).run P w'=.ok m w'/\(Builtin.firstCells re.size m x).run P w'=.ok news w') ∨
 (∃ k q i,P.underlying tx=some (.int k)/\x=.int q i/\0<=i/\i<=140737488355328/\re.bytes*i<=140737488355328/\1<=re.size/\m=i.toNat/\news=(Qdi re.zero.cells.toList m).toArray)
theorem Qui{t tx ty e:TypeId}{re:TyRec}(hu:P.underlying t=some (.slice e))(hre:Zee P e re)(base:Option Addr)(n c m:Nat)(x:Value)(news:Array Value)
  (hn:Zip P re tx x m news w) (hroom:n+m<=c) :
  (Builtin.append_ #[t,tx] ty #[.slice base n c,x]).run P w =
   ((match base with | some a=>storeCells (a.add (n*re.size)) news.toList | none=>pure ()).run P w).andThen fun _ w' => .ok (.slice base (n+m) c) w':=by
 have ho:=hre
 obtain⟨_,i0,hi,_,hby,_,_,_,hzs,_⟩:=ho
 rcases hn with⟨d,hd,hni,hrun⟩ | ⟨k,q,i,hd,rfl,h0,h1,h2,h3,rfl,rfl⟩
 ·obtain⟨r1,r2⟩:=hrun w rfl
  cases base <;> simp[Builtin.append_,run_underlying hu,run_underlying hd,W3 hre,r1,r2,hroom]
 ·have hw:IntKind.i64.wrap i=i:=Xzo h0 (by omega)
  have hneg:¬ i < 0:=by omega
  have hbig:¬ (i*(re.bytes:Int) > 281474976710656):=by rw[Int.mul_comm];omega
  have hbig':¬ (281474976710656 < i*(re.bytes:Int)):=hbig
  have hti:∀ w:World,(typeInfo e).run P w=.ok i0 w:=fun w=>by simp[typeInfo,hi]
  have hzc:Builtin.zeroCells re.zero.cells i.toNat=(Qdi re.zero.cells.toList i.toNat).toArray:=Qyu _ _ (by omega)
  by_cases hm:i.toNat=0
  ·have h00:i=0:=by omega
   subst h00
   have hroom':n<=c:=by simpa using hroom
   cases base <;> simp[Builtin.append_,run_underlying hu,run_underlying hd,W3 hre,asInt,asIntOf,hw,hti,hroom',Qdi]
  ·have hne':¬ (i.toNat*re.size=0):=by
    intro h;rcases Nat.mul_eq_zero.1 h with h | h <;> omega
   cases base <;> simp[Builtin.append_,run_underlying hu,run_underlying hd,W3 hre,asInt,asIntOf,hw,hneg,hti,hby,hbig',hroom,Qg2 hre,hzc,hne']
theorem Xcn{t tx ty e:TypeId}{re:TyRec}(hu:P.underlying t=some (.slice e))(hre:Zee P e re)(base:Option Addr)(n c m:Nat)(x:Value)(news olds:Array Value)
  (hn:Zip P re tx x m news w) (hold:∀ w':World,w'.heap=w.heap->(Builtin.firstCells re.size n (.slice base n c)).run P w'=.ok olds w') (hroom:c < n+m)
  (hfit:(n+m)*re.bytes<=140737488355328) (hle:n+m<=140737488355328) :
  ∃ nc,n+m<=nc/\(Builtin.append_ #[t,tx] ty #[.slice base n c,x]).run P w =
   .ok (.slice (some ⟨w.heap.size,0,none⟩) (n+m) nc) {w with drawn:=w.drawn+1,heap:=w.heap.push (.cells (olds++news++Builtin.zeroCells re.zero.cells (nc-(n+m))) e)}:=by
 have ho:=hre
 obtain⟨_,i0,hi,_,hby,_,_,_,hzs,_⟩:=ho
 have hge:=grownCap_ge w (n+m) c e
 refine⟨grownCap w (n+m) c e,hge,?_⟩
 have hnr:¬ (n+m<=c):=by omega
 have h63:¬ (9223372036854775807 < ((n:Int)+(m:Int))):=by omega
 have h48:¬ (281474976710656 < Builtin.nextslicecap (n+m) c*re.bytes):=by
  have:=growslice_fits (old:=c) (need:=n+m) hroom hfit;omega
 have hti:∀ w:World,(typeInfo e).run P w=.ok i0 w:=fun w=>by simp[typeInfo,hi]
 have hold':=hold w.drew rfl
 rcases hn with⟨d,hd,hni,hrun⟩ | ⟨k,q,i,hd,rfl,h0,h1,h2,h3,rfl,rfl⟩
 ·obtain⟨r1,_⟩:=hrun w rfl
  obtain⟨_,r2⟩:=hrun w.drew rfl
  simp[Builtin.append_,run_underlying hu,run_underlying hd,W3 hre,r1,r2,hnr,h63,h48,hti,hby,Question.forced,hold',Qg2 hre,newRow,grownCap]
  rfl
 ·have hw:IntKind.i64.wrap i=i:=Xzo h0 (by omega)
  have hneg:¬ i < 0:=by omega
  have hbig:¬ (i*(re.bytes:Int) > 281474976710656):=by rw[Int.mul_comm];omega
  have hbig':¬ (281474976710656 < i*(re.bytes:Int)):=hbig
  have hzc:Builtin.zeroCells re.zero.cells i.toNat=(Qdi re.zero.cells.toList i.toNat).toArray:=Qyu _ _ (by omega)
  have h63':¬ (9223372036854775807 < (n:Int)+max i 0):=by omega
  by_cases hm:i.toNat=0
  ·have h00:i=0:=by omega
   subst h00
   have e1:n+(0:Int).toNat=n:=by simp
   rw[e1]at hnr h48 hge ⊢
   have h63'':¬ (9223372036854775807 < (n:Int)):=by omega
   simp[Builtin.append_,run_underlying hu,run_underlying hd,W3 hre,asInt,asIntOf,hw,hti,hby,hnr,h63'',h48,Question.forced,hold',Qg2 hre,newRow,grownCap,Qdi]
   rfl
  ·have hne':¬ (i.toNat*re.size=0):=by
    intro h;rcases Nat.mul_eq_zero.1 h with h | h <;> omega
   simp[Builtin.append_,run_underlying hu,run_underlying hd,W3 hre,asInt,asIntOf,hw,hneg,hti,hby,hbig',hnr,h63',h48,Question.forced,hold',Qg2 hre,hzc,hne',newRow,grownCap]
   rfl
theorem Znr(E:Env P)(H:HRel G α h w){tx:TypeId}{re:TyRec}{x:Value}{m:Nat}{news:List Value}(hx:okV (dom α) x){e:TypeId}(hre:Zee P e re)
  (hv:Xxi E tx re x h=some (m,news)):(∀ v ∈ news,okV (dom α) v/\v.oneCell'=true)/\Zip P re tx (ren α x) m (news.map (ren α)).toArray w:=by
 unfold Xxi at hv
 split at hv
 ·cases hv
 ·rename_i rx hrx
  split at hv
  ·rename_i k hd
   split at hv
   ·rename_i q i
    split at hv
    ·rename_i hc
     cases hv
     obtain⟨_,_,_,_,_,_,hf,hn,hzs,_⟩:=hre
     have hzm:=Qy5 α (Qdi re.zero.cells.toList i.toNat) (fun v hv=>Qmm hf hn v (Qne hv))
     refine⟨fun v hv=>Q3a hf hn (dom α) v (Qne hv),.inr ⟨k,q,i,by rw[(E.tyok tx rx hrx).1,hd],by simp,hc.1,hc.2.1,hc.2.2.1,hc.2.2.2,rfl,by rw[hzm]⟩⟩
    ·cases hv
   ·cases hv
  ·rename_i hd
   split at hv
   ·rename_i n hn
    split at hv
    ·rename_i l hl
     cases hv
     refine⟨(Zbp (P:=P) H hx hl).1,.inl ⟨_,(E.tyok tx rx hrx).1,fun k hk=>hd k hk,fun w' hw'=>⟨Y1h hn w',(Zbp (P:=P) (H.same hw') hx hl).2⟩⟩⟩
    ·cases hv
   ·cases hv
theorem Y2f{p:Place}{sz:Nat}{cs:List Value}(hf:Fits α p w (.cells true sz cs)):p.base=0/\cs.length<=p.room*sz/\p.sz=sz/\∃ C e lo hi,w.heap[p.blk]? = some (.cells C e (lo,hi)) /\
  (∀ (i:Nat) (v:Value),cs[i]? = some v->C[i]? = some (ren α v)/\okV (dom α) v/\v.oneCell'=true)/\Thawed C.size lo hi/\C.size=p.room*sz:=by
 obtain⟨hz,hf⟩:=hf
 rcases hf with⟨h0,_⟩ | ⟨C,e,lo,hi,f1,f2,f3⟩
 ·cases h0
 obtain⟨f31,f32,f33⟩:=f3 rfl
 refine⟨f31,?_,hz,C,e,lo,hi,f1,fun i v hv=>by have:=f2 i v hv;rwa [f31,Nat.zero_add]at this,f32,by rw[f33,hz]⟩
 rw[<- hz,<- f33]
 rcases Nat.lt_or_ge C.size cs.length with hlt | hge
 ·have:=(f2 C.size _ (List.getElem?_eq_getElem hlt)).1
  simp[f31]at this
 ·exact hge
theorem Yor(H:HRel G α h w){e:TypeId}{re:TyRec}(hre:Zee P e re){l:List Value}(hl:∀ v ∈ l,okV (dom α) v/\v.oneCell'=true){k nc:Nat}(hk:l.length=k*re.size)(hnc:k<=nc)(rest:Array Value)
  (hrest:rest=Builtin.zeroCells re.zero.cells (nc-k)) {w':World} (hw':w' = {w with drawn:=w.drawn+1,heap:=w.heap.push (.cells ((l.map (ren α)).toArray++rest) e)}) :
  ∃ α',ren α' (.slice (some ⟨h.next,0,none⟩) k Qhx)=.slice (some ⟨w.heap.size,0,none⟩) k nc/\dom α' h.next/\Ext h.next α α'/\HRel G α' (h.push (.cells true re.size l)) w'/\Turn α h w α' (h.push (.cells true re.size l)) w':=by
 obtain⟨_,i0,hi,_,hby,_,_,_,hzs,_⟩:=hre
 have hsz:rest.size=(nc-k)*re.size:=by rw[hrest,size_zeroCells,hzs]
 let p:Place:={blk:=w.heap.size,base:=0,room:=nc,sz:=re.size,spot:=none}
 let w1:World:={w with drawn:=w.drawn+1}
 have H1:HRel G α h w1:=H.same rfl
 have hp:=H1.push (x:=.cells true re.size l) rfl (p:=p) rfl (o:=.cells ((l.map (ren α)).toArray++rest) e) (w':=w') (by rw[hw']) (by
  refine⟨rfl,.inr ⟨(l.map (ren α)).toArray++rest,e,0,0,by rw[hw'];simp[p],fun i v hv => ?_,fun _=>⟨rfl,.inl rfl,?_⟩⟩⟩
  ·have hm:=hl v (List.mem_of_getElem? hv)
   have hd:∀ b,dom α b->Ren.add α h.next p b=α b:=H.add_dom _
   refine⟨?_,okV_mono (fun b hb=>by simpa[dom,hd b hb]using hb) v hm.1,hm.2⟩
   rw[ren_congr hd v hm.1]
   have hlt:i < l.length:=by
    rcases Nat.lt_or_ge i l.length with h | h
    ·exact h
    ·rw[List.getElem?_eq_none h]at hv;cases hv
   rw[show p.base+i=i from Nat.zero_add i,Array.getElem?_append_left (by simpa using hlt)]
   simp[hv]
  ·show((l.map (ren α)).toArray++rest).size=nc*re.size
   simp only[Array.size_append,List.size_toArray,List.length_map,hk,hsz,<- Nat.add_mul]
   congr 1;omega)
 refine⟨Ren.add α h.next p,?_,by simp[dom,Ren.add_same],Ren.add_ext _ _ _,hp.1,(Turn.drawn α h w _).trans hp.2⟩
 simp[ren,Wa,Ren.add_same,Xdx,p]
end
section
variable{P:Program}{α:Ren}{h:Heap}{w:World}
theorem Y7k(h:Heap)(b:Nat)(x y:Option Blk):(h.set b x).set b y=h.set b y:=by
 simp only[Heap.set,Tr.put_put,Nat.min_assoc,Nat.min_self]
theorem Zfr:∀ (n:Nat) (l r:List Value),Q1n n l=some r->r=l.take n:=fun n l r hr=>by
 have:=X5s (n:=n) (off:=0) (cs:=l) (l:=r) (by simpa using hr)
 simpa using this
theorem Zf2(E:Env P)(H:HRel E.G α h w){t tx ty:TypeId}{s x v:Value}{h':Heap}(hs:okV (dom α) s)(hx:okV (dom α) x)(hv:Qgq E t tx s x h=some (v,h')) :
  Gives P E.G α h w (Builtin.append_ #[t,tx] ty #[ren α s,ren α x]) v h':=by
 unfold Qgq at hv
 split at hv
 ·rename_i r base n c hr
  split at hv
  ·rename_i e hd
   split at hv
   ·cases hv
   ·rename_i re hre
    have hu:P.underlying t=some (.slice e):=by rw[(E.tyok t r hr).1,hd]
    have ho:=E.tyok e re hre
    split at hv
    ·cases hv
    ·rename_i h1
     have h1':1<=re.size:=by simpa using h1
     split at hv
     ·cases hv
     ·rename_i m news hnews
      obtain⟨nw1,nw2⟩:=Znr E H hx ho hnews
      simp only at hv
      split at hv
      ·cases hv
      ·rename_i hlen
       have hlen':news.length=m*re.size:=by simpa using hlen
       split at hv
       ·
        rename_i hroom
        simp only[Bool.and_eq_true,bne_iff_ne,ne_eq,Nat.ble_eq]at hroom
        obtain⟨hc,hroom⟩:=hroom
        have hrun:=Qui (w:=w) (ty:=ty) hu ho (base.map (Wa α)) n c m (ren α x) _ nw2 hroom
        rw[Qg8 _ _ _ _ hc]
        split at hv
        ·cases hv
         refine Gives.plain H (by cases base <;> simpa only[okV]using hs) ?_
         rw[hrun,Qg8 _ _ _ _ hc]
         cases base <;> rfl
        ·rename_i a v0 l0
         rw[Option.map_eq_some_iff]at hv
         obtain⟨h1,hst,hq⟩:=hv
         cases hq
         simp only[okV]at hs
         obtain⟨w',r1,r2,r3⟩:=Q4t (P:=P) H (a:=a.add (n*re.size)) (by rw[Qpr];exact hs.1) (Qy6 _ _ hs.2) nw1 hst
         refine⟨α,w',?_,by simpa only[okV]using hs,Ext.refl _ _,r2,r3⟩
         rw[hrun,Qg8 _ _ _ _ hc]
         rw[Qm2 α a hs.1 hs.2]at r1
         simp only[Option.map_some,r1,Result.andThen_ok]
        ·cases hv
       ·rename_i hnroom
        split at hv
        ·cases hv
        ·rename_i hfit
         simp only[Bool.not_eq_true',Bool.not_eq_false,Bool.and_eq_true,Nat.ble_eq]at hfit
         obtain⟨hfit,hle⟩:=hfit
         split at hv
         ·
          rename_i hc
          have hc':c≠Qhx:=by simpa using hc
          have hlt:c < n+m:=by
           simp only[Bool.and_eq_true,bne_iff_ne,ne_eq,Nat.ble_eq,not_and]at hnroom
           exact Nat.lt_of_not_le (hnroom hc')
          split at hv
          ·rename_i olds hold
           cases hv
           have hol:olds.length=n*re.size/\(∀ v ∈ olds,okV (dom α) v/\v.oneCell'=true)/\∀ w':World,w'.heap=w.heap->(Builtin.firstCells re.size n (.slice (base.map (Wa α)) n c)).run P w'=.ok (olds.map (ren α)).toArray w':=by
            split at hold
            ·split at hold
             ·rename_i hn0
              cases hold
              have : n=0:=by simpa using hn0
              subst this
              exact⟨by simp,by simp,fun w' _=>by simp[Builtin.firstCells]⟩
             ·cases hold
            ·rename_i a
             simp only[okV]at hs
             have:=Qtq H hs.1 hs.2 hold
             refine⟨this.1,this.2.1,fun w' hw' => ?_⟩
             simp only[Builtin.firstCells,Option.map_some]
             exact Qnp (H.same hw') hs.1 hs.2 hold
           obtain⟨ol1,ol2,ol3⟩:=hol
           obtain⟨nc,g1,g2⟩:=Xcn (w:=w) (ty:=ty) hu ho (base.map (Wa α)) n c m (ren α x) _ _ nw2 ol3 hlt hfit hle
           obtain⟨α',e1,e2,e3,e4,e5⟩:=Yor (w':=_) H (e:=e) ho (l:=olds++news) (fun v hv=>(List.mem_append.1 hv).elim (ol2 v) (nw1 v)) (k:=n+m) (nc:=nc)
            (by rw[List.length_append,ol1,hlen',Nat.add_mul]) g1 _ rfl rfl
           refine⟨α',_,?_,by simp only[okV];exact⟨e2,trivial⟩,e3,e4,e5⟩
           rw[Qg8 _ _ _ _ hc',g2,e1]
           simp
          ·cases hv
         ·
          rename_i hc
          have hc':c=Qhx:=by simpa using hc
          subst hc'
          split at hv
          ·cases hv
          ·rename_i a
           simp only[okV]at hs
           obtain⟨p,hp⟩:=Option.isSome_iff_exists.1 hs.1
           split at hv
           ·rename_i sz cs hg
            split at hv
            ·cases hv
            ·rename_i hcond
             simp only[Bool.not_eq_true',Bool.not_eq_false,Bool.and_eq_true,beq_iff_eq]at hcond
             obtain⟨rfl,hoff⟩:=hcond
             obtain⟨hb0,hcl,hpz,C,te,lo,hi,f1,f2,f3,f4⟩:=Y2f (H.fits _ p _ hp hg)
             have hopen:∀ k,ren α (.slice (some a) k Qhx)=.slice (some (Wa α a)) k (p.room-a.off / re.size):=fun k=>by rw[Qo0 α a k hp,hpz]
             obtain⟨q,hq⟩:=Nat.dvd_of_mod_eq_zero hoff
             have hqd:a.off / re.size=q:=by rw[hq,Nat.mul_div_cancel_left _ h1']
             split at hv
             ·
              rename_i hroom
              have hroom':a.off+(n+m)*re.size<=cs.length:=by simpa using hroom
              have hr2:n+m<=p.room-a.off / re.size:=by
               rw[hqd]
               have : re.size*(q+(n+m))<=re.size*p.room:=by rw[Nat.mul_add,Nat.mul_comm re.size (n+m),Nat.mul_comm re.size p.room,<- hq];omega
               have:=Nat.le_of_mul_le_mul_left this h1'
               omega
              have hrun:=Qui (w:=w) (ty:=ty) hu ho (some (Wa α a)) n _ m (ren α x) _ nw2 hr2
              rw[hopen]
              split at hv
              ·cases hv
               refine Gives.plain H (by simpa only[okV]using hs) ?_
               rw[hrun,hopen]
               rfl
              ·rename_i v0 l0
               rw[Option.map_eq_some_iff]at hv
               obtain⟨h2,hst,hq2⟩:=hv
               cases hq2
               obtain⟨w',r1,r2,r3⟩:=Q4t (P:=P) H (a:=a.add (n*re.size)) (by rw[Qpr];exact hs.1) (Qy6 _ _ hs.2) nw1 hst
               refine⟨α,w',?_,by simpa only[okV]using hs,Ext.refl _ _,r2,r3⟩
               rw[hrun,hopen]
               rw[Qm2 α a hs.1 hs.2]at r1
               simp only[r1,Result.andThen_ok]
             ·rename_i hnr
              split at hv
              ·rename_i hoff0
               have ha0:a.off=0:=by simpa using hoff0
               split at hv
               ·rename_i olds hold
                cases hv
                have hotk:=Zfr _ _ _ hold
                have ho1:olds.length=n*re.size:=(Qwt _ _ _ hold).1
                have hoc:∀ v ∈ olds,okV (dom α) v/\v.oneCell'=true:=fun v hv=>by
                 obtain⟨i,hi'⟩:=List.getElem?_of_mem hv
                 exact(f2 i v ((Qwt _ _ _ hold).2 i v hi')).2
                have hall:∀ v ∈ olds++news,okV (dom α) v/\v.oneCell'=true:=fun v hv=>(List.mem_append.1 hv).elim (hoc v) (nw1 v)
                have hcat:cellsAt h a (n*re.size)=some olds:=by
                 unfold cellsAt;rw[hg];simp only[ha0,List.drop_zero];exact hold
                have hown:h.own a.block=true:=Qs7 hg
                by_cases hroom:n+m<=p.room-a.off / re.size
                ·
                 have hrun:=Qui (w:=w) (ty:=ty) hu ho (some (Wa α a)) n _ m (ren α x) _ nw2 hroom
                 rw[hopen]
                 have hsz:(n+m)*re.size<=C.size:=by rw[f4];rw[ha0,Nat.zero_div]at hroom;exact Nat.mul_le_mul_right _ hroom
                 obtain⟨C',r1,r2,r3⟩:=Quf (P:=P) p.blk te lo hi (news.map (ren α)) (n*re.size) C w f1 f3.not (by simp[hlen'];rw[<- Nat.add_mul];exact hsz)
                  (fun v hv=>by obtain⟨u,hu',rfl⟩:=List.mem_map.1 hv;rw[Ybl];exact(nw1 u hu').2) 0 (n*re.size) (by omega)
                 have hfit':Fits α p (World.turned w p.blk (.cells C' te (lo,hi))) (.cells true re.size (olds++news)):=by
                  refine⟨hpz,.inr ⟨C',te,lo,hi,Qp1 (H.blk_lt hp hg rfl),fun i v hv => ?_,fun _=>⟨hb0,by rw[r2];exact f3,by rw[r2,f4,hpz]⟩⟩⟩
                  refine⟨?_,hall v (List.mem_of_getElem? hv)⟩
                  rw[hb0,Nat.zero_add,r3 i]
                  simp only[List.length_map]
                  by_cases hi':i < olds.length
                  ·rw[if_neg (by omega)]
                   rw[List.getElem?_append_left hi']at hv
                   exact(f2 i v ((Qwt _ _ _ hold).2 i v hv)).1
                  ·rw[List.getElem?_append_right (by omega)]at hv
                   have hlt:i-olds.length < news.length:=by
                    rcases Nat.lt_or_ge (i-olds.length) news.length with h | h
                    ·exact h
                    ·rw[List.getElem?_eq_none h]at hv;cases hv
                   rw[if_pos (by omega),List.getElem?_map,<- ho1,hv]
                   rfl
                 obtain⟨H2,T2⟩:=H.upd hp hown (x:=.cells true re.size (olds++news)) rfl hfit'
                 have hgs:(h.set a.block (some (.cells true re.size (olds++news)))).get a.block=some (.cells true re.size (olds++news)):=by
                  rw[Heap.get_set _ _ _ _ (H.dom _ _ hp).1];simp
                 obtain⟨H3,T3⟩:=H2.move hp hgs rfl
                 have T:=T2.trans T3
                 rw[Y7k]at H3 T
                 refine⟨Ren.add α h.next p,_,?_,?_,Ren.add_ext _ _ _,H3,T⟩
                 ·rw[hrun]
                  have hra:Wa α a=⟨p.blk,0,none⟩:=by
                   obtain⟨b0,o0,s0⟩:=a
                   simp only at hs hp ha0
                   simp[Wa,hp,hb0,ha0,hs.2,H.spot hp hg rfl]
                  rw[hra]
                  simp only[Qoh,Nat.zero_add,r1,Result.andThen_ok]
                  congr 1
                  simp only[ren,Option.map_some,Wa,Xdx,if_true]
                  simp[Ren.add_same,hb0,ha0,H.spot hp hg rfl]
                 ·simp only[okV];exact⟨by simp[dom,Ren.add_same],trivial⟩
                ·
                 obtain⟨Hk,Tk⟩:=H.kill (H.dom _ _ hp).1
                 rw[hopen]
                 have ol3:∀ w':World,w'.heap=w.heap->(Builtin.firstCells re.size n (.slice (some (Wa α a)) n (p.room-a.off / re.size))).run P w'=.ok (olds.map (ren α)).toArray w':=fun w' hw'=>by
                  simp only[Builtin.firstCells]
                  exact Qnp (H.same hw') hs.1 hs.2 hcat
                 obtain⟨nc,g1,g2⟩:=Xcn (w:=w) (ty:=ty) hu ho (some (Wa α a)) n _ m (ren α x) _ _ nw2 ol3 (Nat.lt_of_not_le hroom) hfit hle
                 obtain⟨α',e1,e2,e3,e4,e5⟩:=Yor (w':=_) Hk (e:=e) ho (l:=olds++news) hall (k:=n+m) (nc:=nc)
                  (by rw[List.length_append,ho1,hlen',Nat.add_mul]) g1 _ rfl rfl
                 refine⟨α',_,?_,by simp only[okV];exact⟨e2,trivial⟩,e3,e4,Tk.trans e5⟩
                 rw[g2]
                 have e1':ren α' (.slice (some ⟨h.next,0,none⟩) (n+m) Qhx)=.slice (some ⟨w.heap.size,0,none⟩) (n+m) nc:=e1
                 rw[e1']
                 simp
               ·cases hv
              ·cases hv
           ·cases hv
  ·cases hv
 ·cases hv
end
def Xla(s:ByteArray):List Value:=s.data.toList.map fun b => .int .u8 b.toNat
def Xod:List Value->Option (List Int)
 | []=>some []
 | .int .u8 n::l=>match Xod l with
  | some r=>some (n::r)
  | none=>none
 | _::_=>none
def Qq7{P:Program}(E:Env P)(src dst:TypeId):Bool :=
 match E.ty.get src,E.ty.get dst with
 | some s,some d=>match d.desc,s.desc with
  | .int _,_=>true
  | .string,.string=>true
  | _,_=>false
 | _,_=>false
def Xb1{P:Program}(E:Env P)(src dst:TypeId)(x:Value)(h:Heap):Option (Value × Heap) :=
 match E.ty.get src,E.ty.get dst,x with
 | some _,some d,.string b=>match d.desc with
  | .slice e=>match E.ty.get e with
   | some re=>match re.desc with
    | .int .u8=>some (.slice (some ⟨h.next,0,none⟩) b.size Qhx,h.push (.cells true 1 (Xla b)))
    | _=>none
   | none=>none
  | _=>none
 | some s,some d,.slice a n c=>match s.desc,d.desc with
  | .slice _,.slice e=>match src == dst,a,E.ty.get e with
   | true,some a,some re=>match re.desc,h.get a.block with
    | .int .u8,some (.cells true _ _)=>some (.slice (some a) n c,h)
    | _,_=>none
   | _,_,_=>none
  | .slice e,.string=>match E.ty.get e with
   | some re=>match re.desc with
    | .int .u8=>match a with
     | none=>some (.string .empty,h)
     | some a=>match cellsAt h a n with
      | some l=>match Xod l with
       | some bs=>some (.string ⟨⟨bs.map fun n=>UInt8.ofNat n.toNat⟩⟩,h)
       | none=>none
      | none=>none
    | _=>none
   | none=>none
  | _,_=>none
 | _,_,_=>none
section
variable{P:Program}{G:Bs}{α:Ren}{h:Heap}{w:World}
theorem X4m:∀ {l:List Value} {bs:List Int},Xod l=some bs->l=bs.map (Value.int .u8)
 | [],bs,hb=>by simp[Xod]at hb;subst hb;rfl
 | v::l,bs,hb=>by
  unfold Xod at hb
  split at hb
  ·rename_i e;cases e
  ·rename_i n l' e
   cases e
   split at hb
   ·rename_i r hr;cases hb;simp[X4m hr]
   ·cases hb
  ·cases hb
theorem Ypj(ns:List Int):∀ (r:ByteArray),ns.foldl (fun r n=>r.push (UInt8.ofNat n.toNat)) r=⟨r.data++(ns.map fun n=>UInt8.ofNat n.toNat).toArray⟩:=by
 induction ns with
 | nil=>intro r;simp
 | cons n ns ih =>
  intro r
  rw[List.foldl_cons,ih]
  simp[ByteArray.push]
theorem X62{h:Heap}{b:Nat}{x:Blk}(hg:h.get b=some x)(c:Nat):h.get c=(h.set b (some x)).get c:=by
 rw[Heap.get_set _ _ _ _ (Heap.get_lt hg)]
 split
 ·rename_i e;subst e;exact hg
 ·rfl
theorem Zrf(H:HRel G α h w){a:Addr}(ha:dom α a.block){sz:Nat}{c:List Value}(hg:h.get a.block=some (.cells true sz c)) :
  ∃ w',(markStringish (Wa α a)).run P w=.ok () w'/\HRel G α h w'/\Turn α h w α h w':=by
 obtain⟨p,hp⟩:=Option.isSome_iff_exists.1 ha
 have hfit:=H.fits _ p _ hp hg
 obtain⟨f0,f⟩:=hfit
 rcases f with⟨f,_⟩ | ⟨C,e,lo,hi,f1,f2,f3⟩
 ·cases f
 obtain⟨f31,f32,f33⟩:=f3 rfl
 have hlt:=H.blk_lt hp hg rfl
 let fr:Nat × Nat:=if lo == hi then(C.size,C.size+1)else(min lo C.size,max hi (C.size+1))
 have hthaw:Thawed C.size fr.1 fr.2:=by
  simp only[fr]
  split
  ·exact .inr (Nat.le_refl _)
  ·rename_i hne
   rcases f32 with h | h
   ·simp[h]at hne
   ·right;simp only;omega
 have hw:w.freeze {block:=p.blk,off:=C.size} 1=World.turned w p.blk (.cells C e fr):=by
  unfold World.freeze World.turned
  rw[if_neg (by decide)]
  congr 1
  apply Array.ext_getElem?
  intro i
  rw[Array.getElem?_modify,Array.getElem?_setIfInBounds]
  by_cases h:p.blk=i
  ·subst h
   have hx:w.heap[p.blk]=.cells C e (lo,hi):=by
    rw[Array.getElem?_eq_getElem hlt]at f1
    exact Option.some.inj f1
   simp[hlt,fr,hx]
  ·simp[h]
 refine⟨World.turned w p.blk (.cells C e fr),?_,?_⟩
 ·have hsh:w.shape? p.blk=some (e,C.size):=by unfold World.shape?;rw[f1]
  simp only[markStringish,Wa,hp,Sem.run_bind,run_shape,Result.andThen_ok,hsh,run_freeze,hw]
 ·have:=H.upd hp (Qs7 hg) (x:=.cells true sz c) rfl (o:=.cells C e fr) ⟨f0,.inr ⟨C,e,fr.1,fr.2,Qp1 hlt,f2,fun _=>⟨f31,hthaw,f33⟩⟩⟩
  exact⟨this.1.congr H.globs (fun b hb=>Qih H hb) (fun b _=>X62 hg b) H.wf,this.2.heap (fun b _=>X62 hg b) (Nat.le_refl _)⟩
theorem Zju(E:Env P)(H:HRel E.G α h w){src dst:TypeId}{x v:Value}{h':Heap}(hx:okV (dom α) x)(hv:Xb1 E src dst x h=some (v,h')):Gives P E.G α h w (convert src dst (ren α x)) v h':=by
 unfold Xb1 at hv
 split at hv
 ·rename_i s d b hs hd
  split at hv
  ·rename_i e hde
   split at hv
   ·rename_i re hre
    split at hv
    ·rename_i hu8
     cases hv
     have ho:=E.tyok e re hre
     have hdu:=(E.tyok dst d hd).1
     rw[hde]at hdu
     have heu:=ho.1
     rw[hu8]at heu
     have hr:=Go.Lib.run_convert_string_bytes (P:=P) w src dst e b (E.tyok src s hs).1 hdu heu
     have hge:=grownCap_ge w b.size 0 e
     have hheap:(Go.Lib.bytesWorld w e b).heap=w.heap.push (.cells (Go.Lib.bytesCells w e b) e ((Go.Lib.bytesCells w e b).size,(Go.Lib.bytesCells w e b).size+1)):=by
      apply Array.ext
      ·rw[Go.Lib.bytesWorld_size];simp
      ·intro i h1 h2
       have hh:(Go.Lib.bytesWorld w e b).heap[i]? = (w.heap.push (.cells (Go.Lib.bytesCells w e b) e ((Go.Lib.bytesCells w e b).size,(Go.Lib.bytesCells w e b).size+1)))[i]? := by
        rcases Nat.lt_or_ge i w.heap.size with hi | hi
        ·rw[Go.Lib.bytesWorld_at_old w e b i hi,Array.getElem?_push,if_neg (by omega)]
        ·have : i=w.heap.size:=by rw[Go.Lib.bytesWorld_size]at h1;omega
         subst this
         rw[Go.Lib.bytesWorld_at_new];simp
       rw[Array.getElem?_eq_getElem h1,Array.getElem?_eq_getElem h2]at hh
       exact Option.some.inj hh
     have hw':Go.Lib.bytesWorld w e b = {w with drawn:=w.drawn+1,heap:=w.heap.push (.cells (Go.Lib.bytesCells w e b) e ((Go.Lib.bytesCells w e b).size,(Go.Lib.bytesCells w e b).size+1))}:=by
      rw[<- hheap];rfl
     have hcs:(Go.Lib.bytesCells w e b).size=grownCap w b.size 0 e:=by
      have : b.data.size=b.size:=rfl
      simp[Go.Lib.bytesCells];omega
     let p:Place:={blk:=w.heap.size,base:=0,room:=grownCap w b.size 0 e,sz:=1,spot:=none}
     let w1:World:={w with drawn:=w.drawn+1}
     have H1:HRel E.G α h w1:=H.same rfl
     have hp:=H1.push (x:=.cells true 1 (Xla b)) rfl (p:=p) rfl (w':=Go.Lib.bytesWorld w e b) hw' (by
      refine⟨rfl,.inr ⟨Go.Lib.bytesCells w e b,e,(Go.Lib.bytesCells w e b).size,(Go.Lib.bytesCells w e b).size+1,Go.Lib.bytesWorld_at_new w e b,fun i v hv => ?_,fun _=>⟨rfl,.inr (Nat.le_refl _),by rw[hcs];simp[p]⟩⟩⟩
      have hlt:i < (Xla b).length:=by
       rcases Nat.lt_or_ge i (Xla b).length with h | h
       ·exact h
       ·rw[List.getElem?_eq_none h]at hv;cases hv
      have hlt':i < b.data.size:=by simpa[Xla]using hlt
      have hv':v=.int .u8 (b.data[i]).toNat:=by
       have h0:(Xla b)[i]? = some (.int .u8 (b.data[i]).toNat):=by
        rw[List.getElem?_eq_getElem hlt];simp[Xla]
       exact Option.some.inj (hv.symm.trans h0)
      subst hv'
      refine⟨?_,by simp[okV],rfl⟩
      rw[show p.base+i=i from Nat.zero_add i]
      unfold Go.Lib.bytesCells
      rw[Array.getElem?_append_left (by simpa using hlt')]
      simp[ren]
      exact⟨_,Array.getElem?_eq_getElem hlt',rfl⟩)
     refine⟨Ren.add α h.next p,Go.Lib.bytesWorld w e b,?_,?_,Ren.add_ext _ _ _,hp.1,(Turn.drawn α h w _).trans hp.2⟩
     ·rw[ren_string,hr]
      simp[ren,Wa,Ren.add_same,Xdx,p]
     ·simp only[okV];exact⟨by simp[dom,Ren.add_same],trivial⟩
    ·cases hv
   ·cases hv
  ·cases hv
 ·rename_i s d a n c hs hd
  split at hv
  ·rename_i e0 e hse hde
   split at hv
   ·rename_i a re hsd hre
    split at hv
    ·rename_i sz cs hu8 hg
     cases hv
     simp only[okV]at hx
     have heq:src=dst:=by simpa using hsd
     subst heq
     have hdu:=(E.tyok src d hd).1
     rw[hde]at hdu
     have heu:=(E.tyok e re hre).1
     rw[hu8]at heu
     obtain⟨w',r1,r2,r3⟩:=Zrf (P:=P) H hx.1 hg
     refine⟨α,w',?_,by simp only[okV];exact hx,Ext.refl _ _,r2,r3⟩
     simp[convert,ren,run_underlying hdu,run_underlying heu,r1]
    ·cases hv
   ·cases hv
  ·rename_i e hse hde
   split at hv
   ·rename_i re hre
    split at hv
    ·rename_i hu8
     have ho:=E.tyok e re hre
     have hdu:=(E.tyok dst d hd).1
     rw[hde]at hdu
     have hsu:=(E.tyok src s hs).1
     rw[hse]at hsu
     have heu:=ho.1
     rw[hu8]at heu
     have hr:=fun(a:Option Addr) (c:Nat)=>run_convert_bytes_string (P:=P) w src dst e a n c hsu heu hdu
     split at hv
     ·cases hv
      refine Gives.flat H rfl ?_
      simp only[ren,Option.map_none]
      rw[hr]
      simp[Conv.bytesToString]
     ·rename_i a
      split at hv
      ·rename_i l hl
       split at hv
       ·rename_i bs hbs
        cases hv
        refine Gives.flat H rfl ?_
        simp only[okV]at hx
        have hlc:=Qnp (P:=P) H hx.1 hx.2 hl
        rw[X4m hbs,Qy5 α _ (fun v hv=>by obtain⟨i,_,rfl⟩:=List.mem_map.1 hv;rfl)]at hlc
        simp only[ren,Option.map_some]
        rw[hr,run_bytesToString (P:=P) w _ n _ bs hlc,Ypj]
        simp
       ·cases hv
      ·cases hv
    ·cases hv
   ·cases hv
  ·cases hv
 ·cases hv
theorem Zf8{E:Env P}{src dst:TypeId}{x v:Value}{h h':Heap}(hv:Xb1 E src dst x h=some (v,h')):h'=h ∨ ∃ x,h'=h.push x:=by
 unfold Xb1 at hv
 repeat' (first | (cases hv;done) | (cases hv;exact .inl rfl) | (cases hv;exact .inr ⟨_,rfl⟩) | split at hv)
end
def Yth:Value->Option (List Value)
 | .agg xs=>some xs.toList
 | _=>none
def Xkz(ls:List Nat)(k:List Value):List MapEntry->Nat->Option (Option (Nat × Value))
 | [],_=>some none
 | e::es,i=>match Yth e.key with
  | some c=>match Qaf ls k c with
   | some true=>some (some (i,e.val))
   | some false=>Xkz ls k es (i+1)
   | none=>none
  | none=>none
def X17(r:TyRec)(k:Value)(es:List MapEntry):Option (Option (Nat × Value)) :=
 match r.desc with
 | .int q=>match k with
  | .int _ _=>Instr.findNow (.int q) k es 0
  | _=>none
 | .string=>match k with
  | .string _=>Instr.findNow .string k es 0
  | _=>none
 | .struct _=>match k with
  | .agg xs=>match r.leaf with
   | []=>none
   | l::ls=>match Nat.beq xs.toList.length (l::ls).length with
    | true=>Xkz (l::ls) xs.toList es 0
    | false=>none
  | _=>none
 | .array _ _=>match k with
  | .agg xs=>match r.leaf with
   | []=>none
   | l::ls=>match Nat.beq xs.toList.length (l::ls).length with
    | true=>Xkz (l::ls) xs.toList es 0
    | false=>none
  | _=>none
 | _=>none
section
variable{P:Program}{G:Bs}{α:Ren}{h:Heap}{w:World}
def Ynq(α:Ren):Option (Nat × Value)->Option (Nat × Value)
 | some (i,v)=>some (i,ren α v)
 | none=>none
theorem Xxf(d:TypeDesc)(k:Value):∀ (es:List MapEntry) (i:Nat) (r:Option (Nat × Value)),(∀ e ∈ es,flat e.key=true)->Instr.findNow d k es i=some r->Instr.findNow d k (es.map (Qn3 α)) i=some (Ynq α r)
 | [],i,r,_,h=>by simp only[Instr.findNow,Option.some.injEq]at h;subst h;rfl
 | e::es,i,r,hf,h=>by
  have hk:(Qn3 α e).key=e.key:=Qhp α (hf e (by simp))
  simp only[List.map_cons,Instr.findNow,hk]at h ⊢
  split at h
  ·cases h;rfl
  ·exact Xxf d k es (i+1) r (fun x hx=>hf x (by simp[hx])) h
  ·cases h
theorem Zce{kt:TypeId}{ls:List Nat}(hq:Zyj P kt ls)(hne:ls ≠ [])(k:List Value)(w:World):∀ (es:List MapEntry) (i:Nat) (r:Option (Nat × Value)),(∀ e ∈ es,flat e.key=true)->Xkz ls k es i=some r ->
  (Instr.findAsking kt (.agg (k.map (ren α)).toArray) (es.map (Qn3 α)) i).run P w=.ok (Ynq α r) w
 | [],i,r,_,h=>by simp only[Xkz,Option.some.injEq]at h;subst h;simp[Instr.findAsking,Ynq]
 | e::es,i,r,hf,h=>by
  have hk:(Qn3 α e).key=e.key:=Qhp α (hf e (by simp))
  simp only[Xkz]at h
  split at h
  ·rename_i c hc
   have hek:e.key=.agg c.toArray:=by
    unfold Yth at hc
    split at hc
    ·rename_i xs hx;cases hc;simp[hx]
    ·cases hc
   have key:∀ b,Qaf ls k c=some b->(Op.equal kt (.agg (k.map (ren α)).toArray) (Qn3 α e).key).run P w=.ok b w:=by
    intro b hb
    rw[hk,hek,(Xwx α _ _ _ _ hb).1]
    exact(hq hne).2.1 k c b w hb
   split at h
   ·rename_i hb
    cases h
    simp[Instr.findAsking,key true hb,Ynq]
    rfl
   ·rename_i hb
    simp only[List.map_cons,Instr.findAsking,Sem.run_bind,key false hb,Result.andThen_ok,Bool.false_eq_true,if_false]
    exact Zce hq hne k w es (i+1) r (fun x hx=>hf x (by simp[hx])) h
   ·cases h
  ·cases h
theorem Yaj{kt:TypeId}{r:TyRec}(hr:Zee P kt r){k:Value}{es:List MapEntry}{x:Option (Nat × Value)}(hf:∀ e ∈ es,flat e.key=true)(hx:X17 r k es=some x)(w:World)(em:Bool) :
  (Instr.checkKey em 10000 kt (ren α k)).run P w=.ok () w/\(Instr.findKey kt (ren α k) (es.map (Qn3 α))).run P w=.ok (Ynq α x) w:=by
 obtain⟨hu,i,_,_,_,_,_,_,_,hq⟩:=hr
 unfold X17 at hx
 have agg:∀ (xs:Array Value) (l:Nat) (ls:List Nat),r.leaf=l::ls->(match P.underlying kt with | some (.array _ _) | some (.struct _)=>true | _=>false)=true->Nat.beq xs.toList.length (l::ls).length=true->Xkz (l::ls) xs.toList es 0=some x ->
   (Instr.checkKey em 10000 kt (ren α (.agg xs))).run P w=.ok () w/\(Instr.findKey kt (ren α (.agg xs)) (es.map (Qn3 α))).run P w=.ok (Ynq α x) w:=by
  intro xs l ls hl hw hlen hfd
  rw[hl]at hq
  have hne:l::ls ≠ []:=by simp
  have hlen':=Nat.eq_of_beq_eq_true hlen
  have hren:ren α (.agg xs)=.agg (xs.toList.map (ren α)).toArray:=by
   rw[ren_agg];congr 1;apply Array.ext';simp
  rw[hren]
  refine⟨(hq hne).2.2 em _ w (by rw[List.length_map];exact hlen'),?_⟩
  rw[run_findKey_eq w hw]
  exact Zce hq hne xs.toList w es 0 x hf hfd
 split at hx
 ·rename_i q hd
  rw[hd]at hu
  split at hx
  ·rename_i k n
   refine⟨?_,?_⟩
   ·rw[show(10000:Nat)=9999+1 from rfl,Instr.checkKey]
    simp only[Sem.run_bind,run_underlying hu,Result.andThen_ok,Sem.run_pure]
   ·have:=Xxf (α:=α) _ _ es 0 x hf hx
    simp only[ren_int]
    exact MapKept.run_findKey (P:=P) (w:=w) hu this
  ·cases hx
 ·rename_i hd
  rw[hd]at hu
  split at hx
  ·refine⟨?_,?_⟩
   ·rw[show(10000:Nat)=9999+1 from rfl,Instr.checkKey]
    simp only[Sem.run_bind,run_underlying hu,Result.andThen_ok,Sem.run_pure]
   ·have:=Xxf (α:=α) _ _ es 0 x hf hx
    simp only[ren_string]
    exact MapKept.run_findKey (P:=P) (w:=w) hu this
  ·cases hx
 ·rename_i hd
  rw[hd]at hu
  split at hx
  ·split at hx
   ·cases hx
   ·rename_i l ls hl
    split at hx
    ·rename_i hlen
     exact agg _ l ls hl (by rw[hu]) hlen hx
    ·cases hx
  ·cases hx
 ·rename_i hd
  rw[hd]at hu
  split at hx
  ·split at hx
   ·cases hx
   ·rename_i l ls hl
    split at hx
    ·rename_i hlen
     exact agg _ l ls hl (by rw[hu]) hlen hx
    ·cases hx
  ·cases hx
 ·cases hx
end
def Qy1{P:Program}(E:Env P)(t:TypeId)(hint:Option Value)(h:Heap):Option (Value × Heap) :=
 match E.ty.get t with
 | some r=>match r.desc,hint with
  | .map _ _,none=>some (.map (some h.next),h.push (.map #[] 0))
  | .map _ _,some (.int _ _)=>some (.map (some h.next),h.push (.map #[] 0))
  | _,_=>none
 | none=>none
def Qwl(x:Value)(h:Heap):Option (Array MapEntry) :=
 match x with
 | .map none=>some #[]
 | .map (some b)=>match h.get b with
  | some (.map es _)=>some es
  | _=>none
 | _=>none
def Qkv{P:Program}(E:Env P)(t:TypeId)(x k:Value)(ok:Bool)(h:Heap):Option Value :=
 match E.ty.get t with
 | some r=>match r.desc with
  | .map kt et=>match E.ty.get kt,E.ty.get et,Qwl x h with
   | some kr,some er,some es=>match X17 kr k es.toList,ok with
    | some (some (_,v)),true=>some (.tuple #[v,.bool true])
    | some (some (_,v)),false=>some v
    | some none,true=>some (.tuple #[er.zero,.bool false])
    | some none,false=>some er.zero
    | none,_=>none
   | _,_,_=>none
  | _=>none
 | none=>none
section
variable{P:Program}{G:Bs}{α:Ren}{h:Heap}{w:World}
theorem Y7x(E:Env P)(H:HRel E.G α h w){t:TypeId}{hint:Option Value}{v:Value}{h':Heap}(hv:Qy1 E t hint h=some (v,h')):Gives P E.G α h w (Instr.makeMap t (hint.map (ren α))) v h':=by
 have base:Gives P E.G α h w (do pure (.map (some (<- newObj (.map #[] 0))))) (.map (some h.next)) (h.push (.map #[] 0)):=by
  let p:Place:=⟨w.heap.size,0,0,0,none⟩
  have hp:=H.push (x:=.map #[] 0) rfl (p:=p) rfl (o:=.map #[] 0) (w':={w with heap:=w.heap.push (.map #[] 0)}) rfl ⟨rfl,by simp[p],by simp⟩
  refine⟨Ren.add α h.next p,_,?_,?_,Ren.add_ext _ _ _,hp.1,hp.2⟩
  ·have hn:(newObj (.map #[] 0)).run P w=.ok w.heap.size {w with heap:=w.heap.push (.map #[] 0)}:=rfl
   simp only[Sem.run_bind,hn,Result.andThen_ok,Sem.run_pure,ren,Option.map_some,Uu,Ren.add_same,p]
  ·simp only[okV];simp[dom,Ren.add_same]
 unfold Qy1 at hv
 split at hv
 ·rename_i r hr
  split at hv
  ·cases hv;simpa[Instr.makeMap]using base
  ·rename_i a b c d hd
   cases hv
   have hu:=(E.tyok t r hr).1
   rw[hd]at hu
   obtain⟨α',w',r1,r2⟩:=base
   refine⟨α',w',?_,r2⟩
   rw[<- r1]
   simp[Instr.makeMap,run_underlying hu,ren_int,asInt,asIntOf]
  ·cases hv
 ·cases hv
theorem Ziw{G:Bs}(H:HRel G α h w){x:Value}(hx:okV (dom α) x){es:Array MapEntry}(he:Qwl x h=some es) :
  (∀ e ∈ es,flat e.key=true/\okV (dom α) e.val)/\((match ren α x with
   | .map none=>pure #[]
   | .map (some r)=>do
    let .map es _ <- getObj r | stuck "Lookup: map expected"
    pure es
   | _=>stuck "Lookup: map expected" : Sem (Array MapEntry))).run P w=.ok (es.map (Qn3 α)) w:=by
 unfold Qwl at he
 split at he
 ·cases he;exact⟨by simp,by simp[ren]⟩
 ·rename_i b
  split at he
  ·rename_i es' clk hg
   cases he
   simp only[okV]at hx
   obtain⟨p,hp⟩:=Option.isSome_iff_exists.1 hx
   obtain⟨f0,f1,f2⟩:=H.fits b p _ hp hg
   refine⟨f2,?_⟩
   simp[ren,Qkz G H hx hg]
  ·cases he
 ·cases he
theorem Ybr{r:TyRec}{k:Value}:∀ {es:List MapEntry} {i:Nat} {v:Value},X17 r k es=some (some (i,v))->∃ e ∈ es,e.val=v/\es[i]? = some e:=by
 have h1:∀ (d:TypeDesc) (k:Value) (es:List MapEntry) (i j:Nat) (v:Value),Instr.findNow d k es j=some (some (i,v))->∃ n,i=j+n/\∃ e ∈ es,e.val=v/\es[n]? = some e:=by
  intro d k es
  induction es with
  | nil=>intro i j v h;simp[Instr.findNow]at h
  | cons e es ih =>
   intro i j v h
   simp only[Instr.findNow]at h
   split at h
   ·cases h;exact⟨0,by simp,e,by simp,rfl,by simp⟩
   ·obtain⟨n,hn,e',he,hv,hg⟩:=ih _ _ _ h
    exact⟨n+1,by omega,e',by simp[he],hv,by simpa using hg⟩
   ·cases h
 have h2:∀ (ls:List Nat) (k:List Value) (es:List MapEntry) (i j:Nat) (v:Value),Xkz ls k es j=some (some (i,v))->∃ n,i=j+n/\∃ e ∈ es,e.val=v/\es[n]? = some e:=by
  intro ls k es
  induction es with
  | nil=>intro i j v h;simp[Xkz]at h
  | cons e es ih =>
   intro i j v h
   simp only[Xkz]at h
   split at h
   ·split at h
    ·cases h;exact⟨0,by simp,e,by simp,rfl,by simp⟩
    ·obtain⟨n,hn,e',he,hv,hg⟩:=ih _ _ _ h
     exact⟨n+1,by omega,e',by simp[he],hv,by simpa using hg⟩
    ·cases h
   ·cases h
 intro es i v h
 have fin:(∃ n,i=0+n/\∃ e ∈ es,e.val=v/\es[n]? = some e)->∃ e ∈ es,e.val=v/\es[i]? = some e:=by
  rintro⟨n,hn,e,he⟩
  have : i=n:=by omega
  subst this;exact⟨e,he⟩
 unfold X17 at h
 repeat' (first | (cases h;done) | exact fin (h1 _ _ _ _ _ _ h) | exact fin (h2 _ _ _ _ _ _ h) | split at h)
theorem Zfn(E:Env P)(H:HRel E.G α h w){t:TypeId}{x k:Value}{ok:Bool}{v:Value}(hx:okV (dom α) x)(hv:Qkv E t x k ok h=some v):Gives P E.G α h w (Instr.lookup t (ren α x) (ren α k) ok) v h:=by
 unfold Qkv at hv
 split at hv
 ·rename_i r hr
  split at hv
  ·rename_i kt et hd
   have hu:=(E.tyok t r hr).1
   rw[hd]at hu
   split at hv
   ·rename_i kr er es hkr her hes
    obtain⟨e1,e2⟩:=Ziw (P:=P) H hx hes
    have ho:=E.tyok et er her
    obtain⟨_,i,_,_,_,_,hfz,hnz,_⟩:=E.tyok et er her
    have main:∀ y,X17 kr k es.toList=some y->∀ u b,(match Ynq α y with | some (_,v)=>(v,true) | none=>(er.zero,false))=(u,b) ->
      (Instr.lookup t (ren α x) (ren α k) ok).run P w=.ok (if ok then .tuple #[u,.bool b]else u) w:=by
     intro y hy u b hub
     obtain⟨c1,c2⟩:=Yaj (α:=α) (E.tyok kt kr hkr) (fun e he=>(e1 e (by simpa using he)).1) hy w (es.map (Qn3 α)).isEmpty
     have c2':(Instr.findKey kt (ren α k) (es.map (Qn3 α)).toList).run P w=.ok (Ynq α y) w:=by rw[Array.toList_map];exact c2
     have hz:=Qg2 (P:=P) (E.tyok et er her) w
     unfold Qwl at hes
     split at hes
     ·cases hes
      have e0:(#[]:Array MapEntry).map (Qn3 α) = #[]:=by simp
      rw[e0]at c1 c2'
      cases y with
      | none =>
       simp only[Ynq]at hub c2'
       cases hub
       simp only[Instr.lookup,ren,Option.map_none,Sem.run_bind,run_underlying hu,Result.andThen_ok,Sem.run_pure,c1,c2',hz]
      | some q =>
       obtain⟨j,v⟩:=q
       simp only[Ynq]at hub c2'
       cases hub
       simp only[Instr.lookup,ren,Option.map_none,Sem.run_bind,run_underlying hu,Result.andThen_ok,Sem.run_pure,c1,c2',hz]
     ·rename_i m
      split at hes
      ·rename_i es' clk hg
       cases hes
       simp only[okV]at hx
       have hgm:=Qkz (P:=P) E.G H hx hg
       cases y with
       | none =>
        simp only[Ynq]at hub c2'
        cases hub
        simp only[Instr.lookup,ren,Option.map_some,Sem.run_bind,run_underlying hu,Result.andThen_ok,Sem.run_pure,hgm,c1,c2',hz]
       | some q =>
        obtain⟨j,v⟩:=q
        simp only[Ynq]at hub c2'
        cases hub
        simp only[Instr.lookup,ren,Option.map_some,Sem.run_bind,run_underlying hu,Result.andThen_ok,Sem.run_pure,hgm,c1,c2',hz]
      ·cases hes
     ·cases hes
    have hzf:okV (dom α) er.zero:=flat_ok _ _ hfz
    have hzr:ren α er.zero=er.zero:=Qhp α hfz
    split at hv
    ·rename_i i v0 hfd
     cases hv
     obtain⟨e,he,hev,_⟩:=Ybr hfd
     have hvo:=(e1 e (by simpa using he)).2
     rw[hev]at hvo
     refine Gives.plain H (by simp only[okV,Q00];intro z hz;simp at hz;rcases hz with rfl | rfl;exact hvo;simp[okV]) ?_
     rw[main _ hfd _ _ rfl]
     simp[ren,Qnf]
    ·rename_i i v0 hfd
     cases hv
     obtain⟨e,he,hev,_⟩:=Ybr hfd
     have hvo:=(e1 e (by simpa using he)).2
     rw[hev]at hvo
     refine Gives.plain H hvo ?_
     rw[main _ hfd _ _ rfl]
     simp
    ·rename_i hfd
     cases hv
     refine Gives.plain H (by simp only[okV,Q00];intro z hz;simp at hz;rcases hz with rfl | rfl;exact hzf;simp[okV]) ?_
     rw[main _ hfd _ _ rfl]
     simp[ren,Qnf,hzr]
    ·rename_i hfd
     cases hv
     refine Gives.plain H hzf ?_
     rw[main _ hfd _ _ rfl,hzr]
     simp
    ·cases hv
   ·cases hv
  ·cases hv
 ·cases hv
end
def Qf9{P:Program}(E:Env P)(t:TypeId)(m k x:Value)(h:Heap):Option Heap :=
 match E.ty.get t,m with
 | some r,.map (some b)=>match r.desc,h.get b with
  | .map kt _,some (.map es clk)=>match E.ty.get kt,flat k with
   | some kr,true=>match X17 kr k es.toList with
    | some none=>some (h.set b (some (.map (es.push {key:=k,val:=x,born:=clk}) (clk+1))))
    | some (some (i,_))=>match Instr.sameBits 10000 (((es[i]?).map (·.key)).getD k) k with
     | true=>some (h.set b (some (.map (es.modify i fun e=>{e with key:=k,val:=x}) clk)))
     | false=>none
    | none=>none
   | _,_=>none
  | _,_=>none
 | _,_=>none
def Xk9{P:Program}(E:Env P)(t:TypeId)(m k:Value)(h:Heap):Option (Value × Heap) :=
 match E.ty.get t,m with
 | some r,.map (some b)=>match r.desc,h.get b with
  | .map kt _,some (.map es clk)=>match E.ty.get kt with
   | some kr=>match X17 kr k es.toList with
    | some none=>some (.tuple #[],h.set b (some (.map es clk)))
    | some (some (i,_))=>some (.tuple #[],h.set b (some (.map (es.eraseIdxIfInBounds i) clk)))
    | none=>none
   | _=>none
  | _,_=>none
 | _,_=>none
section
variable{P:Program}{G:Bs}{α:Ren}{h:Heap}{w:World}
theorem Qy8(H:HRel G α h w){b:Nat}(hb:dom α b){es es':Array MapEntry}{clk clk':Nat}(hg:h.get b=some (.map es clk))(he:∀ e ∈ es',flat e.key=true/\okV (dom α) e.val) :
  ∃ w',(setObj (Uu α b) (.map (es'.map (Qn3 α)) clk')).run P w=.ok () w'/\HRel G α (h.set b (some (.map es' clk'))) w'/\Turn α h w α (h.set b (some (.map es' clk'))) w':=by
 obtain⟨p,hp⟩:=Option.isSome_iff_exists.1 hb
 obtain⟨f0,f1,f2⟩:=H.fits b p _ hp hg
 have hlt:=H.blk_lt hp hg rfl
 have:=H.upd hp (Qs7 hg) (x:=.map es' clk') rfl (o:=.map (es'.map (Qn3 α)) clk') ⟨f0,Qp1 hlt,he⟩
 refine⟨_,?_,this.1,this.2⟩
 have hr:Uu α b=p.blk:=by simp[Uu,hp]
 rw[hr]
 exact MapKept.run_setObj_map _ f1
theorem X2v(E:Env P)(H:HRel E.G α h w){t:TypeId}{m k x:Value}{h':Heap}(hm:okV (dom α) m)(hx:okV (dom α) x)(hh:Qf9 E t m k x h=some h') :
  ∃ w',(Instr.mapUpdate t (ren α m) (ren α k) (ren α x)).run P w=.ok () w'/\HRel E.G α h' w'/\Turn α h w α h' w':=by
 unfold Qf9 at hh
 split at hh
 ·rename_i r b hr
  split at hh
  ·rename_i kt et es clk hd hg
   have hu:=(E.tyok t r hr).1
   rw[hd]at hu
   split at hh
   ·rename_i kr hkr hkf
    simp only[okV]at hm
    have hgm:=Qkz (P:=P) E.G H hm hg
    obtain⟨p,hp⟩:=Option.isSome_iff_exists.1 hm
    obtain⟨f0,f1,f2⟩:=H.fits b p _ hp hg
    have hk:ren α k=k:=Qhp α hkf
    have find:∀ y,X17 kr k es.toList=some y->(Instr.checkKey false 10000 kt k).run P w=.ok () w/\(Instr.findKey kt k (es.map (Qn3 α)).toList).run P w=.ok (Ynq α y) w:=by
     intro y hy
     have:=Yaj (α:=α) (E.tyok kt kr hkr) (fun e he=>(f2 e (by simpa using he)).1) hy w false
     rw[hk]at this
     rw[Array.toList_map];exact this
    split at hh
    ·rename_i hf
     cases hh
     obtain⟨c1,c2⟩:=find _ hf
     obtain⟨w',q1,q2,q3⟩:=Qy8 (P:=P) H hm hg (es':=es.push {key:=k,val:=x,born:=clk}) (clk':=clk+1) (by
      intro e he
      rcases Array.mem_push.1 he with he | rfl
      ·exact f2 e he
      ·exact⟨hkf,hx⟩)
     refine⟨w',?_,q2,q3⟩
     rw[<- q1]
     have hpush:(es.push {key:=k,val:=x,born:=clk}).map (Qn3 α)=(es.map (Qn3 α)).push {key:=k,val:=ren α x,born:=clk}:=by simp[Qn3,hk]
     rw[hpush,hk]
     simp only[Instr.mapUpdate,ren,Option.map_some,Sem.run_bind,run_underlying hu,Result.andThen_ok,hgm,c1,c2,Ynq]
    ·rename_i i v0 hf
     split at hh
     ·rename_i hs
      cases hh
      obtain⟨c1,c2⟩:=find _ hf
      obtain⟨w',q1,q2,q3⟩:=Qy8 (P:=P) H hm hg (es':=es.modify i fun e=>{e with key:=k,val:=x}) (clk':=clk) (by
       intro e he
       obtain⟨j,hj⟩:=Array.mem_iff_getElem?.1 he
       rw[Array.getElem?_modify]at hj
       split at hj
       ·cases hq:es[j]? with
        | none=>rw[hq]at hj;cases hj
        | some e0=>rw[hq]at hj;cases hj;exact⟨hkf,hx⟩
       ·exact f2 e (Array.mem_of_getElem? hj))
      refine⟨w',?_,q2,q3⟩
      rw[<- q1]
      have hmod:(es.modify i fun e=>{e with key:=k,val:=x}).map (Qn3 α)=(es.map (Qn3 α)).modify i fun e=>{e with key:=k,val:=ren α x}:=by
       apply Array.ext_getElem?
       intro j
       rw[Array.getElem?_map,Array.getElem?_modify,Array.getElem?_modify,Array.getElem?_map]
       split
       ·cases es[j]? <;> simp[Qn3,hk]
       ·rfl
      have hold:(((es.map (Qn3 α))[i]?).map (·.key)).getD k=((es[i]?).map (·.key)).getD k:=by
       rw[Array.getElem?_map]
       cases hq:es[i]? with
       | none=>rfl
       | some e0=>simp[Qn3,Qhp α (f2 e0 (Array.mem_of_getElem? hq)).1]
      rw[hmod,hk]
      simp only[Instr.mapUpdate,ren,Option.map_some,Sem.run_bind,run_underlying hu,Result.andThen_ok,hgm,c1,c2,Ynq,hold,Instr.keyThatStays,hs,if_true,Sem.run_pure]
     ·cases hh
    ·cases hh
   ·cases hh
  ·cases hh
 ·cases hh
theorem Y0n{A B:Type}(f:A->B):∀ (l:List A) (i:Nat),(l.eraseIdx i).map f=(l.map f).eraseIdx i
 | [],_=>by simp
 | a::l,0=>by simp
 | a::l,i+1=>by simp[Y0n f l i]
theorem Zg3(E:Env P)(H:HRel E.G α h w){t ty:TypeId}{tl:List TypeId}{m k v:Value}{h':Heap}(hm:okV (dom α) m)(hh:Xk9 E t m k h=some (v,h')) :
  Gives P E.G α h w (Builtin.delete_ (t::tl).toArray ty #[ren α m,ren α k]) v h':=by
 unfold Xk9 at hh
 split at hh
 ·rename_i r b hr
  split at hh
  ·rename_i kt et es clk hd hg
   have hu:=(E.tyok t r hr).1
   rw[hd]at hu
   split at hh
   ·rename_i kr hkr
    simp only[okV]at hm
    have hgm:=Qkz (P:=P) E.G H hm hg
    obtain⟨p,hp⟩:=Option.isSome_iff_exists.1 hm
    obtain⟨f0,f1,f2⟩:=H.fits b p _ hp hg
    have find:∀ y,X17 kr k es.toList=some y->(Instr.checkKey (es.map (Qn3 α)).isEmpty 10000 kt (ren α k)).run P w=.ok () w/\(Instr.findKey kt (ren α k) (es.toList.map (Qn3 α))).run P w=.ok (Ynq α y) w:=by
     intro y hy
     exact Yaj (α:=α) (E.tyok kt kr hkr) (fun e he=>(f2 e (by simpa using he)).1) hy w (es.map (Qn3 α)).isEmpty
    have okt:okV (dom α) (.tuple #[]):=by simp[okV,okA,okL]
    have ret:ren α (.tuple #[])=.tuple #[]:=by simp[ren,renA,renL]
    split at hh
    ·rename_i hf
     cases hh
     obtain⟨c1,c2⟩:=find _ hf
     obtain⟨w',q1,q2,q3⟩:=Qy8 (P:=P) H hm hg (es':=es) (clk':=clk) (fun e he=>f2 e he)
     refine⟨α,w',?_,okt,Ext.refl _ _,q2,q3⟩
     simp only[Ynq]at c2
     simp[Builtin.delete_,ren,run_underlying hu,hgm,c1,c2,q1,renA,renL]
    ·rename_i i v0 hf
     cases hh
     obtain⟨c1,c2⟩:=find _ hf
     obtain⟨w',q1,q2,q3⟩:=Qy8 (P:=P) H hm hg (es':=es.eraseIdxIfInBounds i) (clk':=clk) (fun e he=>f2 e (by
      unfold Array.eraseIdxIfInBounds at he
      split at he
      ·exact Array.mem_of_mem_eraseIdx he
      ·exact he))
     refine⟨α,w',?_,okt,Ext.refl _ _,q2,q3⟩
     have her:(es.eraseIdxIfInBounds i).map (Qn3 α)=(es.map (Qn3 α)).eraseIdxIfInBounds i:=by
      unfold Array.eraseIdxIfInBounds
      simp only[Array.size_map]
      split
      ·apply Array.ext';simp[Y0n]
      ·rfl
     simp only[Ynq]at c2
     rw[her]at q1
     simp[Builtin.delete_,ren,run_underlying hu,hgm,c1,c2,q1,renA,renL]
    ·cases hh
   ·cases hh
  ·cases hh
 ·cases hh
end
def Zng:List Nat->Nat->Bool
 | [],_=>false
 | a::l,b=>match Nat.beq a b with
  | true=>true
  | false=>Zng l b
def X2q(seen:List Nat):List MapEntry->List MapEntry
 | []=>[]
 | e::l=>match Zng seen e.born with
  | true=>X2q seen l
  | false=>e::X2q seen l
def Zm8(since:Nat):List MapEntry->List MapEntry
 | []=>[]
 | e::l=>match Nat.blt e.born since with
  | true=>e::Zm8 since l
  | false=>Zm8 since l
def Znq(since:Nat):List MapEntry->List MapEntry
 | []=>[]
 | e::l=>match Nat.blt e.born since with
  | true=>Znq since l
  | false=>e::Znq since l
def Zo1(since:Nat)(left:List MapEntry):List (Option MapEntry):=match Zm8 since left with
 | []=>none::(Znq since left).map some
 | e::l=>(e::(l++Znq since left)).map some
def X71(es:List MapEntry)(since:Nat)(seen:List Nat):List (Option MapEntry):=Zo1 since (X2q seen es)
def Zg0(last:Nat):List MapEntry->Bool
 | []=>true
 | e::l=>match Nat.ble last e.born with
  | true=>Zg0 last l
  | false=>false
def Zd5(es:List MapEntry)(seen:List Nat)(last:Nat):Bool:=match seen,es with
 | [],_=>false
 | _,[]=>false
 | _,es=>Zg0 last es
def Y9z(r m since:Nat)(seen:Array Nat)(clk:Nat)(h:Heap):Option MapEntry->Value × Heap
 | none=>(.tuple #[.bool false],h)
 | some e=>(.tuple #[.bool true,e.key,e.val],h.set r (some (.obj (.mapIter (some m) since (seen.push e.born) clk))))
def Q5t(it:Value)(isS:Bool)(h:Heap):List (Value × Heap):=match it with
 | .pointer (some ⟨r,0,none⟩)=>match h.get r with
  | some (.obj (.strIter s pos))=>match isS with
   | true=>match Nat.blt pos s.size with
    | true=>[(.tuple #[.bool true,.int .i64 (.ofNat pos),.int .i32 (.ofNat (Utf8.decode s pos).1)],h.set r (some (.obj (.strIter s (pos+(Utf8.decode s pos).2)))))]
    | false=>[(.tuple #[.bool false],h)]
   | false=>[]
  | some (.obj (.mapIter none _ _ _))=>match isS with
   | true=>[]
   | false=>[(.tuple #[.bool false],h)]
  | some (.obj (.mapIter (some m) since seen last))=>match isS,h.get m with
   | false,some (.map es clk)=>match Zd5 es.toList seen.toList last with
    | true=>[]
    | false=>(X71 es.toList since seen.toList).map (Y9z r m since seen clk h)
   | _,_=>[]
  | _=>[]
 | _=>[]
def Zeg(it:Value)(isS:Bool)(h:Heap):Option (Value × Heap):=match Q5t it isS h with
 | [x]=>some x
 | _=>none
def Yoq{P:Program}(E:Env P)(t:TypeId)(x:Value)(h:Heap):Option (Value × Heap):=match E.ty.get t with
 | some r=>match r.desc,x with
  | .string,.string s=>some (.pointer (some ⟨h.next,0,none⟩),h.push (.obj (.strIter s 0)))
  | .map _ _,.map none=>some (.pointer (some ⟨h.next,0,none⟩),h.push (.obj (.mapIter none 0 #[] 0)))
  | .map _ _,.map (some m)=>match h.get m with
   | some (.map _ clk)=>some (.pointer (some ⟨h.next,0,none⟩),h.push (.obj (.mapIter (some m) clk #[] clk)))
   | _=>none
  | _,_=>none
 | none=>none
def Yar(b:Nat):List MapEntry->Option MapEntry
 | []=>none
 | e::l=>match Nat.beq e.born b with
  | true=>some e
  | false=>Yar b l
def Zmf:List Nat->Option Nat
 | []=>none
 | [a]=>some a
 | _::l=>Zmf l
def Zcn(it:Value)(h:Heap):Option Value:=match it with
 | .pointer (some ⟨r,0,none⟩)=>match h.get r with
  | some (.obj (.mapIter (some m) _ seen stepped))=>match Zmf seen.toList,h.get m with
   | some b,some (.map es clk)=>match Nat.beq clk stepped with
    | true=>match Yar b es.toList with
     | some e=>some (.tuple #[e.key,e.val])
     | none=>none
    | false=>none
   | _,_=>none
  | _=>none
 | _=>none
theorem Zn0(l:List Nat)(b:Nat):Zng l b=l.contains b:=by
 induction l with
 | nil=>rfl
 | cons a l ih =>
  simp only[Zng,List.contains_cons]
  cases hb:Nat.beq a b with
  | true=>have:=Nat.eq_of_beq_eq_true hb;subst this;simp
  | false =>
   have : (b == a)=false:=by
    rw[beq_eq_false_iff_ne];intro e;subst e;simp at hb
   simp[ih,this]
theorem Zdx(seen:List Nat)(l:List MapEntry):X2q seen l=l.filter fun e => !seen.contains e.born:=by
 induction l with
 | nil=>rfl
 | cons e l ih=>simp only[X2q,Zn0,List.filter_cons];cases seen.contains e.born <;> simp[ih]
theorem Zl2(since:Nat)(l:List MapEntry):Zm8 since l=l.filter fun(e:MapEntry)=>decide (e.born < since):=by
 induction l with
 | nil=>rfl
 | cons e l ih =>
  simp only[Zm8,List.filter_cons]
  by_cases hb:e.born < since
  ·rw[show Nat.blt e.born since=true from by simpa using hb];simp[ih,hb]
  ·rw[Bool.eq_false_iff.2 (fun k:Nat.blt e.born since=true=>hb (by simpa using k))];simp[ih,hb]
theorem Zj9(since:Nat)(l:List MapEntry):Znq since l=l.filter fun(e:MapEntry)=>decide (e.born ≥ since):=by
 induction l with
 | nil=>rfl
 | cons e l ih =>
  simp only[Znq,List.filter_cons]
  by_cases hb:e.born < since
  ·rw[show Nat.blt e.born since=true from by simpa using hb]
   have : ¬ e.born ≥ since:=by omega
   simp[ih,this]
  ·rw[Bool.eq_false_iff.2 (fun k:Nat.blt e.born since=true=>hb (by simpa using k))]
   have : e.born ≥ since:=by omega
   simp[ih,this]
theorem Zoq(last:Nat)(l:List MapEntry):Zg0 last l=l.all fun e=>decide (e.born ≥ last):=by
 induction l with
 | nil=>rfl
 | cons e l ih =>
  simp only[Zg0,List.all_cons]
  by_cases hb:last<=e.born
  ·rw[show Nat.ble last e.born=true from by simpa using hb];simp[ih,hb]
  ·rw[Bool.eq_false_iff.2 (fun k:Nat.ble last e.born=true=>hb (by simpa using k))];simp[hb]
theorem Zbq(b:Nat)(l:List MapEntry):Yar b l=l.find? fun e=>e.born == b:=by
 induction l with
 | nil=>rfl
 | cons e l ih =>
  simp only[Yar,List.find?_cons]
  cases hb:Nat.beq e.born b with
  | true=>have:=Nat.eq_of_beq_eq_true hb;simp[this]
  | false =>
   have : (e.born == b)=false:=by rw[beq_eq_false_iff_ne];intro e';rw[e']at hb;simp at hb
   simp[ih,this]
theorem Zcw:∀ l:List Nat,Zmf l=l.getLast?
 | []=>rfl
 | [a]=>rfl
 | a::b::l=>by rw[Zmf,Zcw (b::l)];simp[List.getLast?_cons_cons];intro h;cases h
section
variable{P:Program}{G:Bs}{α:Ren}{h:Heap}{w:World}
theorem HRel.drew(H:HRel G α h w){w1:World}(hw:w1=w∨w1=w.drew):HRel G α h w1/\Turn α h w α h w1:=by
 rcases hw with rfl | rfl
 ·exact⟨H,Turn.refl _ _ _⟩
 ·exact⟨⟨H.dom,fun b p x hp hx=>by
   have:=H.fits b p x hp hx
   exact this.keep (fun _ _=>rfl) rfl,H.apart,H.glob,H.globs,H.wf,H.base,H.bsz⟩,⟨Nat.le_refl _,fun _ _ _=>rfl,fun b p hb ho => .inr ⟨b,p,hb,ho,rfl⟩,rfl,rfl,rfl,Nat.le_refl _⟩⟩
theorem Xxw(a b:Value):ren α (.tuple #[a,b])=.tuple #[ren α a,ren α b]:=by simp[ren,Qnf]
theorem Y87(a b c:Value):ren α (.tuple #[a,b,c])=.tuple #[ren α a,ren α b,ren α c]:=by simp[ren,Qnf]
theorem Zhc(H:HRel G α h w){r:Nat}(hb:okV (dom α) (.pointer (some ⟨r,0,none⟩))){a:AObj}(hg:h.get r=some (.obj a)) :
  ∃ p o,α r=some p/\ren α (.pointer (some ⟨r,0,none⟩))=.pointer (some ⟨p.blk,0,none⟩)/\w.heap[p.blk]? = some o/\FitObj α o a:=by
 simp only[okV]at hb
 obtain⟨p,hp⟩:=Option.isSome_iff_exists.1 hb.1
 obtain⟨f0,o,f1,f2⟩:=H.fits r p _ hp hg
 exact⟨p,o,hp,by simp[ren,Wa,hp,f0,H.spot hp hg rfl],f1,f2⟩
theorem Zc7(H:HRel G α h w){r:Nat}{p:Place}(hp:α r=some p){a a':AObj}(hg:h.get r=some (.obj a)){O:Obj}(hf:FitObj α O a') :
  HRel G α (h.set r (some (.obj a'))) (World.turned w p.blk O)/\Turn α h w α (h.set r (some (.obj a'))) (World.turned w p.blk O):=by
 obtain⟨f0,_⟩:=H.fits r p _ hp hg
 exact H.upd hp (by rw[Qs7 hg];rfl) (x:=.obj a') rfl ⟨f0,_,Qp1 (H.blk_lt hp hg rfl),hf⟩
theorem Zhb (E : Env P) (H : HRel E.G α h w) {t : TypeId} {x v : Value} {h' : Heap} (hx : okV (dom α) x) (hv : Yoq E t x h = some (v, h')) : Gives P E.G α h w (Instr.range t (ren α x)) v h' := by
  have base : ∀ (a : AObj) (o : Obj), FitObj (Ren.add α h.next ⟨w.heap.size, 0, 0, 0, none⟩) o a -> ∀ s : Sem Obj, s.run P w = .ok o w ->
      Gives P E.G α h w (do pure (.pointer (some ⟨<- newObj (<- s), 0, none⟩))) (.pointer (some ⟨h.next, 0, none⟩)) (h.push (.obj a)) := by
    intro a o hf s hs
    let p : Place := ⟨w.heap.size, 0, 0, 0, none⟩
    have hp := H.push (x := .obj a) rfl (p := p) rfl (o := o) (w' := { w with heap := w.heap.push o }) rfl ⟨rfl, o, by simp [p], hf⟩
    refine ⟨Ren.add α h.next p, _, ?_, ?_, Ren.add_ext _ _ _, hp.1, hp.2⟩
    · have hn : (newObj o).run P w = .ok w.heap.size { w with heap := w.heap.push o } := rfl
      simp only [Sem.run_bind,hs,hn,Result.andThen_ok,Sem.run_pure,ren,Option.map_some,Wa,Ren.add_same,p,ite_self]
    · simp only [okV]; simp [dom,Ren.add_same]
  unfold Yoq at hv
  split at hv
  · rename_i r hr
    have hu := (E.tyok t r hr).1
    split at hv
    · rename_i s hd
      cases hv
      rw [hd] at hu
      have := base (.strIter s 0) (.stringIter s 0) rfl (pure (.stringIter s 0)) rfl
      obtain ⟨α', w', r1, r2⟩ := this
      refine ⟨α', w', ?_, r2⟩
      rw [<- r1]
      simp [Instr.range,run_underlying hu,ren]
    · rename_i kt et hd
      cases hv
      rw [hd] at hu
      obtain ⟨α', w', r1, r2⟩ := base (.mapIter none 0 #[] 0) (.mapIter none 0 #[] 0) ⟨fun b hb => (by cases hb), rfl⟩ (pure (.mapIter none 0 #[] 0)) rfl
      refine ⟨α', w', ?_, r2⟩
      rw [<- r1]
      simp [Instr.range,run_underlying hu,ren]
    · rename_i kt et m hd
      split at hv
      · rename_i es clk hg
        cases hv
        rw [hd] at hu
        simp only [okV] at hx
        have hgm := Qkz (P := P) E.G H hx hg
        have hlt : m ≠ h.next := fun e => by have := Qih H hx; omega
        have e1 : Uu (Ren.add α h.next ⟨w.heap.size, 0, 0, 0, none⟩) m = Uu α m := Qbn (by simp [Ren.add,hlt])
        have hdm : dom (Ren.add α h.next ⟨w.heap.size, 0, 0, 0, none⟩) m := by simpa [dom, Ren.add, hlt] using hx
        obtain ⟨α', w', r1, r2⟩ := base (.mapIter (some m) clk #[] clk) (.mapIter (some (Uu α m)) clk #[] clk) ⟨fun b hb => (by cases hb; exact hdm), by simp [e1]⟩
          (do let .map _ clock <- getObj (Uu α m) | stuck "Range: map expected"
              pure (.mapIter (some (Uu α m)) clock #[] clock)) (by simp [hgm])
        refine ⟨α', w', ?_, r2⟩
        rw [<- r1]
        simp [Instr.range,run_underlying hu,ren,hgm]
      · cases hv
    · cases hv
  · cases hv
theorem Zlf(seen:List Nat)(l:List MapEntry):(l.map (Qn3 α)).filter (fun e => !seen.contains e.born)=(X2q seen l).map (Qn3 α):=by
 rw[Zdx,List.filter_map];rfl
theorem Zj0(es:Array MapEntry)(since:Nat)(seen:Array Nat):((if((es.map (Qn3 α)).filter fun(e:MapEntry) => !seen.contains e.born).filter (fun(e:MapEntry)=>decide (e.born < since)) |>.isEmpty then #[none]else #[]) ++
  ((((es.map (Qn3 α)).filter fun(e:MapEntry) => !seen.contains e.born).filter fun(e:MapEntry)=>decide (e.born < since))++(((es.map (Qn3 α)).filter fun(e:MapEntry) => !seen.contains e.born).filter fun(e:MapEntry)=>decide (e.born ≥ since))).map some).toList =
  (X71 es.toList since seen.toList).map (Option.map (Qn3 α)):=by
 have h1:((es.map (Qn3 α)).filter fun e => !seen.contains e.born).toList=(X2q seen.toList es.toList).map (Qn3 α):=by
  rw[<- Zlf];simp
 have h2:∀ l:List MapEntry,(l.map (Qn3 α)).filter (fun e=>decide (e.born < since))=(Zm8 since l).map (Qn3 α):=fun l=>by rw[Zl2,List.filter_map];rfl
 have h3:∀ l:List MapEntry,(l.map (Qn3 α)).filter (fun e=>decide (e.born ≥ since))=(Znq since l).map (Qn3 α):=fun l=>by rw[Zj9,List.filter_map];rfl
 generalize hL:(es.map (Qn3 α)).filter (fun e => !seen.contains e.born)=L at h1 ⊢
 have h4:(L.filter fun(e:MapEntry)=>decide (e.born < since)).toList=(Zm8 since (X2q seen.toList es.toList)).map (Qn3 α):=by rw[<- h2,<- h1];simp
 have h5:(L.filter fun(e:MapEntry)=>decide (e.born ≥ since)).toList=(Znq since (X2q seen.toList es.toList)).map (Qn3 α):=by rw[<- h3,<- h1];simp
 unfold X71 Zo1
 have h6:(L.filter fun(e:MapEntry)=>decide (e.born < since)).isEmpty=(Zm8 since (X2q seen.toList es.toList)).isEmpty:=by
  rw[<- Array.isEmpty_toList,h4];simp
 rw[h6,Array.toList_append,Array.toList_map,Array.toList_append,h4,h5]
 cases Zm8 since (X2q seen.toList es.toList)with
 | nil=>simp[Function.comp_def]
 | cons e l=>simp[Function.comp_def]
theorem Zfu(es:Array MapEntry)(seen:Array Nat)(last:Nat):(!seen.isEmpty && !(es.map (Qn3 α)).isEmpty && (es.map (Qn3 α)).all (fun e=>decide (e.born ≥ last)))=Zd5 es.toList seen.toList last:=by
 have e1:(es.map (Qn3 α)).all (fun e=>decide (e.born ≥ last))=Zg0 last es.toList:=by
  rw[Zoq,<- Array.all_toList,Array.toList_map,List.all_map];rfl
 rw[e1,<- Array.isEmpty_toList,<- Array.isEmpty_toList,Array.toList_map]
 unfold Zd5
 cases seen.toList <;> cases es.toList <;> simp[Zg0]
theorem Zi4{es:List MapEntry}{since:Nat}{seen:List Nat}{e:MapEntry}(h:some e ∈ X71 es since seen):e ∈ es:=by
 have hl:∀ x,x ∈ X2q seen es->x ∈ es:=fun x hx=>by rw[Zdx]at hx;exact(List.mem_filter.1 hx).1
 have ho:∀ x,x ∈ Zm8 since (X2q seen es)->x ∈ es:=fun x hx=>by rw[Zl2]at hx;exact hl x (List.mem_filter.1 hx).1
 have hn:∀ x,x ∈ Znq since (X2q seen es)->x ∈ es:=fun x hx=>by rw[Zj9]at hx;exact hl x (List.mem_filter.1 hx).1
 unfold X71 Zo1 at h
 split at h
 ·simp at h;exact hn _ h
 ·rename_i e0 l0 hq
  rw[hq]at ho
  simp only[List.mem_map,Option.some.injEq,exists_eq_right,List.mem_cons,List.mem_append]at h
  rcases h with rfl | h | h
  ·exact ho _ (by simp)
  ·exact ho _ (by simp[h])
  ·exact hn _ h
theorem Zmw(es:List MapEntry)(since:Nat)(seen:List Nat):X71 es since seen ≠ []:=by
 unfold X71 Zo1;split <;> simp
theorem Zek{n:Nat}(hn:n≠0):∃ (j:Nat) (w1:World),j < n/\(w1=w∨w1=w.drew)/\(choose (Question.mapNext n)).run P w=.ok j w1:=by
 by_cases hf:n<=1
 ·exact⟨0,w,by omega,Or.inl rfl,by simp[choose,Sem.run,Question.forced,hf]⟩
 ·exact⟨_,w.drew,Nat.mod_lt _ (by omega),Or.inr rfl,by
   simp only[choose,Sem.run,Question.forced,decide_eq_true_eq,hf,if_false,Question.cut]
   rfl⟩
theorem Y9l{r:Nat}{m since last clk:Nat}{seen:Array Nat}{es:Array MapEntry}(f1:w.heap[r]? = some (Obj.mapIter (Option.map (Uu α) (some m)) since seen last))(hgm:(getObj (Uu α m)).run P w=.ok (Obj.map (es.map (Qn3 α)) clk) w)
  (hbar:Zd5 es.toList seen.toList last=false) (ty:TypeId) :
  ∃ c ∈ X71 es.toList since seen.toList,∃ w1,(w1=w∨w1=w.drew)/\(Instr.next (.pointer (some ⟨r,0,none⟩)) false ty).run P w =
   .ok (match c with | none => .tuple #[.bool false] | some e => .tuple #[.bool true,ren α e.key,ren α e.val]) (match c with | none=>w1 | some e=>World.turned w1 r (.mapIter (some (Uu α m)) since (seen.push e.born) clk)):=by
 have hg:(getObj r).run P w=.ok (.mapIter (some (Uu α m)) since seen last) w:=by simp[getObj,Sem.run,f1]
 have hb:=Zfu (α:=α) es seen last
 rw[hbar]at hb
 have hc:=Zj0 (α:=α) es since seen
 simp only[Instr.next,Sem.run_bind,hg,Result.andThen_ok,hgm,hb,Bool.false_eq_true,if_false]
 generalize hA:(if((es.map (Qn3 α)).filter fun(e:MapEntry) => !seen.contains e.born).filter (fun(e:MapEntry)=>decide (e.born < since)) |>.isEmpty then #[none]else #[]) ++
  ((((es.map (Qn3 α)).filter fun(e:MapEntry) => !seen.contains e.born).filter fun(e:MapEntry)=>decide (e.born < since))++(((es.map (Qn3 α)).filter fun(e:MapEntry) => !seen.contains e.born).filter fun(e:MapEntry)=>decide (e.born ≥ since))).map some=A at hc ⊢
 have hne:A.size≠0:=fun e=>by
  have h2:A.toList.length=0:=e
  rw[hc,List.length_map]at h2
  exact Zmw _ _ _ (List.eq_nil_of_length_eq_zero h2)
 obtain⟨j,w1,hj,hw,hr⟩:=Zek (P:=P) (w:=w) hne
 have hj2:j < (X71 es.toList since seen.toList).length:=by
  have : A.toList.length=_:=congrArg List.length hc
  rw[List.length_map]at this
  have h3:A.toList.length=A.size:=rfl
  omega
 refine⟨(X71 es.toList since seen.toList)[j],List.getElem_mem hj2,w1,hw,?_⟩
 have hAj:A[j]? = some ((X71 es.toList since seen.toList)[j].map (Qn3 α)):=by
  rw[<- Array.getElem?_toList,hc,List.getElem?_map,List.getElem?_eq_getElem hj2];rfl
 simp only[hr,Result.andThen_ok,hAj]
 have hr1:w1.heap[r]? = some (Obj.mapIter (some (Uu α m)) since seen last):=by rcases hw with rfl | rfl <;> exact f1
 cases hcj:(X71 es.toList since seen.toList)[j]with
 | none=>simp
 | some e =>
  have hs:∀ o,(setObj r o).run P w1=.ok () (World.turned w1 r o):=fun o=>by simp[setObj,Sem.run,hr1,World.turned]
  simp only[Option.map_some,Sem.run_bind,hs,Result.andThen_ok,Sem.run_pure]
  simp[Qn3]
theorem Yop(H:HRel G α h w){it:Value}{isS:Bool}{ty:TypeId}(hi:okV (dom α) it)(hne:Q5t it isS h ≠ []):∃ x ∈ Q5t it isS h,Gives P G α h w (Instr.next (ren α it) isS ty) x.1 x.2:=by
 unfold Q5t at hne ⊢
 split
 ·rename_i r
  cases hg:h.get r with
  | none=>simp[hg]at hne
  | some x =>
   cases x with
   | cells o s c=>simp[hg]at hne
   | map es clk=>simp[hg]at hne
   | obj a =>
    obtain⟨p,o,hp,e1,f1,f2⟩:=Zhc H hi hg
    rw[e1]
    cases a with
    | loop st pend t ps as bd d=>simp[hg]at hne
    | defs=>simp[hg]at hne
    | any=>simp[hg]at hne
    | strIter s pos =>
     simp only[hg]at hne ⊢
     cases isS with
     | false=>simp at hne
     | true =>
      simp only at hne ⊢
      have e2:o=.stringIter s pos:=f2
      subst e2
      split
      ·rename_i hlt
       refine⟨_,List.mem_singleton_self _,?_⟩
       obtain⟨H1,T1⟩:=Zc7 H hp hg (a':=.strIter s (pos+(Utf8.decode s pos).2)) (O:=.stringIter s (pos+(Utf8.decode s pos).2)) rfl
       refine⟨α,_,?_,(Quq _ _).2 (by simp[okV]),Ext.refl _ _,H1,T1⟩
       have hlt':pos < s.size:=by simpa using hlt
       simp[Instr.next,getObj,setObj,Sem.run,f1,hlt',ren_int,ren_bool,goInt,Result.andThen,World.turned]
      ·rename_i hlt
       refine⟨_,List.mem_singleton_self _,Gives.plain H ((Quq _ _).2 (by simp[okV])) ?_⟩
       have hlt':¬ pos < s.size:=fun k=>by rw[show Nat.blt pos s.size=true from by simpa using k]at hlt;cases hlt
       simp[Instr.next,getObj,Sem.run,f1,hlt',Result.andThen,ren,Qnf]
    | mapIter m since seen last =>
     obtain⟨f3,e2⟩:=f2
     subst e2
     cases m with
     | none =>
      simp only[hg]at hne ⊢
      cases isS with
      | true=>simp at hne
      | false =>
       refine⟨_,List.mem_singleton_self _,Gives.plain H ((Quq _ _).2 (by simp[okV])) ?_⟩
       simp[Instr.next,getObj,Sem.run,f1,Result.andThen,ren,Qnf]
     | some m =>
      simp only[hg]at hne ⊢
      cases isS with
      | true=>simp at hne
      | false =>
       cases hm:h.get m with
       | none=>simp[hm]at hne
       | some y =>
        cases y with
        | cells o s c=>simp[hm]at hne
        | obj a=>simp[hm]at hne
        | map es clk =>
         simp only[hm]at hne ⊢
         have hdm:dom α m:=f3 m rfl
         have hgm:=Qkz (P:=P) G H hdm hm
         split at hne
         ·simp at hne
         ·rename_i hbar
          obtain⟨c,hc,w1,hw1,hrun⟩:=Y9l (P:=P) (α:=α) f1 hgm hbar ty
          obtain⟨H1,T1⟩:=H.drew hw1
          refine⟨_,List.mem_map.2 ⟨c,hc,rfl⟩,?_⟩
          cases c with
          | none =>
           refine⟨α,w1,?_,(Quq _ _).2 (by simp[okV]),Ext.refl _ _,H1,T1⟩
           rw[hrun]
           simp[Y9z,ren,Qnf]
          | some e =>
           have he:=Zi4 hc
           obtain⟨q,hq⟩:=Option.isSome_iff_exists.1 hdm
           obtain⟨_,_,g2⟩:=H.fits m q _ hq hm
           obtain⟨g3,g4⟩:=g2 e (by simpa using he)
           obtain⟨H2,T2⟩:=Zc7 H1 hp hg (a':=.mapIter (some m) since (seen.push e.born) clk) (O:=.mapIter (some (Uu α m)) since (seen.push e.born) clk) ⟨fun b hb=>(by cases hb;exact hdm),rfl⟩
           refine⟨α,_,?_,(Quq _ _).2 (by
            intro v hv
            simp only[List.mem_toArray,Array.mem_def,List.mem_cons,List.mem_nil_iff,or_false]at hv
            rcases hv with rfl | rfl | rfl
            ·trivial
            ·exact flat_ok _ _ g3
            ·exact g4),Ext.refl _ _,H2,T1.trans T2⟩
           rw[hrun]
           simp[Y9z,Y87,ren_bool]
 ·simp at hne
theorem Zme(H:HRel G α h w){it:Value}{isS:Bool}{ty:TypeId}{v:Value}{h':Heap}(hi:okV (dom α) it)(hv:Zeg it isS h=some (v,h')):Gives P G α h w (Instr.next (ren α it) isS ty) v h':=by
 unfold Zeg at hv
 split at hv
 ·rename_i x hx
  cases hv
  obtain⟨y,hy,g⟩:=Yop (P:=P) (ty:=ty) H hi (by rw[hx];simp)
  rw[hx,List.mem_singleton]at hy
  subst hy
  exact g
 ·cases hv
theorem Zlc(H:HRel G α h w){it v:Value}(hi:okV (dom α) it)(hv:Zcn it h=some v):Gives P G α h w (Instr.entry (ren α it)) v h:=by
 unfold Zcn at hv
 split at hv
 ·split at hv
  ·rename_i m since seen stepped hg
   split at hv
   ·rename_i b es clk hl hm
    split at hv
    ·rename_i hclk
     split at hv
     ·rename_i e he
      cases hv
      obtain⟨p,o,hp,e1,f1,f2⟩:=Zhc H hi hg
      obtain⟨f3,e2⟩:=f2
      subst e2
      have hdm:dom α m:=f3 m rfl
      have hgm:=Qkz (P:=P) G H hdm hm
      obtain⟨q,hq⟩:=Option.isSome_iff_exists.1 hdm
      obtain⟨_,_,g2⟩:=H.fits m q _ hq hm
      rw[Zbq]at he
      have hmem:e ∈ es:=by have:=List.mem_of_find?_eq_some he;simpa using this
      obtain⟨g3,g4⟩:=g2 e hmem
      refine Gives.plain H ((Quq _ _).2 (by
       intro v hv
       simp only[Array.mem_def,List.mem_cons,List.mem_nil_iff,or_false]at hv
       rcases hv with rfl | rfl
       ·exact flat_ok _ _ g3
       ·exact g4)) ?_
      have hclk':clk=stepped:=Nat.eq_of_beq_eq_true hclk
      subst hclk'
      have hback:seen.back?=some b:=by rw[<- Array.getLast?_toList,<- Zcw];exact hl
      have hfind:(es.map (Qn3 α)).find? (fun x=>x.born == b)=some (Qn3 α e):=by
       rw[<- Array.find?_toList,Array.toList_map,List.find?_map]
       show Option.map (Qn3 α) (es.toList.find? fun x=>x.born == b)=_
       rw[he];rfl
      rw[e1]
      have hg1:(getObj p.blk).run P w=.ok (.mapIter (some (Uu α m)) since seen clk) w:=by simp[getObj,Sem.run,f1]
      simp[Instr.entry,hg1,hback,hgm,hfind,Qn3,Xxw]
     ·cases hv
    ·cases hv
   ·cases hv
  ·cases hv
 ·cases hv
end
def Yy7{P:Program}(E:Env P)(t:TypeId)(x:Value)(h:Heap):Option (Value × Heap):=match E.ty.get t,x with
 | some _,.map none=>some (.tuple #[],h)
 | some _,.slice none _ _=>some (.tuple #[],h)
 | some _,.slice (some _) 0 _=>some (.tuple #[],h)
 | some _,.map (some b)=>match h.get b with
  | some (.map _ clk)=>some (.tuple #[],h.set b (some (.map #[] clk)))
  | _=>none
 | some r,.slice (some a) (n+1) _=>match r.desc with
  | .slice e=>match E.ty.get e with
   | some re=>match Nat.ble 1 re.size with
    | true=>(storeAt h a (Qdi re.zero.cells.toList (n+1))).map fun h'=>(.tuple #[],h')
    | false=>none
   | none=>none
  | _=>none
 | _,_=>none
section
variable{P:Program}{α:Ren}{h:Heap}{w:World}
theorem Zkw(E:Env P)(H:HRel E.G α h w){t ty:TypeId}{tl:List TypeId}{x v:Value}{h':Heap}(hx:okV (dom α) x)(hh:Yy7 E t x h=some (v,h')) :
  Gives P E.G α h w (Builtin.clear_ (t::tl).toArray ty #[ren α x]) v h':=by
 have okt:okV (dom α) (.tuple #[]):=by simp[okV,okA,okL]
 have ret:ren α (.tuple #[])=.tuple #[]:=by simp[ren,renA,renL]
 unfold Yy7 at hh
 split at hh
 ·rename_i r hr
  cases hh
  refine Gives.plain H okt ?_
  simp[Builtin.clear_,ren,run_underlying (E.tyok t r hr).1,renA,renL]
 ·rename_i r n c hr
  cases hh
  refine Gives.plain H okt ?_
  simp[Builtin.clear_,ren,run_underlying (E.tyok t r hr).1,renA,renL]
 ·rename_i r a c hr
  cases hh
  refine Gives.plain H okt ?_
  simp[Builtin.clear_,ren,run_underlying (E.tyok t r hr).1,renA,renL]
 ·rename_i r b hr
  split at hh
  ·rename_i es clk hg
   cases hh
   simp only[okV]at hx
   have hgm:=Qkz (P:=P) E.G H hx hg
   obtain⟨w',q1,q2,q3⟩:=Qy8 (P:=P) H hx hg (es':=#[]) (clk':=clk) (fun e he=>by simp at he)
   refine⟨α,w',?_,okt,Ext.refl _ _,q2,q3⟩
   simp at q1
   simp[Builtin.clear_,ren,run_underlying (E.tyok t r hr).1,hgm,q1,renA,renL]
  ·cases hh
 ·rename_i r a n c hr
  split at hh
  ·rename_i e hd
   split at hh
   ·rename_i re hre
    split at hh
    case h_2=>cases hh
    rename_i hsz
    rw[Option.map_eq_some_iff]at hh
    obtain⟨h1,hst,hq⟩:=hh
    cases hq
    simp only[okV]at hx
    have ho:=E.tyok e re hre
    obtain⟨_,i,hi,_,hby,_,hf,hn,hzs,_⟩:=ho
    have hz:∀ v ∈ Qdi re.zero.cells.toList (n+1),okV (dom α) v/\v.oneCell'=true:=fun v hv=>Q3a hf hn (dom α) v (Qne hv)
    have hzm:=Qy5 α (Qdi re.zero.cells.toList (n+1)) (fun v hv=>Qmm hf hn v (Qne hv))
    obtain⟨w',r1,r2,r3⟩:=Q4t (P:=P) H hx.1 hx.2 hz hst
    refine⟨α,w',?_,okt,Ext.refl _ _,r2,r3⟩
    rw[hzm]at r1
    have hu:=(E.tyok t r hr).1
    rw[hd]at hu
    have hpos:0 < re.zero.cells.size:=by have:=Nat.le_of_ble_eq_true hsz;omega
    have hzc:(Builtin.zeroCells re.zero.cells (n+1)).toList=Qdi re.zero.cells.toList (n+1):=by
     have h1:Builtin.zeroCells re.zero.cells (n+1)=(Qdi re.zero.cells.toList (n+1)).toArray:=Qyu _ _ hpos
     rw[h1]
    simp[Builtin.clear_,ren,run_underlying hu,Qg2 (E.tyok e re hre),hzc,r1,renA,renL]
   ·cases hh
  ·cases hh
 ·cases hh
end
inductive ExtK where
 | compare
 | clone
def Zof:ExtK->Array Value->Sem Value
 | .compare=>Extern.BytealgCompare.compare
 | .clone=>Extern.MapsClone.clone
def Zku(F:Func):Option ExtK :=
 if F.body.isNone then
  if F.origin == "" then
   if F.name == "internal/bytealg.Compare" then some .compare
   else if F.name == "maps.clone" then some .clone else none
  else none
 else none
theorem Ypp:Extern.allNextRows.lookup "" = none:=by
 have : (Extern.allNextRows.lookup "").isNone=true:=by kernel_rfl
 simpa using this
theorem Yyx:Extern.allNextRows.lookup "internal/bytealg.Compare" = none/\Extern.allGenericRows.lookup "internal/bytealg.Compare" = none/\Extern.allTypedRows.lookup "internal/bytealg.Compare" = none/\Extern.allRows.lookup "internal/bytealg.Compare" = some Extern.BytealgCompare.compare:=by
 have h1:(Extern.allNextRows.lookup "internal/bytealg.Compare").isNone=true:=by kernel_rfl
 have h2:(Extern.allGenericRows.lookup "internal/bytealg.Compare").isNone=true:=by kernel_rfl
 have h3:(Extern.allTypedRows.lookup "internal/bytealg.Compare").isNone=true:=by kernel_rfl
 exact⟨by simpa using h1,by simpa using h2,by simpa using h3,by kernel_rfl⟩
theorem Zft:Extern.allNextRows.lookup "maps.clone" = none/\Extern.allGenericRows.lookup "maps.clone" = none/\Extern.allTypedRows.lookup "maps.clone" = none/\Extern.allRows.lookup "maps.clone" = some Extern.MapsClone.clone:=by
 have h1:(Extern.allNextRows.lookup "maps.clone").isNone=true:=by kernel_rfl
 have h2:(Extern.allGenericRows.lookup "maps.clone").isNone=true:=by kernel_rfl
 have h3:(Extern.allTypedRows.lookup "maps.clone").isNone=true:=by kernel_rfl
 exact⟨by simpa using h1,by simpa using h2,by simpa using h3,by kernel_rfl⟩
theorem Zoo{F:Func}{x:ExtK}(h:Zku F=some x):(F.name == "runtime.NumGoroutine")=false/\F.body.isNone=true/\Extern.findNext F=none/\Extern.find F=some (Zof x):=by
 unfold Zku at h
 split at h
 ·rename_i hb
  split at h
  ·rename_i ho
   have ho:=eq_of_beq ho
   split at h
   ·rename_i hn
    have hn:=eq_of_beq hn
    cases h
    obtain⟨h1,h2,h3,h4⟩:=Yyx
    refine⟨by rw[hn];decide,hb,?_,?_⟩
    ·simp[Extern.findNext,hn,ho,h1,Ypp]
    ·simp[Extern.find,hn,h2,h3,h4,Zof]
   ·split at h
    ·rename_i hn
     have hn:=eq_of_beq hn
     cases h
     obtain⟨h1,h2,h3,h4⟩:=Zft
     refine⟨by rw[hn];decide,hb,?_,?_⟩
     ·simp[Extern.findNext,hn,ho,h1,Ypp]
     ·simp[Extern.find,hn,h2,h3,h4,Zof]
    ·cases h
  ·cases h
 ·cases h
def Z0b(ns:List Int):ByteArray:=⟨(ns.map fun n=>UInt8.ofNat n.toNat).toArray⟩
def Zd7(v:Value)(h:Heap):Option ByteArray:=match v with
 | .slice none _ _=>some .empty
 | .slice (some a) n _=>match cellsAt h a n with
  | some l=>match Xod l with
   | some ns=>some (Z0b ns)
   | none=>none
  | none=>none
 | _=>none
def Ypc(x:ExtK)(args:List Value)(h:Heap):Option (Value × Heap):=match x,args with
 | .compare,[a,b]=>match Zd7 a h,Zd7 b h with
  | some s,some t=>some (.int .i64 (Extern.BytealgCompare.cmp s t),h)
  | _,_=>none
 | .clone,[.iface t (.map (some r))]=>match h.get r with
  | some (.map es clk)=>some (.iface t (.map (some h.next)),h.push (.map es clk))
  | _=>none
 | _,_=>none
section
variable{P:Program}{G:Bs}{α:Ren}{h:Heap}{w:World}
theorem X2o:∀ (ns:List Int) (a:Addr) (acc:ByteArray),(∀ j v,(ns.map (Value.int .u8))[j]? = some v->w.cell? (a.add j)=some v) ->
  (Extern.Bytes.loadBytes a ns.length acc).run P w=.ok (ns.foldl (fun r n=>r.push (UInt8.ofNat n.toNat)) acc) w
 | [],a,acc,_=>rfl
 | n::ns,a,acc,hc=>by
  have h0:w.cell? a=some (.int .u8 n):=by
   have:=hc 0 (.int .u8 n) rfl
   have e:a.add 0=a:=by unfold Addr.add;split <;> simp_all
   rwa [e]at this
  have ih:=X2o ns (a.add 1) (acc.push (UInt8.ofNat n.toNat)) (fun j v hv=>by
   have:=hc (j+1) v (by simpa using hv)
   have e:(a.add 1).add j=a.add (j+1):=by unfold Addr.add;split <;> simp_all <;> omega
   rw[e];exact this)
  simp only[List.length_cons,Extern.Bytes.loadBytes,Sem.run_bind,List.foldl_cons]
  have hl:(load a).run P w=.ok (.int .u8 n) w:=by simp[load,Sem.run,h0]
  rw[hl]
  exact ih
theorem Y27(H:HRel G α h w){v:Value}(hv:okV (dom α) v){s:ByteArray}(hs:Zd7 v h=some s):(Extern.Bytes.bytesOf (ren α v)).run P w=.ok s w:=by
 unfold Zd7 at hs
 split at hs
 ·cases hs;rfl
 ·rename_i a n c
  split at hs
  ·rename_i l hl
   split at hs
   ·rename_i ns hns
    cases hs
    simp only[okV]at hv
    obtain⟨k1,_,k3⟩:=Qtq H hv.1 hv.2 hl
    have e:=X4m hns
    subst e
    rw[Qy5 α _ (fun v hv=>by obtain⟨i,_,rfl⟩:=List.mem_map.1 hv;rfl)]at k3
    have hlen:n=ns.length:=by rw[<- k1,List.length_map]
    subst hlen
    have:=X2o (P:=P) (w:=w) ns (Wa α a) .empty k3
    simp only[ren,Option.map_some,Extern.Bytes.bytesOf,this,Ypj,Z0b]
    show Result.ok (ByteArray.mk (#[]++(ns.map fun n=>UInt8.ofNat n.toNat).toArray)) w=_
    rw[Array.empty_append]
   ·cases hs
  ·cases hs
 ·cases hs
theorem Zjl(H:HRel G α h w){x:ExtK}{args:List Value}(ha:∀ v ∈ args,okV (dom α) v){v:Value}{h':Heap}(hv:Ypc x args h=some (v,h')):Gives P G α h w (Zof x (args.map (ren α)).toArray) v h':=by
 unfold Ypc at hv
 split at hv
 ·rename_i a b
  split at hv
  ·rename_i s t hs ht
   cases hv
   refine Gives.flat H rfl ?_
   have e1:=Y27 (P:=P) H (ha a (by simp)) hs
   have e2:=Y27 (P:=P) H (ha b (by simp)) ht
   have hd:∀ x y:Value,Extern.BytealgCompare.compare #[x,y]=(do pure (goInt (Extern.BytealgCompare.cmp (<- Extern.Bytes.bytesOf x) (<- Extern.Bytes.bytesOf y)))):=fun _ _=>rfl
   show(Extern.BytealgCompare.compare #[ren α a,ren α b]).run P w=_
   rw[hd]
   simp[e1,e2,goInt]
  ·cases hv
 ·rename_i t r
  split at hv
  ·rename_i es clk hg
   cases hv
   have hr:=ha _ (List.mem_singleton_self _)
   simp only[okV]at hr
   have hgm:=Qkz (P:=P) G H hr hg
   obtain⟨q,hq⟩:=Option.isSome_iff_exists.1 hr
   obtain⟨_,_,f2⟩:=H.fits r q _ hq hg
   let p:Place:=⟨w.heap.size,0,0,0,none⟩
   have hes:es.map (Qn3 (Ren.add α h.next p))=es.map (Qn3 α):=by
    apply Array.map_congr_left
    intro e he
    exact X55 (H.add_dom p) (f2 e he).1 (f2 e he).2
   have hp:=H.push (x:=.map es clk) rfl (p:=p) rfl (o:=.map (es.map (Qn3 α)) clk) (w':={w with heap:=w.heap.push (.map (es.map (Qn3 α)) clk)}) rfl
    ⟨rfl,by rw[hes];simp[p],fun e he=>⟨(f2 e he).1,okV_mono (fun b hb=>by simpa[dom,H.add_dom p b hb]using hb) _ (f2 e he).2⟩⟩
   refine⟨Ren.add α h.next p,_,?_,?_,Ren.add_ext _ _ _,hp.1,hp.2⟩
   ·have hn:(newObj (.map (es.map (Qn3 α)) clk)).run P w=.ok w.heap.size {w with heap:=w.heap.push (.map (es.map (Qn3 α)) clk)}:=rfl
    have hd:∀ (t:TypeId) (r:Nat),Extern.MapsClone.clone #[.iface t (.map (some r))]=(do
      let .map entries clock <- getObj r | stuck "maps.clone: a map expected"
      pure (.iface t (.map (some (<- newObj (.map entries clock)))))):=fun _ _=>rfl
    have e0:ren α (.iface t (.map (some r)))=.iface t (.map (some (Uu α r))):=by simp[ren]
    show(Extern.MapsClone.clone #[ren α (.iface t (.map (some r)))]).run P w=_
    rw[e0,hd]
    simp only[Sem.run_bind,hgm,Result.andThen_ok,hn,Sem.run_pure]
    simp[ren,Uu,Ren.add_same,p]
   ·simp only[okV];simp[dom,Ren.add_same]
  ·cases hv
 ·cases hv
end
def Xbg{P:Program}(E:Env P)(t:TypeId)(m k:Value)(h:Heap):Option (Value × Heap) :=
 match E.ty.get t,m with
 | some r,.map (some b)=>match r.desc,h.get b with
  | .map kt et,some (.map es clk)=>match E.ty.get kt,E.ty.get et,flat k with
   | some kr,some er,true=>match X17 kr k es.toList with
    | some none=>some (.tuple #[er.zero,.int .i64 (.ofNat clk)],h.set b (some (.map (es.push {key:=k,val:=er.zero,born:=clk}) (clk+1))))
    | some (some (i,v))=>match Instr.sameBits 10000 (((es[i]?).map (·.key)).getD k) k with
     | true=>some (.tuple #[v,.int .i64 (.ofNat (((es[i]?).map (·.born)).getD 0))],h.set b (some (.map (es.modify i fun e=>{e with key:=k}) clk)))
     | false=>none
    | none=>none
   | _,_,_=>none
  | _,_=>none
 | _,_=>none
def Zcu(b:Nat):List MapEntry->Nat->Option Nat
 | [],_=>none
 | e::l,i=>match Nat.beq e.born b with
  | true=>some i
  | false=>Zcu b l (i+1)
def Qxi(m st x:Value)(h:Heap):Option Heap :=
 match m,st with
 | .map (some b),.int .i64 (.ofNat s)=>match h.get b,Nat.blt s 9223372036854775808 with
  | some (.map es clk),true=>match Zcu s es.toList 0 with
   | some i=>some (h.set b (some (.map (es.modify i fun e=>{e with val:=x}) clk)))
   | none=>none
  | _,_=>none
 | _,_=>none
theorem Y4j(b:Nat):∀ (l:List MapEntry) (i:Nat),Zcu b l i=(l.findIdx? fun e=>(e.born:Int) == (b:Int)).map (i + ·)
 | [],i=>rfl
 | e::l,i=>by
  simp only[Zcu,List.findIdx?_cons]
  cases hb:Nat.beq e.born b with
  | true=>have:=Nat.eq_of_beq_eq_true hb;simp[this]
  | false =>
   have : ¬ e.born=b:=fun k=>by rw[k]at hb;simp at hb
   have h2:((e.born:Int) == (b:Int))=false:=by
    rw[beq_eq_false_iff_ne];intro k;exact this (by omega)
   simp only[h2,Bool.false_eq_true,if_false,Y4j b l (i+1),Option.map_map]
   congr 1
   funext j
   simp
   omega
section
variable{P:Program}{G:Bs}{α:Ren}{h:Heap}{w:World}
theorem Y41(E:Env P)(H:HRel E.G α h w){t:TypeId}{m k v:Value}{h':Heap}(hm:okV (dom α) m)(hh:Xbg E t m k h=some (v,h')) :
  Gives P E.G α h w (Instr.mapEntry t (ren α m) (ren α k)) v h':=by
 unfold Xbg at hh
 split at hh
 ·rename_i r b hr
  split at hh
  ·rename_i kt et es clk hd hg
   have hu:=(E.tyok t r hr).1
   rw[hd]at hu
   split at hh
   ·rename_i kr er hkr her hkf
    simp only[okV]at hm
    have hgm:=Qkz (P:=P) E.G H hm hg
    obtain⟨p,hp⟩:=Option.isSome_iff_exists.1 hm
    obtain⟨f0,f1,f2⟩:=H.fits b p _ hp hg
    have hk:ren α k=k:=Qhp α hkf
    obtain⟨_,_,_,_,_,_,hfz,_⟩:=E.tyok et er her
    have hz:=fun w=>Qg2 (P:=P) (E.tyok et er her) w
    have hzr:ren α er.zero=er.zero:=Qhp α hfz
    have find:∀ y,X17 kr k es.toList=some y->(Instr.checkKey false 10000 kt k).run P w=.ok () w/\(Instr.findKey kt k (es.map (Qn3 α)).toList).run P w=.ok (Ynq α y) w:=by
     intro y hy
     have:=Yaj (α:=α) (E.tyok kt kr hkr) (fun e he=>(f2 e (by simpa using he)).1) hy w false
     rw[hk]at this
     rw[Array.toList_map];exact this
    have okt:∀ (v:Value) (n:Nat),okV (dom α) v->okV (dom α) (.tuple #[v,.int .i64 (.ofNat n)]):=fun v n hv=>(Quq _ _).2 (by
     intro u hu
     simp only[Array.mem_def,List.mem_cons,List.mem_nil_iff,or_false]at hu
     rcases hu with rfl | rfl
     ·exact hv
     ·simp[okV])
    split at hh
    ·rename_i hf
     cases hh
     obtain⟨c1,c2⟩:=find _ hf
     obtain⟨w',q1,q2,q3⟩:=Qy8 (P:=P) H hm hg (es':=es.push {key:=k,val:=er.zero,born:=clk}) (clk':=clk+1) (by
      intro e he
      rcases Array.mem_push.1 he with he | rfl
      ·exact f2 e he
      ·exact⟨hkf,flat_ok _ _ hfz⟩)
     refine⟨α,w',?_,okt _ _ (flat_ok _ _ hfz),Ext.refl _ _,q2,q3⟩
     have hpush:(es.push {key:=k,val:=er.zero,born:=clk}).map (Qn3 α)=(es.map (Qn3 α)).push {key:=k,val:=er.zero,born:=clk}:=by simp[Qn3,hk,hzr]
     rw[hpush]at q1
     rw[hk,Xxw,hzr,ren_int]
     simp only[Instr.mapEntry,ren,Option.map_some,Sem.run_bind,run_underlying hu,Result.andThen_ok,hgm,c1,c2,Ynq,hz,q1,Sem.run_pure,goInt]
     rfl
    ·rename_i i v0 hf
     split at hh
     ·rename_i hs
      cases hh
      obtain⟨c1,c2⟩:=find _ hf
      obtain⟨e0,he0,hev,_⟩:=Ybr hf
      have hvo:=(f2 e0 (by simpa using he0)).2
      rw[hev]at hvo
      obtain⟨w',q1,q2,q3⟩:=Qy8 (P:=P) H hm hg (es':=es.modify i fun e=>{e with key:=k}) (clk':=clk) (by
       intro e he
       obtain⟨j,hj⟩:=Array.mem_iff_getElem?.1 he
       rw[Array.getElem?_modify]at hj
       split at hj
       ·cases hq:es[j]? with
        | none=>rw[hq]at hj;cases hj
        | some e0=>rw[hq]at hj;cases hj;exact⟨hkf,(f2 e0 (Array.mem_of_getElem? hq)).2⟩
       ·exact f2 e (Array.mem_of_getElem? hj))
      refine⟨α,w',?_,okt _ _ hvo,Ext.refl _ _,q2,q3⟩
      have hmod:(es.modify i fun e=>{e with key:=k}).map (Qn3 α)=(es.map (Qn3 α)).modify i fun e=>{e with key:=k}:=by
       apply Array.ext_getElem?
       intro j
       rw[Array.getElem?_map,Array.getElem?_modify,Array.getElem?_modify,Array.getElem?_map]
       split
       ·cases es[j]? <;> simp[Qn3,hk]
       ·rfl
      have hold:(((es.map (Qn3 α))[i]?).map (·.key)).getD k=((es[i]?).map (·.key)).getD k:=by
       rw[Array.getElem?_map]
       cases hq:es[i]? with
       | none=>rfl
       | some e0=>simp[Qn3,Qhp α (f2 e0 (Array.mem_of_getElem? hq)).1]
      have hborn:(Option.map (fun x:MapEntry=>(x.born:Int)) (es.map (Qn3 α))[i]?).getD 0=Int.ofNat (((es[i]?).map (·.born)).getD 0):=by
       rw[Array.getElem?_map]
       cases es[i]? <;> rfl
      rw[hmod]at q1
      rw[hk,Xxw,ren_int]
      simp only[Instr.mapEntry,ren,Option.map_some,Sem.run_bind,run_underlying hu,Result.andThen_ok,hgm,c1,c2,Ynq,hold,Instr.keyThatStays,hs,if_true,Sem.run_pure,q1,hborn,goInt]
     ·cases hh
    ·cases hh
   ·cases hh
  ·cases hh
 ·cases hh
theorem Yiv(H:HRel G α h w){t:TypeId}{m st x:Value}{h':Heap}(hm:okV (dom α) m)(hx:okV (dom α) x)(hh:Qxi m st x h=some h') :
  ∃ w',(Instr.entryStore t (ren α m) (ren α st) (ren α x)).run P w=.ok () w'/\HRel G α h' w'/\Turn α h w α h' w':=by
 unfold Qxi at hh
 split at hh
 ·rename_i b s
  split at hh
  ·rename_i es clk hg hlt
   split at hh
   ·rename_i i hi
    cases hh
    simp only[okV]at hm
    have hgm:=Qkz (P:=P) G H hm hg
    obtain⟨p,hp⟩:=Option.isSome_iff_exists.1 hm
    obtain⟨f0,f1,f2⟩:=H.fits b p _ hp hg
    obtain⟨w',q1,q2,q3⟩:=Qy8 (P:=P) H hm hg (es':=es.modify i fun e=>{e with val:=x}) (clk':=clk) (by
     intro e he
     obtain⟨j,hj⟩:=Array.mem_iff_getElem?.1 he
     rw[Array.getElem?_modify]at hj
     split at hj
     ·cases hq:es[j]? with
      | none=>rw[hq]at hj;cases hj
      | some e0=>rw[hq]at hj;cases hj;exact⟨(f2 e0 (Array.mem_of_getElem? hq)).1,hx⟩
     ·exact f2 e (Array.mem_of_getElem? hj))
    refine⟨w',?_,q2,q3⟩
    have hmod:(es.modify i fun e=>{e with val:=x}).map (Qn3 α)=(es.map (Qn3 α)).modify i fun e=>{e with val:=ren α x}:=by
     apply Array.ext_getElem?
     intro j
     rw[Array.getElem?_map,Array.getElem?_modify,Array.getElem?_modify,Array.getElem?_map]
     split
     ·cases es[j]? <;> simp[Qn3]
     ·rfl
    rw[hmod]at q1
    have hfi:(es.map (Qn3 α)).findIdx? (fun e=>(e.born:Int) == (Int.ofNat s))=some i:=by
     rw[Y4j]at hi
     rw[Option.map_eq_some_iff]at hi
     obtain⟨j,hj,hji⟩:=hi
     have : j=i:=by omega
     subst this
     have e1:es.map (Qn3 α)=(es.toList.map (Qn3 α)).toArray:=Array.ext' (by rw[Array.toList_map])
     rw[e1,List.findIdx?_toArray,List.findIdx?_map]
     exact hj
    simp only[Instr.entryStore,ren,Option.map_some,Sem.run_bind,Result.andThen_ok,hgm,asInt,asIntOf,Sem.run_pure,hfi,q1]
   ·cases hh
  ·cases hh
 ·cases hh
end
end Go.Ab
