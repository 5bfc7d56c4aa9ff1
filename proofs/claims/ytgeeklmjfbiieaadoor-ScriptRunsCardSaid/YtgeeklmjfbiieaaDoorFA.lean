import Derived.Test.YtgeeklmjfbiieaaDoorBlA
set_option linter.all false
noncomputable section
namespace Go.Proofs.YtgeeklmjfbiieaaDoor
open Go Go.Ab
set_option maxRecDepth 100000
abbrev oP(d:Nat)(i:Op):Oper:=⟨some d,i,0,"",#[],none⟩
abbrev oG(j:Nat)(w:Bool)(d:Nat)(i:Op):Oper:=⟨some d,i,0,"",#[],some (j,w)⟩
abbrev oN(i:Op):Oper:=⟨none,i,0,"",#[],none⟩
abbrev oMv(n:Nat):Op:=.move (.tmp n)
abbrev oLd(y n:Nat):Op:=.load y (.tmp n)
abbrev oFa(y n f:Nat):Op:=.fieldAddr y (.tmp n) f
abbrev oIx(y n i:Nat):Op:=.indexAddr y (.tmp n) (.tmp i)
abbrev oCa(f:Nat)(a:Array Operand)(y:Array TypeId):Op:=.call {callee:=.value (.func f),args:=a,argTypes:=y}
abbrev oBu(f:Builtin)(a:Array Operand)(y:Array TypeId):Op:=.call {callee:=.builtin f,args:=a,argTypes:=y}
abbrev oAs(n:Nat):Op:=.assign (.tmp n)
abbrev oTt(n:Nat):Operand:=.tmp n
abbrev oCi(n:Int):Operand:=.const (.int .i64 n)
abbrev oRg(l:List Oper):Code:=.region 0 l.toArray false
abbrev oSQ(a x z:Code):Prop:=∀ {b:Nat} {D0:CallF} {C:CallP} {rd:Option Nat} (s:St) (K:Exit→St→Prop),Wv (E b) C D0 rd a s K=Wv (E b) C D0 rd x s (Xnu (Zme (E b) C D0 rd z K) K)
abbrev oBQ(n:Nat)(a x:Code):Prop:=∀ {b:Nat} {D0:CallF} {C:CallP} {rd:Option Nat} (s:St) (K:Exit→St→Prop),Wv (E b) C D0 rd a s K=Wv (E b) C D0 rd x s (Qyn n K)
abbrev oRQ(a:Code)(o l:List Oper):Prop:=∀ {b:Nat} {D0:CallF} {C:CallP} {rd:Option Nat} (s:St) (K:Exit→St→Prop),Wv (E b) C D0 rd a s K=Xzk (E b) C rd o K l s
@[simp] theorem oGs {b:Nat} {D0:CallF} {C:CallP} {rd:Option Nat} {x z:Code} (s:St) (K:Exit→St→Prop):Wv (E b) C D0 rd (.seq x z) s K=Wv (E b) C D0 rd x s (Xnu (Zme (E b) C D0 rd z K) K):=rfl
@[simp] theorem oGb {b:Nat} {D0:CallF} {C:CallP} {rd:Option Nat} {n:Nat} {x:Code} (s:St) (K:Exit→St→Prop):Wv (E b) C D0 rd (.block n x) s K=Wv (E b) C D0 rd x s (Qyn n K):=rfl
@[simp] theorem oGt {b:Nat} {D0:CallF} {C:CallP} {rd:Option Nat} {c:Operand} {x z:Code} (s:St) (K:Exit→St→Prop) (h:aev (E b).G s.t c=some (.bool true)):Wv (E b) C D0 rd (.cond c x z) s K=Wv (E b) C D0 rd x s K:=Zn2 h
@[simp] theorem oGf {b:Nat} {D0:CallF} {C:CallP} {rd:Option Nat} {c:Operand} {x z:Code} (s:St) (K:Exit→St→Prop) (h:aev (E b).G s.t c=some (.bool false)):Wv (E b) C D0 rd (.cond c x z) s K=Wv (E b) C D0 rd z s K:=Zmn h
@[simp] theorem oGr {b:Nat} {D0:CallF} {C:CallP} {rd:Option Nat} {o:List Oper} (s:St) (K:Exit→St→Prop):Wv (E b) C D0 rd (.region 0 o.toArray false) s K=Xzk (E b) C rd o K o s:=rfl
noncomputable def Qq2:Func:=(Tryd.prog.funcs[16]?).getD default
theorem Zd(b:Nat):(mkE Tryd.prog nv b).fn.get 16=some Qq2:=by kernel_rfl
noncomputable def Qq9:Func:=(Tryd.prog.funcs[46]?).getD default
theorem Jg(b:Nat):(mkE Tryd.prog nv b).fn.get 46=some Qq9:=by kernel_rfl
theorem Xw(x y:Int):Qbv (binOp .lss 3 (.int .i64 x) (.int .i64 y))=some (.bool (decide (x < y))):=by kernel_rfl
noncomputable def Qpg:Func:=(Tryd.prog.funcs[47]?).getD default
theorem Qaj(b:Nat):(mkE Tryd.prog nv b).fn.get 47=some Qpg:=by kernel_rfl
noncomputable def R47:TyRec:=((mkE Tryd.prog nv 0).ty.get 47).getD ⟨.invalid,0,0,.bool false,[]⟩
theorem Xqz(b:Nat):(E b).toEnv.ty.get 47=some R47:=by kernel_rfl
theorem Zha:Qep R47.desc=false:=by kernel_rfl
theorem Qdj:R47.size=1:=by kernel_rfl
theorem Xve:R47.bytes=24:=by kernel_rfl
noncomputable def R5:TyRec:=((mkE Tryd.prog nv 0).ty.get 5).getD ⟨.invalid,0,0,.bool false,[]⟩
theorem Y5r(b:Nat):(E b).toEnv.ty.get 5=some R5:=by kernel_rfl
theorem Zmd:Qep R5.desc=false:=by kernel_rfl
theorem Qbg:R5.size=1:=by kernel_rfl
theorem Qmm:R5.bytes=1:=by kernel_rfl
theorem Y1h:R5.zero=(.int .u8 0):=by kernel_rfl
theorem T47(b:Nat):SlTy (E b).toEnv 5 47 R5 R47:=⟨Y5r b,Xqz b,by kernel_rfl⟩
theorem Yi(x y:Int):Qbv (binOp .add 3 (.int .i64 x) (.int .i64 y))=some (.int .i64 (IntKind.wrap .i64 (x+y))):=by kernel_rfl
theorem Yj(b:Nat)(a:Option Addr)(n c:Nat)(h:Heap):Qkb (E b).toEnv 47 (.slice a n c) h=some (.int .i64 n):=by kernel_rfl
theorem Uh(b:Nat){bk o n c:Nat}{k:IntKind}{i:Int}(h:0≤i∧i < n):Zn (E b).toEnv 47 (.slice (some ⟨bk,o,none⟩) n c) (.int k i)=some (.pointer (some ⟨bk,o+i.toNat*1,none⟩)):=Qhi (T47 b) Qbg h
theorem Qd8(b:Nat)(h:Heap)(bk o:Nat):Qih (E b).toEnv 5 (.pointer (some ⟨bk,o,none⟩)) h=V2 h bk o:=Q4v (Y5r b) Zmd
theorem Vx(x y:Int):Qbv (binOp .mul 3 (.int .i64 x) (.int .i64 y))=some (.int .i64 (IntKind.wrap .i64 (x*y))):=by kernel_rfl
theorem J7(b:Nat):Qmr (E b).toEnv 3 5=true:=by kernel_rfl
theorem J8(b:Nat)(k:IntKind)(n:Int):Qli (E b).toEnv 3 5 (.int k n)=some (.int .u8 (IntKind.wrap .u8 n)):=by kernel_rfl
noncomputable def Qpv:Func:=(Tryd.prog.funcs[12]?).getD default
theorem Y7(b:Nat):(mkE Tryd.prog nv b).fn.get 12=some Qpv:=by kernel_rfl
theorem Qdl(x y:Int):Qbv (binOp .neq 3 (.int .i64 x) (.int .i64 y))=some (.bool (!(decide (x=y)))):=by kernel_rfl
theorem Quj(x y:Int):Qbv (binOp .eql 5 (.int .u8 x) (.int .u8 y))=some (.bool (decide (x=y))):=by kernel_rfl
noncomputable def Qpy:Func:=(Tryd.prog.funcs[22]?).getD default
theorem Z9(b:Nat):(mkE Tryd.prog nv b).fn.get 22=some Qpy:=by kernel_rfl
noncomputable def Qsb:Func:=(Tryd.prog.funcs[24]?).getD default
theorem Jk(b:Nat):(mkE Tryd.prog nv b).fn.get 24=some Qsb:=by kernel_rfl
theorem Zk(x y:Int):Qbv (binOp .gtr 3 (.int .i64 x) (.int .i64 y))=some (.bool (decide (x > y))):=by kernel_rfl
theorem W9(b:Nat):Qmr (E b).toEnv 5 3=true:=by kernel_rfl
theorem Wb(b:Nat)(k:IntKind)(n:Int):Qli (E b).toEnv 5 3 (.int k n)=some (.int .i64 (IntKind.wrap .i64 n)):=by kernel_rfl
noncomputable def Zl0:TyRec:=((mkE Tryd.prog nv 0).ty.get 103).getD ⟨.invalid,0,0,.bool false,[]⟩
theorem Y87(b:Nat):(E b).toEnv.ty.get 103=some Zl0:=by kernel_rfl
theorem Zed:Qep Zl0.desc=true:=by kernel_rfl
theorem Qsl:Zl0.size=2:=by kernel_rfl
theorem Ymy:Zl0.bytes=32:=by kernel_rfl
theorem Qi1(b:Nat)(h:Heap):Qe4 (E b).toEnv 103 h=some (.pointer (some ⟨h.next,0,none⟩),h.push (.cells true 1 [(.int .i64 0),(.slice none 0 0)])):=by kernel_rfl
theorem Qi8(b:Nat)(h:Heap)(bk o:Nat)(l:List Value)(hl:l.length=2):Qeu (E b).toEnv 103 (.pointer (some ⟨bk,o,none⟩)) (.agg ⟨l⟩) h=Wg h bk o l:=X7y (Y87 b) (by rw[Qsl];exact hl)
theorem Wq(x y:Int):Qbv (binOp .leq 3 (.int .i64 x) (.int .i64 y))=some (.bool (decide (x≤y))):=by kernel_rfl
noncomputable def Qva:Func:=(Tryd.prog.funcs[63]?).getD default
theorem Qcv(b:Nat):(mkE Tryd.prog nv b).fn.get 63=some Qva:=by kernel_rfl
theorem Zm(b bk o:Nat):Ua (E b).toEnv 103 (.pointer (some ⟨bk,o,none⟩)) 1=some (.pointer (some ⟨bk,o+1,none⟩)):=by kernel_rfl
theorem Znb(b:Nat)(h:Heap)(bk o:Nat)(v:Value)(hv:Yhp v=true):Qeu (E b).toEnv 47 (.pointer (some ⟨bk,o,none⟩)) v h=Wg h bk o [v]:=Xav (Xqz b) Qdj hv
theorem Qj6(b:Nat)(h:Heap)(bk o:Nat)(a:Option Addr)(n c:Nat):Qeu (E b).toEnv 47 (.pointer (some ⟨bk,o,none⟩)) (.slice a n c) h=Wg h bk o [(.slice a n c)]:=Xav (Xqz b) Qdj rfl
theorem Qhv(b:Nat)(h:Heap)(bk o:Nat):Qih (E b).toEnv 103 (.pointer (some ⟨bk,o,none⟩)) h=Qgi h bk o 2:=Xuv (Y87 b) Zed Qsl
noncomputable def R67:TyRec:=((mkE Tryd.prog nv 0).ty.get 67).getD ⟨.invalid,0,0,.bool false,[]⟩
theorem Zp8(b:Nat):(E b).toEnv.ty.get 67=some R67:=by kernel_rfl
theorem T67(b:Nat):SlTy (E b).toEnv 103 67 Zl0 R67:=⟨Y87 b,Zp8 b,by kernel_rfl⟩
theorem Qpd(b:Nat)(a:Option Addr)(n c:Nat)(h:Heap):Qkb (E b).toEnv 67 (.slice a n c) h=some (.int .i64 n):=by kernel_rfl
noncomputable def Qur:Func:=(Tryd.prog.funcs[56]?).getD default
theorem Zg(b:Nat):(mkE Tryd.prog nv b).fn.get 56=some Qur:=by kernel_rfl
noncomputable def Zna:TyRec:=((mkE Tryd.prog nv 0).ty.get 120).getD ⟨.invalid,0,0,.bool false,[]⟩
theorem Y88(b:Nat):(E b).toEnv.ty.get 120=some Zna:=by kernel_rfl
theorem Zdx:Qep Zna.desc=true:=by kernel_rfl
theorem Qp8:Zna.size=2:=by kernel_rfl
theorem Ymp:Zna.bytes=32:=by kernel_rfl
theorem Xov(b:Nat)(h:Heap):Qe4 (E b).toEnv 120 h=some (.pointer (some ⟨h.next,0,none⟩),h.push (.cells true 1 [(.int .i64 0),(.slice none 0 0)])):=by kernel_rfl
theorem Xos(b:Nat)(h:Heap)(bk o:Nat)(l:List Value)(hl:l.length=2):Qeu (E b).toEnv 120 (.pointer (some ⟨bk,o,none⟩)) (.agg ⟨l⟩) h=Wg h bk o l:=X7y (Y88 b) (by rw[Qp8];exact hl)
theorem Vz(b bk o:Nat):Ua (E b).toEnv 120 (.pointer (some ⟨bk,o,none⟩)) 1=some (.pointer (some ⟨bk,o+1,none⟩)):=by kernel_rfl
theorem Qdr(b:Nat)(h:Heap)(bk o:Nat):Qih (E b).toEnv 120 (.pointer (some ⟨bk,o,none⟩)) h=Qgi h bk o 2:=Xuv (Y88 b) Zdx Qp8
noncomputable def Zpy:TyRec:=((mkE Tryd.prog nv 0).ty.get 114).getD ⟨.invalid,0,0,.bool false,[]⟩
theorem Zma(b:Nat):(E b).toEnv.ty.get 114=some Zpy:=by kernel_rfl
theorem Zfl(b:Nat):SlTy (E b).toEnv 120 114 Zna Zpy:=⟨Y88 b,Zma b,by kernel_rfl⟩
theorem Qdz(b:Nat)(a:Option Addr)(n c:Nat)(h:Heap):Qkb (E b).toEnv 114 (.slice a n c) h=some (.int .i64 n):=by kernel_rfl
abbrev Qf6:List Oper:=[oP 2 (.assign (.const (.slice none 0 0)))]
abbrev X1m:Code:=oRg Qf6
abbrev Xzo:List Oper:=[oP 5 (oMv 0),oP 6 (oCa 46 #[(oTt 5)] #[47]),oP 3 (oAs 6)]
abbrev X5i:Code:=oRg Xzo
abbrev Qrh:List Oper:=[oP 4 (.assign (oCi 0))]
abbrev X6n:Code:=oRg Qrh
abbrev Xym:List Oper:=[oP 7 (oMv 4),oP 8 (.binOp .lss 3 (oTt 7) (oCi 5) 3)]
abbrev X6c:Code:=oRg Xym
abbrev X3e:Code:=.cond (.tmp 8) .skip (.exit 0)
abbrev X3a:Code:=.seq X6c X3e
abbrev Xu3:List Oper:=[oP 11 (oMv 3),oP 12 (oMv 4),oP 13 (oCa 47 #[(oTt 12)] #[3]),oP 14 (.buildSlice 47 1 #[(0,(oTt 13))]),oP 15 (oBu .append #[(oTt 11),(oTt 14)] #[47,47]),oP 3 (oAs 15)]
abbrev Xza:Code:=oRg Xu3
abbrev Xx0:Code:=.block 1 Xza
abbrev Qpb:List Oper:=[oP 9 (oMv 4),oP 10 (.binOp .add 3 (oTt 9) (oCi 1) 3),oP 4 (oAs 10)]
abbrev Xye:Code:=oRg Qpb
abbrev Xzn:Code:=.seq Xx0 Xye
abbrev X4o:Code:=.seq X3a Xzn
def Xz3:Code:=.loop X4o
abbrev X0m:Code:=.block 0 Xz3
abbrev X40:Code:=.seq X6n X0m
abbrev Xwc:List Oper:=[oP 16 (oMv 3),oP 2 (oAs 16)]
abbrev X08:Code:=oRg Xwc
abbrev Xxt:Code:=.seq X08 .ret
abbrev Xwp:Code:=.seq X40 Xxt
abbrev X4n:Code:=.seq X5i Xwp
abbrev X47:Code:=.seq X1m X4n
def Qg5:Code:=X47
theorem X3d:Ww (Za 16)=Qg5:=by kernel_rfl
theorem Xv1:Qq2.body=some (Za 16):=by kernel_rfl
theorem X7t:Qq2.ntmps=17:=by kernel_rfl
theorem Qkn:Qq2.results.toList=[.tmp 2]:=by kernel_rfl
def Xaz:List Oper:=Qf6
def Xb7:Code:=oRg Xaz
theorem Ql8:oRQ Xb7 Xaz Qf6:=fun _ _=>rfl
abbrev Xxw:List Oper:=[oP 3 (.assign (.const (.slice none 0 0)))]
abbrev X6f:Code:=oRg Xxw
def Xax:List Oper:=Qrh
def Xak:Code:=oRg Xax
theorem Qlm:oRQ Xak Xax Qrh:=fun _ _=>rfl
abbrev Xz2:List Oper:=[oP 5 (oMv 4),oP 6 (oMv 0),oP 7 (oBu .len #[(oTt 6)] #[47]),oP 8 (.binOp .lss 3 (oTt 5) (oTt 7) 3)]
abbrev X2x:Code:=oRg Xz2
abbrev X2d:Code:=.cond (.tmp 8) .skip (.exit 0)
abbrev X3t:Code:=.seq X2x X2d
abbrev Xwa:List Oper:=[oP 11 (oMv 3),oP 12 (oMv 0),oP 13 (oMv 4),oP 14 (oIx 47 12 13),oP 15 (oLd 5 14),oP 16 (.buildSlice 47 1 #[(0,(oTt 15))]),oP 17 (oBu .append #[(oTt 11),(oTt 16)] #[47,47]),oP 3 (oAs 17)]
abbrev Xyx:Code:=oRg Xwa
abbrev X0j:Code:=.block 1 Xyx
def Q5r:List Oper:=Qpb
def Q3v:Code:=oRg Q5r
theorem Qk6:oRQ Q3v Q5r Qpb:=fun _ _=>rfl
abbrev Xy3:Code:=.seq X0j Q3v
abbrev X1i:Code:=.seq X3t Xy3
def X01:Code:=.loop X1i
abbrev X0c:Code:=.block 0 X01
abbrev X1w:Code:=.seq Xak X0c
abbrev Xue:List Oper:=[oP 18 (oMv 3),oP 2 (oAs 18)]
abbrev Xy5:Code:=oRg Xue
abbrev Xzr:Code:=.seq Xy5 .ret
abbrev Xy4:Code:=.seq X1w Xzr
abbrev X42:Code:=.seq X6f Xy4
abbrev X3k:Code:=.seq Xb7 X42
def Qi7:Code:=X3k
theorem X3v:Ww (Za 46)=Qi7:=by kernel_rfl
theorem Xw9:Qq9.body=some (Za 46):=by kernel_rfl
theorem X8g:Qq9.ntmps=19:=by kernel_rfl
theorem Qod:Qq9.results.toList=[.tmp 2]:=by kernel_rfl
abbrev Xwr:List Oper:=[oP 2 (.assign (.const (.int .u8 0)))]
abbrev X5k:Code:=oRg Xwr
abbrev Xwm:List Oper:=[oP 3 (oMv 0),oP 4 (.binOp .mul 3 (oCi 7) (oTt 3) 3),oP 5 (.binOp .add 3 (oCi 201) (oTt 4) 3),oP 6 (.convert 3 5 (oTt 5)),oP 2 (oAs 6)]
abbrev X1x:Code:=oRg Xwm
abbrev X22:Code:=.seq X1x .ret
abbrev X4x:Code:=.seq X5k X22
def Q0j:Code:=X4x
theorem X2g:Ww (Za 47)=Q0j:=by kernel_rfl
theorem Xvg:Qpg.body=some (Za 47):=by kernel_rfl
theorem Ydt:Qpg.ntmps=7:=by kernel_rfl
theorem X30:Qpg.results.toList=[.tmp 2]:=by kernel_rfl
abbrev Qcy:List Oper:=[oP 4 (.assign (.const (.bool false)))]
abbrev X6t:Code:=oRg Qcy
abbrev Xyq:List Oper:=[oP 6 (oMv 0),oP 7 (oBu .len #[(oTt 6)] #[47]),oP 8 (oMv 1),oP 9 (oBu .len #[(oTt 8)] #[47]),oP 10 (.binOp .neq 3 (oTt 7) (oTt 9) 3)]
abbrev X46:Code:=oRg Xyq
def Xbb:List Oper:=Qcy
def Xb1:Code:=oRg Xbb
theorem Qg3:oRQ Xb1 Xbb Qcy:=fun _ _=>rfl
abbrev X6m:Code:=.seq Xb1 .ret
abbrev X4z:Code:=.cond (.tmp 10) X6m .skip
abbrev X33:Code:=.seq X46 X4z
abbrev Qrp:List Oper:=[oP 5 (.assign (oCi 0))]
abbrev X2z:Code:=oRg Qrp
abbrev Qqb:List Oper:=[oP 11 (oMv 5),oP 12 (oMv 0),oP 13 (oBu .len #[(oTt 12)] #[47]),oP 14 (.binOp .lss 3 (oTt 11) (oTt 13) 3)]
abbrev Xzh:Code:=oRg Qqb
abbrev Xx7:Code:=.cond (.tmp 14) .skip (.exit 0)
abbrev Xy1:Code:=.seq Xzh Xx7
noncomputable def Qko:Array Oper:=Qmw (Qms 6 (Za 12))
def X2w:Code:=.region 6 Qko true
abbrev Xum:List Oper:=[oP 17 (oMv 0),oP 18 (oMv 5),oP 19 (oIx 47 17 18),oP 20 (oLd 5 19),oP 21 (oMv 1),oP 22 (oMv 5),oP 23 (oIx 47 21 22),oP 24 (oLd 5 23),oP 25 (.binOp .eql 5 (oTt 20) (oTt 24) 5),oP 26 (.unOp .not 4 (oTt 25))]
theorem Qsn:Qko.toList.map bare=Xum:=by kernel_rfl
def Q0m:List Nat:=[0,0,3,7,0,0,48,112,255,511]
theorem Qt0:Qpo Qko.toList []=some Q0m:=by kernel_rfl
theorem Qr5:Wm Qko.toList Qko.toList Q0m []=true:=by kernel_rfl
def Q3x:List Oper:=Qcy
def Q34:Code:=oRg Q3x
theorem Qf3:oRQ Q34 Q3x Qcy:=fun _ _=>rfl
abbrev Xxa:Code:=.seq Q34 .ret
abbrev Xzc:Code:=.cond (.tmp 26) Xxa .skip
abbrev Xy2:Code:=.seq X2w Xzc
abbrev Xyd:Code:=.block 1 Xy2
abbrev Xw7:List Oper:=[oP 15 (oMv 5),oP 16 (.binOp .add 3 (oTt 15) (oCi 1) 3),oP 5 (oAs 16)]
abbrev Xzy:Code:=oRg Xw7
abbrev Xz8:Code:=.seq Xyd Xzy
abbrev Xx8:Code:=.seq Xy1 Xz8
def Xyi:Code:=.loop Xx8
abbrev Xyw:Code:=.block 0 Xyi
abbrev X3r:Code:=.seq X2z Xyw
abbrev Xun:List Oper:=[oP 4 (.assign (.const (.bool true)))]
abbrev Xxy:Code:=oRg Xun
abbrev Xwu:Code:=.seq Xxy .ret
abbrev Xy8:Code:=.seq X3r Xwu
abbrev X1c:Code:=.seq X33 Xy8
abbrev X51:Code:=.seq X6t X1c
def Qee:Code:=X51
theorem X28:Ww (Za 12)=Qee:=by kernel_rfl
theorem Xvt:Qpv.body=some (Za 12):=by kernel_rfl
theorem Yd0:Qpv.ntmps=27:=by kernel_rfl
theorem Qhn:Qpv.results.toList=[.tmp 4]:=by kernel_rfl
def Xan:List Oper:=Qcy
def Xai:Code:=oRg Xan
theorem Qg6:oRQ Xai Xan Qcy:=fun _ _=>rfl
abbrev Q3u:List Oper:=[oP 7 (oMv 0),oP 8 (oBu .len #[(oTt 7)] #[47]),oP 9 (oMv 1),oP 10 (oBu .len #[(oTt 9)] #[47]),oP 11 (.binOp .add 3 (oTt 10) (oCi 5) 3),oP 12 (.binOp .neq 3 (oTt 8) (oTt 11) 3),oP 13 (oMv 12),oG 6 false 14 (oMv 0),oG 6 false 15 (oMv 1),oG 6 false 16 (oBu .len #[(oTt 15)] #[47]),oG 6 false 17 (.slice 47 (oTt 14) none (some (oTt 16)) none),oG 6 false 18 (oMv 1),oG 6 false 19 (oCa 12 #[(oTt 17),(oTt 18)] #[47,47]),oG 6 false 20 (.unOp .not 4 (oTt 19)),oP 21 (.pick (oTt 13) (.const (.bool true)) (oTt 20))]
def Qtt:List Oper:=Q3u
def Xb9:Code:=oRg Qtt
theorem Qg7:oRQ Xb9 Qtt Q3u:=fun _ _=>rfl
theorem Qfj:nth Qtt 6=some ⟨(some 13),.move (.tmp 12),0,"",#[],none⟩:=rfl
def Xaw:List Oper:=Qcy
def Xbc:Code:=oRg Xaw
theorem Qg1:oRQ Xbc Xaw Qcy:=fun _ _=>rfl
abbrev X3y:Code:=.seq Xbc .ret
abbrev X2y:Code:=.cond (.tmp 21) X3y .skip
abbrev X4u:Code:=.seq Xb9 X2y
abbrev Xyc:List Oper:=[oP 5 (.assign (.const (.slice none 0 0)))]
abbrev X2r:Code:=oRg Xyc
abbrev Xsu:List Oper:=[oP 6 (.assign (oCi 0))]
abbrev Xwq:Code:=oRg Xsu
abbrev Xsw:List Oper:=[oP 22 (oMv 6),oP 23 (.binOp .lss 3 (oTt 22) (oCi 5) 3)]
abbrev Xxf:Code:=oRg Xsw
abbrev Xzj:Code:=.cond (.tmp 23) .skip (.exit 0)
abbrev Xze:Code:=.seq Xxf Xzj
abbrev Xw2:List Oper:=[oP 26 (oMv 5),oP 27 (oMv 6),oP 28 (oCa 47 #[(oTt 27)] #[3]),oP 29 (.buildSlice 47 1 #[(0,(oTt 28))]),oP 30 (oBu .append #[(oTt 26),(oTt 29)] #[47,47]),oP 5 (oAs 30)]
abbrev Xxe:Code:=oRg Xw2
abbrev Xx5:Code:=.block 1 Xxe
abbrev Xtq:List Oper:=[oP 24 (oMv 6),oP 25 (.binOp .add 3 (oTt 24) (oCi 1) 3),oP 6 (oAs 25)]
abbrev Xyh:Code:=oRg Xtq
abbrev Xzu:Code:=.seq Xx5 Xyh
abbrev Xyn:Code:=.seq Xze Xzu
def Xyp:Code:=.loop Xyn
abbrev Xz1:Code:=.block 0 Xyp
abbrev Xx2:Code:=.seq Xwq Xz1
abbrev Xtb:List Oper:=[oP 31 (oMv 0),oP 32 (oMv 1),oP 33 (oBu .len #[(oTt 32)] #[47]),oP 34 (.slice 47 (oTt 31) (some (oTt 33)) none none),oP 35 (oMv 5),oP 36 (oCa 12 #[(oTt 34),(oTt 35)] #[47,47]),oP 4 (oAs 36)]
abbrev Xx4:Code:=oRg Xtb
abbrev Xyz:Code:=.seq Xx4 .ret
abbrev Xxh:Code:=.seq Xx2 Xyz
abbrev X5q:Code:=.seq X2r Xxh
abbrev X6j:Code:=.seq X4u X5q
abbrev X1q:Code:=.seq Xai X6j
def Qej:Code:=X1q
theorem X1k:Ww (Za 22)=Qej:=by kernel_rfl
theorem Xtf:Qpy.body=some (Za 22):=by kernel_rfl
theorem Ybz:Qpy.ntmps=37:=by kernel_rfl
theorem Qhq:Qpy.results.toList=[.tmp 4]:=by kernel_rfl
abbrev Qu8:List Oper:=[oP 2 (.assign (.const (.slice none 0 0))),oP 3 (.assign (oCi 0))]
abbrev X7z:Code:=oRg Qu8
abbrev X6q:List Oper:=[oP 7 (oMv 0),oP 8 (oBu .len #[(oTt 7)] #[47]),oP 9 (.binOp .gtr 3 (oTt 8) (oCi 256) 3)]
abbrev Ye0:Code:=oRg X6q
abbrev Qbr:List Oper:=[oP 2 (.assign (.const (.slice none 0 0))),oP 3 (.assign (oCi 16))]
abbrev X8y:Code:=oRg Qbr
abbrev Yek:Code:=.seq X8y .ret
abbrev X8w:Code:=.cond (.tmp 9) Yek .skip
abbrev Ye6:Code:=.seq Ye0 X8w
abbrev Qu6:List Oper:=[oP 4 (.assign (.const (.slice none 0 0)))]
abbrev Yb9:Code:=oRg Qu6
abbrev X04:List Oper:=[oP 10 (oMv 0),oP 11 (oBu .len #[(oTt 10)] #[47]),oP 12 (.binOp .gtr 3 (oTt 11) (oCi 0) 3)]
abbrev X68:Code:=oRg X04
abbrev X5o:Code:=.cond (.tmp 12) .skip (.exit 0)
abbrev X1t:Code:=.seq X68 X5o
abbrev Xwj:List Oper:=[oP 13 (oMv 0),oP 14 (.indexAddr 47 (oTt 13) (oCi 0)),oP 15 (oLd 5 14),oP 16 (.convert 5 3 (oTt 15)),oP 5 (oAs 16)]
abbrev X1a:Code:=oRg Xwj
abbrev Xzs:List Oper:=[oP 17 (oMv 0),oP 18 (.slice 47 (oTt 17) (some (oCi 1)) none none),oP 0 (oAs 18)]
abbrev X53:Code:=oRg Xzs
abbrev Xxb:List Oper:=[oP 19 (oMv 5),oP 20 (.build 103 #[(0,(oTt 19))]),oP 6 (.alloc 103),oN (.store 103 (oTt 6) (oTt 20))]
abbrev X24:Code:=oRg Xxb
abbrev Q3l:List Oper:=[oP 22 (oMv 5),oP 23 (.binOp .leq 3 (oTt 22) (oCi 64) 3),oP 24 (oMv 23),oG 2 true 25 (oMv 5),oG 2 true 26 (oMv 0),oG 2 true 27 (oBu .len #[(oTt 26)] #[47]),oG 2 true 28 (.binOp .leq 3 (oTt 25) (oTt 27) 3),oP 29 (.pick (oTt 24) (oTt 28) (.const (.bool false))),oP 21 (oAs 29)]
def Qtv:List Oper:=Q3l
def Xb4:Code:=oRg Qtv
theorem Qbd:oRQ Xb4 Qtv Q3l:=fun _ _=>rfl
theorem Qap:nth Qtv 2=some ⟨(some 24),.move (.tmp 23),0,"",#[],none⟩:=rfl
abbrev X0i:List Oper:=[oP 30 (oMv 0),oP 31 (oMv 5),oP 32 (.slice 47 (oTt 30) none (some (oTt 31)) none),oP 33 (oCa 63 #[(oTt 32)] #[47]),oP 34 (oFa 103 6 1),oN (.store 47 (oTt 34) (oTt 33))]
abbrev X4i:Code:=oRg X0i
abbrev Xxr:List Oper:=[oP 35 (oMv 0),oP 36 (oMv 5),oP 37 (.slice 47 (oTt 35) (some (oTt 36)) none none),oP 0 (oAs 37)]
abbrev X1d:Code:=oRg Xxr
abbrev X2t:Code:=.seq X4i X1d
abbrev Q3m:List Oper:=[oP 39 (oMv 5),oP 40 (.binOp .lss 3 (oTt 39) (oCi 129) 3),oP 41 (oMv 40),oG 2 false 42 (oMv 5),oG 2 false 43 (.binOp .gtr 3 (oTt 42) (oCi 139) 3),oP 44 (.pick (oTt 41) (.const (.bool true)) (oTt 43)),oP 38 (oAs 44)]
def Qu3:List Oper:=Q3m
def Xar:Code:=oRg Qu3
theorem Qbc:oRQ Xar Qu3 Q3m:=fun _ _=>rfl
theorem Qaq:nth Qu3 2=some ⟨(some 41),.move (.tmp 40),0,"",#[],none⟩:=rfl
def Xao:List Oper:=Qbr
def Xau:Code:=oRg Xao
theorem Qb9:oRQ Xau Xao Qbr:=fun _ _=>rfl
abbrev X5p:Code:=.seq Xau .ret
abbrev X56:Code:=.cond (.tmp 38) X5p .skip
abbrev X6g:Code:=.seq Xar X56
abbrev X3p:Code:=.cond (.tmp 21) X2t X6g
abbrev X27:Code:=.seq Xb4 X3p
abbrev X2e:Code:=.block 2 X27
abbrev X09:List Oper:=[oP 45 (oMv 4),oP 46 (oLd 103 6),oP 47 (.buildSlice 67 1 #[(0,(oTt 46))]),oP 48 (oBu .append #[(oTt 45),(oTt 47)] #[67,67]),oP 4 (oAs 48)]
abbrev X62:Code:=oRg X09
abbrev X3g:Code:=.seq X2e X62
abbrev X1f:Code:=.seq X24 X3g
abbrev X34:Code:=.seq X53 X1f
abbrev X2s:Code:=.seq X1a X34
abbrev X1r:Code:=.block 1 X2s
abbrev X35:Code:=.seq X1t X1r
def X5w:Code:=.loop X35
abbrev X1p:Code:=.block 0 X5w
abbrev X03:List Oper:=[oP 49 (oMv 4),oP 50 (oBu .len #[(oTt 49)] #[67]),oP 51 (.binOp .gtr 3 (oTt 50) (oCi 64) 3)]
abbrev X5s:Code:=oRg X03
def Xb3:List Oper:=Qbr
def Xbd:Code:=oRg Xb3
theorem Qbb:oRQ Xbd Xb3 Qbr:=fun _ _=>rfl
abbrev X6i:Code:=.seq Xbd .ret
abbrev X63:Code:=.cond (.tmp 51) X6i .skip
abbrev X6a:Code:=.seq X5s X63
abbrev Xyt:List Oper:=[oP 52 (oMv 4),oP 2 (oAs 52),oP 3 (.assign (oCi 0))]
abbrev X3q:Code:=oRg Xyt
abbrev X2o:Code:=.seq X3q .ret
abbrev X4f:Code:=.seq X6a X2o
abbrev X6p:Code:=.seq X1p X4f
abbrev Yas:Code:=.seq Yb9 X6p
abbrev X86:Code:=.seq Ye6 Yas
abbrev X7s:Code:=.seq X7z X86
def Qb0:Code:=X7s
theorem X8x:Ww (Za 24)=Qb0:=by kernel_rfl
theorem Xzt:Qsb.body=some (Za 24):=by kernel_rfl
theorem Yj6:Qsb.ntmps=53:=by kernel_rfl
theorem Qdi:Qsb.results.toList=[.tmp 2,.tmp 3]:=by kernel_rfl
def Xoo:List Oper:=Qf6
def Xp2:Code:=oRg Xoo
theorem X2a:oRQ Xp2 Xoo Qf6:=fun _ _=>rfl
abbrev Yc5:List Oper:=[oP 3 (oMv 0),oP 4 (.binOp .eql 47 (oTt 3) (.const (.slice none 0 0)) 47)]
abbrev Ylq:Code:=oRg Yc5
def Xpg:List Oper:=Qf6
def Xph:Code:=oRg Xpg
theorem X37:oRQ Xph Xpg Qf6:=fun _ _=>rfl
abbrev Yiq:Code:=.seq Xph .ret
abbrev Yll:Code:=.cond (.tmp 4) Yiq .skip
abbrev Ymc:Code:=.seq Ylq Yll
abbrev Ygq:List Oper:=[oP 5 (.buildSlice 47 0 #[]),oP 6 (oMv 0),oP 7 (oBu .append #[(oTt 5),(oTt 6)] #[47,47]),oP 2 (oAs 7)]
abbrev Yhs:Code:=oRg Ygq
abbrev Yjn:Code:=.seq Yhs .ret
abbrev Yit:Code:=.seq Ymc Yjn
abbrev Yl6:Code:=.seq Xp2 Yit
def Xb0:Code:=Yl6
theorem Yj9:Ww (Za 63)=Xb0:=by kernel_rfl
theorem X29:Qva.body=some (Za 63):=by kernel_rfl
theorem Ypx:Qva.ntmps=8:=by kernel_rfl
theorem Yjm:Qva.results.toList=[.tmp 2]:=by kernel_rfl
def Xom:List Oper:=Qu8
def Xpo:Code:=oRg Xom
theorem Qcr:oRQ Xpo Xom Qu8:=fun _ _=>rfl
def Xor:List Oper:=Qu6
def Xon:Code:=oRg Xor
theorem Qct:oRQ Xon Xor Qu6:=fun _ _=>rfl
abbrev Yho:List Oper:=[oP 8 (oMv 0),oP 9 (oBu .len #[(oTt 8)] #[47]),oP 10 (.binOp .gtr 3 (oTt 9) (oCi 256) 3)]
abbrev Ykd:Code:=oRg Yho
def Xot:List Oper:=Qbr
def Xou:Code:=oRg Xot
theorem Qcs:oRQ Xou Xot Qbr:=fun _ _=>rfl
abbrev Yla:Code:=.seq Xou .ret
abbrev Yle:Code:=.cond (.tmp 10) Yla .skip
abbrev Ym5:Code:=.seq Ykd Yle
def Xgl:List Oper:=Qrp
def Xju:Code:=oRg Xgl
theorem Qc1:oRQ Xju Xgl Qrp:=fun _ _=>rfl
def Xk0:List Oper:=Qqb
def Xk3:Code:=oRg Xk0
theorem Qbx:oRQ Xk3 Xk0 Qqb:=fun _ _=>rfl
abbrev Yf4:Code:=.cond (.tmp 14) .skip (.exit 0)
abbrev Ya3:Code:=.seq Xk3 Yf4
abbrev X3f:List Oper:=[oP 15 (oMv 0),oP 16 (oMv 5),oP 17 (oIx 47 15 16),oP 18 (oLd 5 17),oP 19 (.convert 5 3 (oTt 18)),oP 6 (oAs 19)]
abbrev Ydb:Code:=oRg X3f
abbrev Xat:List Oper:=[oP 20 (oMv 6),oP 21 (.binOp .gtr 3 (oTt 20) (oCi 64) 3),oP 22 (oMv 21),oG 2 true 23 (oMv 6),oG 2 true 24 (.binOp .lss 3 (oTt 23) (oCi 129) 3),oG 2 true 25 (oMv 24),oG 5 false 26 (oMv 6),oG 5 false 27 (.binOp .gtr 3 (oTt 26) (oCi 139) 3),oG 2 true 28 (.pick (oTt 25) (.const (.bool true)) (oTt 27)),oP 29 (.pick (oTt 22) (oTt 28) (.const (.bool false))),oP 30 (oMv 29),oG 10 false 31 (oMv 6),oG 10 false 32 (.binOp .leq 3 (oTt 31) (oCi 64) 3),oG 10 false 33 (oMv 32),oG 13 true 34 (oMv 5),oG 13 true 35 (.binOp .add 3 (oTt 34) (oCi 1) 3),oG 13 true 36 (oMv 6),oG 13 true 37 (.binOp .add 3 (oTt 35) (oTt 36) 3),oG 13 true 38 (oMv 0),oG 13 true 39 (oBu .len #[(oTt 38)] #[47]),oG 13 true 40 (.binOp .gtr 3 (oTt 37) (oTt 39) 3),oG 10 false 41 (.pick (oTt 33) (oTt 40) (.const (.bool false))),oP 42 (.pick (oTt 30) (.const (.bool true)) (oTt 41))]
def Qj7:List Oper:=Xat
def Xjw:Code:=oRg Qj7
theorem Qby:oRQ Xjw Qj7 Xat:=fun _ _=>rfl
theorem Qbe:nth Qj7 2=some ⟨(some 22),.move (.tmp 21),0,"",#[],none⟩:=rfl
theorem Qba:nth Qj7 5=some ⟨(some 25),.move (.tmp 24),0,"",#[],(some (2,true))⟩:=rfl
theorem Qas:nth Qj7 10=some ⟨(some 30),.move (.tmp 29),0,"",#[],none⟩:=rfl
theorem Qar:nth Qj7 13=some ⟨(some 33),.move (.tmp 32),0,"",#[],(some (10,false))⟩:=rfl
def Xhx:List Oper:=Qbr
def Xgq:Code:=oRg Xhx
theorem Qc0:oRQ Xgq Xhx Qbr:=fun _ _=>rfl
abbrev Yd8:Code:=.seq Xgq .ret
abbrev Yav:Code:=.cond (.tmp 42) Yd8 .skip
abbrev X9d:Code:=.seq Xjw Yav
abbrev X3m:List Oper:=[oP 43 (oMv 6),oP 44 (.build 120 #[(0,(oTt 43))]),oP 7 (.alloc 120),oN (.store 120 (oTt 7) (oTt 44))]
abbrev Yfl:Code:=oRg X3m
abbrev X4p:List Oper:=[oP 45 (oMv 5),oP 46 (.binOp .add 3 (oTt 45) (oCi 1) 3),oP 5 (oAs 46)]
abbrev Yh3:Code:=oRg X4p
abbrev X6o:List Oper:=[oP 47 (oMv 6),oP 48 (.binOp .leq 3 (oTt 47) (oCi 64) 3)]
abbrev Ycr:Code:=oRg X6o
abbrev X38:List Oper:=[oP 49 (oMv 0),oP 50 (oMv 5),oP 51 (oMv 5),oP 52 (oMv 6),oP 53 (.binOp .add 3 (oTt 51) (oTt 52) 3),oP 54 (.slice 47 (oTt 49) (some (oTt 50)) (some (oTt 53)) none),oP 55 (oCa 46 #[(oTt 54)] #[47]),oP 56 (oFa 120 7 1),oN (.store 47 (oTt 56) (oTt 55))]
abbrev X7d:Code:=oRg X38
abbrev X59:List Oper:=[oP 57 (oMv 5),oP 58 (oMv 6),oP 59 (.binOp .add 3 (oTt 57) (oTt 58) 3),oP 5 (oAs 59)]
abbrev Ydw:Code:=oRg X59
abbrev Ycz:Code:=.seq X7d Ydw
abbrev X88:Code:=.cond (.tmp 48) Ycz .skip
abbrev Yb1:Code:=.seq Ycr X88
abbrev X5d:List Oper:=[oP 60 (oMv 4),oP 61 (oLd 120 7),oP 62 (.buildSlice 114 1 #[(0,(oTt 61))]),oP 63 (oBu .append #[(oTt 60),(oTt 62)] #[114,114]),oP 4 (oAs 63)]
abbrev X7q:Code:=oRg X5d
abbrev Ycc:Code:=.seq Yb1 X7q
abbrev Ygu:Code:=.seq Yh3 Ycc
abbrev Yb8:Code:=.seq Yfl Ygu
abbrev X7u:Code:=.seq X9d Yb8
abbrev Yet:Code:=.seq Ydb X7u
abbrev X7e:Code:=.block 1 Yet
abbrev Yew:Code:=.seq Ya3 X7e
def Yau:Code:=.loop Yew
abbrev Yby:Code:=.block 0 Yau
abbrev X2v:List Oper:=[oP 64 (oMv 4),oP 65 (oBu .len #[(oTt 64)] #[114]),oP 66 (.binOp .gtr 3 (oTt 65) (oCi 64) 3)]
abbrev X8d:Code:=oRg X2v
def Xjv:List Oper:=Qbr
def Xfz:Code:=oRg Xjv
theorem Qbw:oRQ Xfz Xjv Qbr:=fun _ _=>rfl
abbrev Yga:Code:=.seq Xfz .ret
abbrev Ybd:Code:=.cond (.tmp 66) Yga .skip
abbrev Ygp:Code:=.seq X8d Ybd
abbrev X3i:List Oper:=[oP 67 (oMv 4),oP 2 (oAs 67),oP 3 (.assign (oCi 0))]
abbrev Ydc:Code:=oRg X3i
abbrev Ybt:Code:=.seq Ydc .ret
abbrev Yhg:Code:=.seq Ygp Ybt
abbrev X7g:Code:=.seq Yby Yhg
abbrev X8e:Code:=.seq Xju X7g
abbrev Yie:Code:=.seq Ym5 X8e
abbrev Yk3:Code:=.seq Xon Yie
abbrev Ylm:Code:=.seq Xpo Yk3
def Qbt:Code:=Ylm
theorem Yid:Ww (Za 56)=Qbt:=by kernel_rfl
theorem X6b:Qur.body=some (Za 56):=by kernel_rfl
theorem Yrp:Qur.ntmps=68:=by kernel_rfl
theorem Qe6:Qur.results.toList=[.tmp 2,.tmp 3]:=by kernel_rfl
end Go.Proofs.YtgeeklmjfbiieaaDoor
end
noncomputable section
namespace Go.Proofs.YtgeeklmjfbiieaaDoor
open Go Go.Ab
set_option maxRecDepth 100000
variable{b:Nat}{C:CallP}{D0:CallF}{rd:Option Nat}(s:St)(K:Exit→St→Prop)
noncomputable def Quw:Func:=(Tryd.prog.funcs[50]?).getD default
theorem X2(b:Nat):(mkE Tryd.prog nv b).fn.get 50=some Quw:=by kernel_rfl
theorem Zld(b:Nat)(v:Value):Xlu (E b).toEnv 35 v=some (.iface 35 v):=by kernel_rfl
noncomputable def Qiv:Func:=(Tryd.prog.funcs[86]?).getD default
theorem Qe(b:Nat):(mkE Tryd.prog nv b).fn.get 86=some Qiv:=by kernel_rfl
theorem Qaz(b bk o:Nat):Ua (E b).toEnv 107 (.pointer (some ⟨bk,o,none⟩)) 1=some (.pointer (some ⟨bk,o+34,none⟩)):=by kernel_rfl
noncomputable def R43:TyRec:=((mkE Tryd.prog nv 0).ty.get 43).getD ⟨.invalid,0,0,.bool false,[]⟩
theorem Zba(b:Nat):(E b).toEnv.ty.get 43=some R43:=by kernel_rfl
theorem Zj4:Qep R43.desc=false:=by kernel_rfl
theorem Y4b:R43.size=1:=by kernel_rfl
theorem T43(b:Nat):SlTy (E b).toEnv 47 43 R47 R43:=⟨Xqz b,Zba b,by kernel_rfl⟩
theorem Vr(b:Nat)(h:Heap)(bk o:Nat):Qih (E b).toEnv 43 (.pointer (some ⟨bk,o,none⟩)) h=V2 h bk o:=Q4v (Zba b) Zj4
theorem V4(b:Nat)(a:Option Addr)(n c:Nat)(h:Heap):Qkb (E b).toEnv 43 (.slice a n c) h=some (.int .i64 n):=by kernel_rfl
theorem Vq(x y:Int):Qbv (binOp .sub 3 (.int .i64 x) (.int .i64 y))=some (.int .i64 (IntKind.wrap .i64 (x-y))):=by kernel_rfl
theorem Qai(b:Nat){bk o n c:Nat}{k:IntKind}{i:Int}(h:0≤i∧i < n):Zn (E b).toEnv 43 (.slice (some ⟨bk,o,none⟩) n c) (.int k i)=some (.pointer (some ⟨bk,o+i.toNat*1,none⟩)):=Qhi (T43 b) Qdj h
theorem Z8(b:Nat)(h:Heap)(bk o:Nat):Qih (E b).toEnv 47 (.pointer (some ⟨bk,o,none⟩)) h=V2 h bk o:=Q4v (Xqz b) Zha
theorem Zcj(b:Nat)(h:Heap)(bk o:Nat)(v:Value)(hv:Yhp v=true):Qeu (E b).toEnv 43 (.pointer (some ⟨bk,o,none⟩)) v h=Wg h bk o [v]:=Xav (Zba b) Y4b hv
theorem Qjb(b:Nat)(h:Heap)(bk o:Nat)(a:Option Addr)(n c:Nat):Qeu (E b).toEnv 43 (.pointer (some ⟨bk,o,none⟩)) (.slice a n c) h=Wg h bk o [(.slice a n c)]:=Xav (Zba b) Y4b rfl
noncomputable def Qhs:Func:=(Tryd.prog.funcs[83]?).getD default
theorem X4(b:Nat):(mkE Tryd.prog nv b).fn.get 83=some Qhs:=by kernel_rfl
noncomputable def Qi2:Func:=(Tryd.prog.funcs[88]?).getD default
theorem Xg(b:Nat):(mkE Tryd.prog nv b).fn.get 88=some Qi2:=by kernel_rfl
noncomputable def Qp9:Func:=(Tryd.prog.funcs[53]?).getD default
theorem Xd(b:Nat):(mkE Tryd.prog nv b).fn.get 53=some Qp9:=by kernel_rfl
noncomputable def Q10:Func:=(Tryd.prog.funcs[91]?).getD default
theorem Qic(b:Nat):(mkE Tryd.prog nv b).fn.get 91=some Q10:=by kernel_rfl
theorem Y4(x y:Int):Qbv (binOp .eql 3 (.int .i64 x) (.int .i64 y))=some (.bool (decide (x=y))):=by kernel_rfl
theorem Zmq(b:Nat)(s:ByteArray)(h:Heap):Qkb (E b).toEnv 9 (.string s) h=some (.int .i64 s.size):=by kernel_rfl
noncomputable def R9:TyRec:=((mkE Tryd.prog nv 0).ty.get 9).getD ⟨.invalid,0,0,.bool false,[]⟩
theorem Zpr(b:Nat):(E b).toEnv.ty.get 9=some R9:=by kernel_rfl
theorem Ywf(x y:Int):Qbv (binOp .lss 5 (.int .u8 x) (.int .u8 y))=some (.bool (decide (x < y))):=by kernel_rfl
noncomputable def Qid:Func:=(Tryd.prog.funcs[125]?).getD default
theorem Wi(b:Nat):(mkE Tryd.prog nv b).fn.get 125=some Qid:=by kernel_rfl
noncomputable def Qit:Func:=(Tryd.prog.funcs[124]?).getD default
theorem Wy(b:Nat):(mkE Tryd.prog nv b).fn.get 124=some Qit:=by kernel_rfl
noncomputable def Xmk:Func:=(Tryd.prog.funcs[126]?).getD default
theorem Qft(b:Nat):(mkE Tryd.prog nv b).fn.get 126=some Xmk:=by kernel_rfl
noncomputable def Zpq:TyRec:=((mkE Tryd.prog nv 0).ty.get 202).getD ⟨.invalid,0,0,.bool false,[]⟩
theorem Znd(b:Nat):(E b).toEnv.ty.get 202=some Zpq:=by kernel_rfl
theorem Zc7:Zpq.size=256:=by kernel_rfl
noncomputable def R4:TyRec:=((mkE Tryd.prog nv 0).ty.get 4).getD ⟨.invalid,0,0,.bool false,[]⟩
theorem Zpo(b:Nat):(E b).toEnv.ty.get 4=some R4:=by kernel_rfl
theorem Zm7:Qep R4.desc=false:=by kernel_rfl
theorem Q1m:R4.size=1:=by kernel_rfl
theorem Y5a:R4.bytes=1:=by kernel_rfl
theorem Yvy(b:Nat)(h:Heap):Qe4 (E b).toEnv 202 h=some (.pointer (some ⟨h.next,0,none⟩),h.push (.cells true 1 (List.replicate 256 (.bool false)))):=by kernel_rfl
theorem Yv3(b:Nat)(h:Heap)(bk o:Nat)(l:List Value)(hl:l.length=256):Qeu (E b).toEnv 202 (.pointer (some ⟨bk,o,none⟩)) (.agg ⟨l⟩) h=Wg h bk o l:=X7y (Znd b) (by rw[Zc7];exact hl)
noncomputable def Xbm:Func:=(Tryd.prog.funcs[128]?).getD default
theorem Qe8(b:Nat):(mkE Tryd.prog nv b).fn.get 128=some Xbm:=by kernel_rfl
noncomputable def Xie:Func:=(Tryd.prog.funcs[127]?).getD default
theorem Qev(b:Nat):(mkE Tryd.prog nv b).fn.get 127=some Xie:=by kernel_rfl
noncomputable def Q58:Func:=(Tryd.prog.funcs[130]?).getD default
theorem Qdg(b:Nat):(mkE Tryd.prog nv b).fn.get 130=some Q58:=by kernel_rfl
noncomputable def Q9j:Func:=(Tryd.prog.funcs[129]?).getD default
theorem Qdx(b:Nat):(mkE Tryd.prog nv b).fn.get 129=some Q9j:=by kernel_rfl
noncomputable def Qiu:Func:=(Tryd.prog.funcs[85]?).getD default
theorem Qw(b:Nat):(mkE Tryd.prog nv b).fn.get 85=some Qiu:=by kernel_rfl
theorem Vt(b bk o:Nat):Ua (E b).toEnv 107 (.pointer (some ⟨bk,o,none⟩)) 2=some (.pointer (some ⟨bk,o+35,none⟩)):=by kernel_rfl
noncomputable def Zo0:TyRec:=((mkE Tryd.prog nv 0).ty.get 105).getD ⟨.invalid,0,0,.bool false,[]⟩
theorem Y4g(b:Nat):(E b).toEnv.ty.get 105=some Zo0:=by kernel_rfl
theorem Zfz:Qep Zo0.desc=false:=by kernel_rfl
theorem Yvq:Zo0.size=1:=by kernel_rfl
noncomputable def Znz:TyRec:=((mkE Tryd.prog nv 0).ty.get 197).getD ⟨.invalid,0,0,.bool false,[]⟩
theorem Zky(b:Nat):(E b).toEnv.ty.get 197=some Znz:=by kernel_rfl
theorem Xlf:Znz.size=3:=by kernel_rfl
theorem Y5x:Znz.bytes=3:=by kernel_rfl
theorem Zcd(b:Nat):SlTy (E b).toEnv 197 105 Znz Zo0:=⟨Zky b,Y4g b,by kernel_rfl⟩
theorem Qb1(b:Nat)(h:Heap)(bk o:Nat):Qih (E b).toEnv 105 (.pointer (some ⟨bk,o,none⟩)) h=V2 h bk o:=Q4v (Y4g b) Zfz
theorem Qb5(b:Nat)(a:Option Addr)(n c:Nat)(h:Heap):Qkb (E b).toEnv 105 (.slice a n c) h=some (.int .i64 n):=by kernel_rfl
theorem Qew(b:Nat){bk o n c:Nat}{k:IntKind}{i:Int}(h:0≤i∧i < n):Zn (E b).toEnv 105 (.slice (some ⟨bk,o,none⟩) n c) (.int k i)=some (.pointer (some ⟨bk,o+i.toNat*3,none⟩)):=Qhi (Zcd b) Xlf h
theorem Qae(b bk o:Nat):Ua (E b).toEnv 197 (.pointer (some ⟨bk,o,none⟩)) 0=some (.pointer (some ⟨bk,o+0,none⟩)):=by kernel_rfl
theorem Qs7(b:Nat)(h:Heap)(bk o:Nat):Qih (E b).toEnv 4 (.pointer (some ⟨bk,o,none⟩)) h=V2 h bk o:=Q4v (Zpo b) Zm7
noncomputable def Qfo:Func:=(Tryd.prog.funcs[84]?).getD default
theorem Qf(b:Nat):(mkE Tryd.prog nv b).fn.get 84=some Qfo:=by kernel_rfl
theorem Zg3(b:Nat)(h:Heap)(bk o:Nat)(v:Value)(hv:Yhp v=true):Qeu (E b).toEnv 105 (.pointer (some ⟨bk,o,none⟩)) v h=Wg h bk o [v]:=Xav (Y4g b) Yvq hv
theorem Qcc(b:Nat)(h:Heap)(bk o:Nat)(a:Option Addr)(n c:Nat):Qeu (E b).toEnv 105 (.pointer (some ⟨bk,o,none⟩)) (.slice a n c) h=Wg h bk o [(.slice a n c)]:=Xav (Y4g b) Yvq rfl
theorem Qca(b bk o:Nat):Ua (E b).toEnv 197 (.pointer (some ⟨bk,o,none⟩)) 2=some (.pointer (some ⟨bk,o+2,none⟩)):=by kernel_rfl
theorem Qde(b:Nat)(h:Heap)(bk o:Nat)(x:Bool):Qeu (E b).toEnv 4 (.pointer (some ⟨bk,o,none⟩)) (.bool x) h=Wg h bk o [(.bool x)]:=Xav (Zpo b) Q1m rfl
theorem Qcb(b bk o:Nat):Ua (E b).toEnv 197 (.pointer (some ⟨bk,o,none⟩)) 1=some (.pointer (some ⟨bk,o+1,none⟩)):=by kernel_rfl
noncomputable def Qi6:Func:=(Tryd.prog.funcs[89]?).getD default
theorem X6(b:Nat):(mkE Tryd.prog nv b).fn.get 89=some Qi6:=by kernel_rfl
theorem Qcz(b bk o:Nat):Ua (E b).toEnv 107 (.pointer (some ⟨bk,o,none⟩)) 0=some (.pointer (some ⟨bk,o+0,none⟩)):=by kernel_rfl
theorem Qoi(b bk o:Nat):Ua (E b).toEnv 59 (.pointer (some ⟨bk,o,none⟩)) 0=some (.pointer (some ⟨bk,o+0,none⟩)):=by kernel_rfl
noncomputable def R38:TyRec:=((mkE Tryd.prog nv 0).ty.get 38).getD ⟨.invalid,0,0,.bool false,[]⟩
theorem Zpp(b:Nat):(E b).toEnv.ty.get 38=some R38:=by kernel_rfl
theorem Zjf:Qep R38.desc=false:=by kernel_rfl
theorem Xse(b:Nat)(h:Heap)(bk o:Nat):Qih (E b).toEnv 38 (.pointer (some ⟨bk,o,none⟩)) h=V2 h bk o:=Q4v (Zpp b) Zjf
theorem Qof(b bk o:Nat):Ua (E b).toEnv 59 (.pointer (some ⟨bk,o,none⟩)) 1=some (.pointer (some ⟨bk,o+1,none⟩)):=by kernel_rfl
noncomputable def R23:TyRec:=((mkE Tryd.prog nv 0).ty.get 23).getD ⟨.invalid,0,0,.bool false,[]⟩
theorem Zf9(b:Nat):(E b).toEnv.ty.get 23=some R23:=by kernel_rfl
theorem Zk6:Qep R23.desc=true:=by kernel_rfl
theorem Yov:R23.size=32:=by kernel_rfl
theorem T23(b:Nat):ArTy (E b).toEnv 32 5 23 R5 R23:=⟨Y5r b,Zf9 b,by kernel_rfl⟩
theorem Ui(b:Nat)(h:Heap)(bk o:Nat):Qih (E b).toEnv 23 (.pointer (some ⟨bk,o,none⟩)) h=Qgi h bk o 32:=Xuv (Zf9 b) Zk6 Yov
noncomputable def R90:TyRec:=((mkE Tryd.prog nv 0).ty.get 90).getD ⟨.invalid,0,0,.bool false,[]⟩
theorem Zdl(b:Nat):(E b).toEnv.ty.get 90=some R90:=by kernel_rfl
theorem Zhb:Qep R90.desc=true:=by kernel_rfl
theorem Y3q:R90.size=16:=by kernel_rfl
theorem T90(b:Nat):ArTy (E b).toEnv 16 5 90 R5 R90:=⟨Y5r b,Zdl b,by kernel_rfl⟩
theorem Qe5(b:Nat)(h:Heap)(bk o:Nat):Qih (E b).toEnv 90 (.pointer (some ⟨bk,o,none⟩)) h=Qgi h bk o 16:=Xuv (Zdl b) Zhb Y3q
noncomputable def Qis:Func:=(Tryd.prog.funcs[123]?).getD default
theorem Zh(b:Nat):(mkE Tryd.prog nv b).fn.get 123=some Qis:=by kernel_rfl
noncomputable def Qhj:Func:=(Tryd.prog.funcs[90]?).getD default
theorem X5(b:Nat):(mkE Tryd.prog nv b).fn.get 90=some Qhj:=by kernel_rfl
theorem Qty(b bk o:Nat):Ua (E b).toEnv 59 (.pointer (some ⟨bk,o,none⟩)) 2=some (.pointer (some ⟨bk,o+33,none⟩)):=by kernel_rfl
noncomputable def R3:TyRec:=((mkE Tryd.prog nv 0).ty.get 3).getD ⟨.invalid,0,0,.bool false,[]⟩
theorem Znw(b:Nat):(E b).toEnv.ty.get 3=some R3:=by kernel_rfl
theorem Zlp:Qep R3.desc=false:=by kernel_rfl
theorem Ysn:R3.size=1:=by kernel_rfl
theorem U9(b:Nat)(h:Heap)(bk o:Nat):Qih (E b).toEnv 3 (.pointer (some ⟨bk,o,none⟩)) h=V2 h bk o:=Q4v (Znw b) Zlp
theorem Qcf(x y:Int):Qbv (binOp .geq 3 (.int .i64 x) (.int .i64 y))=some (.bool (decide (x ≥ y))):=by kernel_rfl
noncomputable def Qhu:Func:=(Tryd.prog.funcs[52]?).getD default
theorem Qv(b:Nat):(mkE Tryd.prog nv b).fn.get 52=some Qhu:=by kernel_rfl
theorem J2(b bk o:Nat):Ua (E b).toEnv 103 (.pointer (some ⟨bk,o,none⟩)) 0=some (.pointer (some ⟨bk,o+0,none⟩)):=by kernel_rfl
noncomputable def Q7a:Func:=(Tryd.prog.funcs[87]?).getD default
theorem Y6(b:Nat):(mkE Tryd.prog nv b).fn.get 87=some Q7a:=by kernel_rfl
theorem Zt(b:Nat)(h:Heap):Qe4 (E b).toEnv 23 h=some (.pointer (some ⟨h.next,0,none⟩),h.push (.cells true 1 [(.int .u8 0),(.int .u8 0),(.int .u8 0),(.int .u8 0),(.int .u8 0),(.int .u8 0),(.int .u8 0),(.int .u8 0),(.int .u8 0),(.int .u8 0),(.int .u8 0),(.int .u8 0),(.int .u8 0),(.int .u8 0),(.int .u8 0),(.int .u8 0),(.int .u8 0),(.int .u8 0),(.int .u8 0),(.int .u8 0),(.int .u8 0),(.int .u8 0),(.int .u8 0),(.int .u8 0),(.int .u8 0),(.int .u8 0),(.int .u8 0),(.int .u8 0),(.int .u8 0),(.int .u8 0),(.int .u8 0),(.int .u8 0)])):=by kernel_rfl
theorem Je(b:Nat)(h:Heap)(bk o:Nat)(l:List Value)(hl:l.length=32):Qeu (E b).toEnv 23 (.pointer (some ⟨bk,o,none⟩)) (.agg ⟨l⟩) h=Wg h bk o l:=X7y (Zf9 b) (by rw[Yov];exact hl)
noncomputable def Qvt:Func:=(Tryd.prog.funcs[42]?).getD default
theorem Y1(b:Nat):(mkE Tryd.prog nv b).fn.get 42=some Qvt:=by kernel_rfl
abbrev Ye4:List Oper:=[oP 4 (oMv 0),oP 5 (.unOp .not 4 (oTt 4))]
abbrev Ykx:Code:=oRg Ye4
abbrev Yer:List Oper:=[oP 6 (oMv 1),oP 7 (.makeInterface 35 (oTt 6)),oN (.panic (oTt 7))]
abbrev Yk1:Code:=oRg Yer
abbrev Yl3:Code:=.cond (.tmp 5) Yk1 .skip
abbrev Ym4:Code:=.seq Ykx Yl3
def Qtl:Code:=Ym4
theorem Xp9:Ww (Za 50)=Qtl:=by kernel_rfl
theorem Xaq:Quw.body=some (Za 50):=by kernel_rfl
theorem Xv6:Quw.ntmps=8:=by kernel_rfl
theorem Xol:Quw.results.toList=[]:=by kernel_rfl
abbrev Xfl:List Oper:=[oP 2 (.assign (.const (.slice none 0 0)))]
abbrev Xlm:Code:=oRg Xfl
abbrev Xdt:List Oper:=[oP 4 (oMv 0),oP 5 (.nilCheck (oTt 4)),oP 6 (oFa 107 5 1),oP 7 (oLd 43 6),oP 8 (oBu .len #[(oTt 7)] #[43]),oP 9 (.binOp .gtr 3 (oTt 8) (oCi 0) 3),oP 10 (oCa 50 #[(oTt 9),(oCi 16)] #[4,35])]
abbrev Xjr:Code:=oRg Xdt
noncomputable def Qdy:Array Oper:=Qmw (Qms 2 (Za 86))
def Xiu:Code:=.region 2 Qdy true
abbrev Qk3:List Oper:=[oP 11 (oMv 0),oP 12 (.nilCheck (oTt 11)),oP 13 (oFa 107 12 1),oP 14 (oLd 43 13),oP 15 (oMv 0),oP 16 (.nilCheck (oTt 15)),oP 17 (oFa 107 16 1),oP 18 (oLd 43 17),oP 19 (oBu .len #[(oTt 18)] #[43]),oP 20 (.binOp .sub 3 (oTt 19) (oCi 1) 3),oP 21 (oIx 43 14 20),oP 22 (oLd 47 21),oP 3 (oAs 22)]
def Qhd:List Oper:=Qk3
theorem Qzo:Qdy.toList.map bare=Qk3:=by kernel_rfl
theorem Qyx:Qdy.toList.map bare=Qhd:=Qzo
def Qe9:List Nat:=[0,1,3,7,0,16,48,112,240,496,1023,2047,4095]
theorem Qzt:Qpo Qdy.toList []=some Qe9:=by kernel_rfl
theorem Qys:Wm Qdy.toList Qdy.toList Qe9 []=true:=by kernel_rfl
theorem Q2r(b:Nat)(L:List KE)(s:St):Ab.runT (E b) L Qhd Qe9 Qhd 0 s=Ab.runT (E b) L Qhd Qe9 Qk3 0 s:=rfl
noncomputable def Qdu:Array Oper:=Qmw (Qms 3 (Za 86))
def Xjf:Code:=.region 3 Qdu true
abbrev Qjx:List Oper:=[oP 23 (oMv 0),oP 24 (oMv 0),oP 25 (.nilCheck (oTt 24)),oP 26 (oFa 107 25 1),oP 27 (oLd 43 26),oP 28 (oMv 0),oP 29 (.nilCheck (oTt 28)),oP 30 (oFa 107 29 1),oP 31 (oLd 43 30),oP 32 (oBu .len #[(oTt 31)] #[43]),oP 33 (.binOp .sub 3 (oTt 32) (oCi 1) 3),oP 34 (.slice 43 (oTt 27) none (some (oTt 33)) none),oP 35 (.nilCheck (oTt 23)),oP 36 (oFa 107 35 1),oN (.store 43 (oTt 36) (oTt 34))]
def Qex:List Oper:=Qjx
theorem Qzk:Qdu.toList.map bare=Qjx:=by kernel_rfl
theorem Qxr:Qdu.toList.map bare=Qex:=Qzk
def Qbo:List Nat:=[0,0,2,6,14,0,32,96,224,480,992,2046,4095,8191,16383]
theorem Qzz:Qpo Qdu.toList []=some Qbo:=by kernel_rfl
theorem Qxk:Wm Qdu.toList Qdu.toList Qbo []=true:=by kernel_rfl
theorem Q1b(b:Nat)(L:List KE)(s:St):Ab.runT (E b) L Qex Qbo Qex 0 s=Ab.runT (E b) L Qex Qbo Qjx 0 s:=rfl
theorem Q1u(b:Nat):Ws (E b) 14 ((nth Qbo 14).getD 0) Qex Qbo 0=true:=by kernel_rfl
abbrev Xe4:List Oper:=[oP 37 (oMv 3),oP 2 (oAs 37)]
abbrev Xkn:Code:=oRg Xe4
abbrev Xgd:Code:=.seq Xkn .ret
abbrev Xkq:Code:=.seq Xjf Xgd
abbrev Xi0:Code:=.seq Xiu Xkq
abbrev Xis:Code:=.seq Xjr Xi0
abbrev Xg2:Code:=.seq Xlm Xis
def Un:Code:=Xg2
theorem Qtf:Ww (Za 86)=Un:=by kernel_rfl
theorem Qpm:Qiv.body=some (Za 86):=by kernel_rfl
theorem Que:Qiv.ntmps=38:=by kernel_rfl
theorem Qa0:Qiv.results.toList=[.tmp 2]:=by kernel_rfl
abbrev Q8m:List Oper:=[oP 4 (oMv 0),oP 5 (.nilCheck (oTt 4)),oP 6 (oFa 107 5 1),oP 7 (oLd 43 6),oP 8 (oBu .len #[(oTt 7)] #[43]),oP 9 (.binOp .lss 3 (oTt 8) (oCi 16) 3),oP 10 (oCa 50 #[(oTt 9),(oCi 16)] #[4,35])]
abbrev Xet:Code:=oRg Q8m
abbrev Q8z:List Oper:=[oP 11 (oMv 0),oP 12 (oMv 0),oP 13 (.nilCheck (oTt 12)),oP 14 (oFa 107 13 1),oP 15 (oLd 43 14),oP 16 (oMv 1),oP 17 (.buildSlice 43 1 #[(0,(oTt 16))]),oP 18 (oBu .append #[(oTt 15),(oTt 17)] #[43,43]),oP 19 (.nilCheck (oTt 11)),oP 20 (oFa 107 19 1),oN (.store 43 (oTt 20) (oTt 18))]
abbrev Xe1:Code:=oRg Q8z
abbrev Xdz:Code:=.seq Xet Xe1
def Qdt:Code:=Xdz
theorem Qr3:Ww (Za 83)=Qdt:=by kernel_rfl
theorem Qos:Qhs.body=some (Za 83):=by kernel_rfl
theorem Qt9:Qhs.ntmps=21:=by kernel_rfl
theorem Qhg:Qhs.results.toList=[]:=by kernel_rfl
abbrev Q9x:List Oper:=[oP 4 (oMv 1)]
abbrev Xeo:Code:=oRg Q9x
abbrev Q9l:List Oper:=[oP 5 (oMv 0),oP 6 (.buildSlice 47 1 #[(0,(.const (.int .u8 1)))]),oP 7 (oCa 83 #[(oTt 5),(oTt 6)] #[100,47])]
abbrev Xem:Code:=oRg Q9l
abbrev Q6g:List Oper:=[oP 8 (oMv 0),oP 9 (oCa 83 #[(oTt 8),(.const (.slice none 0 0))] #[100,47])]
abbrev Xdh:Code:=oRg Q6g
abbrev Xe2:Code:=.cond (.tmp 4) Xem Xdh
abbrev Xfx:Code:=.seq Xeo Xe2
def Qb7:Code:=Xfx
theorem Xe8:Ww (Za 88)=Qb7:=by kernel_rfl
theorem Q3z:Qi2.body=some (Za 88):=by kernel_rfl
theorem Xh2:Qi2.ntmps=10:=by kernel_rfl
theorem Qd9:Qi2.results.toList=[]:=by kernel_rfl
abbrev Qj9:List Oper:=[oP 2 (.assign (.const (.bool false)))]
abbrev X25:Code:=oRg Qj9
abbrev Xxs:List Oper:=[oP 3 (oMv 0),oP 4 (oCa 91 #[(oTt 3),(.const (.string ⟨⟨[0]⟩⟩))] #[47,9]),oP 5 (oBu .len #[(oTt 4)] #[47]),oP 6 (.binOp .gtr 3 (oTt 5) (oCi 0) 3),oP 2 (oAs 6)]
abbrev X60:Code:=oRg Xxs
abbrev X4b:Code:=.seq X60 .ret
abbrev X43:Code:=.seq X25 X4b
def Qpi:Code:=X43
theorem X5x:Ww (Za 53)=Qpi:=by kernel_rfl
theorem Xus:Qp9.body=some (Za 53):=by kernel_rfl
theorem Yag:Qp9.ntmps=7:=by kernel_rfl
theorem Xbe:Qp9.results.toList=[.tmp 2]:=by kernel_rfl
abbrev Qfl:List Oper:=[oP 4 (.assign (.const (.slice none 0 0)))]
abbrev Yq7:Code:=oRg Qfl
abbrev Ym8:List Oper:=[oP 7 (oMv 0),oP 8 (oBu .len #[(oTt 7)] #[47]),oP 9 (.binOp .eql 3 (oTt 8) (oCi 0) 3)]
abbrev Ysw:Code:=oRg Ym8
def Xwf:List Oper:=Qfl
def Xv2:Code:=oRg Xwf
theorem Qmi:oRQ Xv2 Xwf Qfl:=fun _ _=>rfl
abbrev Ypb:Code:=.seq Xv2 .ret
abbrev Yqe:Code:=.cond (.tmp 9) Ypb .skip
abbrev Yqi:Code:=.seq Ysw Yqe
abbrev Ykw:List Oper:=[oP 10 (oMv 1),oP 11 (.binOp .eql 9 (oTt 10) (.const (.string ⟨⟨[]⟩⟩)) 9)]
abbrev Yp9:Code:=oRg Ykw
abbrev Yhl:List Oper:=[oP 12 (oMv 0),oP 4 (oAs 12)]
abbrev Yj5:Code:=oRg Yhl
abbrev Ylz:Code:=.seq Yj5 .ret
abbrev Ylp:Code:=.cond (.tmp 11) Ylz .skip
abbrev Yru:Code:=.seq Yp9 Ylp
abbrev Xgt:List Oper:=[oP 13 (oMv 1),oP 14 (oBu .len #[(oTt 13)] #[9]),oP 15 (.binOp .eql 3 (oTt 14) (oCi 1) 3),oP 16 (oMv 15),oG 3 true 17 (oMv 1),oG 3 true 18 (.index 9 (oTt 17) (oCi 0)),oG 3 true 19 (.binOp .lss 5 (oTt 18) (.const (.int .u8 128)) 5),oP 20 (.pick (oTt 16) (oTt 19) (.const (.bool false)))]
def Q29:List Oper:=Xgt
def Xpf:Code:=oRg Q29
theorem Qkj:oRQ Xpf Q29 Xgt:=fun _ _=>rfl
theorem Qjh:nth Q29 3=some ⟨(some 16),.move (.tmp 15),0,"",#[],none⟩:=rfl
noncomputable def Qn4:Array Oper:=Qmw (Qms 6 (Za 91))
def Yqw:Code:=.region 6 Qn4 true
abbrev Qwk:List Oper:=[oP 21 (oMv 0),oP 22 (oMv 1),oP 23 (.index 9 (oTt 22) (oCi 0)),oP 24 (oCa 125 #[(oTt 21),(oTt 23)] #[47,5]),oP 25 (oMv 1),oP 26 (.index 9 (oTt 25) (oCi 0)),oP 27 (oCa 124 #[(oTt 24),(oTt 26)] #[47,5]),oP 4 (oAs 27)]
def Qkt:List Oper:=Qwk
theorem Xwi:Qn4.toList.map bare=Qwk:=by kernel_rfl
theorem Xs8:Qn4.toList.map bare=Qkt:=Xwi
def Qec:List Nat:=[0,0,2,7,0,16,63,127]
theorem Xtc:Qpo Qn4.toList []=some Qec:=by kernel_rfl
theorem Xs0:Wm Qn4.toList Qn4.toList Qec []=true:=by kernel_rfl
theorem Xz0(b:Nat)(L:List KE)(s:St):Ab.runT (E b) L Qkt Qec Qkt 0 s=Ab.runT (E b) L Qkt Qec Qwk 0 s:=rfl
theorem X52(b:Nat):Ws (E b) 3 ((nth Qec 3).getD 0) Qkt Qec 0=true:=by kernel_rfl
theorem X4q(b:Nat):Ws (E b) 6 ((nth Qec 6).getD 0) Qkt Qec 0=true:=by kernel_rfl
abbrev Ykq:Code:=.seq Yqw .ret
abbrev Yic:Code:=.cond (.tmp 20) Ykq .skip
abbrev Ym7:Code:=.seq Xpf Yic
abbrev Ycg:List Oper:=[oP 29 (oMv 1),oP 30 (oCa 126 #[(oTt 29)] #[9]),oP 28 (oMv 30),oP 31 (.extract (oTt 28) 0),oP 32 (.extract (oTt 28) 1),oP 5 (.alloc 202),oN (.store 202 (oTt 5) (oTt 31)),oP 6 (oAs 32)]
abbrev Yka:Code:=oRg Ycg
abbrev Yg6:List Oper:=[oP 33 (oMv 6)]
abbrev Ymg:Code:=oRg Yg6
abbrev Yad:List Oper:=[oP 34 (oMv 0),oP 35 (oCa 128 #[(oTt 34),(oTt 5)] #[47,206]),oP 36 (oCa 127 #[(oTt 35),(oTt 5)] #[47,206]),oP 4 (oAs 36)]
abbrev Yi2:Code:=oRg Yad
abbrev Yiy:Code:=.seq Yi2 .ret
abbrev Yiv:Code:=.cond (.tmp 33) Yiy .skip
abbrev Yip:Code:=.seq Ymg Yiv
abbrev Ymm:Code:=.seq Yka Yip
abbrev Yh6:List Oper:=[oP 37 (oMv 0),oP 38 (oMv 1),oP 39 (oCa 130 #[(oTt 37),(oTt 38)] #[47,9]),oP 40 (oMv 1),oP 41 (oCa 129 #[(oTt 39),(oTt 40)] #[47,9]),oP 4 (oAs 41)]
abbrev Ykr:Code:=oRg Yh6
abbrev Yil:Code:=.seq Ykr .ret
abbrev Yjx:Code:=.seq Ymm Yil
abbrev Ylo:Code:=.seq Ym7 Yjx
abbrev Ym3:Code:=.seq Yru Ylo
abbrev Yp6:Code:=.seq Yqi Ym3
abbrev Ys2:Code:=.seq Yq7 Yp6
def Qjf:Code:=Ys2
theorem Yrq:Ww (Za 91)=Qjf:=by kernel_rfl
theorem Ycy:Q10.body=some (Za 91):=by kernel_rfl
theorem Yu0:Q10.ntmps=42:=by kernel_rfl
theorem Qpf:Q10.results.toList=[.tmp 4]:=by kernel_rfl
def Qsm:List Oper:=Qfl
def Qsz:Code:=oRg Qsm
theorem Qgt:oRQ Qsz Qsm Qfl:=fun _ _=>rfl
abbrev Qra:List Oper:=[oP 5 (oMv 0),oP 6 (oBu .len #[(oTt 5)] #[47]),oP 7 (.binOp .gtr 3 (oTt 6) (oCi 0) 3),oP 8 (oMv 7),oG 3 true 9 (oMv 0),oG 3 true 10 (.indexAddr 47 (oTt 9) (oCi 0)),oG 3 true 11 (oLd 5 10),oG 3 true 12 (oMv 1),oG 3 true 13 (.binOp .eql 5 (oTt 11) (oTt 12) 5),oP 14 (.pick (oTt 8) (oTt 13) (.const (.bool false)))]
def Qln:List Oper:=Qra
def Qt6:Code:=oRg Qln
theorem Qgu:oRQ Qt6 Qln Qra:=fun _ _=>rfl
theorem Qg2:nth Qln 3=some ⟨(some 8),.move (.tmp 7),0,"",#[],none⟩:=rfl
abbrev Xko:Code:=.cond (.tmp 14) .skip (.exit 0)
abbrev Xgc:Code:=.seq Qt6 Xko
abbrev Xfc:List Oper:=[oP 15 (oMv 0),oP 16 (.slice 47 (oTt 15) (some (oCi 1)) none none),oP 0 (oAs 16)]
abbrev Xji:Code:=oRg Xfc
abbrev Xi4:Code:=.block 1 Xji
abbrev Xg4:Code:=.seq Xgc Xi4
def Xi8:Code:=.loop Xg4
abbrev Xlo:Code:=.block 0 Xi8
abbrev Q9f:List Oper:=[oP 17 (oMv 0),oP 18 (oBu .len #[(oTt 17)] #[47]),oP 19 (.binOp .eql 3 (oTt 18) (oCi 0) 3)]
abbrev Xez:Code:=oRg Q9f
def Qqm:List Oper:=Qfl
def Qre:Code:=oRg Qqm
theorem Qfx:oRQ Qre Qqm Qfl:=fun _ _=>rfl
abbrev Xbl:Code:=.seq Qre .ret
abbrev Xbh:Code:=.cond (.tmp 19) Xbl .skip
abbrev Xe3:Code:=.seq Xez Xbh
abbrev Q9d:List Oper:=[oP 20 (oMv 0),oP 4 (oAs 20)]
abbrev Xe6:Code:=oRg Q9d
abbrev Xbi:Code:=.seq Xe6 .ret
abbrev Xf6:Code:=.seq Xe3 Xbi
abbrev Xci:Code:=.seq Xlo Xf6
abbrev Xio:Code:=.seq Qsz Xci
def Qeb:Code:=Xio
theorem Xl6:Ww (Za 124)=Qeb:=by kernel_rfl
theorem Q7p:Qit.body=some (Za 124):=by kernel_rfl
theorem Xnk:Qit.ntmps=21:=by kernel_rfl
theorem Qib:Qit.results.toList=[.tmp 4]:=by kernel_rfl
def Qqr:List Oper:=Qfl
def Qqq:Code:=oRg Qqr
theorem Qg4:oRQ Qqq Qqr Qfl:=fun _ _=>rfl
abbrev Qqc:List Oper:=[oP 5 (oMv 0),oP 6 (oBu .len #[(oTt 5)] #[47]),oP 7 (.binOp .gtr 3 (oTt 6) (oCi 0) 3),oP 8 (oMv 7),oG 3 true 9 (oMv 0),oG 3 true 10 (oMv 0),oG 3 true 11 (oBu .len #[(oTt 10)] #[47]),oG 3 true 12 (.binOp .sub 3 (oTt 11) (oCi 1) 3),oG 3 true 13 (oIx 47 9 12),oG 3 true 14 (oLd 5 13),oG 3 true 15 (oMv 1),oG 3 true 16 (.binOp .eql 5 (oTt 14) (oTt 15) 5),oP 17 (.pick (oTt 8) (oTt 16) (.const (.bool false)))]
def Ql0:List Oper:=Qqc
def Qr4:Code:=oRg Ql0
theorem Qg9:oRQ Qr4 Ql0 Qqc:=fun _ _=>rfl
theorem Qfn:nth Ql0 3=some ⟨(some 8),.move (.tmp 7),0,"",#[],none⟩:=rfl
abbrev Xcf:Code:=.cond (.tmp 17) .skip (.exit 0)
abbrev Xcl:Code:=.seq Qr4 Xcf
abbrev Q9r:List Oper:=[oP 18 (oMv 0),oP 19 (oMv 0),oP 20 (oBu .len #[(oTt 19)] #[47]),oP 21 (.binOp .sub 3 (oTt 20) (oCi 1) 3),oP 22 (.slice 47 (oTt 18) none (some (oTt 21)) none),oP 0 (oAs 22)]
abbrev Xc2:Code:=oRg Q9r
abbrev Xfv:Code:=.block 1 Xc2
abbrev Xff:Code:=.seq Xcl Xfv
def Xeu:Code:=.loop Xff
abbrev Xbq:Code:=.block 0 Xeu
abbrev Q30:List Oper:=[oP 23 (oMv 0),oP 4 (oAs 23)]
abbrev Xaf:Code:=oRg Q30
abbrev Q6h:Code:=.seq Xaf .ret
abbrev Q6l:Code:=.seq Xbq Q6h
abbrev Xeh:Code:=.seq Qqq Q6l
def Qdv:Code:=Xeh
theorem Xf9:Ww (Za 125)=Qdv:=by kernel_rfl
theorem Q56:Qid.body=some (Za 125):=by kernel_rfl
theorem Xin:Qid.ntmps=24:=by kernel_rfl
theorem Qhe:Qid.results.toList=[.tmp 4]:=by kernel_rfl
def Qt1:List Oper:=Qj9
def Qsr:Code:=oRg Qt1
theorem Qbn:oRQ Qsr Qt1 Qj9:=fun _ _=>rfl
noncomputable def Qdw:Array Oper:=Qmw (Qms 1 (Za 85))
def Xi9:Code:=.region 1 Qdw true
abbrev Qjw:List Oper:=[oP 3 (oMv 0),oP 4 (.nilCheck (oTt 3)),oP 5 (oFa 107 4 2),oP 6 (oLd 105 5),oP 7 (oBu .len #[(oTt 6)] #[105]),oP 8 (.binOp .gtr 3 (oTt 7) (oCi 0) 3),oP 9 (oMv 8),oG 6 true 10 (oMv 0),oG 6 true 11 (.nilCheck (oTt 10)),oG 6 true 12 (oFa 107 11 2),oG 6 true 13 (oLd 105 12),oG 6 true 14 (oMv 0),oG 6 true 15 (.nilCheck (oTt 14)),oG 6 true 16 (oFa 107 15 2),oG 6 true 17 (oLd 105 16),oG 6 true 18 (oBu .len #[(oTt 17)] #[105]),oG 6 true 19 (.binOp .sub 3 (oTt 18) (oCi 1) 3),oG 6 true 20 (oIx 105 13 19),oG 6 true 21 (oFa 197 20 0),oG 6 true 22 (oLd 4 21),oP 23 (.pick (oTt 9) (oTt 22) (.const (.bool false))),oP 2 (oAs 23)]
def Qes:List Oper:=Qjw
theorem Q0c:Qdw.toList.map bare=Qjw:=by kernel_rfl
theorem Qm9:Qdw.toList.map bare=Qes:=Q0c
def Qcw:List Nat:=[0,1,3,7,15,31,63,127,255,511,1023,127,2175,6271,14463,30847,63615,131071,262143,524287,1048575,2097151]
theorem Qn8:Qpo Qdw.toList []=some Qcw:=by kernel_rfl
theorem Qmf:Wm Qdw.toList Qdw.toList Qcw []=true:=by kernel_rfl
theorem Qng(b:Nat)(L:List KE)(s:St):Ab.runT (E b) L Qes Qcw Qes 0 s=Ab.runT (E b) L Qes Qcw Qjw 0 s:=rfl
theorem Qno:nth Qes 6=some ⟨(some 9),.move (.tmp 8),0,"",#[],none⟩:=rfl
abbrev Xg1:Code:=.seq Xi9 .ret
abbrev Xln:Code:=.seq Qsr Xg1
def Qak:Code:=Xln
theorem Xk8:Ww (Za 85)=Qak:=by kernel_rfl
theorem Q71:Qiu.body=some (Za 85):=by kernel_rfl
theorem Xod:Qiu.ntmps=24:=by kernel_rfl
theorem Qcq:Qiu.results.toList=[.tmp 2]:=by kernel_rfl
abbrev Qh1:List Oper:=[oP 4 (.assign (.const (.bool false)))]
abbrev Qzv:Code:=oRg Qh1
abbrev Qy7:List Oper:=[oP 7 (oMv 1)]
abbrev Qza:Code:=oRg Qy7
abbrev Qxs:List Oper:=[oP 9 (.binOp .eql 3 (oTt 7) (oCi 136) 3),oP 8 (oAs 9)]
abbrev Qzw:Code:=oRg Qxs
abbrev Qxz:List Oper:=[oP 10 (oMv 0),oP 11 (oCa 85 #[(oTt 10)] #[100]),oP 5 (oAs 11)]
abbrev Q0a:Code:=oRg Qxz
noncomputable def Qah:Array Oper:=Qmw (Qms 5 (Za 84))
def Qze:Code:=.region 5 Qah true
abbrev Qgr:List Oper:=[oP 12 (oMv 0),oP 13 (oMv 0),oP 14 (.nilCheck (oTt 13)),oP 15 (oFa 107 14 2),oP 16 (oLd 105 15),oP 17 (oMv 5),oP 18 (oMv 17),oG 6 false 19 (oMv 0),oG 6 false 20 (oCa 86 #[(oTt 19)] #[100]),oG 6 false 21 (oCa 53 #[(oTt 20)] #[47]),oG 6 false 22 (.unOp .not 4 (oTt 21)),oP 23 (.pick (oTt 18) (.const (.bool true)) (oTt 22)),oP 24 (oMv 5),oP 25 (.build 197 #[(0,(oTt 23)),(1,(oTt 24))]),oP 26 (.buildSlice 105 1 #[(0,(oTt 25))]),oP 27 (oBu .append #[(oTt 16),(oTt 26)] #[105,105]),oP 28 (.nilCheck (oTt 12)),oP 29 (oFa 107 28 2),oN (.store 105 (oTt 29) (oTt 27))]
def U4:List Oper:=Qgr
theorem Qrj:Qah.toList.map bare=Qgr:=by kernel_rfl
theorem Qeq:Qah.toList.map bare=U4:=Qrj
def J3:List Nat:=[0,0,2,6,14,0,32,96,224,480,992,2016,0,8160,16352,32766,65535,131071,262143]
theorem Qf9:Qpo Qah.toList []=some J3:=by kernel_rfl
theorem Qil:Wm Qah.toList Qah.toList J3 []=true:=by kernel_rfl
theorem Qjq(b:Nat)(L:List KE)(s:St):Ab.runT (E b) L U4 J3 U4 0 s=Ab.runT (E b) L U4 J3 Qgr 0 s:=rfl
theorem Qjk:nth U4 6=some ⟨(some 18),.move (.tmp 17),0,"",#[],none⟩:=rfl
theorem Qkg(b:Nat):Ws (E b) 8 ((nth J3 8).getD 0) U4 J3 0=true:=by kernel_rfl
theorem Qkm(b:Nat):Ws (E b) 9 ((nth J3 9).getD 0) U4 J3 0=true:=by kernel_rfl
theorem Qjn(b:Nat):Ws (E b) 15 ((nth J3 15).getD 0) U4 J3 0=true:=by kernel_rfl
theorem Qjm(b:Nat):Ws (E b) 18 ((nth J3 18).getD 0) U4 J3 0=true:=by kernel_rfl
abbrev Q04:Code:=.seq Q0a Qze
abbrev Qxo:List Oper:=[oP 31 (.binOp .eql 3 (oTt 7) (oCi 137) 3),oP 30 (oAs 31)]
abbrev Q05:Code:=oRg Qxo
abbrev Qvy:List Oper:=[oP 32 (.binOp .eql 3 (oTt 7) (oCi 138) 3),oP 30 (oAs 32)]
abbrev Qwv:Code:=oRg Qvy
abbrev Qxp:Code:=.cond (.tmp 30) .skip Qwv
abbrev Q07:Code:=.seq Q05 Qxp
abbrev Qvv:List Oper:=[oP 33 (oMv 0),oP 34 (.nilCheck (oTt 33)),oP 35 (oFa 107 34 2),oP 36 (oLd 105 35),oP 37 (oBu .len #[(oTt 36)] #[105]),oP 38 (.binOp .gtr 3 (oTt 37) (oCi 0) 3),oP 39 (oCa 50 #[(oTt 38),(oCi 16)] #[4,35])]
abbrev Qwn:Code:=oRg Qvv
noncomputable def Qbj:Array Oper:=Qmw (Qms 9 (Za 84))
def Q0d:Code:=.region 9 Qbj true
abbrev Qgp:List Oper:=[oP 40 (oMv 0),oP 41 (.nilCheck (oTt 40)),oP 42 (oFa 107 41 2),oP 43 (oLd 105 42),oP 44 (oMv 0),oP 45 (.nilCheck (oTt 44)),oP 46 (oFa 107 45 2),oP 47 (oLd 105 46),oP 48 (oBu .len #[(oTt 47)] #[105]),oP 49 (.binOp .sub 3 (oTt 48) (oCi 1) 3),oP 50 (oIx 105 43 49),oP 6 (oAs 50)]
def Qe7:List Oper:=Qgp
theorem Qrg:Qbj.toList.map bare=Qgp:=by kernel_rfl
theorem Qim:Qbj.toList.map bare=Qe7:=Qrg
def Qau:List Nat:=[0,1,3,7,0,16,48,112,240,496,1023,2047]
theorem Qj4:Qpo Qbj.toList []=some Qau:=by kernel_rfl
theorem Qio:Wm Qbj.toList Qbj.toList Qau []=true:=by kernel_rfl
theorem Qjo(b:Nat)(L:List KE)(s:St):Ab.runT (E b) L Qe7 Qau Qe7 0 s=Ab.runT (E b) L Qe7 Qau Qgp 0 s:=rfl
abbrev Qvm:List Oper:=[oP 51 (oMv 1),oP 52 (.binOp .eql 3 (oTt 51) (oCi 138) 3)]
abbrev Qxi:Code:=oRg Qvm
noncomputable def Qb6:Array Oper:=Qmw (Qms 11 (Za 84))
def Qlt:Code:=.region 11 Qb6 true
abbrev Qga:List Oper:=[oP 53 (oMv 0),oP 54 (oMv 0),oP 55 (.nilCheck (oTt 54)),oP 56 (oFa 107 55 2),oP 57 (oLd 105 56),oP 58 (oMv 0),oP 59 (.nilCheck (oTt 58)),oP 60 (oFa 107 59 2),oP 61 (oLd 105 60),oP 62 (oBu .len #[(oTt 61)] #[105]),oP 63 (.binOp .sub 3 (oTt 62) (oCi 1) 3),oP 64 (.slice 105 (oTt 57) none (some (oTt 63)) none),oP 65 (.nilCheck (oTt 53)),oP 66 (oFa 107 65 2),oN (.store 105 (oTt 66) (oTt 64))]
def Qc9:List Oper:=Qga
theorem Qqi:Qb6.toList.map bare=Qga:=by kernel_rfl
theorem Qpz:Qb6.toList.map bare=Qc9:=Qqi
def Wn:List Nat:=[0,0,2,6,14,0,32,96,224,480,992,2046,4095,8191,16383]
theorem Qqh:Qpo Qb6.toList []=some Wn:=by kernel_rfl
theorem Qpn:Wm Qb6.toList Qb6.toList Wn []=true:=by kernel_rfl
theorem Qrm(b:Nat)(L:List KE)(s:St):Ab.runT (E b) L Qc9 Wn Qc9 0 s=Ab.runT (E b) L Qc9 Wn Qga 0 s:=rfl
theorem Qs1(b:Nat):Ws (E b) 14 ((nth Wn 14).getD 0) Qc9 Wn 0=true:=by kernel_rfl
def Qlz:Code:=.seq Qlt (.exit 0)
theorem Ye:Wv (E b) C D0 rd Qlz s K=Wv (E b) C D0 rd Qlt s (Xnu (Zme (E b) C D0 rd (.exit 0) K) K):=rfl
abbrev Qwg:Code:=.cond (.tmp 52) Qlz .skip
abbrev Qwf:Code:=.seq Qxi Qwg
abbrev Qv3:List Oper:=[oP 67 (oMv 6),oP 68 (.nilCheck (oTt 67)),oP 69 (oFa 197 68 2),oP 70 (oLd 4 69),oP 71 (.unOp .not 4 (oTt 70)),oP 72 (oCa 50 #[(oTt 71),(oCi 16)] #[4,35])]
abbrev Qwz:Code:=oRg Qv3
abbrev Qup:List Oper:=[oP 73 (oMv 6),oP 74 (.nilCheck (oTt 73)),oP 75 (oFa 197 74 2),oN (.store 4 (oTt 75) (.const (.bool true)))]
abbrev Qy6:Code:=oRg Qup
abbrev Qlc:List Oper:=[oP 76 (oMv 6),oP 77 (oMv 6),oP 78 (.nilCheck (oTt 77)),oP 79 (oFa 197 78 1),oP 80 (oLd 4 79),oP 81 (oMv 80),oG 5 false 82 (oMv 6),oG 5 false 83 (.nilCheck (oTt 82)),oG 5 false 84 (oFa 197 83 0),oG 5 false 85 (oLd 4 84),oG 5 false 86 (.unOp .not 4 (oTt 85)),oP 87 (.pick (oTt 81) (.const (.bool true)) (oTt 86)),oP 88 (.nilCheck (oTt 76)),oP 89 (oFa 197 88 0),oN (.store 4 (oTt 89) (oTt 87))]
def Qh6:List Oper:=Qlc
def Qmb:Code:=oRg Qh6
theorem Yd:oRQ Qmb Qh6 Qlc:=fun _ _=>rfl
theorem Ya:nth Qh6 5=some ⟨(some 81),.move (.tmp 80),0,"",#[],none⟩:=rfl
abbrev Qyy:Code:=.seq Qy6 Qmb
abbrev Qxx:Code:=.seq Qwz Qyy
abbrev Qyv:Code:=.seq Qwf Qxx
abbrev Qxu:Code:=.seq Q0d Qyv
abbrev Qwy:Code:=.seq Qwn Qxu
def Qmk:List Oper:=Qh1
def Qlw:Code:=oRg Qmk
theorem Yc:oRQ Qlw Qmk Qh1:=fun _ _=>rfl
abbrev Qx3:Code:=.seq Qlw .ret
abbrev Qyz:Code:=.cond (.tmp 30) Qwy Qx3
abbrev Qyg:Code:=.seq Q07 Qyz
abbrev Qyb:Code:=.cond (.tmp 8) Q04 Qyg
abbrev Qzp:Code:=.seq Qzw Qyb
abbrev Qx0:Code:=.block 0 Qzp
abbrev Q0b:Code:=.seq Qza Qx0
abbrev Qv7:List Oper:=[oP 4 (.assign (.const (.bool true)))]
abbrev Qxg:Code:=oRg Qv7
abbrev Qwl:Code:=.seq Qxg .ret
abbrev Qyq:Code:=.seq Q0b Qwl
abbrev Q08:Code:=.seq Qzv Qyq
def Yf:Code:=Q08
theorem Qd3:Ww (Za 84)=Yf:=by kernel_rfl
theorem Qc8:Qfo.body=some (Za 84):=by kernel_rfl
theorem Qdd:Qfo.ntmps=90:=by kernel_rfl
theorem Yl:Qfo.results.toList=[.tmp 4]:=by kernel_rfl
def Qqs:List Oper:=Qj9
def Qrb:Code:=oRg Qqs
theorem Jy:oRQ Qrb Qqs Qj9:=fun _ _=>rfl
abbrev Q9g:List Oper:=[oP 5 (oMv 0),oP 6 (oCa 86 #[(oTt 5)] #[100]),oP 7 (oMv 0),oP 8 (oCa 86 #[(oTt 7)] #[100]),oP 3 (oAs 6),oP 4 (oAs 8)]
abbrev Xeq:Code:=oRg Q9g
abbrev Qp5:List Oper:=[oP 9 (oMv 3),oP 10 (oBu .len #[(oTt 9)] #[47]),oP 11 (.binOp .eql 3 (oTt 10) (oCi 1) 3),oP 12 (oMv 11),oG 3 true 13 (oMv 4),oG 3 true 14 (oBu .len #[(oTt 13)] #[47]),oG 3 true 15 (.binOp .eql 3 (oTt 14) (oCi 16) 3),oP 16 (.pick (oTt 12) (oTt 15) (.const (.bool false))),oP 17 (oCa 50 #[(oTt 16),(oCi 16)] #[4,35])]
def Ql1:List Oper:=Qp5
def Qqw:Code:=oRg Ql1
theorem Jx:oRQ Qqw Ql1 Qp5:=fun _ _=>rfl
theorem Jr:nth Ql1 3=some ⟨(some 12),.move (.tmp 11),0,"",#[],none⟩:=rfl
noncomputable def Qda:Array Oper:=Qmw (Qms 3 (Za 89))
def Xc4:Code:=.region 3 Qda true
abbrev Qj1:List Oper:=[oP 18 (oMv 0),oP 19 (.nilCheck (oTt 18)),oP 20 (oFa 107 19 0),oP 21 (oFa 59 20 0),oP 22 (oLd 38 21),oP 23 (oMv 3),oP 24 (.indexAddr 47 (oTt 23) (oCi 0)),oP 25 (oLd 5 24),oP 26 (.convert 5 3 (oTt 25)),oP 27 (oMv 0),oP 28 (.nilCheck (oTt 27)),oP 29 (oFa 107 28 0),oP 30 (oFa 59 29 1),oP 31 (oLd 23 30),oP 32 (oMv 4),oP 33 (.sliceToArrayPointer 90 (oTt 32)),oP 34 (oLd 90 33),oP 35 (oCa 123 #[(oTt 22),(oTt 26),(oTt 31),(oTt 34)] #[38,3,23,90]),oP 2 (oAs 35)]
def Qeh:List Oper:=Qj1
theorem Qxe:Qda.toList.map bare=Qj1:=by kernel_rfl
theorem Qv2:Qda.toList.map bare=Qeh:=Qxe
def Qb2:List Nat:=[0,1,3,7,15,0,32,96,224,0,512,1536,3584,7680,0,16384,49152,131071,262143]
theorem Qz1:Qpo Qda.toList []=some Qb2:=by kernel_rfl
theorem Quy:Wm Qda.toList Qda.toList Qb2 []=true:=by kernel_rfl
theorem Qzm(b:Nat)(L:List KE)(s:St):Ab.runT (E b) L Qeh Qb2 Qeh 0 s=Ab.runT (E b) L Qeh Qb2 Qj1 0 s:=rfl
theorem Qzq(b:Nat):Ws (E b) 17 ((nth Qb2 17).getD 0) Qeh Qb2 0=true:=by kernel_rfl
abbrev Xfd:Code:=.seq Xc4 .ret
abbrev Xbt:Code:=.seq Qqw Xfd
abbrev Xbu:Code:=.seq Xeq Xbt
abbrev Xek:Code:=.seq Qrb Xbu
def Jq:Code:=Xek
theorem Qqo:Ww (Za 89)=Jq:=by kernel_rfl
theorem Qou:Qi6.body=some (Za 89):=by kernel_rfl
theorem Qte:Qi6.ntmps=36:=by kernel_rfl
theorem Vb:Qi6.results.toList=[.tmp 2]:=by kernel_rfl
abbrev Q4z:List Oper:=[oP 6 (oMv 0),oP 7 (oCa 86 #[(oTt 6)] #[100]),oP 2 (oAs 7)]
abbrev Q7u:Code:=oRg Q4z
abbrev Q5o:List Oper:=[oP 8 (oMv 2),oP 9 (oBu .len #[(oTt 8)] #[47]),oP 10 (.binOp .eql 3 (oTt 9) (oCi 4) 3),oP 11 (oCa 50 #[(oTt 10),(oCi 16)] #[4,35])]
abbrev Q7m:Code:=oRg Q5o
abbrev Q3h:List Oper:=[oP 3 (.assign (oCi 0))]
abbrev Q8e:Code:=oRg Q3h
abbrev Q4i:List Oper:=[oP 12 (oMv 2),oP 13 (oBu .len #[(oTt 12)] #[47]),oP 14 (.move (oCi 0))]
abbrev Q8g:Code:=oRg Q4i
abbrev Q5e:List Oper:=[oP 15 (.binOp .lss 3 (oTt 14) (oTt 13) 3)]
abbrev Q9t:Code:=oRg Q5e
abbrev Q4c:Code:=.cond (.tmp 15) .skip (.exit 0)
abbrev Q2o:List Oper:=[oP 16 (oMv 14),oP 17 (oIx 47 12 14),oP 18 (oLd 5 17),oP 4 (oAs 16),oP 5 (oAs 18)]
abbrev Q3w:Code:=oRg Q2o
abbrev Q1y:List Oper:=[oP 19 (oMv 3),oP 20 (oMv 5),oP 21 (.convert 5 3 (oTt 20)),oP 22 (oMv 4),oP 23 (.binOp .mul 3 (oCi 8) (oTt 22) 3),oP 24 (.binOp .shl 3 (oTt 21) (oTt 23) 3),oP 25 (.binOp .or 3 (oTt 19) (oTt 24) 3),oP 3 (oAs 25)]
abbrev Q4l:Code:=oRg Q1y
abbrev Q4f:Code:=.seq Q3w Q4l
abbrev Q31:Code:=.block 1 Q4f
abbrev Q1j:List Oper:=[oP 26 (.binOp .add 3 (oTt 14) (oCi 1) 3),oP 14 (oMv 26)]
abbrev Q3y:Code:=oRg Q1j
abbrev Q36:Code:=.seq Q31 Q3y
abbrev Q59:Code:=.seq Q4c Q36
abbrev Q9b:Code:=.seq Q9t Q59
def Q3k:Code:=.loop Q9b
abbrev Q57:Code:=.block 0 Q3k
abbrev Q7w:Code:=.seq Q8g Q57
abbrev Q1f:List Oper:=[oP 27 (oMv 0),oP 28 (.nilCheck (oTt 27)),oP 29 (oFa 107 28 0),oP 30 (oFa 59 29 2),oP 31 (oLd 3 30),oP 32 (oMv 3),oP 33 (.binOp .geq 3 (oTt 31) (oTt 32) 3),oP 34 (oCa 50 #[(oTt 33),(oCi 18)] #[4,35])]
abbrev Q32:Code:=oRg Q1f
abbrev Q5n:Code:=.seq Q7w Q32
abbrev Q66:Code:=.seq Q8e Q5n
abbrev Q9z:Code:=.seq Q7m Q66
abbrev Q7o:Code:=.seq Q7u Q9z
def V9:Code:=Q7o
theorem Qq5:Ww (Za 90)=V9:=by kernel_rfl
theorem Qnp:Qhj.body=some (Za 90):=by kernel_rfl
theorem Qrd:Qhj.ntmps=35:=by kernel_rfl
theorem U8:Qhj.results.toList=[]:=by kernel_rfl
abbrev Q9c:List Oper:=[oP 3 (.box 103 (oTt 1))]
abbrev Xew:Code:=oRg Q9c
abbrev Qpk:List Oper:=[oP 9 (oMv 0),oP 10 (oFa 103 3 0),oP 11 (oLd 3 10),oP 12 (oCa 84 #[(oTt 9),(oTt 11)] #[100,3]),oP 13 (oMv 12),oG 4 false 14 (oMv 0),oG 4 false 15 (oCa 85 #[(oTt 14)] #[100]),oP 16 (.pick (oTt 13) (.const (.bool true)) (oTt 15))]
def Ql3:List Oper:=Qpk
def Qr9:Code:=oRg Ql3
theorem Xe:oRQ Qr9 Ql3 Qpk:=fun _ _=>rfl
theorem Xb:nth Ql3 4=some ⟨(some 13),.move (.tmp 12),0,"",#[],none⟩:=rfl
abbrev Xcp:Code:=.cond (.tmp 16) .ret .skip
abbrev Xcj:Code:=.seq Qr9 Xcp
abbrev Q69:List Oper:=[oP 17 (oFa 103 3 0),oP 18 (oLd 3 17)]
abbrev Xds:Code:=oRg Q69
abbrev Q96:List Oper:=[oP 24 (.binOp .eql 3 (oTt 18) (oCi 129) 3),oP 23 (oAs 24)]
abbrev Xcv:Code:=oRg Q96
abbrev Q3s:List Oper:=[oP 25 (oMv 0),oP 26 (oCa 86 #[(oTt 25)] #[100]),oP 4 (oAs 26)]
abbrev Q8s:Code:=oRg Q3s
abbrev Q3o:List Oper:=[oP 27 (oMv 0),oP 28 (oMv 4),oP 29 (oCa 83 #[(oTt 27),(oTt 28)] #[100,47])]
abbrev Xa1:Code:=oRg Q3o
abbrev Q4y:List Oper:=[oP 30 (oMv 0),oP 31 (oMv 4),oP 32 (oCa 83 #[(oTt 30),(oTt 31)] #[100,47])]
abbrev Q93:Code:=oRg Q4y
abbrev Q9s:Code:=.seq Xa1 Q93
abbrev Q6p:Code:=.seq Q8s Q9s
abbrev Q4u:List Oper:=[oP 34 (.binOp .eql 3 (oTt 18) (oCi 130) 3),oP 33 (oAs 34)]
abbrev Q6d:Code:=oRg Q4u
abbrev Q4g:List Oper:=[oP 35 (oMv 0),oP 36 (oCa 86 #[(oTt 35)] #[100])]
abbrev Q88:Code:=oRg Q4g
abbrev Q3c:List Oper:=[oP 38 (.binOp .eql 3 (oTt 18) (oCi 131) 3),oP 37 (oAs 38)]
abbrev Q5v:Code:=oRg Q3c
abbrev Q48:List Oper:=[oP 39 (oMv 0),oP 40 (oCa 86 #[(oTt 39)] #[100]),oP 41 (oCa 87 #[(oTt 40)] #[47]),oP 5 (.alloc 23),oN (.store 23 (oTt 5) (oTt 41))]
abbrev Q6z:Code:=oRg Q48
abbrev Q4q:List Oper:=[oP 42 (oMv 0),oP 43 (.slice 23 (oTt 5) none none none),oP 44 (oCa 83 #[(oTt 42),(oTt 43)] #[100,47])]
abbrev Q60:Code:=oRg Q4q
abbrev Q72:Code:=.seq Q6z Q60
abbrev Q3e:List Oper:=[oP 46 (.binOp .eql 3 (oTt 18) (oCi 132) 3),oP 45 (oAs 46)]
abbrev Xah:Code:=oRg Q3e
abbrev Q3n:List Oper:=[oP 47 (oMv 0),oP 48 (oCa 86 #[(oTt 47)] #[100]),oP 49 (oMv 0),oP 50 (oCa 86 #[(oTt 49)] #[100]),oP 6 (oAs 48),oP 7 (oAs 50)]
abbrev Q8t:Code:=oRg Q3n
abbrev Q4j:List Oper:=[oP 51 (oMv 0),oP 52 (oMv 6),oP 53 (oMv 7),oP 54 (oCa 42 #[(oTt 52),(oTt 53)] #[47,47]),oP 55 (oCa 88 #[(oTt 51),(oTt 54)] #[100,4])]
abbrev Q9i:Code:=oRg Q4j
abbrev Q5u:Code:=.seq Q8t Q9i
abbrev Q3b:List Oper:=[oP 57 (.binOp .eql 3 (oTt 18) (oCi 133) 3),oP 56 (oAs 57)]
abbrev Q67:Code:=oRg Q3b
abbrev Q5c:List Oper:=[oP 58 (oMv 0),oP 59 (oCa 86 #[(oTt 58)] #[100]),oP 60 (oCa 53 #[(oTt 59)] #[47]),oP 61 (oCa 50 #[(oTt 60),(oCi 16)] #[4,35])]
abbrev Q90:Code:=oRg Q5c
abbrev Q5a:List Oper:=[oP 63 (.binOp .eql 3 (oTt 18) (oCi 134) 3),oP 62 (oAs 63)]
abbrev Q6u:Code:=oRg Q5a
abbrev Q37:List Oper:=[oP 64 (oMv 0),oP 65 (oMv 0),oP 66 (oCa 89 #[(oTt 65)] #[100]),oP 67 (oCa 88 #[(oTt 64),(oTt 66)] #[100,4])]
abbrev Xa4:Code:=oRg Q37
abbrev Q5j:List Oper:=[oP 69 (.binOp .eql 3 (oTt 18) (oCi 135) 3),oP 68 (oAs 69)]
abbrev Q8x:Code:=oRg Q5j
abbrev Q3j:List Oper:=[oP 70 (oMv 0),oP 71 (oCa 90 #[(oTt 70)] #[100])]
abbrev Xa8:Code:=oRg Q3j
abbrev Q3p:List Oper:=[oP 73 (.binOp .eql 3 (oTt 18) (oCi 139) 3),oP 72 (oAs 73)]
abbrev Q70:Code:=oRg Q3p
abbrev Q3d:List Oper:=[oP 74 (oMv 0),oP 75 (oCa 86 #[(oTt 74)] #[100]),oP 8 (oAs 75)]
abbrev Q6j:Code:=oRg Q3d
abbrev Q4s:List Oper:=[oP 76 (oMv 0),oP 77 (oMv 8),oP 78 (oCa 83 #[(oTt 76),(oTt 77)] #[100,47])]
abbrev Q8w:Code:=oRg Q4s
abbrev Q50:List Oper:=[oP 79 (oMv 0),oP 80 (oMv 8),oP 81 (oBu .len #[(oTt 80)] #[47]),oP 82 (.convert 3 5 (oTt 81)),oP 83 (.buildSlice 47 1 #[(0,(oTt 82))]),oP 84 (oCa 83 #[(oTt 79),(oTt 83)] #[100,47])]
abbrev Q94:Code:=oRg Q50
abbrev Q85:Code:=.seq Q8w Q94
abbrev Q9e:Code:=.seq Q6j Q85
abbrev Q55:List Oper:=[oP 19 (oMv 0),oP 20 (oFa 103 3 1),oP 21 (oLd 47 20),oP 22 (oCa 83 #[(oTt 19),(oTt 21)] #[100,47])]
abbrev Q8k:Code:=oRg Q55
abbrev Q9k:Code:=.cond (.tmp 72) Q9e Q8k
abbrev Q6r:Code:=.seq Q70 Q9k
abbrev Q77:Code:=.cond (.tmp 68) Xa8 Q6r
abbrev Q7g:Code:=.seq Q8x Q77
abbrev Q8r:Code:=.cond (.tmp 62) Xa4 Q7g
abbrev Q64:Code:=.seq Q6u Q8r
abbrev Q98:Code:=.cond (.tmp 56) Q90 Q64
abbrev Q8q:Code:=.seq Q67 Q98
abbrev Q6t:Code:=.cond (.tmp 45) Q5u Q8q
abbrev Q7d:Code:=.seq Xah Q6t
abbrev Q8j:Code:=.cond (.tmp 37) Q72 Q7d
abbrev Q6e:Code:=.seq Q5v Q8j
abbrev Xad:Code:=.cond (.tmp 33) Q88 Q6e
abbrev Q6c:Code:=.seq Q6d Xad
abbrev Q6b:Code:=.cond (.tmp 23) Q6p Q6c
abbrev Xcc:Code:=.seq Xcv Q6b
abbrev Q7c:Code:=.block 0 Xcc
abbrev Xey:Code:=.seq Xds Q7c
abbrev Xeb:Code:=.seq Xcj Xey
abbrev Xd3:Code:=.seq Xew Xeb
def Xc:Code:=Xd3
theorem U0:Ww (Za 52)=Xc:=by kernel_rfl
theorem Vn:Qhu.body=some (Za 52):=by kernel_rfl
theorem Ue:Qhu.ntmps=85:=by kernel_rfl
theorem Xi:Qhu.results.toList=[]:=by kernel_rfl
end Go.Proofs.YtgeeklmjfbiieaaDoor
end
noncomputable section
namespace Go.Proofs.YtgeeklmjfbiieaaDoor
open Go Go.Ab
set_option maxRecDepth 100000
noncomputable def Qs6:Func:=(Tryd.prog.funcs[51]?).getD default
theorem Jv(b:Nat):(mkE Tryd.prog nv b).fn.get 51=some Qs6:=by kernel_rfl
noncomputable def R59:TyRec:=((mkE Tryd.prog nv 0).ty.get 59).getD ⟨.invalid,0,0,.bool false,[]⟩
theorem Zpm(b:Nat):(E b).toEnv.ty.get 59=some R59:=by kernel_rfl
theorem Zih:Qep R59.desc=true:=by kernel_rfl
theorem Zdu:R59.size=34:=by kernel_rfl
theorem Qs2(b:Nat)(h:Heap)(bk o:Nat):Qih (E b).toEnv 59 (.pointer (some ⟨bk,o,none⟩)) h=Qgi h bk o 34:=Xuv (Zpm b) Zih Zdu
noncomputable def Qgy:Func:=(Tryd.prog.funcs[18]?).getD default
theorem Z6(b:Nat):(mkE Tryd.prog nv b).fn.get 18=some Qgy:=by kernel_rfl
noncomputable def R35:TyRec:=((mkE Tryd.prog nv 0).ty.get 35).getD ⟨.invalid,0,0,.bool false,[]⟩
theorem Zll(b:Nat):(E b).toEnv.ty.get 35=some R35:=by kernel_rfl
theorem Zk7:Qep R35.desc=false:=by kernel_rfl
theorem Zcq:R35.size=1:=by kernel_rfl
theorem Q2q(b:Nat)(h:Heap):Qe4 (E b).toEnv 35 h=some (.pointer (some ⟨h.next,0,none⟩),h.push (.cells true 1 [(.int .i64 0)])):=by kernel_rfl
theorem Wp(x y:Int):Qbv (binOp .eql 35 (.int .i64 x) (.int .i64 y))=some (.bool (decide (x=y))):=by kernel_rfl
theorem Q7r(b:Nat){bk o n c:Nat}{k:IntKind}{i:Int}(h:0≤i∧i < n):Zn (E b).toEnv 67 (.slice (some ⟨bk,o,none⟩) n c) (.int k i)=some (.pointer (some ⟨bk,o+i.toNat*2,none⟩)):=Qhi (T67 b) Qsl h
theorem Qii(b:Nat)(h:Heap)(bk o:Nat)(k:IntKind)(z:Int):Qeu (E b).toEnv 35 (.pointer (some ⟨bk,o,none⟩)) (.int k z) h=Wg h bk o [(.int k z)]:=Xav (Zll b) Zcq rfl
noncomputable def Qgw:Func:=(Tryd.prog.funcs[49]?).getD default
theorem Qq1(b:Nat):(mkE Tryd.prog nv b).fn.get 49=some Qgw:=by kernel_rfl
theorem Zhm(b:Nat):Qmr (E b).toEnv 47 9=false:=by kernel_rfl
noncomputable def Qht:Func:=(Tryd.prog.funcs[54]?).getD default
theorem V0(b:Nat):(mkE Tryd.prog nv b).fn.get 54=some Qht:=by kernel_rfl
noncomputable def Zo7:TyRec:=((mkE Tryd.prog nv 0).ty.get 158).getD ⟨.invalid,0,0,.bool false,[]⟩
theorem Zc2(b:Nat):(E b).toEnv.ty.get 158=some Zo7:=by kernel_rfl
theorem Zf6:Qep Zo7.desc=true:=by kernel_rfl
theorem Yxc:Zo7.size=8:=by kernel_rfl
noncomputable def Zip:TyRec:=((mkE Tryd.prog nv 0).ty.get 156).getD ⟨.invalid,0,0,.bool false,[]⟩
theorem Y4u(b:Nat):(E b).toEnv.ty.get 156=some Zip:=by kernel_rfl
theorem Zfg:Qep Zip.desc=false:=by kernel_rfl
theorem Qha:Zip.size=1:=by kernel_rfl
theorem Zqk(b:Nat):ArTy (E b).toEnv 8 156 158 Zip Zo7:=⟨Y4u b,Zc2 b,by kernel_rfl⟩
theorem Xay(b:Nat)(h:Heap)(bk o:Nat):Qih (E b).toEnv 158 (.pointer (some ⟨bk,o,none⟩)) h=Qgi h bk o 8:=Xuv (Zc2 b) Zf6 Yxc
theorem Q0p(b:Nat)(h:Heap):Qe4 (E b).toEnv 158 h=some (.pointer (some ⟨h.next,0,none⟩),h.push (.cells true 1 [(.int .u32 0),(.int .u32 0),(.int .u32 0),(.int .u32 0),(.int .u32 0),(.int .u32 0),(.int .u32 0),(.int .u32 0)])):=by kernel_rfl
theorem Q0v(b:Nat)(h:Heap)(bk o:Nat)(l:List Value)(hl:l.length=8):Qeu (E b).toEnv 158 (.pointer (some ⟨bk,o,none⟩)) (.agg ⟨l⟩) h=Wg h bk o l:=X7y (Zc2 b) (by rw[Yxc];exact hl)
theorem Q0q(b:Nat){bk o:Nat}{k:IntKind}{i:Int}(h:0≤i∧i < 8):Zn (E b).toEnv 158 (.pointer (some ⟨bk,o,none⟩)) (.int k i)=some (.pointer (some ⟨bk,o+i.toNat*1,none⟩)):=Xwe (Zqk b) Qha h
theorem Uq(b:Nat)(h:Heap)(bk o:Nat):Qih (E b).toEnv 156 (.pointer (some ⟨bk,o,none⟩)) h=V2 h bk o:=Q4v (Y4u b) Zfg
theorem Qag(b:Nat):Qmr (E b).toEnv 3 156=true:=by kernel_rfl
theorem Wr(b:Nat)(k:IntKind)(n:Int):Qli (E b).toEnv 3 156 (.int k n)=some (.int .u32 (IntKind.wrap .u32 n)):=by kernel_rfl
theorem J6(b:Nat)(h:Heap)(bk o:Nat)(k:IntKind)(z:Int):Qeu (E b).toEnv 156 (.pointer (some ⟨bk,o,none⟩)) (.int k z) h=Wg h bk o [(.int k z)]:=Xav (Y4u b) Qha rfl
theorem Q16(b:Nat)(h:Heap):Qe4 (E b).toEnv 161 h=some (.pointer (some ⟨h.next,0,none⟩),h.push (.cells true 1 (List.replicate 64 (.int .u8 0)))):=by kernel_rfl
theorem Qa4(b:Nat):Qmr (E b).toEnv 3 160=true:=by kernel_rfl
theorem Qa3(b:Nat)(k:IntKind)(n:Int):Qli (E b).toEnv 3 160 (.int k n)=some (.int .u64 (IntKind.wrap .u64 n)):=by kernel_rfl
theorem Qo7(x y:Int):Qbv (binOp .add 160 (.int .u64 x) (.int .u64 y))=some (.int .u64 (IntKind.wrap .u64 (x+y))):=by kernel_rfl
noncomputable def Xu8:Func:=(Tryd.prog.funcs[92]?).getD default
theorem Wk(b:Nat):(mkE Tryd.prog nv b).fn.get 92=some Xu8:=by kernel_rfl
theorem Qad(x:Int):Qbv (binOp .quo 3 (.int .i64 x) (.int .i64 4))=some (.int .i64 (IntKind.wrap .i64 (Int.tdiv x 4))):=by kernel_rfl
theorem Qab(x:Int):Qbv (binOp .rem 3 (.int .i64 x) (.int .i64 4))=some (.int .i64 (Int.tmod x 4)):=by kernel_rfl
theorem Qaf(b:Nat):Qmr (E b).toEnv 156 5=true:=by kernel_rfl
theorem Qac(b:Nat)(k:IntKind)(n:Int):Qli (E b).toEnv 156 5 (.int k n)=some (.int .u8 (IntKind.wrap .u8 n)):=by kernel_rfl
theorem Qhk(b:Nat){bk o:Nat}{k:IntKind}{i:Int}(h:0≤i∧i < 32):Zn (E b).toEnv 23 (.pointer (some ⟨bk,o,none⟩)) (.int k i)=some (.pointer (some ⟨bk,o+i.toNat*1,none⟩)):=Xwe (T23 b) Qbg h
theorem Qaw(b:Nat)(h:Heap)(bk o:Nat)(k:IntKind)(z:Int):Qeu (E b).toEnv 5 (.pointer (some ⟨bk,o,none⟩)) (.int k z) h=Wg h bk o [(.int k z)]:=Xav (Y5r b) Qbg rfl
noncomputable def Qn1:Func:=(Tryd.prog.funcs[144]?).getD default
theorem Jz(b:Nat):(mkE Tryd.prog nv b).fn.get 144=some Qn1:=by kernel_rfl
theorem Qgf(b:Nat)(q:Bool)(a:Option Addr):Yu (E b).toEnv .neq 227 q (.pointer a) (.pointer none)=some (.bool (!a.isNone)):=by cases a <;> kernel_rfl
noncomputable def Qld:Func:=(Tryd.prog.funcs[115]?).getD default
theorem Vo(b:Nat):(mkE Tryd.prog nv b).fn.get 115=some Qld:=by kernel_rfl
def L90:List Nat:=R90.leaf
theorem Qom(b:Nat)(q:Bool)(x y:List Value):Yu (E b).toEnv .eql 90 q (.agg ⟨x⟩) (.agg ⟨y⟩)=(Qbf L90 x y).map .bool:=by kernel_rfl
theorem Qhy(b:Nat)(h:Heap):Qe4 (E b).toEnv 90 h=some (.pointer (some ⟨h.next,0,none⟩),h.push (.cells true 1 [(.int .u8 0),(.int .u8 0),(.int .u8 0),(.int .u8 0),(.int .u8 0),(.int .u8 0),(.int .u8 0),(.int .u8 0),(.int .u8 0),(.int .u8 0),(.int .u8 0),(.int .u8 0),(.int .u8 0),(.int .u8 0),(.int .u8 0),(.int .u8 0)])):=by kernel_rfl
theorem Qzg(b:Nat)(h:Heap)(bk o:Nat)(l:List Value)(hl:l.length=16):Qeu (E b).toEnv 90 (.pointer (some ⟨bk,o,none⟩)) (.agg ⟨l⟩) h=Wg h bk o l:=X7y (Zdl b) (by rw[Y3q];exact hl)
theorem Q12(b bk o:Nat):Ua (E b).toEnv 111 (.pointer (some ⟨bk,o,none⟩)) 0=some (.pointer (some ⟨bk,o+0,none⟩)):=by kernel_rfl
noncomputable def Zpw:TyRec:=((mkE Tryd.prog nv 0).ty.get 109).getD ⟨.invalid,0,0,.bool false,[]⟩
theorem Zl7(b:Nat):(E b).toEnv.ty.get 109=some Zpw:=by kernel_rfl
theorem Zqi(b:Nat):ArTy (E b).toEnv 32 23 109 R23 Zpw:=⟨Zf9 b,Zl7 b,by kernel_rfl⟩
theorem Xok(b:Nat){bk o:Nat}{k:IntKind}{i:Int}(h:0≤i∧i < 32):Zn (E b).toEnv 109 (.pointer (some ⟨bk,o,none⟩)) (.int k i)=some (.pointer (some ⟨bk,o+i.toNat*32,none⟩)):=Xwe (Zqi b) Yov h
abbrev X31:List Oper:=[oP 3 (.box 59 (oTt 1)),oP 4 (.assign (.const (.pointer none)))]
abbrev X7r:Code:=oRg X31
abbrev X2m:List Oper:=[oP 8 (oLd 59 3),oP 9 (.build 107 #[(0,(oTt 8))]),oP 10 (.box 107 (oTt 9)),oP 5 (oAs 10)]
abbrev Yeu:Code:=oRg X2m
abbrev X1v:List Oper:=[oP 11 (oMv 0),oP 12 (oBu .len #[(oTt 11)] #[43]),oP 13 (.move (oCi 0))]
abbrev X7o:Code:=oRg X1v
abbrev X1b:List Oper:=[oP 14 (.binOp .lss 3 (oTt 13) (oTt 12) 3)]
abbrev X95:Code:=oRg X1b
abbrev X8q:Code:=.cond (.tmp 14) .skip (.exit 0)
abbrev Xys:List Oper:=[oP 15 (oIx 43 11 13),oP 16 (oLd 47 15),oP 7 (oAs 16)]
abbrev X3x:Code:=oRg Xys
abbrev Xzm:List Oper:=[oP 17 (oMv 7),oP 18 (oBu .len #[(oTt 17)] #[47]),oP 19 (.binOp .leq 3 (oTt 18) (oCi 64) 3),oP 20 (oCa 50 #[(oTt 19),(oCi 16)] #[4,35])]
abbrev X4a:Code:=oRg Xzm
abbrev Xyy:List Oper:=[oP 21 (oMv 5),oP 22 (oMv 7),oP 23 (oCa 83 #[(oTt 21),(oTt 22)] #[100,47])]
abbrev X49:Code:=oRg Xyy
abbrev X6r:Code:=.seq X4a X49
abbrev X2j:Code:=.seq X3x X6r
abbrev X4j:Code:=.block 1 X2j
abbrev X0e:List Oper:=[oP 24 (.binOp .add 3 (oTt 13) (oCi 1) 3),oP 13 (oMv 24)]
abbrev X4l:Code:=oRg X0e
abbrev X5y:Code:=.seq X4j X4l
abbrev Ydm:Code:=.seq X8q X5y
abbrev Yfb:Code:=.seq X95 Ydm
def X4m:Code:=.loop Yfb
abbrev X5g:Code:=.block 0 X4m
abbrev Ygg:Code:=.seq X7o X5g
abbrev Xyg:List Oper:=[oP 25 (oMv 5),oP 4 (oAs 25)]
abbrev X61:Code:=oRg Xyg
abbrev X2p:Code:=.seq X61 .ret
abbrev X3u:Code:=.seq Ygg X2p
abbrev Yai:Code:=.seq Yeu X3u
abbrev Yea:Code:=.seq X7r Yai
def Qd1:Code:=Yea
theorem X9b:Ww (Za 51)=Qd1:=by kernel_rfl
theorem Xxz:Qs6.body=some (Za 51):=by kernel_rfl
theorem Ykm:Qs6.ntmps=26:=by kernel_rfl
theorem Qfp:Qs6.results.toList=[.tmp 4]:=by kernel_rfl
abbrev Ykc:List Oper:=[oP 5 (.box 59 (oTt 2)),oP 6 (.alloc 35)]
abbrev Yqc:Code:=oRg Ykc
abbrev Yl9:List Oper:=[oP 12 (.makeFunc (.func 49) #[] #[(oTt 6)]),oN (.defer {callee:=.value (oTt 12),args:=#[],argTypes:=#[]})]
abbrev Yt1:Code:=oRg Yl9
abbrev Yjp:List Oper:=[oP 14 (oMv 0),oP 15 (oCa 24 #[(oTt 14)] #[47]),oP 13 (oMv 15),oP 16 (.extract (oTt 13) 0),oP 17 (.extract (oTt 13) 1),oP 7 (oAs 16),oP 8 (oAs 17)]
abbrev Ypj:Code:=oRg Yjp
abbrev Ykk:List Oper:=[oP 18 (oMv 8),oP 19 (.binOp .eql 35 (oTt 18) (oCi 0) 35),oP 20 (oMv 8),oP 21 (oCa 50 #[(oTt 19),(oTt 20)] #[4,35])]
abbrev Yre:Code:=oRg Ykk
abbrev Yje:List Oper:=[oP 22 (oMv 1),oP 23 (oLd 59 5),oP 24 (oCa 51 #[(oTt 22),(oTt 23)] #[43,59]),oP 9 (oAs 24)]
abbrev Yti:Code:=oRg Yje
abbrev X82:List Oper:=[oP 25 (oMv 7),oP 26 (oBu .len #[(oTt 25)] #[67]),oP 27 (.move (oCi 0))]
abbrev Yl4:Code:=oRg X82
abbrev Ygw:List Oper:=[oP 28 (.binOp .lss 3 (oTt 27) (oTt 26) 3)]
abbrev Yhz:Code:=oRg Ygw
abbrev Ymn:Code:=.cond (.tmp 28) .skip (.exit 0)
abbrev Ydz:List Oper:=[oP 29 (oIx 67 25 27),oP 30 (oLd 103 29),oP 11 (.alloc 103),oN (.store 103 (oTt 11) (oTt 30))]
abbrev Yjk:Code:=oRg Ydz
abbrev Ye9:List Oper:=[oP 31 (oMv 9),oP 32 (oLd 103 11),oP 33 (oCa 52 #[(oTt 31),(oTt 32)] #[100,103])]
abbrev Ym0:Code:=oRg Ye9
abbrev Yj0:Code:=.seq Yjk Ym0
abbrev Yme:Code:=.block 1 Yj0
abbrev Yab:List Oper:=[oP 34 (.binOp .add 3 (oTt 27) (oCi 1) 3),oP 27 (oMv 34)]
abbrev Ymb:Code:=oRg Yab
abbrev Ylu:Code:=.seq Yme Ymb
abbrev Ykg:Code:=.seq Ymn Ylu
abbrev Yju:Code:=.seq Yhz Ykg
def Yhv:Code:=.loop Yju
abbrev Ymf:Code:=.block 0 Yhv
abbrev Yji:Code:=.seq Yl4 Ymf
abbrev Xfy:List Oper:=[oP 35 (oMv 9),oP 36 (.nilCheck (oTt 35)),oP 37 (oFa 107 36 2),oP 38 (oLd 105 37),oP 39 (oBu .len #[(oTt 38)] #[105]),oP 40 (.binOp .eql 3 (oTt 39) (oCi 0) 3),oP 41 (oMv 40),oG 6 true 42 (oMv 9),oG 6 true 43 (.nilCheck (oTt 42)),oG 6 true 44 (oFa 107 43 1),oG 6 true 45 (oLd 43 44),oG 6 true 46 (oBu .len #[(oTt 45)] #[43]),oG 6 true 47 (.binOp .eql 3 (oTt 46) (oCi 1) 3),oP 48 (.pick (oTt 41) (oTt 47) (.const (.bool false))),oP 49 (oMv 48),oG 14 true 50 (oMv 9),oG 14 true 51 (.nilCheck (oTt 50)),oG 14 true 52 (oFa 107 51 1),oG 14 true 53 (oLd 43 52),oG 14 true 54 (.indexAddr 43 (oTt 53) (oCi 0)),oG 14 true 55 (oLd 47 54),oG 14 true 56 (oCa 53 #[(oTt 55)] #[47]),oP 57 (.pick (oTt 49) (oTt 56) (.const (.bool false))),oP 58 (oCa 50 #[(oTt 57),(oCi 16)] #[4,35])]
def Qsa:List Oper:=Xfy
def Xpm:Code:=oRg Qsa
theorem U6:oRQ Xpm Qsa Xfy:=fun _ _=>rfl
theorem Vs:nth Qsa 6=some ⟨(some 41),.move (.tmp 40),0,"",#[],none⟩:=rfl
theorem Ve:nth Qsa 14=some ⟨(some 49),.move (.tmp 48),0,"",#[],none⟩:=rfl
abbrev X8m:List Oper:=[oN (.store 35 (oTt 6) (oCi 0))]
abbrev Yl7:Code:=oRg X8m
abbrev Yi7:Code:=.seq Yl7 .ret
abbrev Ylw:Code:=.seq Xpm Yi7
abbrev Yi1:Code:=.seq Yji Ylw
abbrev Ytn:Code:=.seq Yti Yi1
abbrev Yr3:Code:=.seq Yre Ytn
abbrev Yt5:Code:=.seq Ypj Yr3
abbrev Ysa:Code:=.seq Yt1 Yt5
abbrev Yoo:Code:=.seq Yqc Ysa
def U3:Code:=Yoo
theorem Yrx:Ww (Za 18)=U3:=by kernel_rfl
theorem Yay:Qgy.body=some (Za 18):=by kernel_rfl
theorem Yz1:Qgy.ntmps=59:=by kernel_rfl
theorem Uz:Qgy.results.toList=[.cell 6 35]:=by kernel_rfl
abbrev X6h:List Oper:=[oP 2 (oBu .recover #[] #[]),oP 1 (oAs 2)]
def Qwi:List Oper:=X6h
def Qww:Code:=oRg Qwi
abbrev X3n:List Oper:=[oP 3 (oMv 1),oP 4 (.binOp .neq 20 (oTt 3) (.const .nilIface) 20)]
def Qx2:List Oper:=X3n
def Qz2:Code:=oRg Qx2
abbrev X4d:List Oper:=[oP 5 (oMv 1),oP 6 (.typeAssert (oTt 5) 20 35 false),oN (.store 35 (oTt 0) (oTt 6))]
def Qyr:List Oper:=X4d
def Qwr:Code:=oRg Qyr
abbrev Qyo:Code:=.cond (.tmp 4) Qwr .skip
abbrev Qx6:Code:=.seq Qz2 Qyo
abbrev Qy1:Code:=.seq Qww Qx6
def Qrx:Code:=Qy1
theorem Xjz:Ww (Za 49)=Qrx:=by kernel_rfl
theorem Q43:Qgw.body=some (Za 49):=by kernel_rfl
theorem Xp1:Qgw.ntmps=7:=by kernel_rfl
theorem Xh8:Qgw.results.toList=[]:=by kernel_rfl
abbrev Yfp:List Oper:=[oP 4 (.assign (.const (.bool false)))]
abbrev Yjd:Code:=oRg Yfp
abbrev Yfi:List Oper:=[oP 5 (oMv 0),oP 6 (.convert 47 9 (oTt 5)),oP 7 (oMv 1),oP 8 (.convert 47 9 (oTt 7)),oP 9 (.binOp .eql 9 (oTt 6) (oTt 8) 9),oP 4 (oAs 9)]
abbrev Yi4:Code:=oRg Yfi
abbrev Ykz:Code:=.seq Yi4 .ret
abbrev Ylb:Code:=.seq Yjd Ykz
def Xbf:Code:=Ylb
theorem Yks:Ww (Za 42)=Xbf:=by kernel_rfl
theorem X5z:Qvt.body=some (Za 42):=by kernel_rfl
theorem Yoe:Qvt.ntmps=10:=by kernel_rfl
theorem Ykp:Qvt.results.toList=[.tmp 4]:=by kernel_rfl
abbrev Yt2:List Oper:=[oP 2 (.alloc 23)]
abbrev Yxe:Code:=oRg Yt2
abbrev Yqj:List Oper:=[oP 3 (oMv 0),oP 4 (oCa 54 #[(.const (.slice none 0 0)),(oTt 3)] #[47,47]),oN (.store 23 (oTt 2) (oTt 4))]
abbrev Yvo:Code:=oRg Yqj
abbrev Yvz:Code:=.seq Yvo .ret
abbrev Yxd:Code:=.seq Yxe Yvz
def Q2i:Code:=Yxd
theorem Yve:Ww (Za 87)=Q2i:=by kernel_rfl
theorem Yl1:Q7a.body=some (Za 87):=by kernel_rfl
theorem Y0h:Q7a.ntmps=5:=by kernel_rfl
theorem X15:Q7a.results.toList=[.cell 2 23]:=by kernel_rfl
abbrev Yh0:List Oper:=[oP 4 (.alloc 23)]
abbrev Yko:Code:=oRg Yh0
abbrev Yeg:List Oper:=[oP 13 (oMv 0),oP 14 (oBu .len #[(oTt 13)] #[47]),oP 15 (.binOp .gtr 3 (oTt 14) (oCi 32) 3)]
abbrev Yj4:Code:=oRg Yeg
abbrev X7p:List Oper:=[oP 16 (oMv 0),oP 17 (oCa 87 #[(oTt 16)] #[47]),oP 5 (.alloc 23),oN (.store 23 (oTt 5) (oTt 17))]
abbrev Yin:Code:=oRg X7p
abbrev X7l:List Oper:=[oP 18 (.slice 23 (oTt 5) none none none),oP 0 (oAs 18)]
abbrev Ykf:Code:=oRg X7l
abbrev Ym1:Code:=.seq Yin Ykf
abbrev Yi5:Code:=.cond (.tmp 15) Ym1 .skip
abbrev Yl2:Code:=.seq Yj4 Yi5
abbrev X7v:List Oper:=[oP 19 (.load 158 (.global 0)),oP 6 (.alloc 158),oN (.store 158 (oTt 6) (oTt 19))]
abbrev Xpc:Code:=oRg X7v
abbrev X2h:List Oper:=[oP 20 (.indexAddr 158 (oTt 6) (oCi 0)),oP 21 (oLd 156 20),oP 22 (oMv 0),oP 23 (oBu .len #[(oTt 22)] #[47]),oP 24 (.convert 3 156 (oTt 23)),oP 25 (.binOp .shl 156 (oTt 24) (.const (.int .u64 8)) 159),oP 26 (.binOp .xor 156 (.const (.int .u32 16842752)) (oTt 25) 156),oP 27 (.binOp .xor 156 (oTt 26) (.const (.int .u32 32)) 156),oP 28 (.binOp .xor 156 (oTt 21) (oTt 27) 156),oP 29 (.indexAddr 158 (oTt 6) (oCi 0)),oN (.store 156 (oTt 29) (oTt 28))]
abbrev Yhb:Code:=oRg X2h
abbrev X6k:List Oper:=[oP 30 (oMv 1),oP 7 (oAs 30)]
abbrev Yg5:Code:=oRg X6k
abbrev X1u:List Oper:=[oP 31 (oMv 0),oP 32 (oBu .len #[(oTt 31)] #[47]),oP 33 (.binOp .gtr 3 (oTt 32) (oCi 0) 3)]
abbrev Ybb:Code:=oRg X1u
abbrev X32:List Oper:=[oP 34 (oMv 1),oP 35 (oBu .len #[(oTt 34)] #[47]),oP 36 (.binOp .add 3 (oCi 64) (oTt 35) 3),oP 37 (.makeSlice 47 (oCi 0) (oTt 36)),oP 38 (oMv 0),oP 39 (oBu .append #[(oTt 37),(oTt 38)] #[47,47]),oP 40 (oMv 0),oP 41 (oBu .len #[(oTt 40)] #[47]),oP 42 (.binOp .sub 3 (oCi 64) (oTt 41) 3),oP 43 (oBu .append #[(oTt 39),(oTt 42)] #[47,3]),oP 44 (oMv 1),oP 45 (oBu .append #[(oTt 43),(oTt 44)] #[47,47]),oP 7 (oAs 45)]
abbrev Ygy:Code:=oRg X32
abbrev Ygs:Code:=.cond (.tmp 33) Ygy .skip
abbrev Yf3:Code:=.seq Ybb Ygs
abbrev X5a:List Oper:=[oP 8 (.assign (.const (.int .u64 0)))]
abbrev X8c:Code:=oRg X5a
abbrev X3c:List Oper:=[oP 9 (.alloc 161)]
abbrev X9n:Code:=oRg X3c
abbrev X65:List Oper:=[oP 46 (.slice 161 (oTt 9) none none none),oP 47 (oMv 7),oP 48 (oBu .copy #[(oTt 46),(oTt 47)] #[47,47]),oP 10 (oAs 48)]
abbrev X98:Code:=oRg X65
abbrev X3z:List Oper:=[oP 49 (oMv 7),oP 50 (oMv 10),oP 51 (.slice 47 (oTt 49) (some (oTt 50)) none none),oP 7 (oAs 51)]
abbrev X9p:Code:=oRg X3z
abbrev X67:List Oper:=[oP 52 (oMv 8),oP 53 (oMv 10),oP 54 (.convert 3 160 (oTt 53)),oP 55 (.binOp .add 160 (oTt 52) (oTt 54) 160),oP 8 (oAs 55)]
abbrev Ye5:Code:=oRg X67
abbrev X20:List Oper:=[oP 56 (oLd 158 6),oP 57 (oMv 8),oP 58 (oMv 7),oP 59 (oBu .len #[(oTt 58)] #[47]),oP 60 (.binOp .eql 3 (oTt 59) (oCi 0) 3),oP 61 (oCa 92 #[(oTt 56),(oTt 9),(oTt 57),(oTt 60)] #[158,163,160,4]),oN (.store 158 (oTt 6) (oTt 61))]
abbrev Ycq:Code:=oRg X20
abbrev X64:List Oper:=[oP 62 (oMv 7),oP 63 (oBu .len #[(oTt 62)] #[47]),oP 64 (.binOp .eql 3 (oTt 63) (oCi 0) 3)]
abbrev Ycx:Code:=oRg X64
abbrev Ydv:Code:=.cond (.tmp 64) (.exit 0) .skip
abbrev Ygx:Code:=.seq Ycx Ydv
abbrev Ygc:Code:=.seq Ycq Ygx
abbrev Yfc:Code:=.seq Ye5 Ygc
abbrev Yg3:Code:=.seq X9p Yfc
abbrev Ya9:Code:=.seq X98 Yg3
abbrev Ybq:Code:=.seq X9n Ya9
abbrev Ydg:Code:=.block 1 Ybq
def Xki:Code:=.loop Ydg
def Qxl:Code:=.block 0 Xki
theorem Qa2:oBQ 0 Qxl Xki:=fun _ _=>rfl
abbrev X2n:List Oper:=[oP 11 (.alloc 23)]
abbrev Ydy:Code:=oRg X2n
abbrev X58:List Oper:=[oP 65 (.move (oCi 0))]
abbrev Yf2:Code:=oRg X58
abbrev X5j:List Oper:=[oP 66 (.binOp .lss 3 (oTt 65) (oCi 32) 3)]
abbrev Ygv:Code:=oRg X5j
abbrev Ych:Code:=.cond (.tmp 66) .skip (.exit 2)
abbrev X3w:List Oper:=[oP 67 (oMv 65),oP 12 (oAs 67)]
abbrev Ye8:Code:=oRg X3w
abbrev X41:List Oper:=[oP 68 (oMv 12),oP 69 (oMv 12),oP 70 (.binOp .quo 3 (oTt 69) (oCi 4) 3),oP 71 (oIx 158 6 70),oP 72 (oLd 156 71),oP 73 (oMv 12),oP 74 (.binOp .rem 3 (oTt 73) (oCi 4) 3),oP 75 (.binOp .mul 3 (oCi 8) (oTt 74) 3),oP 76 (.binOp .shr 156 (oTt 72) (oTt 75) 3),oP 77 (.convert 156 5 (oTt 76)),oP 78 (oIx 23 11 68),oN (.store 5 (oTt 78) (oTt 77))]
abbrev X9j:Code:=oRg X41
abbrev X8n:Code:=.seq Ye8 X9j
abbrev Ycu:Code:=.block 3 X8n
abbrev X4s:List Oper:=[oP 79 (.binOp .add 3 (oTt 65) (oCi 1) 3),oP 65 (oMv 79)]
abbrev Ygn:Code:=oRg X4s
abbrev X8p:Code:=.seq Ycu Ygn
abbrev Yd3:Code:=.seq Ych X8p
abbrev Yec:Code:=.seq Ygv Yd3
def Yd9:Code:=.loop Yec
abbrev Ya4:Code:=.block 2 Yd9
abbrev Yf7:Code:=.seq Yf2 Ya4
abbrev X4r:List Oper:=[oP 80 (oLd 23 11),oN (.store 23 (oTt 4) (oTt 80))]
abbrev Yge:Code:=oRg X4r
abbrev Yba:Code:=.seq Yge .ret
abbrev X96:Code:=.seq Yf7 Yba
abbrev Qz6:Code:=.seq Ydy X96
def Qps:Code:=.seq Qxl Qz6
theorem Uy:oSQ Qps Qxl Qz6:=fun _ _=>rfl
abbrev Ycl:Code:=.seq X8c Qps
abbrev Yfq:Code:=.seq Yf3 Ycl
abbrev Yfa:Code:=.seq Yg5 Yfq
abbrev Xia:Code:=.seq Yhb Yfa
def Qya:Code:=.seq Xpc Xia
theorem Ux:oSQ Qya Xpc Xia:=fun _ _=>rfl
abbrev Yma:Code:=.seq Yl2 Qya
abbrev Ym6:Code:=.seq Yko Yma
def Wj:Code:=Ym6
theorem Xoj:Ww (Za 54)=Wj:=by kernel_rfl
theorem Xb2:Qht.body=some (Za 54):=by kernel_rfl
theorem Xvh:Qht.ntmps=81:=by kernel_rfl
theorem Qcu:Qht.results.toList=[.cell 4 23]:=by kernel_rfl
abbrev Xdq:List Oper:=[oP 6 (.box 23 (oTt 2)),oP 7 (.box 90 (oTt 3)),oP 8 (.assign (.const (.bool false)))]
abbrev Xj5:Code:=oRg Xdq
noncomputable def Qe0:Array Oper:=Qmw (Qms 1 (Za 123))
def Xkf:Code:=.region 1 Qe0 true
abbrev Qk4:List Oper:=[oP 9 (oMv 0),oP 10 (oMv 1),oP 11 (oCa 144 #[(oTt 9),(oTt 10)] #[38,3]),oP 12 (.binOp .neq 227 (oTt 11) (.const (.pointer none)) 227),oP 13 (oMv 12),oG 4 true 14 (oMv 0),oG 4 true 15 (oMv 1),oG 4 true 16 (oLd 23 6),oG 4 true 17 (oCa 115 #[(oTt 14),(oTt 15),(oTt 16)] #[38,3,23]),oG 4 true 18 (oLd 90 7),oG 4 true 19 (.binOp .eql 90 (oTt 17) (oTt 18) 90),oP 20 (.pick (oTt 13) (oTt 19) (.const (.bool false))),oP 8 (oAs 20)]
def Qc6:List Oper:=Qk4
theorem Q00:Qe0.toList.map bare=Qk4:=by kernel_rfl
theorem Qm8:Qe0.toList.map bare=Qc6:=Q00
def W6:List Nat:=[0,0,3,7,15,31,31,31,255,31,1023,2047,4095]
theorem Qn7:Qpo Qe0.toList []=some W6:=by kernel_rfl
theorem Qme:Wm Qe0.toList Qe0.toList W6 []=true:=by kernel_rfl
theorem Qnl(b:Nat)(L:List KE)(s:St):Ab.runT (E b) L Qc6 W6 Qc6 0 s=Ab.runT (E b) L Qc6 W6 Qk4 0 s:=rfl
theorem Qnn:nth Qc6 4=some ⟨(some 13),.move (.tmp 12),0,"",#[],none⟩:=rfl
theorem Qow(b:Nat):Ws (E b) 2 ((nth W6 2).getD 0) Qc6 W6 0=true:=by kernel_rfl
theorem Qor(b:Nat):Ws (E b) 8 ((nth W6 8).getD 0) Qc6 W6 0=true:=by kernel_rfl
abbrev Xg5:Code:=.seq Xkf .ret
abbrev Xl2:Code:=.seq Xj5 Xg5
def Wx:Code:=Xl2
theorem Qsi:Ww (Za 123)=Wx:=by kernel_rfl
theorem Qpa:Qis.body=some (Za 123):=by kernel_rfl
theorem Quk:Qis.ntmps=21:=by kernel_rfl
theorem Qbi:Qis.results.toList=[.tmp 8]:=by kernel_rfl
abbrev Xo0:List Oper:=[oP 5 (.box 23 (oTt 2)),oP 6 (.alloc 90)]
abbrev Xqv:Code:=oRg Xo0
abbrev Xnx:List Oper:=[oP 9 (oMv 0),oP 10 (oMv 1),oP 11 (oCa 144 #[(oTt 9),(oTt 10)] #[38,3]),oP 7 (oAs 11)]
abbrev Xr4:Code:=oRg Xnx
abbrev Xng:List Oper:=[oP 12 (oMv 7),oP 13 (.binOp .neq 227 (oTt 12) (.const (.pointer none)) 227)]
abbrev Xps:Code:=oRg Xng
noncomputable def Qfb:Array Oper:=Qmw (Qms 3 (Za 115))
def Xsa:Code:=.region 3 Qfb true
abbrev Qmd:List Oper:=[oP 14 (oMv 7),oP 15 (.nilCheck (oTt 14)),oP 16 (.slice 23 (oTt 15) none none none),oP 17 (.slice 23 (oTt 5) none none none),oP 18 (oCa 54 #[(oTt 16),(oTt 17)] #[47,47]),oP 8 (.alloc 23),oN (.store 23 (oTt 8) (oTt 18))]
def Qgm:List Oper:=Qmd
theorem Q33:Qfb.toList.map bare=Qmd:=by kernel_rfl
theorem Q1x:Qfb.toList.map bare=Qgm:=Q33
def Qcm:List Nat:=[0,1,3,0,15,0,63]
theorem Q5i:Qpo Qfb.toList []=some Qcm:=by kernel_rfl
theorem Q1c:Wm Qfb.toList Qfb.toList Qcm []=true:=by kernel_rfl
theorem Q74(b:Nat)(L:List KE)(s:St):Ab.runT (E b) L Qgm Qcm Qgm 0 s=Ab.runT (E b) L Qgm Qcm Qmd 0 s:=rfl
theorem Xen(b:Nat):Ws (E b) 6 ((nth Qcm 6).getD 0) Qgm Qcm 0=true:=by kernel_rfl
noncomputable def Qfa:Array Oper:=Qmw (Qms 4 (Za 115))
def Xqh:Code:=.region 4 Qfa true
abbrev Qm2:List Oper:=[oP 19 (.slice 90 (oTt 6) none none none),oP 20 (.slice 23 (oTt 8) none none none),oP 21 (oBu .copy #[(oTt 19),(oTt 20)] #[47,47])]
def Qgj:List Oper:=Qm2
theorem Q5b:Qfa.toList.map bare=Qm2:=by kernel_rfl
theorem Q1d:Qfa.toList.map bare=Qgj:=Q5b
def Qcl:List Nat:=[0,0,3]
theorem Q2x:Qpo Qfa.toList []=some Qcl:=by kernel_rfl
theorem Q24:Wm Qfa.toList Qfa.toList Qcl []=true:=by kernel_rfl
theorem Q6s(b:Nat)(L:List KE)(s:St):Ab.runT (E b) L Qgj Qcl Qgj 0 s=Ab.runT (E b) L Qgj Qcl Qm2 0 s:=rfl
theorem Xdn(b:Nat):Ws (E b) 2 ((nth Qcl 2).getD 0) Qgj Qcl 0=true:=by kernel_rfl
abbrev Xq1:Code:=.seq Xsa Xqh
abbrev Xr2:Code:=.cond (.tmp 13) Xq1 .skip
abbrev Xrr:Code:=.seq Xps Xr2
abbrev Xqn:Code:=.seq Xr4 Xrr
abbrev Xo4:List Oper:=[oP 22 (oLd 90 6),oN (.store 90 (oTt 6) (oTt 22))]
abbrev Xrt:Code:=oRg Xo4
abbrev Xmy:Code:=.seq Xrt .ret
abbrev Xri:Code:=.seq Xqn Xmy
abbrev Xqr:Code:=.seq Xqv Xri
def Qao:Code:=Xqr
theorem Xrf:Ww (Za 115)=Qao:=by kernel_rfl
theorem Xk9:Qld.body=some (Za 115):=by kernel_rfl
theorem Xvk:Qld.ntmps=23:=by kernel_rfl
theorem Qck:Qld.results.toList=[.cell 6 90]:=by kernel_rfl
abbrev Qoh:List Oper:=[oP 4 (.assign (.const (.pointer none)))]
abbrev Xtv:Code:=oRg Qoh
abbrev Qxj:List Oper:=[oP 5 (oMv 1),oP 6 (.binOp .lss 3 (oTt 5) (oCi 1) 3),oP 7 (oMv 6),oG 2 false 8 (oMv 1),oG 2 false 9 (.binOp .gtr 3 (oTt 8) (oCi 32) 3),oP 10 (.pick (oTt 7) (.const (.bool true)) (oTt 9))]
def Qpw:List Oper:=Qxj
def Q0s:Code:=oRg Qpw
theorem Qnc:oRQ Q0s Qpw Qxj:=fun _ _=>rfl
theorem Qm1:nth Qpw 2=some ⟨(some 7),.move (.tmp 6),0,"",#[],none⟩:=rfl
def Q0k:List Oper:=Qoh
def Q13:Code:=oRg Q0k
theorem Qnf:oRQ Q13 Q0k Qoh:=fun _ _=>rfl
abbrev Xv5:Code:=.seq Q13 .ret
abbrev Xts:Code:=.cond (.tmp 10) Xv5 .skip
abbrev Xv9:Code:=.seq Q0s Xts
abbrev Xpt:List Oper:=[oP 11 (oMv 0),oP 12 (oMv 1),oP 13 (.binOp .sub 3 (oTt 12) (oCi 1) 3),oP 14 (.nilCheck (oTt 11)),oP 15 (oFa 111 14 0),oP 16 (oIx 109 15 13),oP 4 (oAs 16)]
abbrev Xvr:Code:=oRg Xpt
abbrev Xu9:Code:=.seq Xvr .ret
abbrev Xwg:Code:=.seq Xv9 Xu9
abbrev Xwd:Code:=.seq Xtv Xwg
def Qiw:Code:=Xwd
theorem Q0g:Ww (Za 144)=Qiw:=by kernel_rfl
theorem Qud:Qn1.body=some (Za 144):=by kernel_rfl
theorem Q44:Qn1.ntmps=17:=by kernel_rfl
theorem Qp6:Qn1.results.toList=[.tmp 4]:=by kernel_rfl
end Go.Proofs.YtgeeklmjfbiieaaDoor
end
noncomputable section
namespace Go.Proofs.YtgeeklmjfbiieaaDoor
open Go Go.Ab
set_option maxRecDepth 100000
noncomputable def Xlr:Func:=(Tryd.prog.funcs[19]?).getD default
theorem V8(b:Nat):(mkE Tryd.prog nv b).fn.get 19=some Xlr:=by kernel_rfl
noncomputable def Xlx:Func:=(Tryd.prog.funcs[7]?).getD default
theorem Qm3(b:Nat):(mkE Tryd.prog nv b).fn.get 7=some Xlx:=by kernel_rfl
noncomputable def Qoe:Func:=(Tryd.prog.funcs[28]?).getD default
theorem Yr(b:Nat):(mkE Tryd.prog nv b).fn.get 28=some Qoe:=by kernel_rfl
noncomputable def Xuk:Func:=(Tryd.prog.funcs[25]?).getD default
theorem Qmx(b:Nat):(mkE Tryd.prog nv b).fn.get 25=some Xuk:=by kernel_rfl
theorem Qhm(b:Nat)(a:Option Addr)(n c:Nat)(h:Heap):Qkb (E b).toEnv 86 (.slice a n c) h=some (.int .i64 n):=by kernel_rfl
noncomputable def R86:TyRec:=((mkE Tryd.prog nv 0).ty.get 86).getD ⟨.invalid,0,0,.bool false,[]⟩
theorem Ze8(b:Nat):(E b).toEnv.ty.get 86=some R86:=by kernel_rfl
theorem Zhf:Qep R86.desc=false:=by kernel_rfl
theorem Y3o:R86.size=1:=by kernel_rfl
theorem T86(b:Nat):SlTy (E b).toEnv 4 86 R4 R86:=⟨Zpo b,Ze8 b,by kernel_rfl⟩
theorem Xfj(b:Nat){bk o n c:Nat}{k:IntKind}{i:Int}(h:0≤i∧i < n):Zn (E b).toEnv 86 (.slice (some ⟨bk,o,none⟩) n c) (.int k i)=some (.pointer (some ⟨bk,o+i.toNat*1,none⟩)):=Qhi (T86 b) Q1m h
theorem Qdp(x y:Int):Qbv (binOp .neq 35 (.int .i64 x) (.int .i64 y))=some (.bool (!(decide (x=y)))):=by kernel_rfl
noncomputable def Yox:Func:=(Tryd.prog.funcs[15]?).getD default
theorem Jo(b:Nat):(mkE Tryd.prog nv b).fn.get 15=some Yox:=by kernel_rfl
abbrev Qgx:List Oper:=[oP 4 (.assign (oCi 0))]
def Ycm:List Oper:=Qgx
def Ybx:Code:=oRg Ycm
theorem Yql:oRQ Ybx Ycm Qgx:=fun _ _=>rfl
abbrev Yyt:List Oper:=[oP 5 (oMv 1),oP 6 (.binOp .lss 3 (oTt 5) (oCi 1) 3)]
abbrev Y0t:Code:=oRg Yyt
def Ya6:List Oper:=Qgx
def Yg2:Code:=oRg Ya6
theorem Yqk:oRQ Yg2 Ya6 Qgx:=fun _ _=>rfl
abbrev Y0j:Code:=.seq Yg2 .ret
abbrev Y20:Code:=.cond (.tmp 6) Y0j .skip
abbrev Y31:Code:=.seq Y0t Y20
abbrev Yyi:List Oper:=[oP 7 (oMv 0),oP 8 (oMv 1),oP 9 (.binOp .rem 3 (oTt 7) (oTt 8) 3),oP 0 (oAs 9)]
abbrev Y29:Code:=oRg Yyi
abbrev Yrd:List Oper:=[oP 10 (oMv 0),oP 11 (.binOp .lss 3 (oTt 10) (oCi 0) 3)]
abbrev Yvw:Code:=oRg Yrd
abbrev Yp1:List Oper:=[oP 12 (oMv 0),oP 13 (oMv 1),oP 14 (.binOp .add 3 (oTt 12) (oTt 13) 3),oP 0 (oAs 14)]
abbrev Yx2:Code:=oRg Yp1
abbrev Yvx:Code:=.cond (.tmp 11) Yx2 .skip
abbrev Yxw:Code:=.seq Yvw Yvx
abbrev Yqs:List Oper:=[oP 15 (oMv 0),oP 4 (oAs 15)]
abbrev Yww:Code:=oRg Yqs
abbrev Yw3:Code:=.seq Yww .ret
abbrev Yx0:Code:=.seq Yxw Yw3
abbrev Y1t:Code:=.seq Y29 Yx0
abbrev Y13:Code:=.seq Y31 Y1t
abbrev Y1s:Code:=.seq Ybx Y13
def Xt0:Code:=Y1s
theorem Y0m:Ww (Za 7)=Xt0:=by kernel_rfl
theorem Yqd:Xlx.body=some (Za 7):=by kernel_rfl
theorem Y7p:Xlx.ntmps=16:=by kernel_rfl
theorem Y1d:Xlx.results.toList=[.tmp 4]:=by kernel_rfl
abbrev Xt1:List Oper:=[oP 2 (.assign (.const (.slice none 0 0)))]
abbrev Xxg:Code:=oRg Xt1
abbrev Xt2:List Oper:=[oP 3 (.assign (.const (.slice none 0 0)))]
abbrev X02:Code:=oRg Xt2
def Q4e:List Oper:=Qgx
def Q4k:Code:=oRg Q4e
theorem Qka:oRQ Q4k Q4e Qgx:=fun _ _=>rfl
abbrev Qqe:List Oper:=[oP 5 (oMv 4),oP 6 (oMv 0),oP 7 (oBu .len #[(oTt 6)] #[43]),oP 8 (.binOp .lss 3 (oTt 5) (oTt 7) 3)]
abbrev X0b:Code:=oRg Qqe
abbrev X05:Code:=.cond (.tmp 8) .skip (.exit 0)
abbrev Xwz:Code:=.seq X0b X05
abbrev Xre:List Oper:=[oP 11 (oMv 3),oP 12 (oMv 0),oP 13 (oMv 4),oP 14 (oIx 43 12 13),oP 15 (oLd 47 14),oP 16 (oCa 46 #[(oTt 15)] #[47]),oP 17 (.buildSlice 43 1 #[(0,(oTt 16))]),oP 18 (oBu .append #[(oTt 11),(oTt 17)] #[43,43]),oP 3 (oAs 18)]
abbrev Xsp:Code:=oRg Xre
abbrev Xt3:Code:=.block 1 Xsp
abbrev Qol:List Oper:=[oP 9 (oMv 4),oP 10 (.binOp .add 3 (oTt 9) (oCi 1) 3),oP 4 (oAs 10)]
abbrev Xu0:Code:=oRg Qol
abbrev Xt4:Code:=.seq Xt3 Xu0
abbrev Xzl:Code:=.seq Xwz Xt4
def Xvz:Code:=.loop Xzl
abbrev Xvn:Code:=.block 0 Xvz
abbrev X0k:Code:=.seq Q4k Xvn
abbrev Xq6:List Oper:=[oP 19 (oMv 3),oP 2 (oAs 19)]
abbrev Xu7:Code:=oRg Xq6
abbrev Xt9:Code:=.seq Xu7 .ret
abbrev Xtg:Code:=.seq X0k Xt9
abbrev Xy0:Code:=.seq X02 Xtg
abbrev Xyv:Code:=.seq Xxg Xy0
def Qh3:Code:=Xyv
theorem X07:Ww (Za 28)=Qh3:=by kernel_rfl
theorem Xsg:Qoe.body=some (Za 28):=by kernel_rfl
theorem X2k:Qoe.ntmps=20:=by kernel_rfl
theorem Qmy:Qoe.results.toList=[.tmp 2]:=by kernel_rfl
abbrev Y27:List Oper:=[oP 2 (.assign (oCi 0))]
abbrev Y6s:Code:=oRg Y27
abbrev Y0x:List Oper:=[oP 3 (.assign (oCi 0))]
abbrev Y5q:Code:=oRg Y0x
def Yo8:List Oper:=Qgx
def Yo5:Code:=oRg Yo8
theorem Xj6:oRQ Yo5 Yo8 Qgx:=fun _ _=>rfl
def Yo0:List Oper:=Qqe
def Ynw:Code:=oRg Yo0
theorem Xlg:oRQ Ynw Yo0 Qqe:=fun _ _=>rfl
abbrev Y6j:Code:=.cond (.tmp 8) .skip (.exit 0)
abbrev Y76:Code:=.seq Ynw Y6j
abbrev Yuw:List Oper:=[oP 11 (oMv 3),oP 12 (oMv 0),oP 13 (oMv 4),oP 14 (oIx 43 12 13),oP 15 (oLd 47 14),oP 16 (oBu .len #[(oTt 15)] #[47]),oP 17 (.binOp .add 3 (oTt 11) (oTt 16) 3),oP 18 (.binOp .add 3 (oTt 17) (oCi 1) 3),oP 19 (oBu .min #[(oTt 18),(oCi 1099511627776)] #[3,3]),oP 3 (oAs 19)]
abbrev Y0v:Code:=oRg Yuw
abbrev Y33:Code:=.block 1 Y0v
def Yfw:List Oper:=Qol
def Ye1:Code:=oRg Yfw
theorem Q6i:oRQ Ye1 Yfw Qol:=fun _ _=>rfl
abbrev Y05:Code:=.seq Y33 Ye1
abbrev Y61:Code:=.seq Y76 Y05
def Yzv:Code:=.loop Y61
abbrev Y2j:Code:=.block 0 Yzv
abbrev Y6u:Code:=.seq Yo5 Y2j
abbrev Yyd:List Oper:=[oP 20 (oMv 3),oP 2 (oAs 20)]
abbrev Y18:Code:=oRg Yyd
abbrev Y1z:Code:=.seq Y18 .ret
abbrev Yzq:Code:=.seq Y6u Y1z
abbrev Y7g:Code:=.seq Y5q Yzq
abbrev Y6c:Code:=.seq Y6s Y7g
def Q18:Code:=Y6c
theorem Y66:Ww (Za 25)=Q18:=by kernel_rfl
theorem Yui:Xuk.body=some (Za 25):=by kernel_rfl
theorem Zbm:Xuk.ntmps=21:=by kernel_rfl
theorem Xzg:Xuk.results.toList=[.tmp 2]:=by kernel_rfl
end Go.Proofs.YtgeeklmjfbiieaaDoor
end
noncomputable section
namespace Go.Proofs.YtgeeklmjfbiieaaDoor
open Go Go.Ab
set_option maxRecDepth 100000
theorem X7k(b:Nat)(h:Heap):Qe4 (E b).toEnv 111 h=some (.pointer (some ⟨h.next,0,none⟩),h.push (.cells true 1 (List.replicate 1024 (.int .u8 0)))):=by kernel_rfl
noncomputable def Xlw:Func:=(Tryd.prog.funcs[55]?).getD default
theorem Qm0(b:Nat):(mkE Tryd.prog nv b).fn.get 55=some Xlw:=by kernel_rfl
noncomputable def Zpz:TyRec:=((mkE Tryd.prog nv 0).ty.get 166).getD ⟨.invalid,0,0,.bool false,[]⟩
theorem Zlc(b:Nat):(E b).toEnv.ty.get 166=some Zpz:=by kernel_rfl
noncomputable def Zm4:TyRec:=((mkE Tryd.prog nv 0).ty.get 165).getD ⟨.invalid,0,0,.bool false,[]⟩
theorem Y43(b:Nat):(E b).toEnv.ty.get 165=some Zm4:=by kernel_rfl
theorem Zd5:Qep Zm4.desc=true:=by kernel_rfl
theorem Xtr:Zm4.size=3:=by kernel_rfl
theorem Zqh(b:Nat):ArTy (E b).toEnv 3 165 166 Zm4 Zpz:=⟨Y43 b,Zlc b,by kernel_rfl⟩
theorem Y9b(b:Nat){bk o:Nat}{k:IntKind}{i:Int}(h:0≤i∧i < 3):Zn (E b).toEnv 166 (.pointer (some ⟨bk,o,none⟩)) (.int k i)=some (.pointer (some ⟨bk,o+i.toNat*3,none⟩)):=Xwe (Zqh b) Xtr h
theorem Y3k(b bk o:Nat):Ua (E b).toEnv 165 (.pointer (some ⟨bk,o,none⟩)) 2=some (.pointer (some ⟨bk,o+2,none⟩)):=by kernel_rfl
noncomputable def Zpx:TyRec:=((mkE Tryd.prog nv 0).ty.get 160).getD ⟨.invalid,0,0,.bool false,[]⟩
theorem Zln(b:Nat):(E b).toEnv.ty.get 160=some Zpx:=by kernel_rfl
theorem Zfa:Qep Zpx.desc=false:=by kernel_rfl
theorem Zgz(b:Nat)(h:Heap)(bk o:Nat):Qih (E b).toEnv 160 (.pointer (some ⟨bk,o,none⟩)) h=V2 h bk o:=Q4v (Zln b) Zfa
theorem Y3t(x y:Int):Qbv (binOp .lss 160 (.int .u64 x) (.int .u64 y))=some (.bool (decide (x < y))):=by kernel_rfl
noncomputable def Quz:Func:=(Tryd.prog.funcs[93]?).getD default
theorem Qnj(b:Nat):(mkE Tryd.prog nv b).fn.get 93=some Quz:=by kernel_rfl
theorem Zgp(b:Nat)(h:Heap)(bk o:Nat):Qih (E b).toEnv 165 (.pointer (some ⟨bk,o,none⟩)) h=Qgi h bk o 3:=Xuv (Y43 b) Zd5 Xtr
theorem Zgr(b:Nat)(h:Heap):Qe4 (E b).toEnv 165 h=some (.pointer (some ⟨h.next,0,none⟩),h.push (.cells true 1 [(.int .u8 0),(.int .i64 0),(.int .u64 0)])):=by kernel_rfl
theorem Zgi(b:Nat)(h:Heap)(bk o:Nat)(l:List Value)(hl:l.length=3):Qeu (E b).toEnv 165 (.pointer (some ⟨bk,o,none⟩)) (.agg ⟨l⟩) h=Wg h bk o l:=X7y (Y43 b) (by rw[Xtr];exact hl)
theorem Zgo(b:Nat)(a:Option Addr)(n c:Nat)(h:Heap):Qkb (E b).toEnv 168 (.slice a n c) h=some (.int .i64 n):=by kernel_rfl
noncomputable def Zpt:TyRec:=((mkE Tryd.prog nv 0).ty.get 168).getD ⟨.invalid,0,0,.bool false,[]⟩
theorem Zku(b:Nat):(E b).toEnv.ty.get 168=some Zpt:=by kernel_rfl
theorem Zqn(b:Nat):SlTy (E b).toEnv 165 168 Zm4 Zpt:=⟨Y43 b,Zku b,by kernel_rfl⟩
theorem Zg6(b:Nat){bk o n c:Nat}{k:IntKind}{i:Int}(h:0≤i∧i < n):Zn (E b).toEnv 168 (.slice (some ⟨bk,o,none⟩) n c) (.int k i)=some (.pointer (some ⟨bk,o+i.toNat*3,none⟩)):=Qhi (Zqn b) Xtr h
theorem Y38(x y:Int):Qbv (binOp .geq 160 (.int .u64 x) (.int .u64 y))=some (.bool (decide (x ≥ y))):=by kernel_rfl
theorem Y3f(b bk o:Nat):Ua (E b).toEnv 165 (.pointer (some ⟨bk,o,none⟩)) 0=some (.pointer (some ⟨bk,o+0,none⟩)):=by kernel_rfl
theorem Y3p(b bk o:Nat):Ua (E b).toEnv 165 (.pointer (some ⟨bk,o,none⟩)) 1=some (.pointer (some ⟨bk,o+1,none⟩)):=by kernel_rfl
theorem Y47(b:Nat):Qmr (E b).toEnv 160 5=true:=by kernel_rfl
theorem Y3a(b:Nat)(k:IntKind)(n:Int):Qli (E b).toEnv 160 5 (.int k n)=some (.int .u8 (IntKind.wrap .u8 n)):=by kernel_rfl
noncomputable def Qer:Func:=(Tryd.prog.funcs[132]?).getD default
theorem Uj(b:Nat):(mkE Tryd.prog nv b).fn.get 132=some Qer:=by kernel_rfl
theorem Zg8(b:Nat)(v:Value):Xlu (E b).toEnv 9 v=some (.iface 9 v):=by kernel_rfl
noncomputable def Qfz:Func:=(Tryd.prog.funcs[166]?).getD default
theorem W5(b:Nat):(mkE Tryd.prog nv b).fn.get 166=some Qfz:=by kernel_rfl
abbrev Yug:List Oper:=[oP 2 (.assign (.const (.pointer none)))]
abbrev Y03:Code:=oRg Yug
abbrev Yxg:List Oper:=[oP 3 (.alloc 111)]
abbrev Y2i:Code:=oRg Yxg
abbrev Yz9:List Oper:=[oP 5 (.move (oCi 0))]
abbrev Y2v:Code:=oRg Yz9
abbrev Yv0:List Oper:=[oP 6 (.binOp .lss 3 (oTt 5) (oCi 32) 3)]
abbrev Yzx:Code:=oRg Yv0
abbrev Yzy:Code:=.cond (.tmp 6) .skip (.exit 0)
abbrev Ypf:List Oper:=[oP 7 (oMv 5),oP 4 (oAs 7)]
abbrev Yu3:Code:=oRg Ypf
abbrev Yq3:List Oper:=[oP 8 (oMv 4),oP 9 (oMv 0),oP 10 (oMv 4),oP 11 (.binOp .add 3 (oTt 10) (oCi 1) 3),oP 12 (oCa 55 #[(.const (.slice none 0 0)),(oTt 11)] #[47,3]),oP 13 (oCa 54 #[(oTt 9),(oTt 12)] #[47,47]),oP 14 (oFa 111 3 0),oP 15 (oIx 109 14 8),oN (.store 23 (oTt 15) (oTt 13))]
abbrev Yuc:Code:=oRg Yq3
abbrev Yxy:Code:=.seq Yu3 Yuc
abbrev Yy8:Code:=.block 1 Yxy
abbrev Yst:List Oper:=[oP 16 (.binOp .add 3 (oTt 5) (oCi 1) 3),oP 5 (oMv 16)]
abbrev Yw9:Code:=oRg Yst
abbrev Yye:Code:=.seq Yy8 Yw9
abbrev Y0l:Code:=.seq Yzy Yye
abbrev Y2d:Code:=.seq Yzx Y0l
def Yz4:Code:=.loop Y2d
abbrev Yuh:Code:=.block 0 Yz4
abbrev Y2p:Code:=.seq Y2v Yuh
abbrev Yta:List Oper:=[oP 2 (oAs 3)]
abbrev Yxa:Code:=oRg Yta
abbrev Yw1:Code:=.seq Yxa .ret
abbrev Yuq:Code:=.seq Y2p Yw1
abbrev Y24:Code:=.seq Y2i Yuq
abbrev Y0s:Code:=.seq Y03 Y24
def Qmt:Code:=Y0s
theorem Y1q:Ww (Za 19)=Qmt:=by kernel_rfl
theorem Yoj:Xlr.body=some (Za 19):=by kernel_rfl
theorem Y6a:Xlr.ntmps=17:=by kernel_rfl
theorem Qyj:Xlr.results.toList=[.tmp 2]:=by kernel_rfl
abbrev Qss:List Oper:=[oP 4 (.assign (.const (.slice none 0 0)))]
abbrev Y19:Code:=oRg Qss
abbrev Yy9:List Oper:=[oP 11 (oMv 1),oP 12 (.convert 3 160 (oTt 11)),oP 5 (oAs 12)]
abbrev Y2x:Code:=oRg Yy9
abbrev Ywv:List Oper:=[oP 13 (oMv 5),oP 14 (.indexAddr 166 (.global 1) (oCi 0)),oP 15 (oFa 165 14 2),oP 16 (oLd 160 15),oP 17 (.binOp .lss 160 (oTt 13) (oTt 16) 160)]
abbrev Y12:Code:=oRg Ywv
abbrev Yyv:List Oper:=[oP 18 (oMv 0),oP 19 (oMv 1),oP 20 (.convert 3 5 (oTt 19)),oP 21 (.buildSlice 47 1 #[(0,(oTt 20))]),oP 22 (oCa 93 #[(oTt 18),(oTt 21)] #[47,47]),oP 4 (oAs 22)]
abbrev Y0e:Code:=oRg Yyv
abbrev Yzn:Code:=.seq Y0e .ret
abbrev Y1c:Code:=.cond (.tmp 17) Yzn .skip
abbrev Y1r:Code:=.seq Y12 Y1c
abbrev Yok:List Oper:=[oP 23 (.indexAddr 166 (.global 1) (oCi 0)),oP 24 (oLd 165 23),oP 6 (.alloc 165),oN (.store 165 (oTt 6) (oTt 24))]
abbrev Ywq:Code:=oRg Yok
abbrev Yp0:List Oper:=[oP 25 (.slice 166 (.global 1) (some (oCi 1)) none none),oP 26 (oBu .len #[(oTt 25)] #[168]),oP 27 (.move (oCi 0))]
abbrev Yzf:Code:=oRg Yp0
abbrev Xa0:List Oper:=[oP 28 (.binOp .lss 3 (oTt 27) (oTt 26) 3)]
abbrev Yz5:Code:=oRg Xa0
abbrev Ywn:Code:=.cond (.tmp 28) .skip (.exit 0)
abbrev Yoc:List Oper:=[oP 29 (oIx 168 25 27),oP 30 (oLd 165 29),oP 8 (.alloc 165),oN (.store 165 (oTt 8) (oTt 30))]
abbrev Yvn:Code:=oRg Yoc
abbrev Ypo:List Oper:=[oP 31 (oMv 5),oP 32 (oFa 165 8 2),oP 33 (oLd 160 32),oP 34 (.binOp .geq 160 (oTt 31) (oTt 33) 160)]
abbrev Yxi:Code:=oRg Ypo
abbrev Yqy:List Oper:=[oP 35 (oLd 165 8),oN (.store 165 (oTt 6) (oTt 35))]
abbrev Yv6:Code:=oRg Yqy
abbrev Yze:Code:=.cond (.tmp 34) Yv6 .skip
abbrev Yvk:Code:=.seq Yxi Yze
abbrev Yu1:Code:=.seq Yvn Yvk
abbrev Yv2:Code:=.block 1 Yu1
abbrev Yso:List Oper:=[oP 36 (.binOp .add 3 (oTt 27) (oCi 1) 3),oP 27 (oMv 36)]
abbrev Ywy:Code:=oRg Yso
abbrev Yz3:Code:=.seq Yv2 Ywy
abbrev Yux:Code:=.seq Ywn Yz3
abbrev Yu7:Code:=.seq Yz5 Yux
def Ywa:Code:=.loop Yu7
abbrev Yvl:Code:=.block 0 Ywa
abbrev Yyz:Code:=.seq Yzf Yvl
abbrev Ys9:List Oper:=[oP 37 (oMv 0),oP 38 (oFa 165 6 0),oP 39 (oLd 5 38),oP 40 (.buildSlice 47 1 #[(0,(oTt 39))]),oP 41 (oCa 93 #[(oTt 37),(oTt 40)] #[47,47]),oP 9 (oAs 41)]
abbrev Yy3:Code:=oRg Ys9
abbrev Ypy:List Oper:=[oP 42 (oFa 165 6 1),oP 43 (oLd 3 42),oP 44 (.move (oCi 0))]
abbrev Yxr:Code:=oRg Ypy
abbrev Yod:List Oper:=[oP 45 (.binOp .lss 3 (oTt 44) (oTt 43) 3)]
abbrev Yud:Code:=oRg Yod
abbrev Ywj:Code:=.cond (.tmp 45) .skip (.exit 2)
abbrev Yob:List Oper:=[oP 46 (oMv 44),oP 10 (oAs 46)]
abbrev Yuv:Code:=oRg Yob
abbrev Yt0:List Oper:=[oP 47 (oMv 9),oP 48 (oMv 5),oP 49 (oMv 10),oP 50 (.binOp .mul 3 (oCi 8) (oTt 49) 3),oP 51 (.binOp .shr 160 (oTt 48) (oTt 50) 3),oP 52 (.convert 160 5 (oTt 51)),oP 53 (.buildSlice 47 1 #[(0,(oTt 52))]),oP 54 (oBu .append #[(oTt 47),(oTt 53)] #[47,47]),oP 9 (oAs 54)]
abbrev Ywp:Code:=oRg Yt0
abbrev Yw7:Code:=.seq Yuv Ywp
abbrev Yus:Code:=.block 3 Yw7
abbrev Yrn:List Oper:=[oP 55 (.binOp .add 3 (oTt 44) (oCi 1) 3),oP 44 (oMv 55)]
abbrev Yw4:Code:=oRg Yrn
abbrev Yvv:Code:=.seq Yus Yw4
abbrev Yzh:Code:=.seq Ywj Yvv
abbrev Yy5:Code:=.seq Yud Yzh
def Yx7:Code:=.loop Yy5
abbrev Yva:Code:=.block 2 Yx7
abbrev Yz0:Code:=.seq Yxr Yva
abbrev Yp4:List Oper:=[oP 56 (oMv 9),oP 4 (oAs 56)]
abbrev Yuz:Code:=oRg Yp4
abbrev Yz2:Code:=.seq Yuz .ret
abbrev Ywg:Code:=.seq Yz0 Yz2
abbrev Ytz:Code:=.seq Yy3 Ywg
abbrev Yy1:Code:=.seq Yyz Ytz
abbrev Yzd:Code:=.seq Ywq Yy1
abbrev Y0r:Code:=.seq Y1r Yzd
abbrev Y0i:Code:=.seq Y2x Y0r
abbrev Y11:Code:=.seq Y19 Y0i
def Q7q:Code:=Y11
theorem Y1m:Ww (Za 55)=Q7q:=by kernel_rfl
theorem Ysf:Xlw.body=some (Za 55):=by kernel_rfl
theorem Y6b:Xlw.ntmps=57:=by kernel_rfl
theorem Yc4:Xlw.results.toList=[.tmp 4]:=by kernel_rfl
def Xp4:List Oper:=Qss
def Xpe:Code:=oRg Xp4
theorem Xap:oRQ Xpe Xp4 Qss:=fun _ _=>rfl
abbrev X8o:List Oper:=[oP 5 (oMv 0),oP 6 (oMv 1),oP 7 (.buildSlice 43 2 #[(0,(oTt 5)),(1,(oTt 6))]),oP 8 (oCa 132 #[(oTt 7)] #[43]),oP 4 (oAs 8)]
abbrev Yhq:Code:=oRg X8o
abbrev Ylh:Code:=.seq Yhq .ret
abbrev Yjl:Code:=.seq Xpe Ylh
def Qua:Code:=Yjl
theorem Yi6:Ww (Za 93)=Qua:=by kernel_rfl
theorem X4g:Quz.body=some (Za 93):=by kernel_rfl
theorem Yrz:Quz.ntmps=9:=by kernel_rfl
theorem Xp8:Quz.results.toList=[.tmp 4]:=by kernel_rfl
abbrev Qvx:List Oper:=[oP 2 (.assign (.const (.slice none 0 0)))]
abbrev Qyp:Code:=oRg Qvx
abbrev Qw8:List Oper:=[oP 3 (.assign (oCi 0))]
abbrev Qxn:Code:=oRg Qw8
abbrev Qv5:List Oper:=[oP 9 (oMv 0),oP 10 (oBu .len #[(oTt 9)] #[43]),oP 11 (.move (oCi 0))]
abbrev Qy0:Code:=oRg Qv5
abbrev Qvw:List Oper:=[oP 12 (.binOp .lss 3 (oTt 11) (oTt 10) 3)]
abbrev Qx9:Code:=oRg Qvw
abbrev Qz4:Code:=.cond (.tmp 12) .skip (.exit 0)
abbrev Qu9:List Oper:=[oP 13 (oIx 43 9 11),oP 14 (oLd 47 13),oP 5 (oAs 14)]
abbrev Qv9:Code:=oRg Qu9
abbrev Qu7:List Oper:=[oP 15 (oMv 3),oP 16 (oMv 5),oP 17 (oBu .len #[(oTt 16)] #[47]),oP 18 (.binOp .add 3 (oTt 15) (oTt 17) 3),oP 3 (oAs 18)]
abbrev Qvg:Code:=oRg Qu7
abbrev Qu2:List Oper:=[oP 19 (oMv 3),oP 20 (.binOp .lss 3 (oTt 19) (oCi 0) 3)]
abbrev Qw1:Code:=oRg Qu2
abbrev Qub:List Oper:=[oP 21 (.makeInterface 9 (.const (.string ⟨⟨[108,101,110,32,111,117,116,32,111,102,32,114,97,110,103,101]⟩⟩))),oN (.panic (oTt 21))]
abbrev Qv0:Code:=oRg Qub
abbrev Qvc:Code:=.cond (.tmp 20) Qv0 .skip
abbrev Qv6:Code:=.seq Qw1 Qvc
abbrev Qut:Code:=.seq Qvg Qv6
abbrev Qvq:Code:=.seq Qv9 Qut
abbrev Qvb:Code:=.block 1 Qvq
abbrev Qtr:List Oper:=[oP 22 (.binOp .add 3 (oTt 11) (oCi 1) 3),oP 11 (oMv 22)]
abbrev Qvr:Code:=oRg Qtr
abbrev Quu:Code:=.seq Qvb Qvr
abbrev Qwe:Code:=.seq Qz4 Quu
abbrev Qy9:Code:=.seq Qx9 Qwe
def Qux:Code:=.loop Qy9
abbrev Quv:Code:=.block 0 Qux
abbrev Qyw:Code:=.seq Qy0 Quv
abbrev Qtx:List Oper:=[oP 23 (oMv 3),oP 24 (oCa 166 #[(.const (.slice none 0 0)),(oTt 23)] #[47,3]),oP 6 (oAs 24)]
abbrev Qvf:Code:=oRg Qtx
abbrev Qtz:List Oper:=[oP 25 (oMv 0),oP 26 (oBu .len #[(oTt 25)] #[43]),oP 27 (.move (oCi 0))]
abbrev Qvl:Code:=oRg Qtz
def Qlk:List Oper:=Xa0
def Qlh:Code:=oRg Qlk
theorem Qaa:oRQ Qlh Qlk Xa0:=fun _ _=>rfl
abbrev Qw6:Code:=.cond (.tmp 28) .skip (.exit 2)
abbrev Qu5:List Oper:=[oP 29 (oIx 43 25 27),oP 30 (oLd 47 29),oP 8 (oAs 30)]
abbrev Qvo:Code:=oRg Qu5
abbrev Qts:List Oper:=[oP 31 (oMv 6),oP 32 (oMv 8),oP 33 (oBu .append #[(oTt 31),(oTt 32)] #[47,47]),oP 6 (oAs 33)]
abbrev Qvp:Code:=oRg Qts
abbrev Qvs:Code:=.seq Qvo Qvp
abbrev Qvu:Code:=.block 3 Qvs
abbrev Qto:List Oper:=[oP 34 (.binOp .add 3 (oTt 27) (oCi 1) 3),oP 27 (oMv 34)]
abbrev Qun:Code:=oRg Qto
abbrev Qv4:Code:=.seq Qvu Qun
abbrev Qw4:Code:=.seq Qw6 Qv4
abbrev Qus:Code:=.seq Qlh Qw4
def Qv8:Code:=.loop Qus
abbrev Qvk:Code:=.block 2 Qv8
abbrev Quq:Code:=.seq Qvl Qvk
abbrev Qu0:List Oper:=[oP 35 (oMv 6),oP 2 (oAs 35)]
abbrev Qum:Code:=oRg Qu0
abbrev Qvh:Code:=.seq Qum .ret
abbrev Qvj:Code:=.seq Quq Qvh
abbrev Quo:Code:=.seq Qvf Qvj
abbrev Qw7:Code:=.seq Qyw Quo
abbrev Qy5:Code:=.seq Qxn Qw7
abbrev Qwt:Code:=.seq Qyp Qy5
def Wl:Code:=Qwt
theorem Qy4:Ww (Za 132)=Wl:=by kernel_rfl
theorem Qtq:Qer.body=some (Za 132):=by kernel_rfl
theorem Qzu:Qer.ntmps=36:=by kernel_rfl
theorem Qb4:Qer.results.toList=[.tmp 2]:=by kernel_rfl
def Qnh:List Oper:=Qss
def Qnq:Code:=oRg Qnh
theorem Qly:oRQ Qnq Qnh Qss:=fun _ _=>rfl
abbrev Qzn:List Oper:=[oP 5 (oMv 1),oP 6 (.binOp .lss 3 (oTt 5) (oCi 0) 3)]
abbrev Q25:Code:=oRg Qzn
abbrev Qzh:List Oper:=[oP 7 (.makeInterface 9 (.const (.string ⟨⟨[99,97,110,110,111,116,32,98,101,32,110,101,103,97,116,105,118,101]⟩⟩))),oN (.panic (oTt 7))]
abbrev Q2b:Code:=oRg Qzh
abbrev Q1i:Code:=.cond (.tmp 6) Q2b .skip
abbrev Q27:Code:=.seq Q25 Q1i
abbrev Qzs:List Oper:=[oP 8 (oMv 1),oP 9 (oMv 0),oP 10 (oBu .cap #[(oTt 9)] #[47]),oP 11 (oMv 0),oP 12 (oBu .len #[(oTt 11)] #[47]),oP 13 (.binOp .sub 3 (oTt 10) (oTt 12) 3),oP 14 (.binOp .sub 3 (oTt 8) (oTt 13) 3),oP 1 (oAs 14)]
abbrev Q2u:Code:=oRg Qzs
abbrev Q06:List Oper:=[oP 15 (oMv 1),oP 16 (.binOp .gtr 3 (oTt 15) (oCi 0) 3)]
abbrev Q2n:Code:=oRg Q06
abbrev Qyd:List Oper:=[oP 17 (oMv 0),oP 18 (oMv 0),oP 19 (oBu .cap #[(oTt 18)] #[47]),oP 20 (.slice 47 (oTt 17) none (some (oTt 19)) none),oP 21 (oMv 1),oP 22 (oBu .append #[(oTt 20),(oTt 21)] #[47,3]),oP 23 (oMv 0),oP 24 (oBu .len #[(oTt 23)] #[47]),oP 25 (.slice 47 (oTt 22) none (some (oTt 24)) none),oP 0 (oAs 25)]
abbrev Qz7:Code:=oRg Qyd
abbrev Qz9:Code:=.cond (.tmp 16) Qz7 .skip
abbrev Q03:Code:=.seq Q2n Qz9
abbrev Q2d:Code:=.seq Q2u Q03
abbrev Qx4:List Oper:=[oP 26 (oMv 0),oP 4 (oAs 26)]
abbrev Qzi:Code:=oRg Qx4
abbrev Q02:Code:=.seq Qzi .ret
abbrev Qzd:Code:=.seq Q2d Q02
abbrev Q28:Code:=.seq Q27 Qzd
abbrev Q1q:Code:=.seq Qnq Q28
def Qh2:Code:=Q1q
theorem Q1a:Ww (Za 166)=Qh2:=by kernel_rfl
theorem Qwm:Qfz.body=some (Za 166):=by kernel_rfl
theorem Q3t:Qfz.ntmps=27:=by kernel_rfl
theorem Qnx:Qfz.results.toList=[.tmp 4]:=by kernel_rfl
end Go.Proofs.YtgeeklmjfbiieaaDoor
end
noncomputable section
namespace Go.Proofs.YtgeeklmjfbiieaaDoor
open Go Go.Ab
set_option maxRecDepth 100000
noncomputable def Qsg:Func:=(Tryd.prog.funcs[121]?).getD default
theorem Yo(b:Nat):(mkE Tryd.prog nv b).fn.get 121=some Qsg:=by kernel_rfl
noncomputable def Zq4:TyRec:=((mkE Tryd.prog nv 0).ty.get 193).getD ⟨.invalid,0,0,.bool false,[]⟩
theorem Zn1(b:Nat):(E b).toEnv.ty.get 193=some Zq4:=by kernel_rfl
theorem Y63(b:Nat):SlTy (E b).toEnv 156 193 Zip Zq4:=⟨Y4u b,Zn1 b,by kernel_rfl⟩
noncomputable def Qsd:Func:=(Tryd.prog.funcs[157]?).getD default
theorem Jl(b:Nat):(mkE Tryd.prog nv b).fn.get 157=some Qsd:=by kernel_rfl
noncomputable def R75:TyRec:=((mkE Tryd.prog nv 0).ty.get 75).getD ⟨.invalid,0,0,.bool false,[]⟩
theorem Zju(b:Nat):(E b).toEnv.ty.get 75=some R75:=by kernel_rfl
theorem Zhn:Qep R75.desc=false:=by kernel_rfl
theorem Y39:R75.size=1:=by kernel_rfl
theorem T75(b:Nat):SlTy (E b).toEnv 3 75 R3 R75:=⟨Znw b,Zju b,by kernel_rfl⟩
noncomputable def Zq2:TyRec:=((mkE Tryd.prog nv 0).ty.get 239).getD ⟨.invalid,0,0,.bool false,[]⟩
theorem Zl3(b:Nat):(E b).toEnv.ty.get 239=some Zq2:=by kernel_rfl
theorem Zq6(b:Nat):SlTy (E b).toEnv 75 239 R75 Zq2:=⟨Zju b,Zl3 b,by kernel_rfl⟩
noncomputable def Qsf:Func:=(Tryd.prog.funcs[158]?).getD default
theorem Jj(b:Nat):(mkE Tryd.prog nv b).fn.get 158=some Qsf:=by kernel_rfl
noncomputable def Qv1:Func:=(Tryd.prog.funcs[178]?).getD default
theorem Wh(b:Nat):(mkE Tryd.prog nv b).fn.get 178=some Qv1:=by kernel_rfl
theorem X79(x y:Int):Qbv (binOp .sub 159 (.int .u64 x) (.int .u64 y))=some (.int .u64 (IntKind.wrap .u64 (x-y))):=by kernel_rfl
noncomputable def Q0r:Func:=(Tryd.prog.funcs[159]?).getD default
theorem Zu(b:Nat):(mkE Tryd.prog nv b).fn.get 159=some Q0r:=by kernel_rfl
theorem Qjg(b:Nat){bk o n c:Nat}{k:IntKind}{i:Int}(h:0≤i∧i < n):Zn (E b).toEnv 75 (.slice (some ⟨bk,o,none⟩) n c) (.int k i)=some (.pointer (some ⟨bk,o+i.toNat*1,none⟩)):=Qhi (T75 b) Ysn h
theorem Wz(b:Nat){bk o n c:Nat}{k:IntKind}{i:Int}(h:0≤i∧i < n):Zn (E b).toEnv 193 (.slice (some ⟨bk,o,none⟩) n c) (.int k i)=some (.pointer (some ⟨bk,o+i.toNat*1,none⟩)):=Qhi (Y63 b) Qha h
theorem We(x y:Int):Qbv (binOp .add 156 (.int .u32 x) (.int .u32 y))=some (.int .u32 (IntKind.wrap .u32 (x+y))):=by kernel_rfl
noncomputable def Qjr:Func:=(Tryd.prog.funcs[122]?).getD default
theorem Yw(b:Nat):(mkE Tryd.prog nv b).fn.get 122=some Qjr:=by kernel_rfl
theorem Qch(b:Nat):Qmr (E b).toEnv 5 156=true:=by kernel_rfl
theorem Qcg(b:Nat)(k:IntKind)(n:Int):Qli (E b).toEnv 5 156 (.int k n)=some (.int .u32 (IntKind.wrap .u32 n)):=by kernel_rfl
theorem Qci(x y:Int):Qbv (binOp .mul 156 (.int .u32 x) (.int .u32 y))=some (.int .u32 (IntKind.wrap .u32 (x*y))):=by kernel_rfl
theorem Zi(x:Int):Qbv (binOp .rem 160 (.int .u64 x) (.int .u64 4294967296))=some (.int .u64 (Int.tmod x 4294967296)):=by kernel_rfl
theorem Wu(b:Nat):Qmr (E b).toEnv 160 156=true:=by kernel_rfl
theorem Wt(b:Nat)(k:IntKind)(n:Int):Qli (E b).toEnv 160 156 (.int k n)=some (.int .u32 (IntKind.wrap .u32 n)):=by kernel_rfl
theorem Zj(x:Int):Qbv (binOp .quo 160 (.int .u64 x) (.int .u64 4294967296))=some (.int .u64 (IntKind.wrap .u64 (Int.tdiv x 4294967296))):=by kernel_rfl
theorem Qin(b:Nat){bk o n c:Nat}{k:IntKind}{i:Int}(h:0≤i∧i < n):Zn (E b).toEnv 239 (.slice (some ⟨bk,o,none⟩) n c) (.int k i)=some (.pointer (some ⟨bk,o+i.toNat*1,none⟩)):=Qhi (Zq6 b) Y39 h
theorem Qqj(b:Nat)(h:Heap)(bk o:Nat):Qih (E b).toEnv 75 (.pointer (some ⟨bk,o,none⟩)) h=V2 h bk o:=Q4v (Zju b) Zhn
noncomputable def Qju:Func:=(Tryd.prog.funcs[82]?).getD default
theorem Zl(b:Nat):(mkE Tryd.prog nv b).fn.get 82=some Qju:=by kernel_rfl
theorem Uv(x:Int):Qbv (binOp .quo 156 (.int .u32 x) (.int .u32 256))=some (.int .u32 (IntKind.wrap .u32 (Int.tdiv x 256))):=by kernel_rfl
theorem Uw(x:Int):Qbv (binOp .rem 156 (.int .u32 x) (.int .u32 256))=some (.int .u32 (Int.tmod x 256)):=by kernel_rfl
noncomputable def Xab:Func:=(Tryd.prog.funcs[97]?).getD default
theorem Zv(b:Nat):(mkE Tryd.prog nv b).fn.get 97=some Xab:=by kernel_rfl
abbrev Qkp:List Oper:=[oP 0 (.assign (.const (.slice none 0 0)))]
abbrev X9o:Code:=oRg Qkp
abbrev X5l:List Oper:=[oP 1 (.buildSlice 193 8 #[(0,(.const (.int .u32 1779033703))),(1,(.const (.int .u32 3144134277))),(2,(.const (.int .u32 1013904242))),(3,(.const (.int .u32 2773480762))),(4,(.const (.int .u32 1359893119))),(5,(.const (.int .u32 2600822924))),(6,(.const (.int .u32 528734635))),(7,(.const (.int .u32 1541459225)))]),oP 0 (oAs 1)]
abbrev Ycd:Code:=oRg X5l
abbrev Yhc:Code:=.seq Ycd .ret
abbrev Ycn:Code:=.seq X9o Yhc
def Q5l:Code:=Ycn
theorem Yck:Ww (Za 121)=Q5l:=by kernel_rfl
theorem Xya:Qsg.body=some (Za 121):=by kernel_rfl
theorem Yi0:Qsg.ntmps=2:=by kernel_rfl
theorem Yde:Qsg.results.toList=[.tmp 0]:=by kernel_rfl
def Xke:List Oper:=Qkp
def Xh6:Code:=oRg Xke
theorem Xxl:oRQ Xh6 Xke Qkp:=fun _ _=>rfl
abbrev X66:List Oper:=[oP 1 (.buildSlice 75 16 #[(0,(oCi 0)),(1,(oCi 1)),(2,(oCi 2)),(3,(oCi 3)),(4,(oCi 4)),(5,(oCi 5)),(6,(oCi 6)),(7,(oCi 7)),(8,(oCi 8)),(9,(oCi 9)),(10,(oCi 10)),(11,(oCi 11)),(12,(oCi 12)),(13,(oCi 13)),(14,(oCi 14)),(15,(oCi 15))]),oP 2 (.buildSlice 75 16 #[(0,(oCi 14)),(1,(oCi 10)),(2,(oCi 4)),(3,(oCi 8)),(4,(oCi 9)),(5,(oCi 15)),(6,(oCi 13)),(7,(oCi 6)),(8,(oCi 1)),(9,(oCi 12)),(10,(oCi 0)),(11,(oCi 2)),(12,(oCi 11)),(13,(oCi 7)),(14,(oCi 5)),(15,(oCi 3))]),oP 3 (.buildSlice 75 16 #[(0,(oCi 11)),(1,(oCi 8)),(2,(oCi 12)),(3,(oCi 0)),(4,(oCi 5)),(5,(oCi 2)),(6,(oCi 15)),(7,(oCi 13)),(8,(oCi 10)),(9,(oCi 14)),(10,(oCi 3)),(11,(oCi 6)),(12,(oCi 7)),(13,(oCi 1)),(14,(oCi 9)),(15,(oCi 4))]),oP 4 (.buildSlice 75 16 #[(0,(oCi 7)),(1,(oCi 9)),(2,(oCi 3)),(3,(oCi 1)),(4,(oCi 13)),(5,(oCi 12)),(6,(oCi 11)),(7,(oCi 14)),(8,(oCi 2)),(9,(oCi 6)),(10,(oCi 5)),(11,(oCi 10)),(12,(oCi 4)),(13,(oCi 0)),(14,(oCi 15)),(15,(oCi 8))]),oP 5 (.buildSlice 75 16 #[(0,(oCi 9)),(1,(oCi 0)),(2,(oCi 5)),(3,(oCi 7)),(4,(oCi 2)),(5,(oCi 4)),(6,(oCi 10)),(7,(oCi 15)),(8,(oCi 14)),(9,(oCi 1)),(10,(oCi 11)),(11,(oCi 12)),(12,(oCi 6)),(13,(oCi 8)),(14,(oCi 3)),(15,(oCi 13))]),oP 6 (.buildSlice 75 16 #[(0,(oCi 2)),(1,(oCi 12)),(2,(oCi 6)),(3,(oCi 10)),(4,(oCi 0)),(5,(oCi 11)),(6,(oCi 8)),(7,(oCi 3)),(8,(oCi 4)),(9,(oCi 13)),(10,(oCi 7)),(11,(oCi 5)),(12,(oCi 15)),(13,(oCi 14)),(14,(oCi 1)),(15,(oCi 9))]),oP 7 (.buildSlice 75 16 #[(0,(oCi 12)),(1,(oCi 5)),(2,(oCi 1)),(3,(oCi 15)),(4,(oCi 14)),(5,(oCi 13)),(6,(oCi 4)),(7,(oCi 10)),(8,(oCi 0)),(9,(oCi 7)),(10,(oCi 6)),(11,(oCi 3)),(12,(oCi 9)),(13,(oCi 2)),(14,(oCi 8)),(15,(oCi 11))]),oP 8 (.buildSlice 75 16 #[(0,(oCi 13)),(1,(oCi 11)),(2,(oCi 7)),(3,(oCi 14)),(4,(oCi 12)),(5,(oCi 1)),(6,(oCi 3)),(7,(oCi 9)),(8,(oCi 5)),(9,(oCi 0)),(10,(oCi 15)),(11,(oCi 4)),(12,(oCi 8)),(13,(oCi 6)),(14,(oCi 2)),(15,(oCi 10))]),oP 9 (.buildSlice 75 16 #[(0,(oCi 6)),(1,(oCi 15)),(2,(oCi 14)),(3,(oCi 9)),(4,(oCi 11)),(5,(oCi 3)),(6,(oCi 0)),(7,(oCi 8)),(8,(oCi 12)),(9,(oCi 2)),(10,(oCi 13)),(11,(oCi 7)),(12,(oCi 1)),(13,(oCi 4)),(14,(oCi 10)),(15,(oCi 5))]),oP 10 (.buildSlice 75 16 #[(0,(oCi 10)),(1,(oCi 2)),(2,(oCi 8)),(3,(oCi 4)),(4,(oCi 7)),(5,(oCi 6)),(6,(oCi 1)),(7,(oCi 5)),(8,(oCi 15)),(9,(oCi 11)),(10,(oCi 9)),(11,(oCi 14)),(12,(oCi 3)),(13,(oCi 12)),(14,(oCi 13)),(15,(oCi 0))]),oP 11 (.buildSlice 239 10 #[(0,(oTt 1)),(1,(oTt 2)),(2,(oTt 3)),(3,(oTt 4)),(4,(oTt 5)),(5,(oTt 6)),(6,(oTt 7)),(7,(oTt 8)),(8,(oTt 9)),(9,(oTt 10))]),oP 0 (oAs 11)]
abbrev Yao:Code:=oRg X66
abbrev Yha:Code:=.seq Yao .ret
abbrev Ybs:Code:=.seq Xh6 Yha
def Q5g:Code:=Ybs
theorem Ybj:Ww (Za 157)=Q5g:=by kernel_rfl
theorem Xyo:Qsd.body=some (Za 157):=by kernel_rfl
theorem Yjh:Qsd.ntmps=12:=by kernel_rfl
theorem Yci:Qsd.results.toList=[.tmp 0]:=by kernel_rfl
def Xk4:List Oper:=Qkp
def Xgr:Code:=oRg Xk4
theorem Xzd:oRQ Xgr Xk4 Qkp:=fun _ _=>rfl
abbrev X6l:List Oper:=[oP 1 (.buildSlice 75 4 #[(0,(oCi 0)),(1,(oCi 4)),(2,(oCi 8)),(3,(oCi 12))]),oP 2 (.buildSlice 75 4 #[(0,(oCi 1)),(1,(oCi 5)),(2,(oCi 9)),(3,(oCi 13))]),oP 3 (.buildSlice 75 4 #[(0,(oCi 2)),(1,(oCi 6)),(2,(oCi 10)),(3,(oCi 14))]),oP 4 (.buildSlice 75 4 #[(0,(oCi 3)),(1,(oCi 7)),(2,(oCi 11)),(3,(oCi 15))]),oP 5 (.buildSlice 75 4 #[(0,(oCi 0)),(1,(oCi 5)),(2,(oCi 10)),(3,(oCi 15))]),oP 6 (.buildSlice 75 4 #[(0,(oCi 1)),(1,(oCi 6)),(2,(oCi 11)),(3,(oCi 12))]),oP 7 (.buildSlice 75 4 #[(0,(oCi 2)),(1,(oCi 7)),(2,(oCi 8)),(3,(oCi 13))]),oP 8 (.buildSlice 75 4 #[(0,(oCi 3)),(1,(oCi 4)),(2,(oCi 9)),(3,(oCi 14))]),oP 9 (.buildSlice 239 8 #[(0,(oTt 1)),(1,(oTt 2)),(2,(oTt 3)),(3,(oTt 4)),(4,(oTt 5)),(5,(oTt 6)),(6,(oTt 7)),(7,(oTt 8))]),oP 0 (oAs 9)]
abbrev Ygf:Code:=oRg X6l
abbrev Ycs:Code:=.seq Ygf .ret
abbrev Ygd:Code:=.seq Xgr Ycs
def Q49:Code:=Ygd
theorem Yez:Ww (Za 158)=Q49:=by kernel_rfl
theorem Xy6:Qsf.body=some (Za 158):=by kernel_rfl
theorem Yjy:Qsf.ntmps=10:=by kernel_rfl
theorem Ydj:Qsf.results.toList=[.tmp 0]:=by kernel_rfl
abbrev Yd2:List Oper:=[oP 4 (.assign (.const (.int .u32 0)))]
abbrev Yl5:Code:=oRg Yd2
abbrev X9f:List Oper:=[oP 5 (oMv 0),oP 6 (oMv 1),oP 7 (.binOp .shr 156 (oTt 5) (oTt 6) 159),oP 8 (oMv 0),oP 9 (oMv 1),oP 10 (.binOp .sub 159 (.const (.int .u64 32)) (oTt 9) 159),oP 11 (.binOp .shl 156 (oTt 8) (oTt 10) 159),oP 12 (.binOp .or 156 (oTt 7) (oTt 11) 156),oP 4 (oAs 12)]
abbrev Yln:Code:=oRg X9f
abbrev Yhu:Code:=.seq Yln .ret
abbrev Ym2:Code:=.seq Yl5 Yhu
def Qke:Code:=Ym2
theorem Yk9:Ww (Za 178)=Qke:=by kernel_rfl
theorem X5b:Qv1.body=some (Za 178):=by kernel_rfl
theorem Yrk:Qv1.ntmps=13:=by kernel_rfl
theorem Qs9:Qv1.results.toList=[.tmp 4]:=by kernel_rfl
noncomputable def Qmn:Array Oper:=Qmw (Qms 0 (Za 159))
def Yph:Code:=.region 0 Qmn true
abbrev Qz0:List Oper:=[oP 10 (oMv 0),oP 11 (oMv 1),oP 12 (.indexAddr 75 (oTt 11) (oCi 0)),oP 13 (oLd 3 12),oP 14 (oMv 0),oP 15 (oMv 1),oP 16 (.indexAddr 75 (oTt 15) (oCi 0)),oP 17 (oLd 3 16),oP 18 (oIx 193 14 17),oP 19 (oLd 156 18),oP 20 (oMv 0),oP 21 (oMv 1),oP 22 (.indexAddr 75 (oTt 21) (oCi 1)),oP 23 (oLd 3 22),oP 24 (oIx 193 20 23),oP 25 (oLd 156 24),oP 26 (.binOp .add 156 (oTt 19) (oTt 25) 156),oP 27 (oMv 2),oP 28 (.binOp .add 156 (oTt 26) (oTt 27) 156),oP 29 (oIx 193 10 13),oN (.store 156 (oTt 29) (oTt 28))]
def Qo1:List Oper:=Qz0
theorem Xv3:Qmn.toList.map bare=Qz0:=by kernel_rfl
theorem Xq5:Qmn.toList.map bare=Qo1:=Xv3
def Qh5:List Nat:=[0,0,2,6,0,0,32,96,240,496,0,0,2048,6144,15360,31744,65520,0,262128,524287,1048575]
theorem Xur:Qpo Qmn.toList []=some Qh5:=by kernel_rfl
theorem Xq9:Wm Qmn.toList Qmn.toList Qh5 []=true:=by kernel_rfl
theorem Xy7(b:Nat)(L:List KE)(s:St):Ab.runT (E b) L Qo1 Qh5 Qo1 0 s=Ab.runT (E b) L Qo1 Qh5 Qz0 0 s:=rfl
theorem Xxi(b:Nat):Ws (E b) 20 ((nth Qh5 20).getD 0) Qo1 Qh5 0=true:=by kernel_rfl
noncomputable def Qmv:Array Oper:=Qmw (Qms 1 (Za 159))
def Ysv:Code:=.region 1 Qmv true
abbrev Qws:List Oper:=[oP 30 (oMv 0),oP 31 (oMv 1),oP 32 (.indexAddr 75 (oTt 31) (oCi 3)),oP 33 (oLd 3 32),oP 34 (oMv 0),oP 35 (oMv 1),oP 36 (.indexAddr 75 (oTt 35) (oCi 3)),oP 37 (oLd 3 36),oP 38 (oIx 193 34 37),oP 39 (oLd 156 38),oP 40 (oMv 0),oP 41 (oMv 1),oP 42 (.indexAddr 75 (oTt 41) (oCi 0)),oP 43 (oLd 3 42),oP 44 (oIx 193 40 43),oP 45 (oLd 156 44),oP 46 (.binOp .xor 156 (oTt 39) (oTt 45) 156),oP 47 (oMv 3),oP 48 (oCa 178 #[(oTt 46),(oTt 47)] #[156,159]),oP 49 (oIx 193 30 33),oN (.store 156 (oTt 49) (oTt 48))]
def Qkv:List Oper:=Qws
theorem Xug:Qmv.toList.map bare=Qws:=by kernel_rfl
theorem Xs5:Qmv.toList.map bare=Qkv:=Xug
def Qef:List Nat:=[0,0,2,6,0,0,32,96,240,496,0,0,2048,6144,15360,31744,65520,0,262128,524287,1048575]
theorem Xu4:Qpo Qmv.toList []=some Qef:=by kernel_rfl
theorem Xrh:Wm Qmv.toList Qmv.toList Qef []=true:=by kernel_rfl
theorem Xzp(b:Nat)(L:List KE)(s:St):Ab.runT (E b) L Qkv Qef Qkv 0 s=Ab.runT (E b) L Qkv Qef Qws 0 s:=rfl
theorem Xzz(b:Nat):Ws (E b) 18 ((nth Qef 18).getD 0) Qkv Qef 0=true:=by kernel_rfl
theorem Xyb(b:Nat):Ws (E b) 20 ((nth Qef 20).getD 0) Qkv Qef 0=true:=by kernel_rfl
noncomputable def Qmz:Array Oper:=Qmw (Qms 2 (Za 159))
def Yq0:Code:=.region 2 Qmz true
abbrev Qxf:List Oper:=[oP 50 (oMv 0),oP 51 (oMv 1),oP 52 (.indexAddr 75 (oTt 51) (oCi 2)),oP 53 (oLd 3 52),oP 54 (oMv 0),oP 55 (oMv 1),oP 56 (.indexAddr 75 (oTt 55) (oCi 2)),oP 57 (oLd 3 56),oP 58 (oIx 193 54 57),oP 59 (oLd 156 58),oP 60 (oMv 0),oP 61 (oMv 1),oP 62 (.indexAddr 75 (oTt 61) (oCi 3)),oP 63 (oLd 3 62),oP 64 (oIx 193 60 63),oP 65 (oLd 156 64),oP 66 (.binOp .add 156 (oTt 59) (oTt 65) 156),oP 67 (oIx 193 50 53),oN (.store 156 (oTt 67) (oTt 66))]
def Qo2:List Oper:=Qxf
theorem Xvv:Qmz.toList.map bare=Qxf:=by kernel_rfl
theorem Xrc:Qmz.toList.map bare=Qo2:=Xvv
def Qh4:List Nat:=[0,0,2,6,0,0,32,96,240,496,0,0,2048,6144,15360,31744,65520,131071,262143]
theorem Xvb:Qpo Qmz.toList []=some Qh4:=by kernel_rfl
theorem Xrj:Wm Qmz.toList Qmz.toList Qh4 []=true:=by kernel_rfl
theorem X0f(b:Nat)(L:List KE)(s:St):Ab.runT (E b) L Qo2 Qh4 Qo2 0 s=Ab.runT (E b) L Qo2 Qh4 Qxf 0 s:=rfl
theorem Xxn(b:Nat):Ws (E b) 18 ((nth Qh4 18).getD 0) Qo2 Qh4 0=true:=by kernel_rfl
noncomputable def Qmu:Array Oper:=Qmw (Qms 3 (Za 159))
def Ysu:Code:=.region 3 Qmu true
abbrev Qy8:List Oper:=[oP 68 (oMv 0),oP 69 (oMv 1),oP 70 (.indexAddr 75 (oTt 69) (oCi 1)),oP 71 (oLd 3 70),oP 72 (oMv 0),oP 73 (oMv 1),oP 74 (.indexAddr 75 (oTt 73) (oCi 1)),oP 75 (oLd 3 74),oP 76 (oIx 193 72 75),oP 77 (oLd 156 76),oP 78 (oMv 0),oP 79 (oMv 1),oP 80 (.indexAddr 75 (oTt 79) (oCi 2)),oP 81 (oLd 3 80),oP 82 (oIx 193 78 81),oP 83 (oLd 156 82),oP 84 (.binOp .xor 156 (oTt 77) (oTt 83) 156),oP 85 (oMv 4),oP 86 (oCa 178 #[(oTt 84),(oTt 85)] #[156,159]),oP 87 (oIx 193 68 71),oN (.store 156 (oTt 87) (oTt 86))]
def Qks:List Oper:=Qy8
theorem Xtl:Qmu.toList.map bare=Qy8:=by kernel_rfl
theorem Xq0:Qmu.toList.map bare=Qks:=Xtl
def Qek:List Nat:=[0,0,2,6,0,0,32,96,240,496,0,0,2048,6144,15360,31744,65520,0,262128,524287,1048575]
theorem Xuu:Qpo Qmu.toList []=some Qek:=by kernel_rfl
theorem Xrw:Wm Qmu.toList Qmu.toList Qek []=true:=by kernel_rfl
theorem X0h(b:Nat)(L:List KE)(s:St):Ab.runT (E b) L Qks Qek Qks 0 s=Ab.runT (E b) L Qks Qek Qy8 0 s:=rfl
theorem X06(b:Nat):Ws (E b) 18 ((nth Qek 18).getD 0) Qks Qek 0=true:=by kernel_rfl
theorem Xzq(b:Nat):Ws (E b) 20 ((nth Qek 20).getD 0) Qks Qek 0=true:=by kernel_rfl
abbrev Yqf:Code:=.seq Yq0 Ysu
abbrev Ys6:Code:=.seq Ysv Yqf
abbrev Yts:Code:=.seq Yph Ys6
def Qam:Code:=Yts
theorem Ytk:Ww (Za 159)=Qam:=by kernel_rfl
theorem Yes:Q0r.body=some (Za 159):=by kernel_rfl
theorem Yw5:Q0r.ntmps=88:=by kernel_rfl
theorem Qd0:Q0r.results.toList=[]:=by kernel_rfl
abbrev Yaq:List Oper:=[oP 8 (.assign (.const (.slice none 0 0)))]
abbrev Yjw:Code:=oRg Yaq
abbrev X99:List Oper:=[oP 9 (.assign (.const (.slice none 0 0)))]
abbrev Yj7:Code:=oRg X99
abbrev Ybm:List Oper:=[oP 10 (.assign (oCi 0))]
abbrev Yki:Code:=oRg Ybm
abbrev Ybp:List Oper:=[oP 18 (oMv 10),oP 19 (.binOp .lss 3 (oTt 18) (oCi 64) 3)]
abbrev Yke:Code:=oRg Ybp
abbrev Yik:Code:=.cond (.tmp 19) .skip (.exit 0)
abbrev Yjj:Code:=.seq Yke Yik
noncomputable def Qkw:Array Oper:=Qmw (Qms 5 (Za 122))
def Yj1:Code:=.region 5 Qkw true
abbrev Qtm:List Oper:=[oP 22 (oMv 9),oP 23 (oMv 1),oP 24 (oMv 10),oP 25 (oIx 47 23 24),oP 26 (oLd 5 25),oP 27 (.convert 5 156 (oTt 26)),oP 28 (oMv 1),oP 29 (oMv 10),oP 30 (.binOp .add 3 (oTt 29) (oCi 1) 3),oP 31 (oIx 47 28 30),oP 32 (oLd 5 31),oP 33 (.convert 5 156 (oTt 32)),oP 34 (.binOp .mul 156 (oTt 33) (.const (.int .u32 256)) 156),oP 35 (.binOp .add 156 (oTt 27) (oTt 34) 156),oP 36 (oMv 1),oP 37 (oMv 10),oP 38 (.binOp .add 3 (oTt 37) (oCi 2) 3),oP 39 (oIx 47 36 38),oP 40 (oLd 5 39),oP 41 (.convert 5 156 (oTt 40)),oP 42 (.binOp .mul 156 (oTt 41) (.const (.int .u32 65536)) 156),oP 43 (.binOp .add 156 (oTt 35) (oTt 42) 156),oP 44 (oMv 1),oP 45 (oMv 10),oP 46 (.binOp .add 3 (oTt 45) (oCi 3) 3),oP 47 (oIx 47 44 46),oP 48 (oLd 5 47),oP 49 (.convert 5 156 (oTt 48)),oP 50 (.binOp .mul 156 (oTt 49) (.const (.int .u32 16777216)) 156),oP 51 (.binOp .add 156 (oTt 43) (oTt 50) 156),oP 52 (.buildSlice 193 1 #[(0,(oTt 51))]),oP 53 (oBu .append #[(oTt 22),(oTt 52)] #[193,193]),oP 9 (oAs 53)]
def Qlp:List Oper:=Qtm
theorem Xpx:Qkw.toList.map bare=Qtm:=by kernel_rfl
theorem Xoe:Qkw.toList.map bare=Qlp:=Xpx
def Qgb:List Nat:=[0,0,0,6,14,30,0,0,128,448,960,1984,4032,8190,0,0,32768,114688,245760,507904,1032192,2097150,0,0,8388608,29360128,62914560,130023424,264241152,536870910,1073741822,2147483647,4294967295]
theorem Xrg:Qpo Qkw.toList []=some Qgb:=by kernel_rfl
theorem Xm9:Wm Qkw.toList Qkw.toList Qgb []=true:=by kernel_rfl
theorem Xss(b:Nat)(L:List KE)(s:St):Ab.runT (E b) L Qlp Qgb Qlp 0 s=Ab.runT (E b) L Qlp Qgb Qtm 0 s:=rfl
theorem Xw6(b:Nat):Ws (E b) 31 ((nth Qgb 31).getD 0) Qlp Qgb 0=true:=by kernel_rfl
abbrev Yb2:Code:=.block 1 Yj1
abbrev X2u:List Oper:=[oP 20 (oMv 10),oP 21 (.binOp .add 3 (oTt 20) (oCi 4) 3),oP 10 (oAs 21)]
abbrev Ya0:Code:=oRg X2u
abbrev Yg7:Code:=.seq Yb2 Ya0
abbrev Yjf:Code:=.seq Yjj Yg7
def Yg9:Code:=.loop Yjf
abbrev Yh1:Code:=.block 0 Yg9
abbrev Ymh:Code:=.seq Yki Yh1
abbrev X4k:List Oper:=[oP 11 (.assign (.const (.slice none 0 0)))]
abbrev X8j:Code:=oRg X4k
abbrev X36:List Oper:=[oP 54 (oMv 11),oP 55 (oMv 0),oP 56 (oBu .append #[(oTt 54),(oTt 55)] #[193,193]),oP 11 (oAs 56)]
abbrev Yhf:Code:=oRg X36
abbrev X2l:List Oper:=[oP 57 (oMv 11),oP 58 (oCa 121 #[] #[]),oP 59 (oBu .append #[(oTt 57),(oTt 58)] #[193,193]),oP 11 (oAs 59)]
abbrev X83:Code:=oRg X2l
abbrev X26:List Oper:=[oP 60 (oMv 11),oP 61 (oMv 11),oP 62 (.indexAddr 193 (oTt 61) (oCi 12)),oP 63 (oLd 156 62),oP 64 (oMv 2),oP 65 (.binOp .rem 160 (oTt 64) (.const (.int .u64 4294967296)) 160),oP 66 (.convert 160 156 (oTt 65)),oP 67 (.binOp .xor 156 (oTt 63) (oTt 66) 156),oP 68 (.indexAddr 193 (oTt 60) (oCi 12)),oN (.store 156 (oTt 68) (oTt 67))]
abbrev Yce:Code:=oRg X26
abbrev X54:List Oper:=[oP 69 (oMv 11),oP 70 (oMv 11),oP 71 (.indexAddr 193 (oTt 70) (oCi 13)),oP 72 (oLd 156 71),oP 73 (oMv 2),oP 74 (.binOp .quo 160 (oTt 73) (.const (.int .u64 4294967296)) 160),oP 75 (.convert 160 156 (oTt 74)),oP 76 (.binOp .xor 156 (oTt 72) (oTt 75) 156),oP 77 (.indexAddr 193 (oTt 69) (oCi 13)),oN (.store 156 (oTt 77) (oTt 76))]
abbrev Yel:Code:=oRg X54
abbrev X3j:List Oper:=[oP 78 (oMv 3)]
abbrev Ycb:Code:=oRg X3j
abbrev X1e:List Oper:=[oP 79 (oMv 11),oP 80 (oMv 11),oP 81 (.indexAddr 193 (oTt 80) (oCi 14)),oP 82 (oLd 156 81),oP 83 (.unOp .xor 156 (oTt 82)),oP 84 (.indexAddr 193 (oTt 79) (oCi 14)),oN (.store 156 (oTt 84) (oTt 83))]
abbrev X8l:Code:=oRg X1e
abbrev Yev:Code:=.cond (.tmp 78) X8l .skip
abbrev Ycf:Code:=.seq Ycb Yev
abbrev X45:List Oper:=[oP 85 (oCa 157 #[] #[]),oP 12 (oAs 85)]
abbrev Xiy:Code:=oRg X45
abbrev X39:List Oper:=[oP 86 (oCa 158 #[] #[]),oP 13 (oAs 86)]
abbrev Yc7:Code:=oRg X39
abbrev Qtu:List Oper:=[oP 14 (.assign (oCi 0))]
abbrev Yd6:Code:=oRg Qtu
abbrev X1s:List Oper:=[oP 87 (oMv 14),oP 88 (.binOp .lss 3 (oTt 87) (oCi 10) 3)]
abbrev Yam:Code:=oRg X1s
abbrev Ybl:Code:=.cond (.tmp 88) .skip (.exit 2)
abbrev Yh8:Code:=.seq Yam Ybl
abbrev X1y:List Oper:=[oP 15 (.assign (oCi 0))]
abbrev Ybc:Code:=oRg X1y
abbrev X5h:List Oper:=[oP 91 (oMv 15),oP 92 (.binOp .lss 3 (oTt 91) (oCi 8) 3)]
abbrev X9g:Code:=oRg X5h
abbrev Yey:Code:=.cond (.tmp 92) .skip (.exit 4)
abbrev X7c:Code:=.seq X9g Yey
noncomputable def Qj8:Array Oper:=Qmw (Qms 21 (Za 122))
def X7h:Code:=.region 21 Qj8 true
abbrev Qrs:List Oper:=[oP 95 (oMv 11),oP 96 (oMv 13),oP 97 (oMv 15),oP 98 (oIx 239 96 97),oP 99 (oLd 75 98),oP 100 (oMv 9),oP 101 (oMv 12),oP 102 (oMv 14),oP 103 (oIx 239 101 102),oP 104 (oLd 75 103),oP 105 (oMv 15),oP 106 (.binOp .mul 3 (oCi 2) (oTt 105) 3),oP 107 (oIx 75 104 106),oP 108 (oLd 3 107),oP 109 (oIx 193 100 108),oP 110 (oLd 156 109),oP 111 (oCa 159 #[(oTt 95),(oTt 99),(oTt 110),(.const (.int .u64 16)),(.const (.int .u64 12))] #[193,75,156,159,159])]
def Qkl:List Oper:=Qrs
theorem Xn1:Qj8.toList.map bare=Qrs:=by kernel_rfl
theorem Xhl:Qj8.toList.map bare=Qkl:=Xn1
def Qfi:List Nat:=[0,0,0,6,14,0,0,0,192,448,0,1024,4032,8128,16352,32736,65535]
theorem Xo5:Qpo Qj8.toList []=some Qfi:=by kernel_rfl
theorem Xje:Wm Qj8.toList Qj8.toList Qfi []=true:=by kernel_rfl
theorem Xs2(b:Nat)(L:List KE)(s:St):Ab.runT (E b) L Qkl Qfi Qkl 0 s=Ab.runT (E b) L Qkl Qfi Qrs 0 s:=rfl
theorem Xsk(b:Nat):Ws (E b) 16 ((nth Qfi 16).getD 0) Qkl Qfi 0=true:=by kernel_rfl
noncomputable def Qiz:Array Oper:=Qmw (Qms 22 (Za 122))
def X9l:Code:=.region 22 Qiz true
abbrev Qrr:List Oper:=[oP 112 (oMv 11),oP 113 (oMv 13),oP 114 (oMv 15),oP 115 (oIx 239 113 114),oP 116 (oLd 75 115),oP 117 (oMv 9),oP 118 (oMv 12),oP 119 (oMv 14),oP 120 (oIx 239 118 119),oP 121 (oLd 75 120),oP 122 (oMv 15),oP 123 (.binOp .mul 3 (oCi 2) (oTt 122) 3),oP 124 (.binOp .add 3 (oTt 123) (oCi 1) 3),oP 125 (oIx 75 121 124),oP 126 (oLd 3 125),oP 127 (oIx 193 117 126),oP 128 (oLd 156 127),oP 129 (oCa 159 #[(oTt 112),(oTt 116),(oTt 128),(.const (.int .u64 8)),(.const (.int .u64 7))] #[193,75,156,159,159])]
def Qki:List Oper:=Qrr
theorem Xmg:Qiz.toList.map bare=Qrr:=by kernel_rfl
theorem Xkd:Qiz.toList.map bare=Qki:=Xmg
def Qfc:List Nat:=[0,0,0,6,14,0,0,0,192,448,0,1024,3072,8128,16320,32736,65504,131071]
theorem Xn8:Qpo Qiz.toList []=some Qfc:=by kernel_rfl
theorem Xh1:Wm Qiz.toList Qiz.toList Qfc []=true:=by kernel_rfl
theorem Xrs(b:Nat)(L:List KE)(s:St):Ab.runT (E b) L Qki Qfc Qki 0 s=Ab.runT (E b) L Qki Qfc Qrr 0 s:=rfl
theorem Xpz(b:Nat):Ws (E b) 17 ((nth Qfc 17).getD 0) Qki Qfc 0=true:=by kernel_rfl
abbrev Ybh:Code:=.seq X7h X9l
abbrev Yds:Code:=.block 5 Ybh
abbrev X3s:List Oper:=[oP 93 (oMv 15),oP 94 (.binOp .add 3 (oTt 93) (oCi 1) 3),oP 15 (oAs 94)]
abbrev Yc0:Code:=oRg X3s
abbrev Yf9:Code:=.seq Yds Yc0
abbrev X9z:Code:=.seq X7c Yf9
def Yen:Code:=.loop X9z
abbrev Yej:Code:=.block 4 Yen
abbrev X92:Code:=.seq Ybc Yej
abbrev Yeq:Code:=.block 3 X92
abbrev X3l:List Oper:=[oP 89 (oMv 14),oP 90 (.binOp .add 3 (oTt 89) (oCi 1) 3),oP 14 (oAs 90)]
abbrev X7b:Code:=oRg X3l
abbrev X9a:Code:=.seq Yeq X7b
abbrev Yan:Code:=.seq Yh8 X9a
def Yar:Code:=.loop Yan
abbrev X8u:Code:=.block 2 Yar
abbrev Xhj:Code:=.seq Yd6 X8u
abbrev X5c:List Oper:=[oP 16 (.assign (.const (.slice none 0 0)))]
abbrev Xks:Code:=oRg X5c
abbrev X2i:List Oper:=[oP 17 (.assign (oCi 0))]
abbrev Yax:Code:=oRg X2i
abbrev X55:List Oper:=[oP 130 (oMv 17),oP 131 (.binOp .lss 3 (oTt 130) (oCi 8) 3)]
abbrev Ydh:Code:=oRg X55
abbrev Yfu:Code:=.cond (.tmp 131) .skip (.exit 6)
abbrev Ygl:Code:=.seq Ydh Yfu
noncomputable def Qj2:Array Oper:=Qmw (Qms 27 (Za 122))
def X9e:Code:=.region 27 Qj2 true
abbrev Qro:List Oper:=[oP 134 (oMv 16),oP 135 (oMv 0),oP 136 (oMv 17),oP 137 (oIx 193 135 136),oP 138 (oLd 156 137),oP 139 (oMv 11),oP 140 (oMv 17),oP 141 (oIx 193 139 140),oP 142 (oLd 156 141),oP 143 (.binOp .xor 156 (oTt 138) (oTt 142) 156),oP 144 (oMv 11),oP 145 (oMv 17),oP 146 (.binOp .add 3 (oTt 145) (oCi 8) 3),oP 147 (oIx 193 144 146),oP 148 (oLd 156 147),oP 149 (.binOp .xor 156 (oTt 143) (oTt 148) 156),oP 150 (.buildSlice 193 1 #[(0,(oTt 149))]),oP 151 (oBu .append #[(oTt 134),(oTt 150)] #[193,193]),oP 16 (oAs 151)]
def Qkh:List Oper:=Qro
theorem Xmc:Qj2.toList.map bare=Qro:=by kernel_rfl
theorem Xiw:Qj2.toList.map bare=Qkh:=Xmc
def Qfg:List Nat:=[0,0,0,6,14,0,0,96,224,510,0,0,2048,7168,15360,32766,65534,131071,262143]
theorem Xnv:Qpo Qj2.toList []=some Qfg:=by kernel_rfl
theorem Xif:Wm Qj2.toList Qj2.toList Qfg []=true:=by kernel_rfl
theorem Xql(b:Nat)(L:List KE)(s:St):Ab.runT (E b) L Qkh Qfg Qkh 0 s=Ab.runT (E b) L Qkh Qfg Qro 0 s:=rfl
theorem Xra(b:Nat):Ws (E b) 17 ((nth Qfg 17).getD 0) Qkh Qfg 0=true:=by kernel_rfl
abbrev X7x:Code:=.block 7 X9e
abbrev X2c:List Oper:=[oP 132 (oMv 17),oP 133 (.binOp .add 3 (oTt 132) (oCi 1) 3),oP 17 (oAs 133)]
abbrev Yfj:Code:=oRg X2c
abbrev Ygb:Code:=.seq X7x Yfj
abbrev Yc8:Code:=.seq Ygl Ygb
def X81:Code:=.loop Yc8
abbrev Yf6:Code:=.block 6 X81
abbrev Yfv:Code:=.seq Yax Yf6
abbrev X1z:List Oper:=[oP 152 (oMv 16),oP 8 (oAs 152)]
abbrev X97:Code:=oRg X1z
abbrev Ycw:Code:=.seq X97 .ret
abbrev Xg7:Code:=.seq Yfv Ycw
def Qph:Code:=.seq Xks Xg7
theorem Zq:oSQ Qph Xks Xg7:=fun _ _=>rfl
def Qyl:Code:=.seq Xhj Qph
theorem Zw:oSQ Qyl Xhj Qph:=fun _ _=>rfl
abbrev Xiv:Code:=.seq Yc7 Qyl
def Qxv:Code:=.seq Xiy Xiv
theorem Zr:oSQ Qxv Xiy Xiv:=fun _ _=>rfl
abbrev Yat:Code:=.seq Ycf Qxv
abbrev X93:Code:=.seq Yel Yat
abbrev Yac:Code:=.seq Yce X93
abbrev Ybo:Code:=.seq X83 Yac
abbrev Yb7:Code:=.seq Yhf Ybo
abbrev Yfn:Code:=.seq X8j Yb7
abbrev Yff:Code:=.seq Ymh Yfn
abbrev Ym9:Code:=.seq Yj7 Yff
abbrev Yis:Code:=.seq Yjw Ym9
def J5:Code:=Yis
theorem Yiu:Ww (Za 122)=J5:=by kernel_rfl
theorem X4v:Qjr.body=some (Za 122):=by kernel_rfl
theorem Yqg:Qjr.ntmps=153:=by kernel_rfl
theorem V3:Qjr.results.toList=[.tmp 8]:=by kernel_rfl
abbrev Yh7:List Oper:=[oP 4 (.alloc 23)]
abbrev Yi8:Code:=oRg Yh7
abbrev X8f:List Oper:=[oP 15 (oMv 0),oP 16 (oBu .len #[(oTt 15)] #[47]),oP 17 (.binOp .gtr 3 (oTt 16) (oCi 32) 3)]
abbrev Yhy:Code:=oRg X8f
abbrev Yfm:List Oper:=[oP 18 (oMv 0),oP 19 (oCa 82 #[(.const (.slice none 0 0)),(oTt 18)] #[47,47]),oP 5 (.alloc 23),oN (.store 23 (oTt 5) (oTt 19))]
abbrev Ymo:Code:=oRg Yfm
abbrev X7f:List Oper:=[oP 20 (.slice 23 (oTt 5) none none none),oP 21 (oMv 1),oP 22 (oCa 82 #[(oTt 20),(oTt 21)] #[47,47]),oN (.store 23 (oTt 4) (oTt 22))]
abbrev Ylg:Code:=oRg X7f
abbrev Yir:Code:=.seq Ylg .ret
abbrev Yj3:Code:=.seq Ymo Yir
abbrev Yk0:Code:=.cond (.tmp 17) Yj3 .skip
abbrev Yl8:Code:=.seq Yhy Yk0
abbrev X5f:List Oper:=[oP 6 (.assign (.const (.slice none 0 0)))]
abbrev Yg4:Code:=oRg X5f
abbrev X4c:List Oper:=[oP 23 (oMv 0),oP 24 (oBu .len #[(oTt 23)] #[47]),oP 25 (.binOp .gtr 3 (oTt 24) (oCi 0) 3)]
abbrev X80:Code:=oRg X4c
abbrev X5t:List Oper:=[oP 26 (oMv 6),oP 27 (oMv 0),oP 28 (oBu .append #[(oTt 26),(oTt 27)] #[47,47]),oP 6 (oAs 28)]
abbrev Yc3:Code:=oRg X5t
abbrev X1j:List Oper:=[oP 29 (oMv 6),oP 30 (oBu .len #[(oTt 29)] #[47]),oP 31 (.binOp .lss 3 (oTt 30) (oCi 64) 3)]
abbrev Ydl:Code:=oRg X1j
abbrev Yhn:Code:=.cond (.tmp 31) .skip (.exit 0)
abbrev Yfx:Code:=.seq Ydl Yhn
abbrev X2b:List Oper:=[oP 32 (oMv 6),oP 33 (.buildSlice 47 1 #[(0,(.const (.int .u8 0)))]),oP 34 (oBu .append #[(oTt 32),(oTt 33)] #[47,47]),oP 6 (oAs 34)]
abbrev Yd5:Code:=oRg X2b
abbrev X9i:Code:=.block 1 Yd5
abbrev Ya7:Code:=.seq Yfx X9i
def Yah:Code:=.loop Ya7
abbrev Ya5:Code:=.block 0 Yah
abbrev Yf1:Code:=.seq Yc3 Ya5
abbrev Ydr:Code:=.cond (.tmp 25) Yf1 .skip
abbrev Yhm:Code:=.seq X80 Ydr
abbrev X1g:List Oper:=[oP 35 (oMv 6),oP 36 (oMv 1),oP 37 (oBu .append #[(oTt 35),(oTt 36)] #[47,47]),oP 6 (oAs 37)]
abbrev Xik:Code:=oRg X1g
abbrev X57:List Oper:=[oP 38 (oCa 121 #[] #[]),oP 7 (oAs 38)]
abbrev Ya8:Code:=oRg X57
abbrev X6d:List Oper:=[oP 39 (oMv 7),oP 40 (oMv 7),oP 41 (.indexAddr 193 (oTt 40) (oCi 0)),oP 42 (oLd 156 41),oP 43 (.binOp .xor 156 (oTt 42) (.const (.int .u32 16842784)) 156),oP 44 (oMv 0),oP 45 (oBu .len #[(oTt 44)] #[47]),oP 46 (.binOp .mul 3 (oCi 256) (oTt 45) 3),oP 47 (.convert 3 156 (oTt 46)),oP 48 (.binOp .xor 156 (oTt 43) (oTt 47) 156),oP 49 (.indexAddr 193 (oTt 39) (oCi 0)),oN (.store 156 (oTt 49) (oTt 48))]
abbrev Ybk:Code:=oRg X6d
abbrev X3h:List Oper:=[oP 8 (.assign (oCi 0))]
abbrev X8a:Code:=oRg X3h
abbrev Xb5:List Oper:=[oP 50 (oMv 8),oP 51 (oMv 6),oP 52 (oBu .len #[(oTt 51)] #[47]),oP 53 (.binOp .lss 3 (oTt 50) (oTt 52) 3),oP 54 (oMv 53),oG 4 false 55 (oMv 8),oG 4 false 56 (.binOp .eql 3 (oTt 55) (oCi 0) 3),oP 57 (.pick (oTt 54) (.const (.bool true)) (oTt 56))]
def Qwp:List Oper:=Xb5
def Xll:Code:=oRg Qwp
theorem Jt:oRQ Xll Qwp Xb5:=fun _ _=>rfl
theorem Ji:nth Qwp 4=some ⟨(some 54),.move (.tmp 53),0,"",#[],none⟩:=rfl
abbrev Yap:Code:=.cond (.tmp 57) .skip (.exit 2)
abbrev Ygi:Code:=.seq Xll Yap
abbrev X2q:List Oper:=[oP 60 (oMv 8),oP 61 (.binOp .add 3 (oTt 60) (oCi 64) 3),oP 62 (oMv 6),oP 63 (oBu .len #[(oTt 62)] #[47]),oP 64 (oBu .min #[(oTt 61),(oTt 63)] #[3,3]),oP 9 (oAs 64)]
abbrev X9v:Code:=oRg X2q
abbrev X69:List Oper:=[oP 10 (.assign (.const (.slice none 0 0)))]
abbrev Yed:Code:=oRg X69
abbrev X1h:List Oper:=[oP 65 (oMv 10),oP 66 (oMv 6),oP 67 (oMv 8),oP 68 (oMv 9),oP 69 (.slice 47 (oTt 66) (some (oTt 67)) (some (oTt 68)) none),oP 70 (oBu .append #[(oTt 65),(oTt 69)] #[47,47]),oP 10 (oAs 70)]
abbrev Ydq:Code:=oRg X1h
abbrev X3b:List Oper:=[oP 71 (oMv 10),oP 72 (oBu .len #[(oTt 71)] #[47]),oP 73 (.binOp .lss 3 (oTt 72) (oCi 64) 3)]
abbrev X8i:Code:=oRg X3b
abbrev Yep:Code:=.cond (.tmp 73) .skip (.exit 4)
abbrev Yfz:Code:=.seq X8i Yep
abbrev X5e:List Oper:=[oP 74 (oMv 10),oP 75 (.buildSlice 47 1 #[(0,(.const (.int .u8 0)))]),oP 76 (oBu .append #[(oTt 74),(oTt 75)] #[47,47]),oP 10 (oAs 76)]
abbrev Ydu:Code:=oRg X5e
abbrev Yf5:Code:=.block 5 Ydu
abbrev X87:Code:=.seq Yfz Yf5
def Yfg:Code:=.loop X87
abbrev Yei:Code:=.block 4 Yfg
abbrev X4t:List Oper:=[oP 77 (oMv 7),oP 78 (oMv 10),oP 79 (oMv 9),oP 80 (.convert 3 160 (oTt 79)),oP 81 (oMv 9),oP 82 (oMv 6),oP 83 (oBu .len #[(oTt 82)] #[47]),oP 84 (.binOp .eql 3 (oTt 81) (oTt 83) 3),oP 85 (oCa 122 #[(oTt 77),(oTt 78),(oTt 80),(oTt 84)] #[193,47,160,4]),oP 7 (oAs 85)]
abbrev Ybg:Code:=oRg X4t
abbrev Ycj:Code:=.seq Yei Ybg
abbrev X8b:Code:=.seq Ydq Ycj
abbrev Yex:Code:=.seq Yed X8b
abbrev Xhf:Code:=.seq X9v Yex
def Qxq:Code:=.block 3 Xhf
theorem Zs:oBQ 3 Qxq Xhf:=fun _ _=>rfl
abbrev X4w:List Oper:=[oP 58 (oMv 8),oP 59 (.binOp .add 3 (oTt 58) (oCi 64) 3),oP 8 (oAs 59)]
abbrev Ybn:Code:=oRg X4w
abbrev X8k:Code:=.seq Qxq Ybn
abbrev X9u:Code:=.seq Ygi X8k
def Yhk:Code:=.loop X9u
abbrev Yfh:Code:=.block 2 Yhk
abbrev Xg9:Code:=.seq X8a Yfh
abbrev X5v:List Oper:=[oP 11 (.alloc 23)]
abbrev Xjx:Code:=oRg X5v
abbrev X5r:List Oper:=[oP 12 (.assign (oCi 0))]
abbrev X7j:Code:=oRg X5r
abbrev X23:List Oper:=[oP 86 (oMv 12),oP 87 (.binOp .lss 3 (oTt 86) (oCi 32) 3)]
abbrev X9m:Code:=oRg X23
abbrev X94:Code:=.cond (.tmp 87) .skip (.exit 6)
abbrev Yaz:Code:=.seq X9m X94
abbrev X1n:List Oper:=[oP 90 (oMv 7),oP 91 (oMv 12),oP 92 (.binOp .quo 3 (oTt 91) (oCi 4) 3),oP 93 (oIx 193 90 92),oP 94 (oLd 156 93),oP 13 (oAs 94)]
abbrev X8s:Code:=oRg X1n
def Xi3:List Oper:=Qtu
def Xjn:Code:=oRg Xi3
theorem Ju:oRQ Xjn Xi3 Qtu:=fun _ _=>rfl
abbrev X48:List Oper:=[oP 95 (oMv 14),oP 96 (oMv 12),oP 97 (.binOp .rem 3 (oTt 96) (oCi 4) 3),oP 98 (.binOp .lss 3 (oTt 95) (oTt 97) 3)]
abbrev Ya1:Code:=oRg X48
abbrev Ye2:Code:=.cond (.tmp 98) .skip (.exit 8)
abbrev Yct:Code:=.seq Ya1 Ye2
abbrev X5u:List Oper:=[oP 101 (oMv 13),oP 102 (.binOp .quo 156 (oTt 101) (.const (.int .u32 256)) 156),oP 13 (oAs 102)]
abbrev Yhi:Code:=oRg X5u
abbrev X9x:Code:=.block 9 Yhi
abbrev X5m:List Oper:=[oP 99 (oMv 14),oP 100 (.binOp .add 3 (oTt 99) (oCi 1) 3),oP 14 (oAs 100)]
abbrev Ygh:Code:=oRg X5m
abbrev Ybi:Code:=.seq X9x Ygh
abbrev Ye7:Code:=.seq Yct Ybi
def Ycp:Code:=.loop Ye7
abbrev Ybe:Code:=.block 8 Ycp
abbrev Yaw:Code:=.seq Xjn Ybe
abbrev X4h:List Oper:=[oP 103 (oMv 12),oP 104 (oMv 13),oP 105 (.binOp .rem 156 (oTt 104) (.const (.int .u32 256)) 156),oP 106 (.convert 156 5 (oTt 105)),oP 107 (oIx 23 11 103),oN (.store 5 (oTt 107) (oTt 106))]
abbrev Ydp:Code:=oRg X4h
abbrev Yhj:Code:=.seq Yaw Ydp
abbrev Ybu:Code:=.seq X8s Yhj
abbrev X8v:Code:=.block 7 Ybu
abbrev X4y:List Oper:=[oP 88 (oMv 12),oP 89 (.binOp .add 3 (oTt 88) (oCi 1) 3),oP 12 (oAs 89)]
abbrev Yaj:Code:=oRg X4y
abbrev X9y:Code:=.seq X8v Yaj
abbrev Yd7:Code:=.seq Yaz X9y
def Yf8:Code:=.loop Yd7
abbrev X9q:Code:=.block 6 Yf8
abbrev Ydi:Code:=.seq X7j X9q
abbrev X3o:List Oper:=[oP 108 (oLd 23 11),oN (.store 23 (oTt 4) (oTt 108))]
abbrev Yf0:Code:=oRg X3o
abbrev X8z:Code:=.seq Yf0 .ret
abbrev Xgi:Code:=.seq Ydi X8z
def Qq0:Code:=.seq Xjx Xgi
theorem Zp:oSQ Qq0 Xjx Xgi:=fun _ _=>rfl
def Qxh:Code:=.seq Xg9 Qq0
theorem Jm:oSQ Qxh Xg9 Qq0:=fun _ _=>rfl
abbrev Yg8:Code:=.seq Ybk Qxh
abbrev Xgu:Code:=.seq Ya8 Yg8
def Qyt:Code:=.seq Xik Xgu
theorem J1:oSQ Qyt Xik Xgu:=fun _ _=>rfl
abbrev Yfs:Code:=.seq Yhm Qyt
abbrev Ygr:Code:=.seq Yg4 Yfs
abbrev Yj2:Code:=.seq Yl8 Ygr
abbrev Ylc:Code:=.seq Yi8 Yj2
def Jw:Code:=Ylc
theorem Xpa:Ww (Za 82)=Jw:=by kernel_rfl
theorem Xb6:Qju.body=some (Za 82):=by kernel_rfl
theorem Xti:Qju.ntmps=109:=by kernel_rfl
theorem Vv:Qju.results.toList=[.cell 4 23]:=by kernel_rfl
abbrev Yoz:List Oper:=[oP 2 (.alloc 23)]
abbrev Yym:Code:=oRg Yoz
abbrev Yp3:List Oper:=[oP 3 (oMv 0),oP 4 (oCa 82 #[(.const (.slice none 0 0)),(oTt 3)] #[47,47]),oN (.store 23 (oTt 2) (oTt 4))]
abbrev Yzg:Code:=oRg Yp3
abbrev Yyn:Code:=.seq Yzg .ret
abbrev Yuy:Code:=.seq Yym Yyn
def Q1n:Code:=Yuy
theorem Yvt:Ww (Za 97)=Q1n:=by kernel_rfl
theorem Yij:Xab.body=some (Za 97):=by kernel_rfl
theorem Y1k:Xab.ntmps=5:=by kernel_rfl
theorem X0t:Xab.results.toList=[.cell 2 23]:=by kernel_rfl
end Go.Proofs.YtgeeklmjfbiieaaDoor
end
noncomputable section
namespace Go.Proofs.YtgeeklmjfbiieaaDoor
open Go Go.Ab
set_option maxRecDepth 100000
noncomputable def Q0y:Func:=(Tryd.prog.funcs[61]?).getD default
theorem Xy(b:Nat):(mkE Tryd.prog nv b).fn.get 61=some Q0y:=by kernel_rfl
theorem Y4h(x y:Int):Qbv (binOp .neq 5 (.int .u8 x) (.int .u8 y))=some (.bool (!(decide (x=y)))):=by kernel_rfl
noncomputable def Qle:Func:=(Tryd.prog.funcs[58]?).getD default
theorem Y9(b:Nat):(mkE Tryd.prog nv b).fn.get 58=some Qle:=by kernel_rfl
theorem Uf(b bk o:Nat):Ua (E b).toEnv 119 (.pointer (some ⟨bk,o,none⟩)) 2=some (.pointer (some ⟨bk,o+35,none⟩)):=by kernel_rfl
theorem Qgq(b:Nat)(h:Heap)(bk o:Nat):Qih (E b).toEnv 86 (.pointer (some ⟨bk,o,none⟩)) h=V2 h bk o:=Q4v (Ze8 b) Zhf
noncomputable def Qjz:Func:=(Tryd.prog.funcs[62]?).getD default
theorem X1(b:Nat):(mkE Tryd.prog nv b).fn.get 62=some Qjz:=by kernel_rfl
theorem Ze(b bk o:Nat):Ua (E b).toEnv 119 (.pointer (some ⟨bk,o,none⟩)) 1=some (.pointer (some ⟨bk,o+34,none⟩)):=by kernel_rfl
noncomputable def Qip:Func:=(Tryd.prog.funcs[94]?).getD default
theorem Xh(b:Nat):(mkE Tryd.prog nv b).fn.get 94=some Qip:=by kernel_rfl
noncomputable def Qir:Func:=(Tryd.prog.funcs[96]?).getD default
theorem Y0(b:Nat):(mkE Tryd.prog nv b).fn.get 96=some Qir:=by kernel_rfl
noncomputable def Qiy:Func:=(Tryd.prog.funcs[98]?).getD default
theorem Xr(b:Nat):(mkE Tryd.prog nv b).fn.get 98=some Qiy:=by kernel_rfl
noncomputable def Qjv:Func:=(Tryd.prog.funcs[57]?).getD default
theorem Y8(b:Nat):(mkE Tryd.prog nv b).fn.get 57=some Qjv:=by kernel_rfl
theorem Y7f(b:Nat)(h:Heap)(bk o:Nat)(v:Value)(hv:Yhp v=true):Qeu (E b).toEnv 86 (.pointer (some ⟨bk,o,none⟩)) v h=Wg h bk o [v]:=Xav (Ze8 b) Y3o hv
theorem Qpt(b:Nat)(h:Heap)(bk o:Nat)(a:Option Addr)(n c:Nat):Qeu (E b).toEnv 86 (.pointer (some ⟨bk,o,none⟩)) (.slice a n c) h=Wg h bk o [(.slice a n c)]:=Xav (Ze8 b) Y3o rfl
theorem Qlb(b bk o:Nat):Ua (E b).toEnv 119 (.pointer (some ⟨bk,o,none⟩)) 3=some (.pointer (some ⟨bk,o+36,none⟩)):=by kernel_rfl
noncomputable def Qvd:Func:=(Tryd.prog.funcs[95]?).getD default
theorem Z3(b:Nat):(mkE Tryd.prog nv b).fn.get 95=some Qvd:=by kernel_rfl
noncomputable def Q14:Func:=(Tryd.prog.funcs[60]?).getD default
theorem Y2(b:Nat):(mkE Tryd.prog nv b).fn.get 60=some Q14:=by kernel_rfl
noncomputable def Qi3:Func:=(Tryd.prog.funcs[99]?).getD default
theorem Xq(b:Nat):(mkE Tryd.prog nv b).fn.get 99=some Qi3:=by kernel_rfl
theorem Qxa(b:Nat){bk o:Nat}{k:IntKind}{i:Int}(h:0≤i∧i < 16):Zn (E b).toEnv 90 (.pointer (some ⟨bk,o,none⟩)) (.int k i)=some (.pointer (some ⟨bk,o+i.toNat*1,none⟩)):=Xwe (T90 b) Qbg h
theorem Qe3(b bk o:Nat):Ua (E b).toEnv 119 (.pointer (some ⟨bk,o,none⟩)) 0=some (.pointer (some ⟨bk,o+0,none⟩)):=by kernel_rfl
theorem Qrt(b bk o:Nat):Ua (E b).toEnv 64 (.pointer (some ⟨bk,o,none⟩)) 0=some (.pointer (some ⟨bk,o+0,none⟩)):=by kernel_rfl
noncomputable def R61:TyRec:=((mkE Tryd.prog nv 0).ty.get 61).getD ⟨.invalid,0,0,.bool false,[]⟩
theorem Zp3(b:Nat):(E b).toEnv.ty.get 61=some R61:=by kernel_rfl
theorem Zjc:Qep R61.desc=false:=by kernel_rfl
theorem Xx9(b:Nat)(h:Heap)(bk o:Nat):Qih (E b).toEnv 61 (.pointer (some ⟨bk,o,none⟩)) h=V2 h bk o:=Q4v (Zp3 b) Zjc
theorem Qs3(b bk o:Nat):Ua (E b).toEnv 64 (.pointer (some ⟨bk,o,none⟩)) 1=some (.pointer (some ⟨bk,o+1,none⟩)):=by kernel_rfl
noncomputable def Qi0:Func:=(Tryd.prog.funcs[133]?).getD default
theorem Zx(b:Nat):(mkE Tryd.prog nv b).fn.get 133=some Qi0:=by kernel_rfl
noncomputable def Qi4:Func:=(Tryd.prog.funcs[100]?).getD default
theorem Xu(b:Nat):(mkE Tryd.prog nv b).fn.get 100=some Qi4:=by kernel_rfl
theorem Qxt(b bk o:Nat):Ua (E b).toEnv 64 (.pointer (some ⟨bk,o,none⟩)) 2=some (.pointer (some ⟨bk,o+33,none⟩)):=by kernel_rfl
noncomputable def Qgh:Func:=(Tryd.prog.funcs[59]?).getD default
theorem Xl(b:Nat):(mkE Tryd.prog nv b).fn.get 59=some Qgh:=by kernel_rfl
theorem Jh(b bk o:Nat):Ua (E b).toEnv 120 (.pointer (some ⟨bk,o,none⟩)) 0=some (.pointer (some ⟨bk,o+0,none⟩)):=by kernel_rfl
noncomputable def Q6o:Func:=(Tryd.prog.funcs[20]?).getD default
theorem Yx(b:Nat):(mkE Tryd.prog nv b).fn.get 20=some Q6o:=by kernel_rfl
noncomputable def R64:TyRec:=((mkE Tryd.prog nv 0).ty.get 64).getD ⟨.invalid,0,0,.bool false,[]⟩
theorem Zpl(b:Nat):(E b).toEnv.ty.get 64=some R64:=by kernel_rfl
theorem Ziq:Qep R64.desc=true:=by kernel_rfl
theorem Zd8:R64.size=34:=by kernel_rfl
theorem Qop(b:Nat)(h:Heap)(bk o:Nat):Qih (E b).toEnv 64 (.pointer (some ⟨bk,o,none⟩)) h=Qgi h bk o 34:=Xuv (Zpl b) Ziq Zd8
theorem Qh7(b:Nat){bk o n c:Nat}{k:IntKind}{i:Int}(h:0≤i∧i < n):Zn (E b).toEnv 114 (.slice (some ⟨bk,o,none⟩) n c) (.int k i)=some (.pointer (some ⟨bk,o+i.toNat*2,none⟩)):=Qhi (Zfl b) Qp8 h
noncomputable def Q7j:Func:=(Tryd.prog.funcs[21]?).getD default
theorem Jf(b:Nat):(mkE Tryd.prog nv b).fn.get 21=some Q7j:=by kernel_rfl
noncomputable def Qw5:Func:=(Tryd.prog.funcs[80]?).getD default
theorem Vw(b:Nat):(mkE Tryd.prog nv b).fn.get 80=some Qw5:=by kernel_rfl
noncomputable def Qlf:Func:=(Tryd.prog.funcs[81]?).getD default
theorem Um(b:Nat):(mkE Tryd.prog nv b).fn.get 81=some Qlf:=by kernel_rfl
theorem Xua(b bk o:Nat):Ua (E b).toEnv 126 (.pointer (some ⟨bk,o,none⟩)) 0=some (.pointer (some ⟨bk,o+0,none⟩)):=by kernel_rfl
noncomputable def Q99:Func:=(Tryd.prog.funcs[120]?).getD default
theorem Qjl(b:Nat):(mkE Tryd.prog nv b).fn.get 120=some Q99:=by kernel_rfl
noncomputable def Qk8:Func:=(Tryd.prog.funcs[48]?).getD default
theorem J4(b:Nat):(mkE Tryd.prog nv b).fn.get 48=some Qk8:=by kernel_rfl
noncomputable def Y2w:Func:=(Tryd.prog.funcs[156]?).getD default
theorem X18(b:Nat):(mkE Tryd.prog nv b).fn.get 156=some Y2w:=by kernel_rfl
abbrev Qnm:List Oper:=[oP 2 (.assign (.const (.bool false)))]
abbrev Yq2:Code:=oRg Qnm
abbrev Ymi:List Oper:=[oP 3 (.assign (oCi 0))]
abbrev Ysb:Code:=oRg Ymi
abbrev Yml:List Oper:=[oP 4 (oMv 3),oP 5 (oMv 0),oP 6 (oBu .len #[(oTt 5)] #[47]),oP 7 (.binOp .lss 3 (oTt 4) (oTt 6) 3)]
abbrev Yt6:Code:=oRg Yml
abbrev Yrc:Code:=.cond (.tmp 7) .skip (.exit 0)
abbrev Ysj:Code:=.seq Yt6 Yrc
abbrev Ykb:List Oper:=[oP 10 (oMv 0),oP 11 (oMv 3),oP 12 (oIx 47 10 11),oP 13 (oLd 5 12),oP 14 (.binOp .neq 5 (oTt 13) (.const (.int .u8 0)) 5)]
abbrev Yt7:Code:=oRg Ykb
abbrev Yh2:List Oper:=[oP 2 (.assign (.const (.bool true)))]
abbrev Ykh:Code:=oRg Yh2
abbrev Yl0:Code:=.seq Ykh .ret
abbrev Ylf:Code:=.cond (.tmp 14) Yl0 .skip
abbrev Yt9:Code:=.seq Yt7 Ylf
abbrev Ykl:Code:=.block 1 Yt9
abbrev X9w:List Oper:=[oP 8 (oMv 3),oP 9 (.binOp .add 3 (oTt 8) (oCi 1) 3),oP 3 (oAs 9)]
abbrev Yk2:Code:=oRg X9w
abbrev Yjq:Code:=.seq Ykl Yk2
abbrev Yr6:Code:=.seq Ysj Yjq
def Ykj:Code:=.loop Yr6
abbrev Yk7:Code:=.block 0 Ykj
abbrev Yqp:Code:=.seq Ysb Yk7
def Xpp:List Oper:=Qnm
def Xpj:Code:=oRg Xpp
theorem Qoa:oRQ Xpj Xpp Qnm:=fun _ _=>rfl
abbrev Yly:Code:=.seq Xpj .ret
abbrev Ylk:Code:=.seq Yqp Yly
abbrev Yp7:Code:=.seq Yq2 Ylk
def Qmh:Code:=Yp7
theorem Yry:Ww (Za 61)=Qmh:=by kernel_rfl
theorem Yca:Q0y.body=some (Za 61):=by kernel_rfl
theorem Yx5:Q0y.ntmps=15:=by kernel_rfl
theorem Qvz:Q0y.results.toList=[.tmp 2]:=by kernel_rfl
abbrev Qd6:List Oper:=[oP 4 (.assign (.const (.bool false)))]
abbrev Xrz:Code:=oRg Qd6
abbrev Xn2:List Oper:=[oP 5 (.assign (oCi 0))]
abbrev Xq8:Code:=oRg Xn2
abbrev Xn7:List Oper:=[oP 6 (oMv 5),oP 7 (oMv 1),oP 8 (.binOp .lss 3 (oTt 6) (oTt 7) 3)]
abbrev Xpr:Code:=oRg Xn7
abbrev Xqo:Code:=.cond (.tmp 8) .skip (.exit 0)
abbrev Xs7:Code:=.seq Xpr Xqo
abbrev Xn4:List Oper:=[oP 11 (oMv 0),oP 12 (.nilCheck (oTt 11)),oP 13 (oFa 119 12 2),oP 14 (oLd 86 13),oP 15 (oMv 5),oP 16 (oIx 86 14 15),oP 17 (oLd 4 16),oP 18 (.unOp .not 4 (oTt 17))]
abbrev Xrk:Code:=oRg Xn4
def Qui:List Oper:=Qd6
def Qug:Code:=oRg Qui
theorem Qhf:oRQ Qug Qui Qd6:=fun _ _=>rfl
abbrev Xo1:Code:=.seq Qug .ret
abbrev Xoi:Code:=.cond (.tmp 18) Xo1 .skip
abbrev Xpw:Code:=.seq Xrk Xoi
abbrev Xma:Code:=.block 1 Xpw
abbrev Xkj:List Oper:=[oP 9 (oMv 5),oP 10 (.binOp .add 3 (oTt 9) (oCi 1) 3),oP 5 (oAs 10)]
abbrev Xny:Code:=oRg Xkj
abbrev Xn3:Code:=.seq Xma Xny
abbrev Xqs:Code:=.seq Xs7 Xn3
def Xoh:Code:=.loop Xqs
abbrev Xn9:Code:=.block 0 Xoh
abbrev Xr8:Code:=.seq Xq8 Xn9
abbrev Xhi:List Oper:=[oP 4 (.assign (.const (.bool true)))]
abbrev Xmt:Code:=oRg Xhi
abbrev Xo8:Code:=.seq Xmt .ret
abbrev Xo6:Code:=.seq Xr8 Xo8
abbrev Xqy:Code:=.seq Xrz Xo6
def Qfq:Code:=Xqy
theorem Xq4:Ww (Za 58)=Qfq:=by kernel_rfl
theorem Xgx:Qle.body=some (Za 58):=by kernel_rfl
theorem Xu2:Qle.ntmps=19:=by kernel_rfl
theorem Qk2:Qle.results.toList=[.tmp 4]:=by kernel_rfl
abbrev Qm7:List Oper:=[oP 4 (.assign (.const (.slice none 0 0)))]
abbrev Xoc:Code:=oRg Qm7
noncomputable def Qen:Array Oper:=Qmw (Qms 1 (Za 62))
def Xmx:Code:=.region 1 Qen true
abbrev Ql5:List Oper:=[oP 5 (oMv 0),oP 6 (.nilCheck (oTt 5)),oP 7 (oFa 119 6 1),oP 8 (oLd 43 7),oP 9 (oMv 0),oP 10 (.nilCheck (oTt 9)),oP 11 (oFa 119 10 1),oP 12 (oLd 43 11),oP 13 (oBu .len #[(oTt 12)] #[43]),oP 14 (.binOp .sub 3 (oTt 13) (oCi 1) 3),oP 15 (oMv 1),oP 16 (.binOp .sub 3 (oTt 14) (oTt 15) 3),oP 17 (oIx 43 8 16),oP 18 (oLd 47 17),oP 4 (oAs 18)]
def Qi9:List Oper:=Ql5
theorem Q23:Qen.toList.map bare=Ql5:=by kernel_rfl
theorem Qzl:Qen.toList.map bare=Qi9:=Q23
def Qez:List Nat:=[0,1,3,7,0,16,48,112,240,496,0,2032,4095,8191,16383]
theorem Q2l:Qpo Qen.toList []=some Qez:=by kernel_rfl
theorem Q0e:Wm Qen.toList Qen.toList Qez []=true:=by kernel_rfl
theorem Q40(b:Nat)(L:List KE)(s:St):Ab.runT (E b) L Qi9 Qez Qi9 0 s=Ab.runT (E b) L Qi9 Qez Ql5 0 s:=rfl
abbrev Xn6:Code:=.seq Xmx .ret
abbrev Xmr:Code:=.seq Xoc Xn6
def Qf2:Code:=Xmr
theorem Xnh:Ww (Za 62)=Qf2:=by kernel_rfl
theorem Xco:Qjz.body=some (Za 62):=by kernel_rfl
theorem Xs3:Qjz.ntmps=19:=by kernel_rfl
theorem Qix:Qjz.results.toList=[.tmp 4]:=by kernel_rfl
noncomputable def Qds:Array Oper:=Qmw (Qms 0 (Za 94))
def Xky:Code:=.region 0 Qds true
abbrev Qk1:List Oper:=[oP 4 (oMv 0),oP 5 (oMv 0),oP 6 (.nilCheck (oTt 5)),oP 7 (oFa 119 6 1),oP 8 (oLd 43 7),oP 9 (oMv 0),oP 10 (.nilCheck (oTt 9)),oP 11 (oFa 119 10 1),oP 12 (oLd 43 11),oP 13 (oBu .len #[(oTt 12)] #[43]),oP 14 (oMv 1),oP 15 (.binOp .sub 3 (oTt 13) (oTt 14) 3),oP 16 (.slice 43 (oTt 8) none (some (oTt 15)) none),oP 17 (.nilCheck (oTt 4)),oP 18 (oFa 119 17 1),oN (.store 43 (oTt 18) (oTt 16))]
def Qf1:List Oper:=Qk1
theorem Qzb:Qds.toList.map bare=Qk1:=by kernel_rfl
theorem Qyu:Qds.toList.map bare=Qf1:=Qzb
def Qbk:List Nat:=[0,0,2,6,14,0,32,96,224,480,0,2016,4094,8191,16383,32767]
theorem Qzx:Qpo Qds.toList []=some Qbk:=by kernel_rfl
theorem Qyh:Wm Qds.toList Qds.toList Qbk []=true:=by kernel_rfl
theorem Q2a(b:Nat)(L:List KE)(s:St):Ab.runT (E b) L Qf1 Qbk Qf1 0 s=Ab.runT (E b) L Qf1 Qbk Qk1 0 s:=rfl
theorem Q1p(b:Nat):Ws (E b) 15 ((nth Qbk 15).getD 0) Qf1 Qbk 0=true:=by kernel_rfl
def Qea:Code:=Xky
theorem Xg3:Ww (Za 94)=Qea:=by kernel_rfl
theorem Q81:Qip.body=some (Za 94):=by kernel_rfl
theorem Xnm:Qip.ntmps=19:=by kernel_rfl
theorem Qhz:Qip.results.toList=[]:=by kernel_rfl
def Qth:List Oper:=Qd6
def Qsj:Code:=oRg Qth
theorem Qpj:oRQ Qsj Qth Qd6:=fun _ _=>rfl
abbrev Xe9:List Oper:=[oP 5 (oMv 0),oP 6 (oMv 0),oP 7 (.nilCheck (oTt 6)),oP 8 (oFa 119 7 1),oP 9 (oLd 43 8),oP 10 (oCa 28 #[(oTt 9)] #[43]),oP 11 (oMv 1),oP 12 (.buildSlice 43 1 #[(0,(oTt 11))]),oP 13 (oBu .append #[(oTt 10),(oTt 12)] #[43,43]),oP 14 (.nilCheck (oTt 5)),oP 15 (oFa 119 14 1),oN (.store 43 (oTt 15) (oTt 13))]
abbrev Xjm:Code:=oRg Xe9
abbrev Xd9:List Oper:=[oP 16 (oMv 0),oP 17 (.nilCheck (oTt 16)),oP 18 (oFa 119 17 1),oP 19 (oLd 43 18),oP 20 (oBu .len #[(oTt 19)] #[43]),oP 21 (.binOp .leq 3 (oTt 20) (oCi 16) 3),oP 4 (oAs 21)]
abbrev Xib:Code:=oRg Xd9
abbrev Xgs:Code:=.seq Xib .ret
abbrev Xhd:Code:=.seq Xjm Xgs
abbrev Xgp:Code:=.seq Qsj Xhd
def Qk5:Code:=Xgp
theorem Xig:Ww (Za 96)=Qk5:=by kernel_rfl
theorem Q63:Qir.body=some (Za 96):=by kernel_rfl
theorem Xmp:Qir.ntmps=22:=by kernel_rfl
theorem Qt8:Qir.results.toList=[.tmp 4]:=by kernel_rfl
def Qt2:List Oper:=Qd6
def Qti:Code:=oRg Qt2
theorem Qgo:oRQ Qti Qt2 Qd6:=fun _ _=>rfl
abbrev Xel:List Oper:=[oP 5 (oMv 1)]
abbrev Xgf:Code:=oRg Xel
abbrev Xep:List Oper:=[oP 6 (oMv 0),oP 7 (.buildSlice 47 1 #[(0,(.const (.int .u8 1)))]),oP 8 (oCa 96 #[(oTt 6),(oTt 7)] #[117,47]),oP 4 (oAs 8)]
abbrev Xkv:Code:=oRg Xep
abbrev Xl8:Code:=.seq Xkv .ret
abbrev Xjt:Code:=.cond (.tmp 5) Xl8 .skip
abbrev Xii:Code:=.seq Xgf Xjt
abbrev Xdc:List Oper:=[oP 9 (oMv 0),oP 10 (oCa 96 #[(oTt 9),(.const (.slice none 0 0))] #[117,47]),oP 4 (oAs 10)]
abbrev Xgz:Code:=oRg Xdc
abbrev Xj3:Code:=.seq Xgz .ret
abbrev Xjk:Code:=.seq Xii Xj3
abbrev Xhe:Code:=.seq Qti Xjk
def Qed:Code:=Xhe
theorem Xhc:Ww (Za 98)=Qed:=by kernel_rfl
theorem Q5t:Qiy.body=some (Za 98):=by kernel_rfl
theorem Xmm:Qiy.ntmps=11:=by kernel_rfl
theorem Qhw:Qiy.results.toList=[.tmp 4]:=by kernel_rfl
abbrev Qal:List Oper:=[oP 4 (.assign (oCi 0))]
abbrev Xnq:Code:=oRg Qal
abbrev Xgk:List Oper:=[oP 7 (oMv 0),oP 8 (.nilCheck (oTt 7)),oP 9 (oFa 119 8 2),oP 10 (oLd 86 9),oP 11 (oBu .len #[(oTt 10)] #[86]),oP 5 (oAs 11)]
abbrev Xns:Code:=oRg Xgk
abbrev Xh4:List Oper:=[oP 12 (oMv 1),oP 13 (.binOp .eql 3 (oTt 12) (oCi 136) 3)]
abbrev Xog:Code:=oRg Xh4
abbrev Xgy:List Oper:=[oP 6 (.assign (.const (.bool true)))]
abbrev Xo7:Code:=oRg Xgy
abbrev Xkc:List Oper:=[oP 14 (oMv 0),oP 15 (oMv 5),oP 16 (oCa 58 #[(oTt 14),(oTt 15)] #[117,3])]
abbrev Xm7:Code:=oRg Xkc
abbrev Xfg:List Oper:=[oP 17 (oMv 0),oP 18 (.nilCheck (oTt 17)),oP 19 (oFa 119 18 1),oP 20 (oLd 43 19),oP 21 (oBu .len #[(oTt 20)] #[43]),oP 22 (.binOp .lss 3 (oTt 21) (oCi 1) 3)]
abbrev Xl4:Code:=oRg Xfg
abbrev Qey:List Oper:=[oP 4 (.assign (oCi 16))]
abbrev Xlh:Code:=oRg Qey
abbrev Xiz:Code:=.seq Xlh .ret
abbrev Xgw:Code:=.cond (.tmp 22) Xiz .skip
abbrev Xkk:Code:=.seq Xl4 Xgw
abbrev Xcs:List Oper:=[oP 23 (oMv 0),oP 24 (oCa 62 #[(oTt 23),(oCi 0)] #[117,3]),oP 25 (oCa 61 #[(oTt 24)] #[47]),oP 6 (oAs 25)]
abbrev Xir:Code:=oRg Xcs
abbrev Xda:List Oper:=[oP 26 (oMv 0),oP 27 (oCa 94 #[(oTt 26),(oCi 1)] #[117,3])]
abbrev Xhq:Code:=oRg Xda
abbrev Xj4:Code:=.seq Xir Xhq
abbrev Xkg:Code:=.seq Xkk Xj4
abbrev Xjs:Code:=.cond (.tmp 16) Xkg .skip
abbrev Xob:Code:=.seq Xm7 Xjs
abbrev Xbr:List Oper:=[oP 28 (oMv 0),oP 29 (oMv 0),oP 30 (.nilCheck (oTt 29)),oP 31 (oFa 119 30 2),oP 32 (oLd 86 31),oP 33 (oMv 6),oP 34 (.buildSlice 86 1 #[(0,(oTt 33))]),oP 35 (oBu .append #[(oTt 32),(oTt 34)] #[86,86]),oP 36 (.nilCheck (oTt 28)),oP 37 (oFa 119 36 2),oN (.store 86 (oTt 37) (oTt 35))]
abbrev Xi2:Code:=oRg Xbr
abbrev Xbx:List Oper:=[oP 38 (oMv 0),oP 39 (oMv 0),oP 40 (.nilCheck (oTt 39)),oP 41 (oFa 119 40 3),oP 42 (oLd 86 41),oP 43 (.buildSlice 86 1 #[(0,(.const (.bool false)))]),oP 44 (oBu .append #[(oTt 42),(oTt 43)] #[86,86]),oP 45 (.nilCheck (oTt 38)),oP 46 (oFa 119 45 3),oN (.store 86 (oTt 46) (oTt 44))]
abbrev Xgh:Code:=oRg Xbx
def Qsy:List Oper:=Qal
def Qsw:Code:=oRg Qsy
theorem Vd:oRQ Qsw Qsy Qal:=fun _ _=>rfl
abbrev Xh5:Code:=.seq Qsw .ret
abbrev Xim:Code:=.seq Xgh Xh5
abbrev Xk6:Code:=.seq Xi2 Xim
abbrev Xkx:Code:=.seq Xob Xk6
abbrev Xnz:Code:=.seq Xo7 Xkx
abbrev Xlj:Code:=.cond (.tmp 13) Xnz .skip
abbrev Xof:Code:=.seq Xog Xlj
abbrev Qqk:List Oper:=[oP 47 (oMv 5),oP 48 (.binOp .eql 3 (oTt 47) (oCi 0) 3),oP 49 (oMv 48),oG 2 false 50 (oMv 1),oG 2 false 51 (.binOp .eql 3 (oTt 50) (oCi 137) 3),oG 2 false 52 (oMv 51),oG 5 true 53 (oMv 0),oG 5 true 54 (.nilCheck (oTt 53)),oG 5 true 55 (oFa 119 54 3),oG 5 true 56 (oLd 86 55),oG 5 true 57 (oMv 5),oG 5 true 58 (.binOp .sub 3 (oTt 57) (oCi 1) 3),oG 5 true 59 (oIx 86 56 58),oG 5 true 60 (oLd 4 59),oG 2 false 61 (.pick (oTt 52) (oTt 60) (.const (.bool false))),oP 62 (.pick (oTt 49) (.const (.bool true)) (oTt 61))]
def Qi5:List Oper:=Qqk
def Qsp:Code:=oRg Qi5
theorem Vi:oRQ Qsp Qi5 Qqk:=fun _ _=>rfl
theorem V7:nth Qi5 2=some ⟨(some 49),.move (.tmp 48),0,"",#[],none⟩:=rfl
theorem V6:nth Qi5 5=some ⟨(some 52),.move (.tmp 51),0,"",#[],(some (2,false))⟩:=rfl
def Qtb:List Oper:=Qey
def Qsu:Code:=oRg Qtb
theorem Vg:oRQ Qsu Qtb Qey:=fun _ _=>rfl
abbrev Xj9:Code:=.seq Qsu .ret
abbrev Xjh:Code:=.cond (.tmp 62) Xj9 .skip
abbrev Xjy:Code:=.seq Qsp Xjh
abbrev Xfp:List Oper:=[oP 63 (oMv 1),oP 64 (.binOp .eql 3 (oTt 63) (oCi 137) 3)]
abbrev Xhz:Code:=oRg Xfp
noncomputable def Qdq:Array Oper:=Qmw (Qms 15 (Za 57))
def Xg0:Code:=.region 15 Qdq true
abbrev Qk9:List Oper:=[oP 65 (oMv 0),oP 66 (.nilCheck (oTt 65)),oP 67 (oFa 119 66 2),oP 68 (oLd 86 67),oP 69 (oMv 5),oP 70 (.binOp .sub 3 (oTt 69) (oCi 1) 3),oP 71 (oMv 0),oP 72 (.nilCheck (oTt 71)),oP 73 (oFa 119 72 2),oP 74 (oLd 86 73),oP 75 (oMv 5),oP 76 (.binOp .sub 3 (oTt 75) (oCi 1) 3),oP 77 (oIx 86 74 76),oP 78 (oLd 4 77),oP 79 (.unOp .not 4 (oTt 78)),oP 80 (oIx 86 68 70),oN (.store 4 (oTt 80) (oTt 79))]
def Qet:List Oper:=Qk9
theorem Q01:Qdq.toList.map bare=Qk9:=by kernel_rfl
theorem Qxc:Qdq.toList.map bare=Qet:=Q01
def Qbp:List Nat:=[0,1,3,7,0,16,0,64,192,448,0,1024,4032,8128,16320,32767,65535]
theorem Qzc:Qpo Qdq.toList []=some Qbp:=by kernel_rfl
theorem Qy3:Wm Qdq.toList Qdq.toList Qbp []=true:=by kernel_rfl
theorem Q1s(b:Nat)(L:List KE)(s:St):Ab.runT (E b) L Qet Qbp Qet 0 s=Ab.runT (E b) L Qet Qbp Qk9 0 s:=rfl
theorem Q1g(b:Nat):Ws (E b) 16 ((nth Qbp 16).getD 0) Qet Qbp 0=true:=by kernel_rfl
abbrev Xeg:List Oper:=[oP 81 (oMv 0),oP 82 (.nilCheck (oTt 81)),oP 83 (oFa 119 82 3),oP 84 (oLd 86 83),oP 85 (oMv 5),oP 86 (.binOp .sub 3 (oTt 85) (oCi 1) 3),oP 87 (oIx 86 84 86),oN (.store 4 (oTt 87) (.const (.bool true)))]
abbrev Xgo:Code:=oRg Xeg
def Qsv:List Oper:=Qal
def Qsx:Code:=oRg Qsv
theorem Vh:oRQ Qsx Qsv Qal:=fun _ _=>rfl
abbrev Xh9:Code:=.seq Qsx .ret
abbrev Xkw:Code:=.seq Xgo Xh9
abbrev Xl5:Code:=.seq Xg0 Xkw
abbrev Xh0:Code:=.cond (.tmp 64) Xl5 .skip
abbrev Xi1:Code:=.seq Xhz Xh0
abbrev Xdd:List Oper:=[oP 88 (oMv 0),oP 89 (oMv 0),oP 90 (.nilCheck (oTt 89)),oP 91 (oFa 119 90 2),oP 92 (oLd 86 91),oP 93 (oMv 5),oP 94 (.binOp .sub 3 (oTt 93) (oCi 1) 3),oP 95 (.slice 86 (oTt 92) none (some (oTt 94)) none),oP 96 (.nilCheck (oTt 88)),oP 97 (oFa 119 96 2),oN (.store 86 (oTt 97) (oTt 95))]
abbrev Xhk:Code:=oRg Xdd
abbrev Xcg:List Oper:=[oP 98 (oMv 0),oP 99 (oMv 0),oP 100 (.nilCheck (oTt 99)),oP 101 (oFa 119 100 3),oP 102 (oLd 86 101),oP 103 (oMv 5),oP 104 (.binOp .sub 3 (oTt 103) (oCi 1) 3),oP 105 (.slice 86 (oTt 102) none (some (oTt 104)) none),oP 106 (.nilCheck (oTt 98)),oP 107 (oFa 119 106 3),oN (.store 86 (oTt 107) (oTt 105))]
abbrev Xge:Code:=oRg Xcg
def Qsq:List Oper:=Qal
def Qtc:Code:=oRg Qsq
theorem Vf:oRQ Qtc Qsq Qal:=fun _ _=>rfl
abbrev Xi6:Code:=.seq Qtc .ret
abbrev Xgj:Code:=.seq Xge Xi6
abbrev Xjp:Code:=.seq Xhk Xgj
abbrev Xiq:Code:=.seq Xi1 Xjp
abbrev Xjl:Code:=.seq Xjy Xiq
abbrev Xhu:Code:=.seq Xof Xjl
abbrev Xmq:Code:=.seq Xns Xhu
abbrev Xnl:Code:=.seq Xnq Xmq
def Vc:Code:=Xnl
theorem Qul:Ww (Za 57)=Vc:=by kernel_rfl
theorem Qqv:Qjv.body=some (Za 57):=by kernel_rfl
theorem Qyf:Qjv.ntmps=108:=by kernel_rfl
theorem Ub:Qjv.results.toList=[.tmp 4]:=by kernel_rfl
abbrev Qb3:List Oper:=[oP 2 (.assign (oCi 0))]
abbrev Yiz:Code:=oRg Qb3
abbrev Yhh:List Oper:=[oP 3 (oMv 0),oP 4 (.binOp .leq 3 (oTt 3) (oCi 64) 3)]
abbrev Yjc:Code:=oRg Yhh
def Xp5:List Oper:=Qb3
def Xp3:Code:=oRg Xp5
theorem Qob:oRQ Xp3 Xp5 Qb3:=fun _ _=>rfl
abbrev Yhw:Code:=.seq Xp3 .ret
abbrev Yjo:Code:=.cond (.tmp 4) Yhw .skip
abbrev Yli:Code:=.seq Yjc Yjo
abbrev Xhy:List Oper:=[oP 5 (oMv 0),oP 6 (.binOp .eql 3 (oTt 5) (oCi 132) 3),oP 7 (oMv 6),oG 2 false 8 (oMv 0),oG 2 false 9 (.binOp .eql 3 (oTt 8) (oCi 134) 3),oP 10 (.pick (oTt 7) (.const (.bool true)) (oTt 9))]
def Q2h:List Oper:=Xhy
def Xoq:Code:=oRg Q2h
theorem Qo6:oRQ Xoq Q2h Xhy:=fun _ _=>rfl
theorem Qmq:nth Q2h 2=some ⟨(some 7),.move (.tmp 6),0,"",#[],none⟩:=rfl
abbrev X44:List Oper:=[oP 2 (.assign (oCi 2))]
abbrev Ygz:Code:=oRg X44
abbrev Yb3:Code:=.seq Ygz .ret
abbrev Ygj:Code:=.cond (.tmp 10) Yb3 .skip
abbrev Yk8:Code:=.seq Xoq Ygj
abbrev X2f:List Oper:=[oP 2 (.assign (oCi 1))]
abbrev Yb4:Code:=oRg X2f
abbrev Ybw:Code:=.seq Yb4 .ret
abbrev Yae:Code:=.seq Yk8 Ybw
abbrev Yig:Code:=.seq Yli Yae
abbrev Yif:Code:=.seq Yiz Yig
def Qkc:Code:=Yif
theorem Yia:Ww (Za 95)=Qkc:=by kernel_rfl
theorem X50:Qvd.body=some (Za 95):=by kernel_rfl
theorem Ysg:Qvd.ntmps=11:=by kernel_rfl
theorem Qs5:Qvd.results.toList=[.tmp 2]:=by kernel_rfl
def Xul:List Oper:=Qb3
def Xwb:Code:=oRg Xul
theorem X9h:oRQ Xwb Xul Qb3:=fun _ _=>rfl
abbrev Ylv:List Oper:=[oP 3 (oMv 0)]
abbrev Ypk:Code:=oRg Ylv
def Xut:List Oper:=Qb3
def Xvd:Code:=oRg Xut
theorem Yft:oRQ Xvd Xut Qb3:=fun _ _=>rfl
abbrev Ypq:Code:=.seq Xvd .ret
abbrev Ytm:Code:=.cond (.tmp 3) Ypq .skip
abbrev Yqq:Code:=.seq Ypk Ytm
abbrev Qnk:List Oper:=[oP 2 (.assign (oCi 16))]
abbrev Ytd:Code:=oRg Qnk
abbrev Yof:Code:=.seq Ytd .ret
abbrev Ypw:Code:=.seq Yqq Yof
abbrev Ys0:Code:=.seq Xwb Ypw
def Xi7:Code:=Ys0
theorem Yol:Ww (Za 60)=Xi7:=by kernel_rfl
theorem X9k:Q14.body=some (Za 60):=by kernel_rfl
theorem Ywm:Q14.ntmps=4:=by kernel_rfl
theorem Yqx:Q14.results.toList=[.tmp 2]:=by kernel_rfl
def Qr7:List Oper:=Qb3
def Qql:Code:=oRg Qr7
theorem Vl:oRQ Qql Qr7 Qb3:=fun _ _=>rfl
abbrev Q8n:List Oper:=[oP 7 (oMv 0),oP 8 (oCa 62 #[(oTt 7),(oCi 0)] #[117,3]),oP 3 (oAs 8)]
abbrev Xe0:Code:=oRg Q8n
abbrev Q68:List Oper:=[oP 9 (oMv 0),oP 10 (oCa 62 #[(oTt 9),(oCi 1)] #[117,3]),oP 4 (oAs 10)]
abbrev Xdv:Code:=oRg Q68
abbrev Qq3:List Oper:=[oP 11 (oMv 3),oP 12 (oBu .len #[(oTt 11)] #[47]),oP 13 (.binOp .neq 3 (oTt 12) (oCi 1) 3),oP 14 (oMv 13),oG 3 false 15 (oMv 4),oG 3 false 16 (oBu .len #[(oTt 15)] #[47]),oG 3 false 17 (.binOp .neq 3 (oTt 16) (oCi 16) 3),oP 18 (.pick (oTt 14) (.const (.bool true)) (oTt 17))]
def Ql2:List Oper:=Qq3
def Qr1:Code:=oRg Ql2
theorem Vm:oRQ Qr1 Ql2 Qq3:=fun _ _=>rfl
theorem Va:nth Ql2 3=some ⟨(some 14),.move (.tmp 13),0,"",#[],none⟩:=rfl
def Qr2:List Oper:=Qnk
def Qqn:Code:=oRg Qr2
theorem Vk:oRQ Qqn Qr2 Qnk:=fun _ _=>rfl
abbrev Xee:Code:=.seq Qqn .ret
abbrev Q7y:Code:=.cond (.tmp 18) Xee .skip
abbrev Xec:Code:=.seq Qr1 Q7y
abbrev Q5k:List Oper:=[oP 5 (.alloc 90)]
abbrev Q7s:Code:=oRg Q5k
abbrev Q35:List Oper:=[oP 6 (.assign (oCi 0))]
abbrev Q8a:Code:=oRg Q35
abbrev Q52:List Oper:=[oP 19 (oMv 6),oP 20 (.binOp .lss 3 (oTt 19) (oCi 16) 3)]
abbrev Xa9:Code:=oRg Q52
abbrev Q8i:Code:=.cond (.tmp 20) .skip (.exit 0)
abbrev Q5y:Code:=.seq Xa9 Q8i
abbrev Q46:List Oper:=[oP 23 (oMv 6),oP 24 (oMv 4),oP 25 (oMv 6),oP 26 (oIx 47 24 25),oP 27 (oLd 5 26),oP 28 (oIx 90 5 23),oN (.store 5 (oTt 28) (oTt 27))]
abbrev Q9a:Code:=oRg Q46
abbrev Q8v:Code:=.block 1 Q9a
abbrev Q5q:List Oper:=[oP 21 (oMv 6),oP 22 (.binOp .add 3 (oTt 21) (oCi 1) 3),oP 6 (oAs 22)]
abbrev Q8d:Code:=oRg Q5q
abbrev Q8b:Code:=.seq Q8v Q8d
abbrev Q9o:Code:=.seq Q5y Q8b
def Q61:Code:=.loop Q9o
abbrev Q97:Code:=.block 0 Q61
abbrev Q5z:Code:=.seq Q8a Q97
abbrev Q4o:List Oper:=[oP 29 (oMv 0),oP 30 (oCa 94 #[(oTt 29),(oCi 2)] #[117,3])]
abbrev Q79:Code:=oRg Q4o
noncomputable def Qcx:Array Oper:=Qmw (Qms 11 (Za 99))
def Q7b:Code:=.region 11 Qcx true
abbrev Qij:List Oper:=[oP 31 (oMv 0),oP 32 (oMv 0),oP 33 (.nilCheck (oTt 32)),oP 34 (oFa 119 33 0),oP 35 (oFa 64 34 0),oP 36 (oLd 61 35),oP 37 (oMv 3),oP 38 (.indexAddr 47 (oTt 37) (oCi 0)),oP 39 (oLd 5 38),oP 40 (.convert 5 3 (oTt 39)),oP 41 (oMv 0),oP 42 (.nilCheck (oTt 41)),oP 43 (oFa 119 42 0),oP 44 (oFa 64 43 1),oP 45 (oLd 23 44),oP 46 (oLd 90 5),oP 47 (oCa 133 #[(oTt 36),(oTt 40),(oTt 45),(oTt 46)] #[61,3,23,90]),oP 48 (oCa 98 #[(oTt 31),(oTt 47)] #[117,4]),oP 49 (oCa 60 #[(oTt 48)] #[4]),oP 2 (oAs 49)]
def Qb8:List Oper:=Qij
theorem Qvi:Qcx.toList.map bare=Qij:=by kernel_rfl
theorem Qtn:Qcx.toList.map bare=Qb8:=Qvi
def U5:List Nat:=[0,0,2,6,14,30,0,64,192,448,0,1024,3072,7168,15360,0,65534,131071,262143,524287]
theorem Qw3:Qpo Qcx.toList []=some U5:=by kernel_rfl
theorem Qtk:Wm Qcx.toList Qcx.toList U5 []=true:=by kernel_rfl
theorem Qym(b:Nat)(L:List KE)(s:St):Ab.runT (E b) L Qb8 U5 Qb8 0 s=Ab.runT (E b) L Qb8 U5 Qij 0 s:=rfl
theorem Qxm(b:Nat):Ws (E b) 16 ((nth U5 16).getD 0) Qb8 U5 0=true:=by kernel_rfl
theorem Qyk(b:Nat):Ws (E b) 17 ((nth U5 17).getD 0) Qb8 U5 0=true:=by kernel_rfl
theorem Qz5(b:Nat):Ws (E b) 18 ((nth U5 18).getD 0) Qb8 U5 0=true:=by kernel_rfl
abbrev Q7n:Code:=.seq Q7b .ret
abbrev Xa2:Code:=.seq Q79 Q7n
abbrev Q9v:Code:=.seq Q5z Xa2
abbrev Q7k:Code:=.seq Q7s Q9v
abbrev Q5x:Code:=.seq Xec Q7k
abbrev Xes:Code:=.seq Xdv Q5x
abbrev Xcd:Code:=.seq Xe0 Xes
abbrev Xcu:Code:=.seq Qql Xcd
def V5:Code:=Xcu
theorem Qqx:Ww (Za 99)=V5:=by kernel_rfl
theorem Qox:Qi3.body=some (Za 99):=by kernel_rfl
theorem Qsh:Qi3.ntmps=50:=by kernel_rfl
theorem U1:Qi3.results.toList=[.tmp 2]:=by kernel_rfl
def Qr8:List Oper:=Qb3
def Qqz:Code:=oRg Qr8
theorem Uc:oRQ Qqz Qr8 Qb3:=fun _ _=>rfl
abbrev Xa3:List Oper:=[oP 4 (oMv 0),oP 5 (oCa 62 #[(oTt 4),(oCi 0)] #[117,3]),oP 3 (oAs 5)]
abbrev Xfa:Code:=oRg Xa3
abbrev Q80:List Oper:=[oP 6 (oMv 3),oP 7 (oBu .len #[(oTt 6)] #[47]),oP 8 (.binOp .neq 3 (oTt 7) (oCi 4) 3)]
abbrev Xc6:Code:=oRg Q80
def Qqy:List Oper:=Qnk
def Qqt:Code:=oRg Qqy
theorem Ud:oRQ Qqt Qqy Qnk:=fun _ _=>rfl
abbrev Xc1:Code:=.seq Qqt .ret
abbrev Xfb:Code:=.cond (.tmp 8) Xc1 .skip
abbrev Xfn:Code:=.seq Xc6 Xfb
abbrev Q41:List Oper:=[oP 9 (oMv 0),oP 10 (oCa 94 #[(oTt 9),(oCi 1)] #[117,3])]
abbrev Q7z:Code:=oRg Q41
noncomputable def Qdc:Array Oper:=Qmw (Qms 5 (Za 100))
def Xdu:Code:=.region 5 Qdc true
abbrev Qje:List Oper:=[oP 11 (oMv 0),oP 12 (.nilCheck (oTt 11)),oP 13 (oFa 119 12 0),oP 14 (oFa 64 13 2),oP 15 (oLd 3 14),oP 16 (oMv 3),oP 17 (.indexAddr 47 (oTt 16) (oCi 0)),oP 18 (oLd 5 17),oP 19 (.convert 5 3 (oTt 18)),oP 20 (oMv 3),oP 21 (.indexAddr 47 (oTt 20) (oCi 1)),oP 22 (oLd 5 21),oP 23 (.convert 5 3 (oTt 22)),oP 24 (.binOp .mul 3 (oCi 256) (oTt 23) 3),oP 25 (.binOp .add 3 (oTt 19) (oTt 24) 3),oP 26 (oMv 3),oP 27 (.indexAddr 47 (oTt 26) (oCi 2)),oP 28 (oLd 5 27),oP 29 (.convert 5 3 (oTt 28)),oP 30 (.binOp .mul 3 (oCi 65536) (oTt 29) 3),oP 31 (.binOp .add 3 (oTt 25) (oTt 30) 3),oP 32 (oMv 3),oP 33 (.indexAddr 47 (oTt 32) (oCi 3)),oP 34 (oLd 5 33),oP 35 (.convert 5 3 (oTt 34)),oP 36 (.binOp .mul 3 (oCi 16777216) (oTt 35) 3),oP 37 (.binOp .add 3 (oTt 31) (oTt 36) 3),oP 38 (.binOp .lss 3 (oTt 15) (oTt 37) 3)]
def Qgs:List Oper:=Qje
theorem Qxd:Qdc.toList.map bare=Qje:=by kernel_rfl
theorem Qlj:Qdc.toList.map bare=Qgs:=Qxd
def Qce:List Nat:=[0,1,3,7,15,0,32,96,224,0,512,1536,3584,7680,16352,0,32768,98304,229376,491520,1048544,0,2097152,6291456,14680064,31457280,67108832,134217727]
theorem Qlq:Qpo Qdc.toList []=some Qce:=by kernel_rfl
theorem Ql6:Wm Qdc.toList Qdc.toList Qce []=true:=by kernel_rfl
theorem Qn5(b:Nat)(L:List KE)(s:St):Ab.runT (E b) L Qgs Qce Qgs 0 s=Ab.runT (E b) L Qgs Qce Qje 0 s:=rfl
abbrev Q5s:List Oper:=[oP 2 (.assign (oCi 18))]
abbrev Q7f:Code:=oRg Q5s
abbrev Q7x:Code:=.seq Q7f .ret
abbrev Q6y:Code:=.cond (.tmp 38) Q7x .skip
abbrev Q8h:Code:=.seq Xdu Q6y
def Qpe:List Oper:=Qb3
def Qpc:Code:=oRg Qpe
theorem U2:oRQ Qpc Qpe Qb3:=fun _ _=>rfl
abbrev Q6k:Code:=.seq Qpc .ret
abbrev Q6w:Code:=.seq Q8h Q6k
abbrev Q8f:Code:=.seq Q7z Q6w
abbrev Xfr:Code:=.seq Xfn Q8f
abbrev Xdy:Code:=.seq Xfa Xfr
abbrev Xcx:Code:=.seq Qqz Xdy
def Vy:Code:=Xcx
theorem Qqu:Ww (Za 100)=Vy:=by kernel_rfl
theorem Qp3:Qi4.body=some (Za 100):=by kernel_rfl
theorem Qsk:Qi4.ntmps=39:=by kernel_rfl
theorem Uu:Qi4.results.toList=[.tmp 2]:=by kernel_rfl
abbrev Xck:List Oper:=[oP 3 (.box 120 (oTt 1)),oP 4 (.assign (oCi 0))]
abbrev Xjj:Code:=oRg Xck
noncomputable def Qe2:Array Oper:=Qmw (Qms 1 (Za 59))
def Xl9:Code:=.region 1 Qe2 true
abbrev Qjs:List Oper:=[oP 8 (oMv 0),oP 9 (.nilCheck (oTt 8)),oP 10 (oFa 119 9 1),oP 11 (oLd 43 10),oP 12 (oBu .len #[(oTt 11)] #[43]),oP 13 (oFa 120 3 0),oP 14 (oLd 3 13),oP 15 (oCa 95 #[(oTt 14)] #[3]),oP 16 (.binOp .lss 3 (oTt 12) (oTt 15) 3)]
def Qhh:List Oper:=Qjs
theorem Qzf:Qe2.toList.map bare=Qjs:=by kernel_rfl
theorem Qwq:Qe2.toList.map bare=Qhh:=Qzf
def Qeg:List Nat:=[0,1,3,7,15,0,32,96,255]
theorem Qzr:Qpo Qe2.toList []=some Qeg:=by kernel_rfl
theorem Qwo:Wm Qe2.toList Qe2.toList Qeg []=true:=by kernel_rfl
theorem Q2c(b:Nat)(L:List KE)(s:St):Ab.runT (E b) L Qhh Qeg Qhh 0 s=Ab.runT (E b) L Qhh Qeg Qjs 0 s:=rfl
def Qt7:List Oper:=Qey
def Qst:Code:=oRg Qt7
theorem Y5:oRQ Qst Qt7 Qey:=fun _ _=>rfl
abbrev Xhb:Code:=.seq Qst .ret
abbrev Xg8:Code:=.cond (.tmp 16) Xhb .skip
abbrev Xjb:Code:=.seq Xl9 Xg8
abbrev Xbp:List Oper:=[oP 17 (oFa 120 3 0),oP 18 (oLd 3 17)]
abbrev Xha:Code:=oRg Xbp
abbrev Xf7:List Oper:=[oP 20 (.binOp .eql 3 (oTt 18) (oCi 129) 3),oP 19 (oAs 20)]
abbrev Xka:Code:=oRg Xf7
abbrev Q82:List Oper:=[oP 21 (oMv 0),oP 22 (oMv 0),oP 23 (oCa 62 #[(oTt 22),(oCi 0)] #[117,3]),oP 24 (oCa 96 #[(oTt 21),(oTt 23)] #[117,47]),oP 25 (oCa 60 #[(oTt 24)] #[4]),oP 4 (oAs 25)]
abbrev Xct:Code:=oRg Q82
abbrev Xe5:Code:=.seq Xct .ret
abbrev Q91:List Oper:=[oP 27 (.binOp .eql 3 (oTt 18) (oCi 130) 3),oP 26 (oAs 27)]
abbrev Xdb:Code:=oRg Q91
abbrev Q6f:List Oper:=[oP 28 (oMv 0),oP 29 (oCa 94 #[(oTt 28),(oCi 1)] #[117,3])]
abbrev Xdx:Code:=oRg Q6f
def Qrc:List Oper:=Qal
def Qqp:Code:=oRg Qrc
theorem Xz:oRQ Qqp Qrc Qal:=fun _ _=>rfl
abbrev Xd1:Code:=.seq Qqp .ret
abbrev Xde:Code:=.seq Xdx Xd1
abbrev Q62:List Oper:=[oP 31 (.binOp .eql 3 (oTt 18) (oCi 131) 3),oP 30 (oAs 31)]
abbrev Xbw:Code:=oRg Q62
abbrev Xae:List Oper:=[oP 32 (oMv 0),oP 33 (oCa 62 #[(oTt 32),(oCi 0)] #[117,3]),oP 34 (oCa 97 #[(oTt 33)] #[47]),oP 5 (.alloc 23),oN (.store 23 (oTt 5) (oTt 34))]
abbrev Xed:Code:=oRg Xae
abbrev Xa5:List Oper:=[oP 35 (oMv 0),oP 36 (oCa 94 #[(oTt 35),(oCi 1)] #[117,3])]
abbrev Xfq:Code:=oRg Xa5
abbrev Q7h:List Oper:=[oP 37 (oMv 0),oP 38 (.slice 23 (oTt 5) none none none),oP 39 (oCa 96 #[(oTt 37),(oTt 38)] #[117,47]),oP 40 (oCa 60 #[(oTt 39)] #[4]),oP 4 (oAs 40)]
abbrev Xd8:Code:=oRg Q7h
abbrev Xdj:Code:=.seq Xd8 .ret
abbrev Xd2:Code:=.seq Xfq Xdj
abbrev Xbs:Code:=.seq Xed Xd2
abbrev Q92:List Oper:=[oP 42 (.binOp .eql 3 (oTt 18) (oCi 132) 3),oP 41 (oAs 42)]
abbrev Xex:Code:=oRg Q92
abbrev Q5w:List Oper:=[oP 43 (oMv 0),oP 44 (oCa 62 #[(oTt 43),(oCi 0)] #[117,3]),oP 45 (oMv 0),oP 46 (oCa 62 #[(oTt 45),(oCi 1)] #[117,3]),oP 47 (oCa 12 #[(oTt 44),(oTt 46)] #[47,47]),oP 6 (oAs 47)]
abbrev Xf4:Code:=oRg Q5w
abbrev Q7l:List Oper:=[oP 48 (oMv 0),oP 49 (oCa 94 #[(oTt 48),(oCi 2)] #[117,3])]
abbrev Xdo:Code:=oRg Q7l
abbrev Q75:List Oper:=[oP 50 (oMv 0),oP 51 (oMv 6),oP 52 (oCa 98 #[(oTt 50),(oTt 51)] #[117,4]),oP 53 (oCa 60 #[(oTt 52)] #[4]),oP 4 (oAs 53)]
abbrev Xf1:Code:=oRg Q75
abbrev Xcw:Code:=.seq Xf1 .ret
abbrev Xdr:Code:=.seq Xdo Xcw
abbrev Xcb:Code:=.seq Xf4 Xdr
abbrev Q7t:List Oper:=[oP 55 (.binOp .eql 3 (oTt 18) (oCi 133) 3),oP 54 (oAs 55)]
abbrev Xbv:Code:=oRg Q7t
abbrev Q9n:List Oper:=[oP 56 (oMv 0),oP 57 (oCa 62 #[(oTt 56),(oCi 0)] #[117,3]),oP 58 (oCa 61 #[(oTt 57)] #[47]),oP 7 (oAs 58)]
abbrev Xfi:Code:=oRg Q9n
abbrev Q8u:List Oper:=[oP 59 (oMv 0),oP 60 (oCa 94 #[(oTt 59),(oCi 1)] #[117,3])]
abbrev Xe7:Code:=oRg Q8u
abbrev Xac:List Oper:=[oP 61 (oMv 7),oP 62 (oCa 60 #[(oTt 61)] #[4]),oP 4 (oAs 62)]
abbrev Xdm:Code:=oRg Xac
abbrev Xf8:Code:=.seq Xdm .ret
abbrev Xc0:Code:=.seq Xe7 Xf8
abbrev Xdk:Code:=.seq Xfi Xc0
abbrev Q65:List Oper:=[oP 64 (.binOp .eql 3 (oTt 18) (oCi 134) 3),oP 63 (oAs 64)]
abbrev Xdg:Code:=oRg Q65
abbrev Q8c:List Oper:=[oP 65 (oMv 0),oP 66 (oCa 99 #[(oTt 65)] #[117]),oP 4 (oAs 66)]
abbrev Xbn:Code:=oRg Q8c
abbrev Xce:Code:=.seq Xbn .ret
abbrev Xa7:List Oper:=[oP 68 (.binOp .eql 3 (oTt 18) (oCi 135) 3),oP 67 (oAs 68)]
abbrev Xbz:Code:=oRg Xa7
abbrev Q84:List Oper:=[oP 69 (oMv 0),oP 70 (oCa 100 #[(oTt 69)] #[117]),oP 4 (oAs 70)]
abbrev Xbk:Code:=oRg Q84
abbrev Xfk:Code:=.seq Xbk .ret
abbrev Xaa:List Oper:=[oP 72 (.binOp .eql 3 (oTt 18) (oCi 139) 3),oP 71 (oAs 72)]
abbrev Xby:Code:=oRg Xaa
abbrev Q9y:List Oper:=[oP 73 (oMv 0),oP 74 (oMv 0),oP 75 (oCa 62 #[(oTt 74),(oCi 0)] #[117,3]),oP 76 (oBu .len #[(oTt 75)] #[47]),oP 77 (.convert 3 5 (oTt 76)),oP 78 (.buildSlice 47 1 #[(0,(oTt 77))]),oP 79 (oCa 96 #[(oTt 73),(oTt 78)] #[117,47]),oP 80 (oCa 60 #[(oTt 79)] #[4]),oP 4 (oAs 80)]
abbrev Xef:Code:=oRg Q9y
abbrev Xc5:Code:=.seq Xef .ret
abbrev Xfw:Code:=.cond (.tmp 71) Xc5 .skip
abbrev Xdi:Code:=.seq Xby Xfw
abbrev Xfh:Code:=.cond (.tmp 67) Xfk Xdi
abbrev Xfm:Code:=.seq Xbz Xfh
abbrev Xdf:Code:=.cond (.tmp 63) Xce Xfm
abbrev Xfs:Code:=.seq Xdg Xdf
abbrev Xcz:Code:=.cond (.tmp 54) Xdk Xfs
abbrev Xc7:Code:=.seq Xbv Xcz
abbrev Xf2:Code:=.cond (.tmp 41) Xcb Xc7
abbrev Xdl:Code:=.seq Xex Xf2
abbrev Xft:Code:=.cond (.tmp 30) Xbs Xdl
abbrev Xev:Code:=.seq Xbw Xft
abbrev Xf3:Code:=.cond (.tmp 26) Xde Xev
abbrev Xd0:Code:=.seq Xdb Xf3
abbrev Xcy:Code:=.cond (.tmp 19) Xe5 Xd0
abbrev Xdp:Code:=.seq Xka Xcy
abbrev Xch:Code:=.block 0 Xdp
abbrev Qt5:Code:=.seq Xha Xch
abbrev Q8o:List Oper:=[oP 81 (oMv 0),oP 82 (oFa 120 3 1),oP 83 (oLd 47 82),oP 84 (oCa 96 #[(oTt 81),(oTt 83)] #[117,47]),oP 85 (oCa 60 #[(oTt 84)] #[4]),oP 4 (oAs 85)]
abbrev Xfo:Code:=oRg Q8o
abbrev Qr6:Code:=.seq Xfo .ret
def Ql4:Code:=.seq Qt5 Qr6
theorem Xx:oSQ Ql4 Qt5 Qr6:=fun _ _=>rfl
abbrev Xl1:Code:=.seq Xjb Ql4
abbrev Xhg:Code:=.seq Xjj Xl1
def Y3:Code:=Xhg
theorem Xic:Ww (Za 59)=Y3:=by kernel_rfl
theorem Q73:Qgh.body=some (Za 59):=by kernel_rfl
theorem Xmw:Qgh.ntmps=86:=by kernel_rfl
theorem Yb:Qgh.results.toList=[.tmp 4]:=by kernel_rfl
abbrev Ytf:List Oper:=[oP 5 (.box 64 (oTt 2)),oP 6 (.assign (oCi 0))]
abbrev Yyb:Code:=oRg Ytf
abbrev Ypp:List Oper:=[oP 13 (oMv 0),oP 14 (oCa 56 #[(oTt 13)] #[47]),oP 12 (oMv 14),oP 15 (.extract (oTt 12) 0),oP 16 (.extract (oTt 12) 1),oP 7 (oAs 15),oP 8 (oAs 16)]
abbrev Yu5:Code:=oRg Ypp
abbrev Xto:List Oper:=[oP 17 (oMv 8),oP 18 (.binOp .neq 35 (oTt 17) (oCi 0) 35),oP 19 (oMv 18),oG 2 false 20 (oMv 1),oG 2 false 21 (oBu .len #[(oTt 20)] #[43]),oG 2 false 22 (.binOp .gtr 3 (oTt 21) (oCi 16) 3),oP 23 (.pick (oTt 19) (.const (.bool true)) (oTt 22))]
def Xkm:List Oper:=Xto
def X0n:Code:=oRg Xkm
theorem Js:oRQ X0n Xkm Xto:=fun _ _=>rfl
theorem Jd:nth Xkm 2=some ⟨(some 19),.move (.tmp 18),0,"",#[],none⟩:=rfl
abbrev Xag:List Oper:=[oP 6 (.assign (oCi 16))]
abbrev Ywb:Code:=oRg Xag
abbrev Yyo:Code:=.seq Ywb .ret
abbrev Yup:Code:=.cond (.tmp 23) Yyo .skip
abbrev Yu4:Code:=.seq X0n Yup
abbrev Yls:List Oper:=[oP 9 (.assign (oCi 0))]
abbrev Yqr:Code:=oRg Yls
abbrev Yjv:List Oper:=[oP 24 (oMv 9),oP 25 (oMv 1),oP 26 (oBu .len #[(oTt 25)] #[43]),oP 27 (.binOp .lss 3 (oTt 24) (oTt 26) 3)]
abbrev Yp5:Code:=oRg Yjv
abbrev Yot:Code:=.cond (.tmp 27) .skip (.exit 0)
abbrev Ys4:Code:=.seq Yp5 Yot
abbrev Yja:List Oper:=[oP 30 (oMv 1),oP 31 (oMv 9),oP 32 (oIx 43 30 31),oP 33 (oLd 47 32),oP 34 (oBu .len #[(oTt 33)] #[47]),oP 35 (.binOp .gtr 3 (oTt 34) (oCi 64) 3)]
abbrev Yrj:Code:=oRg Yja
def Xtp:List Oper:=Xag
def Xuo:Code:=oRg Xtp
theorem Ja:oRQ Xuo Xtp Xag:=fun _ _=>rfl
abbrev Yqb:Code:=.seq Xuo .ret
abbrev Yr8:Code:=.cond (.tmp 35) Yqb .skip
abbrev Yse:Code:=.seq Yrj Yr8
abbrev Ysp:Code:=.block 1 Yse
abbrev Yii:List Oper:=[oP 28 (oMv 9),oP 29 (.binOp .add 3 (oTt 28) (oCi 1) 3),oP 9 (oAs 29)]
abbrev Ypd:Code:=oRg Yii
abbrev Yqu:Code:=.seq Ysp Ypd
abbrev Ytt:Code:=.seq Ys4 Yqu
def Ysr:Code:=.loop Ytt
abbrev Ysh:Code:=.block 0 Ysr
abbrev Yq4:Code:=.seq Yqr Ysh
noncomputable def Qp2:Array Oper:=Qmw (Qms 9 (Za 20))
def Yyf:Code:=.region 9 Qp2 true
abbrev Q1z:List Oper:=[oP 36 (oLd 64 5),oP 37 (oMv 1),oP 38 (oCa 28 #[(oTt 37)] #[43]),oP 39 (.build 119 #[(0,(oTt 36)),(1,(oTt 38))]),oP 40 (.box 119 (oTt 39)),oP 10 (oAs 40)]
def Qpp:List Oper:=Q1z
theorem Xxp:Qp2.toList.map bare=Q1z:=by kernel_rfl
theorem Xtw:Qp2.toList.map bare=Qpp:=Xxp
def Qie:List Nat:=[0,0,2,7,15,31]
theorem Xyu:Qpo Qp2.toList []=some Qie:=by kernel_rfl
theorem Xvp:Wm Qp2.toList Qp2.toList Qie []=true:=by kernel_rfl
theorem X1o(b:Nat)(L:List KE)(s:St):Ab.runT (E b) L Qpp Qie Qpp 0 s=Ab.runT (E b) L Qpp Qie Q1z 0 s:=rfl
theorem X7n(b:Nat):Ws (E b) 2 ((nth Qie 2).getD 0) Qpp Qie 0=true:=by kernel_rfl
abbrev Yix:List Oper:=[oP 11 (.assign (oCi 0))]
abbrev Yqt:Code:=oRg Yix
abbrev Yjb:List Oper:=[oP 41 (oMv 11),oP 42 (oMv 7),oP 43 (oBu .len #[(oTt 42)] #[114]),oP 44 (.binOp .lss 3 (oTt 41) (oTt 43) 3)]
abbrev Ypv:Code:=oRg Yjb
abbrev Yr4:Code:=.cond (.tmp 44) .skip (.exit 2)
abbrev Yqz:Code:=.seq Ypv Yr4
abbrev Yjs:List Oper:=[oP 8 (.assign (oCi 0))]
abbrev Yrr:Code:=oRg Yjs
abbrev Xoz:List Oper:=[oP 47 (oMv 7),oP 48 (oMv 11),oP 49 (oIx 114 47 48),oP 50 (oFa 120 49 0),oP 51 (oLd 3 50),oP 52 (.binOp .geq 3 (oTt 51) (oCi 136) 3),oP 53 (oMv 52),oG 6 true 54 (oMv 7),oG 6 true 55 (oMv 11),oG 6 true 56 (oIx 114 54 55),oG 6 true 57 (oFa 120 56 0),oG 6 true 58 (oLd 3 57),oG 6 true 59 (.binOp .leq 3 (oTt 58) (oCi 138) 3),oP 60 (.pick (oTt 53) (oTt 59) (.const (.bool false)))]
def Q9w:List Oper:=Xoz
def Xt5:Code:=oRg Q9w
theorem Jc:oRQ Xt5 Q9w Xoz:=fun _ _=>rfl
theorem Zy:nth Q9w 6=some ⟨(some 53),.move (.tmp 52),0,"",#[],none⟩:=rfl
abbrev Yk5:List Oper:=[oP 61 (oMv 10),oP 62 (oMv 7),oP 63 (oMv 11),oP 64 (oIx 114 62 63),oP 65 (oFa 120 64 0),oP 66 (oLd 3 65),oP 67 (oCa 57 #[(oTt 61),(oTt 66)] #[117,3]),oP 8 (oAs 67)]
abbrev Ysq:Code:=oRg Yk5
abbrev Yi3:List Oper:=[oP 68 (oMv 10),oP 69 (oMv 10),oP 70 (.nilCheck (oTt 69)),oP 71 (oFa 119 70 2),oP 72 (oLd 86 71),oP 73 (oBu .len #[(oTt 72)] #[86]),oP 74 (oCa 58 #[(oTt 68),(oTt 73)] #[117,3])]
abbrev Yt3:Code:=oRg Yi3
abbrev Yld:List Oper:=[oP 75 (oMv 10),oP 76 (oMv 7),oP 77 (oMv 11),oP 78 (oIx 114 76 77),oP 79 (oLd 120 78),oP 80 (oCa 59 #[(oTt 75),(oTt 79)] #[117,120]),oP 8 (oAs 80)]
abbrev Ytu:Code:=oRg Yld
abbrev Yrg:Code:=.cond (.tmp 74) Ytu .skip
abbrev Ytp:Code:=.seq Yt3 Yrg
abbrev Yoi:Code:=.cond (.tmp 60) Ysq Ytp
abbrev Ys3:Code:=.seq Xt5 Yoi
abbrev Yih:List Oper:=[oP 81 (oMv 8),oP 82 (.binOp .neq 35 (oTt 81) (oCi 0) 35)]
abbrev Yr0:Code:=oRg Yih
abbrev Ylx:List Oper:=[oP 83 (oMv 8),oP 6 (oAs 83)]
abbrev Yog:Code:=oRg Ylx
abbrev Ys5:Code:=.seq Yog .ret
abbrev Yon:Code:=.cond (.tmp 82) Ys5 .skip
abbrev Ysl:Code:=.seq Yr0 Yon
abbrev Ytl:Code:=.seq Ys3 Ysl
abbrev Yq1:Code:=.seq Yrr Ytl
abbrev Yor:Code:=.block 3 Yq1
abbrev Ykt:List Oper:=[oP 45 (oMv 11),oP 46 (.binOp .add 3 (oTt 45) (oCi 1) 3),oP 11 (oAs 46)]
abbrev Ypa:Code:=oRg Ykt
abbrev Yrw:Code:=.seq Yor Ypa
abbrev Ypr:Code:=.seq Yqz Yrw
def Yq8:Code:=.loop Ypr
abbrev Ysy:Code:=.block 2 Yq8
abbrev Ysx:Code:=.seq Yqt Ysy
abbrev Xpi:List Oper:=[oP 84 (oMv 10),oP 85 (.nilCheck (oTt 84)),oP 86 (oFa 119 85 2),oP 87 (oLd 86 86),oP 88 (oBu .len #[(oTt 87)] #[86]),oP 89 (.binOp .eql 3 (oTt 88) (oCi 0) 3),oP 90 (oMv 89),oG 6 true 91 (oMv 10),oG 6 true 92 (.nilCheck (oTt 91)),oG 6 true 93 (oFa 119 92 1),oG 6 true 94 (oLd 43 93),oG 6 true 95 (oBu .len #[(oTt 94)] #[43]),oG 6 true 96 (.binOp .eql 3 (oTt 95) (oCi 1) 3),oP 97 (.pick (oTt 90) (oTt 96) (.const (.bool false))),oP 98 (oMv 97),oG 14 true 99 (oMv 10),oG 14 true 100 (oCa 62 #[(oTt 99),(oCi 0)] #[117,3]),oG 14 true 101 (oCa 61 #[(oTt 100)] #[47]),oP 102 (.pick (oTt 98) (oTt 101) (.const (.bool false))),oP 103 (oCa 60 #[(oTt 102)] #[4]),oP 6 (oAs 103)]
def Qve:List Oper:=Xpi
def Xth:Code:=oRg Qve
theorem Jb:oRQ Xth Qve Xpi:=fun _ _=>rfl
theorem Zz:nth Qve 6=some ⟨(some 90),.move (.tmp 89),0,"",#[],none⟩:=rfl
theorem Zo:nth Qve 14=some ⟨(some 98),.move (.tmp 97),0,"",#[],none⟩:=rfl
abbrev Yoh:Code:=.seq Xth .ret
abbrev Yoy:Code:=.seq Ysx Yoh
abbrev Yr2:Code:=.seq Yyf Yoy
abbrev Ys1:Code:=.seq Yq4 Yr2
abbrev Yw6:Code:=.seq Yu4 Ys1
abbrev Yz8:Code:=.seq Yu5 Yw6
abbrev Yz7:Code:=.seq Yyb Yz8
def Jn:Code:=Yz7
theorem Yvd:Ww (Za 20)=Jn:=by kernel_rfl
theorem Ylj:Q6o.body=some (Za 20):=by kernel_rfl
theorem Yzr:Q6o.ntmps=104:=by kernel_rfl
theorem Vp:Q6o.results.toList=[.tmp 6]:=by kernel_rfl
abbrev Yqo:List Oper:=[oP 2 (.assign (.const (.pointer none)))]
abbrev Yvj:Code:=oRg Yqo
abbrev Ysc:List Oper:=[oP 3 (oMv 0),oP 4 (oCa 46 #[(oTt 3)] #[47]),oP 5 (.build 126 #[(0,(oTt 4))]),oP 6 (.box 126 (oTt 5)),oP 2 (oAs 6)]
abbrev Yw0:Code:=oRg Ysc
abbrev Yzc:Code:=.seq Yw0 .ret
abbrev Yvp:Code:=.seq Yvj Yzc
def Q1e:Code:=Yvp
theorem Yvb:Ww (Za 21)=Q1e:=by kernel_rfl
theorem Yjz:Q7j.body=some (Za 21):=by kernel_rfl
theorem Y0n:Q7j.ntmps=7:=by kernel_rfl
theorem X0r:Q7j.results.toList=[.tmp 2]:=by kernel_rfl
def Xop:List Oper:=Qnm
def Xpl:Code:=oRg Xop
theorem Qtj:oRQ Xpl Xop Qnm:=fun _ _=>rfl
abbrev Xjg:List Oper:=[oP 3 (oMv 0),oP 4 (.binOp .geq 3 (oTt 3) (oCi 1) 3),oP 5 (oMv 4),oG 2 true 6 (oMv 0),oG 2 true 7 (.binOp .leq 3 (oTt 6) (oCi 32) 3),oP 8 (.pick (oTt 5) (oTt 7) (.const (.bool false))),oP 2 (oAs 8)]
def Q1v:List Oper:=Xjg
def Xp7:Code:=oRg Q1v
theorem Qtp:oRQ Xp7 Q1v Xjg:=fun _ _=>rfl
theorem Qs0:nth Q1v 2=some ⟨(some 5),.move (.tmp 4),0,"",#[],none⟩:=rfl
abbrev Yhr:Code:=.seq Xp7 .ret
abbrev Ykv:Code:=.seq Xpl Yhr
def Qo8:Code:=Ykv
theorem Yib:Ww (Za 80)=Qo8:=by kernel_rfl
theorem X1l:Qw5.body=some (Za 80):=by kernel_rfl
theorem Yow:Qw5.ntmps=9:=by kernel_rfl
theorem Q1o:Qw5.results.toList=[.tmp 2]:=by kernel_rfl
abbrev Xni:List Oper:=[oP 4 (.alloc 23)]
abbrev Xqe:Code:=oRg Xni
abbrev Xms:List Oper:=[oP 5 (oMv 1),oP 6 (oCa 80 #[(oTt 5)] #[3]),oP 7 (.unOp .not 4 (oTt 6))]
abbrev Xqu:Code:=oRg Xms
abbrev Xmf:List Oper:=[oP 8 (.build 23 #[]),oN (.store 23 (oTt 4) (oTt 8))]
abbrev Xro:Code:=oRg Xmf
abbrev Xsc:Code:=.seq Xro .ret
abbrev Xpy:Code:=.cond (.tmp 7) Xsc .skip
abbrev Xqq:Code:=.seq Xqu Xpy
noncomputable def Qff:Array Oper:=Qmw (Qms 3 (Za 81))
def Xqt:Code:=.region 3 Qff true
abbrev Qlx:List Oper:=[oP 9 (oMv 0),oP 10 (.nilCheck (oTt 9)),oP 11 (oFa 126 10 0),oP 12 (oLd 47 11),oP 13 (oMv 1),oP 14 (oCa 120 #[(.const (.slice none 0 0)),(oTt 13)] #[47,3]),oP 15 (oCa 82 #[(oTt 12),(oTt 14)] #[47,47]),oN (.store 23 (oTt 4) (oTt 15))]
def Qd5:List Oper:=Qlx
theorem Q4d:Qff.toList.map bare=Qlx:=by kernel_rfl
theorem Q2s:Qff.toList.map bare=Qd5:=Q4d
def W8:List Nat:=[0,1,3,7,0,16,63,127]
theorem Q4a:Qpo Qff.toList []=some W8:=by kernel_rfl
theorem Q1w:Wm Qff.toList Qff.toList W8 []=true:=by kernel_rfl
theorem Q78(b:Nat)(L:List KE)(s:St):Ab.runT (E b) L Qd5 W8 Qd5 0 s=Ab.runT (E b) L Qd5 W8 Qlx 0 s:=rfl
theorem Xd4(b:Nat):Ws (E b) 5 ((nth W8 5).getD 0) Qd5 W8 0=true:=by kernel_rfl
theorem Xf5(b:Nat):Ws (E b) 6 ((nth W8 6).getD 0) Qd5 W8 0=true:=by kernel_rfl
theorem Xca(b:Nat):Ws (E b) 7 ((nth W8 7).getD 0) Qd5 W8 0=true:=by kernel_rfl
abbrev Xsi:Code:=.seq Xqt .ret
abbrev Xrd:Code:=.seq Xqq Xsi
abbrev Xpv:Code:=.seq Xqe Xrd
def Qe1:Code:=Xpv
theorem Xr7:Ww (Za 81)=Qe1:=by kernel_rfl
theorem Xhh:Qlf.body=some (Za 81):=by kernel_rfl
theorem Xsz:Qlf.ntmps=16:=by kernel_rfl
theorem Qh9:Qlf.results.toList=[.cell 4 23]:=by kernel_rfl
abbrev Xj7:List Oper:=[oP 5 (.box 23 (oTt 2)),oP 6 (.alloc 90)]
abbrev Xmj:Code:=oRg Xj7
abbrev Xhp:List Oper:=[oP 7 (.alloc 90)]
abbrev Xme:Code:=oRg Xhp
abbrev Xkh:List Oper:=[oP 11 (oMv 1),oP 12 (oCa 80 #[(oTt 11)] #[3]),oP 13 (.unOp .not 4 (oTt 12))]
abbrev Xmi:Code:=oRg Xkh
abbrev Xhm:List Oper:=[oP 14 (oLd 90 7),oN (.store 90 (oTt 6) (oTt 14))]
abbrev Xmh:Code:=oRg Xhm
abbrev Xn5:Code:=.seq Xmh .ret
abbrev Xnd:Code:=.cond (.tmp 13) Xn5 .skip
abbrev Xmu:Code:=.seq Xmi Xnd
abbrev Xbg:List Oper:=[oP 15 (oMv 0),oP 16 (oMv 1),oP 17 (oCa 81 #[(oTt 15),(oTt 16)] #[61,3]),oP 8 (.alloc 23),oN (.store 23 (oTt 8) (oTt 17))]
abbrev Xi5:Code:=oRg Xbg
noncomputable def Qem:Array Oper:=Qmw (Qms 5 (Za 48))
def Xml:Code:=.region 5 Qem true
abbrev Qkz:List Oper:=[oP 18 (.slice 23 (oTt 8) none none none),oP 19 (.slice 23 (oTt 5) none none none),oP 20 (oCa 82 #[(oTt 18),(oTt 19)] #[47,47]),oP 9 (.alloc 23),oN (.store 23 (oTt 9) (oTt 20))]
def Qfs:List Oper:=Qkz
theorem Q1h:Qem.toList.map bare=Qkz:=by kernel_rfl
theorem Q09:Qem.toList.map bare=Qfs:=Q1h
def Qc4:List Nat:=[0,0,3,0,15]
theorem Q1l:Qpo Qem.toList []=some Qc4:=by kernel_rfl
theorem Qzy:Wm Qem.toList Qem.toList Qc4 []=true:=by kernel_rfl
theorem Q42(b:Nat)(L:List KE)(s:St):Ab.runT (E b) L Qfs Qc4 Qfs 0 s=Ab.runT (E b) L Qfs Qc4 Qkz 0 s:=rfl
theorem Q8y(b:Nat):Ws (E b) 4 ((nth Qc4 4).getD 0) Qfs Qc4 0=true:=by kernel_rfl
abbrev Xd7:List Oper:=[oP 10 (.assign (oCi 0))]
abbrev Xh7:Code:=oRg Xd7
abbrev Xcm:List Oper:=[oP 21 (oMv 10),oP 22 (.binOp .lss 3 (oTt 21) (oCi 16) 3)]
abbrev Xhn:Code:=oRg Xcm
abbrev Xh3:Code:=.cond (.tmp 22) .skip (.exit 0)
abbrev Xho:Code:=.seq Xhn Xh3
abbrev Xcn:List Oper:=[oP 25 (oMv 10),oP 26 (oMv 10),oP 27 (oIx 23 9 26),oP 28 (oLd 5 27),oP 29 (oIx 90 7 25),oN (.store 5 (oTt 29) (oTt 28))]
abbrev Xhw:Code:=oRg Xcn
abbrev Xgb:Code:=.block 1 Xhw
abbrev Xcr:List Oper:=[oP 23 (oMv 10),oP 24 (.binOp .add 3 (oTt 23) (oCi 1) 3),oP 10 (oAs 24)]
abbrev Xix:Code:=oRg Xcr
abbrev Xip:Code:=.seq Xgb Xix
abbrev Xil:Code:=.seq Xho Xip
def Xgm:Code:=.loop Xil
abbrev Xj2:Code:=.block 0 Xgm
abbrev Xkb:Code:=.seq Xh7 Xj2
abbrev Xbo:List Oper:=[oP 30 (oLd 90 7),oN (.store 90 (oTt 6) (oTt 30))]
abbrev Xl0:Code:=oRg Xbo
abbrev Xhv:Code:=.seq Xl0 .ret
abbrev Xjq:Code:=.seq Xkb Xhv
abbrev Xid:Code:=.seq Xml Xjq
abbrev Xg6:Code:=.seq Xi5 Xid
abbrev Xne:Code:=.seq Xmu Xg6
abbrev Xnb:Code:=.seq Xme Xne
abbrev Xo3:Code:=.seq Xmj Xnb
def Qa8:Code:=Xo3
theorem Xo9:Ww (Za 48)=Qa8:=by kernel_rfl
theorem Xc3:Qk8.body=some (Za 48):=by kernel_rfl
theorem Xrp:Qk8.ntmps=31:=by kernel_rfl
theorem Qc3:Qk8.results.toList=[.cell 6 90]:=by kernel_rfl
abbrev Q9h:List Oper:=[oP 6 (.box 23 (oTt 2)),oP 7 (.box 90 (oTt 3)),oP 8 (.assign (.const (.bool false)))]
abbrev Xfe:Code:=oRg Q9h
noncomputable def Qdb:Array Oper:=Qmw (Qms 1 (Za 133))
def Xdw:Code:=.region 1 Qdb true
abbrev Qja:List Oper:=[oP 9 (oMv 1),oP 10 (oCa 80 #[(oTt 9)] #[3]),oP 11 (oMv 10),oG 2 true 12 (oLd 90 7),oG 2 true 13 (oMv 0),oG 2 true 14 (oMv 1),oG 2 true 15 (oLd 23 6),oG 2 true 16 (oCa 48 #[(oTt 13),(oTt 14),(oTt 15)] #[61,3,23]),oG 2 true 17 (.binOp .eql 90 (oTt 12) (oTt 16) 90),oP 18 (.pick (oTt 11) (oTt 17) (.const (.bool false))),oP 8 (oAs 18)]
def Qbm:List Oper:=Qja
theorem Qx8:Qdb.toList.map bare=Qja:=by kernel_rfl
theorem Qll:Qdb.toList.map bare=Qbm:=Qx8
def Ut:List Nat:=[0,1,3,7,7,7,7,119,255,511,1023]
theorem Qmg:Qpo Qdb.toList []=some Ut:=by kernel_rfl
theorem Qlg:Wm Qdb.toList Qdb.toList Ut []=true:=by kernel_rfl
theorem Qn9(b:Nat)(L:List KE)(s:St):Ab.runT (E b) L Qbm Ut Qbm 0 s=Ab.runT (E b) L Qbm Ut Qja 0 s:=rfl
theorem Qn6:nth Qbm 2=some ⟨(some 11),.move (.tmp 10),0,"",#[],none⟩:=rfl
theorem Qo3(b:Nat):Ws (E b) 1 ((nth Ut 1).getD 0) Qbm Ut 0=true:=by kernel_rfl
theorem Qnw(b:Nat):Ws (E b) 7 ((nth Ut 7).getD 0) Qbm Ut 0=true:=by kernel_rfl
abbrev Xc9:Code:=.seq Xdw .ret
abbrev Xcq:Code:=.seq Xfe Xc9
def Qa9:Code:=Xcq
theorem Xbj:Ww (Za 133)=Qa9:=by kernel_rfl
theorem Q4w:Qi0.body=some (Za 133):=by kernel_rfl
theorem Xhr:Qi0.ntmps=19:=by kernel_rfl
theorem Qc7:Qi0.results.toList=[.tmp 8]:=by kernel_rfl
def X0q:List Oper:=Qm7
def X14:Code:=oRg X0q
theorem Xoy:oRQ X14 X0q Qm7:=fun _ _=>rfl
abbrev Yss:List Oper:=[oP 6 (oMv 0),oP 7 (oCa 46 #[(oTt 6)] #[47]),oP 5 (oAs 7)]
abbrev Yy6:Code:=oRg Yss
abbrev Xw3:List Oper:=[oP 8 (oMv 1),oP 9 (.binOp .geq 3 (oTt 8) (oCi 0) 3),oP 10 (oMv 9),oG 2 true 11 (oMv 1),oG 2 true 12 (.binOp .lss 3 (oTt 11) (oCi 253) 3),oP 13 (.pick (oTt 10) (oTt 12) (.const (.bool false)))]
def Xj1:List Oper:=Xw3
def X0s:Code:=oRg Xj1
theorem Xpk:oRQ X0s Xj1 Xw3:=fun _ _=>rfl
theorem Xit:nth Xj1 2=some ⟨(some 10),.move (.tmp 9),0,"",#[],none⟩:=rfl
abbrev Yqh:List Oper:=[oP 14 (oMv 5),oP 15 (oMv 1),oP 16 (.convert 3 5 (oTt 15)),oP 17 (.buildSlice 47 1 #[(0,(oTt 16))]),oP 18 (oBu .append #[(oTt 14),(oTt 17)] #[47,47]),oP 4 (oAs 18)]
abbrev Ywk:Code:=oRg Yqh
abbrev Yxt:Code:=.seq Ywk .ret
abbrev Yuj:Code:=.cond (.tmp 13) Yxt .skip
abbrev Yv9:Code:=.seq X0s Yuj
abbrev Xow:List Oper:=[oP 19 (oMv 1),oP 20 (.binOp .geq 3 (oTt 19) (oCi 0) 3),oP 21 (oMv 20),oG 2 true 22 (oMv 1),oG 2 true 23 (.binOp .lss 3 (oTt 22) (oCi 65536) 3),oP 24 (.pick (oTt 21) (oTt 23) (.const (.bool false)))]
def Xa6:List Oper:=Xow
def Xvy:Code:=oRg Xa6
theorem Xgn:oRQ Xvy Xa6 Xow:=fun _ _=>rfl
theorem Xaj:nth Xa6 2=some ⟨(some 21),.move (.tmp 20),0,"",#[],none⟩:=rfl
abbrev Ylt:List Oper:=[oP 25 (oMv 5),oP 26 (.buildSlice 47 1 #[(0,(.const (.int .u8 253)))]),oP 27 (oBu .append #[(oTt 25),(oTt 26)] #[47,47]),oP 28 (oMv 1),oP 29 (oCa 156 #[(oTt 28),(oCi 2)] #[3,3]),oP 30 (oBu .append #[(oTt 27),(oTt 29)] #[47,47]),oP 4 (oAs 30)]
abbrev Yt4:Code:=oRg Ylt
abbrev Yqa:Code:=.seq Yt4 .ret
abbrev Yr5:Code:=.cond (.tmp 24) Yqa .skip
abbrev Yte:Code:=.seq Xvy Yr5
abbrev Xpd:List Oper:=[oP 31 (oMv 1),oP 32 (.binOp .geq 3 (oTt 31) (oCi 0) 3),oP 33 (oMv 32),oG 2 true 34 (oMv 1),oG 2 true 35 (.binOp .lss 3 (oTt 34) (oCi 4294967296) 3),oP 36 (.pick (oTt 33) (oTt 35) (.const (.bool false)))]
def Q7e:List Oper:=Xpd
def Xte:Code:=oRg Q7e
theorem Xli:oRQ Xte Q7e Xpd:=fun _ _=>rfl
theorem Xba:nth Q7e 2=some ⟨(some 33),.move (.tmp 32),0,"",#[],none⟩:=rfl
abbrev Yim:List Oper:=[oP 37 (oMv 5),oP 38 (.buildSlice 47 1 #[(0,(.const (.int .u8 254)))]),oP 39 (oBu .append #[(oTt 37),(oTt 38)] #[47,47]),oP 40 (oMv 1),oP 41 (oCa 156 #[(oTt 40),(oCi 4)] #[3,3]),oP 42 (oBu .append #[(oTt 39),(oTt 41)] #[47,47]),oP 4 (oAs 42)]
abbrev Yr7:Code:=oRg Yim
abbrev Yrt:Code:=.seq Yr7 .ret
abbrev Yt8:Code:=.cond (.tmp 36) Yrt .skip
abbrev Ytg:Code:=.seq Xte Yt8
abbrev Yjt:List Oper:=[oP 43 (oMv 5),oP 44 (.buildSlice 47 1 #[(0,(.const (.int .u8 255)))]),oP 45 (oBu .append #[(oTt 43),(oTt 44)] #[47,47]),oP 46 (oMv 1),oP 47 (oCa 156 #[(oTt 46),(oCi 8)] #[3,3]),oP 48 (oBu .append #[(oTt 45),(oTt 47)] #[47,47]),oP 4 (oAs 48)]
abbrev Ype:Code:=oRg Yjt
abbrev Ys7:Code:=.seq Ype .ret
abbrev Yq5:Code:=.seq Ytg Ys7
abbrev Ypm:Code:=.seq Yte Yq5
abbrev Yty:Code:=.seq Yv9 Ypm
abbrev Yw2:Code:=.seq Yy6 Yty
abbrev Yuf:Code:=.seq X14 Yw2
def Q1k:Code:=Yuf
theorem Yxf:Ww (Za 120)=Q1k:=by kernel_rfl
theorem Yk6:Q99.body=some (Za 120):=by kernel_rfl
theorem Y1l:Q99.ntmps=49:=by kernel_rfl
theorem X0p:Q99.results.toList=[.tmp 4]:=by kernel_rfl
end Go.Proofs.YtgeeklmjfbiieaaDoor
end
noncomputable section
namespace Go.Proofs.YtgeeklmjfbiieaaDoor
open Go Go.Ab
set_option maxRecDepth 100000
noncomputable def Ql7:Func:=(Tryd.prog.funcs[4]?).getD default
theorem Z1(b:Nat):(mkE Tryd.prog nv b).fn.get 4=some Ql7:=by kernel_rfl
noncomputable def R53:TyRec:=((mkE Tryd.prog nv 0).ty.get 53).getD ⟨.invalid,0,0,.bool false,[]⟩
theorem Zpi(b:Nat):(E b).toEnv.ty.get 53=some R53:=by kernel_rfl
theorem Zk1:Qep R53.desc=true:=by kernel_rfl
theorem Zek:R53.size=37:=by kernel_rfl
theorem Qni(b:Nat)(h:Heap)(bk o:Nat):Qih (E b).toEnv 53 (.pointer (some ⟨bk,o,none⟩)) h=Qgi h bk o 37:=Xuv (Zpi b) Zk1 Zek
noncomputable def Qo4:Func:=(Tryd.prog.funcs[14]?).getD default
theorem Z0(b:Nat):(mkE Tryd.prog nv b).fn.get 14=some Qo4:=by kernel_rfl
theorem Qc5(b bk o:Nat):Ua (E b).toEnv 53 (.pointer (some ⟨bk,o,none⟩)) 0=some (.pointer (some ⟨bk,o+0,none⟩)):=by kernel_rfl
noncomputable def Qla:Func:=(Tryd.prog.funcs[17]?).getD default
theorem Yq(b:Nat):(mkE Tryd.prog nv b).fn.get 17=some Qla:=by kernel_rfl
theorem Qat(b bk o:Nat):Ua (E b).toEnv 53 (.pointer (some ⟨bk,o,none⟩)) 2=some (.pointer (some ⟨bk,o+2,none⟩)):=by kernel_rfl
theorem Qbq(b bk o:Nat):Ua (E b).toEnv 53 (.pointer (some ⟨bk,o,none⟩)) 3=some (.pointer (some ⟨bk,o+3,none⟩)):=by kernel_rfl
theorem Qdh(b bk o:Nat):Ua (E b).toEnv 53 (.pointer (some ⟨bk,o,none⟩)) 4=some (.pointer (some ⟨bk,o+35,none⟩)):=by kernel_rfl
noncomputable def Qo5:Func:=(Tryd.prog.funcs[23]?).getD default
theorem Yz(b:Nat):(mkE Tryd.prog nv b).fn.get 23=some Qo5:=by kernel_rfl
theorem Qyi(b bk o:Nat):Ua (E b).toEnv 53 (.pointer (some ⟨bk,o,none⟩)) 1=some (.pointer (some ⟨bk,o+1,none⟩)):=by kernel_rfl
theorem Xwl(b bk o:Nat):Ua (E b).toEnv 53 (.pointer (some ⟨bk,o,none⟩)) 5=some (.pointer (some ⟨bk,o+36,none⟩)):=by kernel_rfl
abbrev Qnd:List Oper:=[oP 1 (.box 53 (oTt 0)),oP 2 (.assign (.const (.bool false)))]
abbrev Xqw:Code:=oRg Qnd
abbrev Xn0:List Oper:=[oP 7 (oLd 53 1),oP 8 (oCa 14 #[(oTt 7)] #[53])]
abbrev Xsb:Code:=oRg Xn0
abbrev Xmo:List Oper:=[oP 9 (oCa 15 #[] #[]),oP 2 (oAs 9)]
abbrev Xr1:Code:=oRg Xmo
abbrev Xqc:Code:=.seq Xr1 .ret
abbrev Xs9:Code:=.cond (.tmp 8) Xqc .skip
abbrev Xqp:Code:=.seq Xsb Xs9
abbrev Xmv:List Oper:=[oP 10 (oFa 53 1 0),oP 11 (oLd 47 10),oP 12 (oCa 16 #[(oTt 11)] #[47]),oP 3 (oAs 12)]
abbrev Xqf:Code:=oRg Xmv
abbrev Xle:List Oper:=[oP 13 (oLd 53 1),oP 14 (oCa 17 #[(oTt 13)] #[53]),oP 4 (oAs 14)]
abbrev Xnp:Code:=oRg Xle
noncomputable def Qdo:Array Oper:=Qmw (Qms 5 (Za 4))
def Xrq:Code:=.region 5 Qdo true
abbrev Qta:List Oper:=[oP 15 (oMv 3),oP 16 (oFa 53 1 0),oP 17 (oLd 47 16),oP 18 (oBu .len #[(oTt 17)] #[47]),oP 19 (.slice 47 (oTt 15) none (some (oTt 18)) none),oP 20 (oMv 4),oP 21 (oFa 53 1 2),oP 22 (oLd 47 21),oP 23 (oCa 19 #[(oTt 22)] #[47]),oP 24 (oFa 53 1 3),oP 25 (oLd 23 24),oP 26 (oFa 53 1 4),oP 27 (oLd 3 26),oP 28 (.build 59 #[(0,(oTt 23)),(1,(oTt 25)),(2,(oTt 27))]),oP 29 (oCa 18 #[(oTt 19),(oTt 20),(oTt 28)] #[47,43,59]),oP 5 (oAs 29)]
def J0:List Oper:=Qta
theorem Q4b:Qdo.toList.map bare=Qta:=by kernel_rfl
theorem Q2j:Qdo.toList.map bare=J0:=Q4b
noncomputable def Qfe:Array Oper:=Qmw (Qms 6 (Za 4))
def Xsj:Code:=.region 6 Qfe true
abbrev Qlr:List Oper:=[oP 30 (oFa 53 1 0),oP 31 (oLd 47 30),oP 32 (oLd 53 1),oP 33 (oCa 17 #[(oTt 32)] #[53]),oP 34 (oFa 53 1 2),oP 35 (oLd 47 34),oP 36 (oCa 21 #[(oTt 35)] #[47]),oP 37 (oFa 53 1 3),oP 38 (oLd 23 37),oP 39 (oFa 53 1 4),oP 40 (oLd 3 39),oP 41 (.build 64 #[(0,(oTt 36)),(1,(oTt 38)),(2,(oTt 40))]),oP 42 (oCa 20 #[(oTt 31),(oTt 33),(oTt 41)] #[47,43,64]),oP 6 (oAs 42)]
def Qd4:List Oper:=Qlr
theorem Q2v:Qfe.toList.map bare=Qlr:=by kernel_rfl
theorem Q1t:Qfe.toList.map bare=Qd4:=Q2v
def Wa:List Nat:=[0,1,0,4,0,16,60,0,128,0,512,2044,4095,8191]
theorem Q3r:Qpo Qfe.toList []=some Wa:=by kernel_rfl
theorem Q22:Wm Qfe.toList Qfe.toList Wa []=true:=by kernel_rfl
theorem Q6v(b:Nat)(L:List KE)(s:St):Ab.runT (E b) L Qd4 Wa Qd4 0 s=Ab.runT (E b) L Qd4 Wa Qlr 0 s:=rfl
theorem Xea(b:Nat):Ws (E b) 3 ((nth Wa 3).getD 0) Qd4 Wa 0=true:=by kernel_rfl
theorem Xer(b:Nat):Ws (E b) 6 ((nth Wa 6).getD 0) Qd4 Wa 0=true:=by kernel_rfl
theorem Q6x(b:Nat):Ws (E b) 12 ((nth Wa 12).getD 0) Qd4 Wa 0=true:=by kernel_rfl
abbrev Qt3:List Oper:=[oP 43 (oMv 5),oP 44 (oMv 6),oP 45 (.binOp .eql 35 (oTt 43) (oTt 44) 35),oP 46 (oMv 45),oG 3 true 47 (oMv 3),oG 3 true 48 (oFa 53 1 0),oG 3 true 49 (oLd 47 48),oG 3 true 50 (oCa 22 #[(oTt 47),(oTt 49)] #[47,47]),oP 51 (.pick (oTt 46) (oTt 50) (.const (.bool false))),oP 52 (oMv 51),oG 9 true 53 (oMv 4),oG 9 true 54 (oLd 53 1),oG 9 true 55 (oCa 17 #[(oTt 54)] #[53]),oG 9 true 56 (oCa 23 #[(oTt 53),(oTt 55)] #[43,43]),oP 57 (.pick (oTt 52) (oTt 56) (.const (.bool false))),oP 58 (oMv 57),oG 15 true 59 (oCa 15 #[] #[]),oP 60 (.pick (oTt 58) (oTt 59) (.const (.bool false))),oP 2 (oAs 60)]
def Qgn:List Oper:=Qt3
def Quc:Code:=oRg Qgn
theorem Ys:oRQ Quc Qgn Qt3:=fun _ _=>rfl
theorem Ym:nth Qgn 3=some ⟨(some 46),.move (.tmp 45),0,"",#[],none⟩:=rfl
theorem Yn:nth Qgn 9=some ⟨(some 52),.move (.tmp 51),0,"",#[],none⟩:=rfl
theorem Yk:nth Qgn 15=some ⟨(some 58),.move (.tmp 57),0,"",#[],none⟩:=rfl
abbrev Xnt:Code:=.seq Quc .ret
abbrev Xmz:Code:=.seq Xsj Xnt
abbrev Xm8:Code:=.seq Xrq Xmz
abbrev Xnn:Code:=.seq Xnp Xm8
abbrev Xq3:Code:=.seq Xqf Xnn
abbrev Xqk:Code:=.seq Xqp Xq3
abbrev Xqm:Code:=.seq Xqw Xqk
def Yv:Code:=Xqm
theorem Xs4:Ww (Za 4)=Yv:=by kernel_rfl
theorem Xjd:Ql7.body=some (Za 4):=by kernel_rfl
theorem Xwh:Ql7.ntmps=61:=by kernel_rfl
theorem Z7:Ql7.results.toList=[.tmp 2]:=by kernel_rfl
def Q4h:List Oper:=Qnd
def Q47:Code:=oRg Q4h
theorem Qh8:oRQ Q47 Q4h Qnd:=fun _ _=>rfl
abbrev Q0w:List Oper:=[oP 3 (oFa 53 1 0),oP 4 (oLd 47 3),oP 5 (oBu .len #[(oTt 4)] #[47]),oP 6 (.binOp .gtr 3 (oTt 5) (oCi 1024) 3),oP 7 (oMv 6),oG 4 false 8 (oFa 53 1 1),oG 4 false 9 (oLd 43 8),oG 4 false 10 (oCa 25 #[(oTt 9)] #[43]),oG 4 false 11 (.binOp .gtr 3 (oTt 10) (oCi 4096) 3),oP 12 (.pick (oTt 7) (.const (.bool true)) (oTt 11)),oP 13 (oMv 12),oG 10 false 14 (oFa 53 1 2),oG 10 false 15 (oLd 47 14),oG 10 false 16 (oBu .len #[(oTt 15)] #[47]),oG 10 false 17 (.binOp .gtr 3 (oTt 16) (oCi 1024) 3),oP 18 (.pick (oTt 13) (.const (.bool true)) (oTt 17)),oP 2 (oAs 18)]
def Qn0:List Oper:=Q0w
def Q3q:Code:=oRg Qn0
theorem Qhc:oRQ Q3q Qn0 Q0w:=fun _ _=>rfl
theorem Qgl:nth Qn0 4=some ⟨(some 7),.move (.tmp 6),0,"",#[],none⟩:=rfl
theorem Qfu:nth Qn0 10=some ⟨(some 13),.move (.tmp 12),0,"",#[],none⟩:=rfl
abbrev Xww:Code:=.seq Q3q .ret
abbrev Xy9:Code:=.seq Q47 Xww
def Qf8:Code:=Xy9
theorem Xwx:Ww (Za 14)=Qf8:=by kernel_rfl
theorem Xqd:Qo4.body=some (Za 14):=by kernel_rfl
theorem X21:Qo4.ntmps=19:=by kernel_rfl
theorem Qj5:Qo4.results.toList=[.tmp 2]:=by kernel_rfl
abbrev Xna:List Oper:=[oP 1 (.box 53 (oTt 0)),oP 2 (.assign (.const (.slice none 0 0)))]
abbrev Xsl:Code:=oRg Xna
abbrev Xnc:List Oper:=[oP 5 (oFa 53 1 1),oP 6 (oLd 43 5),oP 7 (oCa 28 #[(oTt 6)] #[43]),oP 3 (oAs 7)]
abbrev Xr6:Code:=oRg Xnc
abbrev Xnw:List Oper:=[oP 8 (oFa 53 1 5),oP 9 (oLd 3 8),oP 10 (.binOp .lss 3 (oTt 9) (oCi 1) 3)]
abbrev Xqj:Code:=oRg Xnw
abbrev Xoa:List Oper:=[oP 11 (oMv 3),oP 2 (oAs 11)]
abbrev Xrl:Code:=oRg Xoa
abbrev Xq7:Code:=.seq Xrl .ret
abbrev Xrx:Code:=.cond (.tmp 10) Xq7 .skip
abbrev Xsm:Code:=.seq Xqj Xrx
noncomputable def Qf7:Array Oper:=Qmw (Qms 4 (Za 17))
def Xry:Code:=.region 4 Qf7 true
abbrev Qmj:List Oper:=[oP 12 (oFa 53 1 2),oP 13 (oLd 47 12),oP 14 (oCa 21 #[(oTt 13)] #[47]),oP 15 (oFa 53 1 5),oP 16 (oLd 3 15),oP 17 (.binOp .sub 3 (oTt 16) (oCi 1) 3),oP 18 (oCa 7 #[(oTt 17),(oCi 32)] #[3,3]),oP 19 (.binOp .add 3 (oCi 1) (oTt 18) 3),oP 20 (oFa 53 1 3),oP 21 (oLd 23 20),oP 22 (oCa 48 #[(oTt 14),(oTt 19),(oTt 21)] #[61,3,23]),oP 4 (.alloc 90),oN (.store 90 (oTt 4) (oTt 22))]
def Qgg:List Oper:=Qmj
theorem Q39:Qf7.toList.map bare=Qmj:=by kernel_rfl
theorem Q2p:Qf7.toList.map bare=Qgg:=Q39
def Qcn:List Nat:=[0,1,3,0,8,24,63,127,0,256,1023,0,4095]
theorem Q3i:Qpo Qf7.toList []=some Qcn:=by kernel_rfl
theorem Q2t:Wm Qf7.toList Qf7.toList Qcn []=true:=by kernel_rfl
theorem Q7v(b:Nat)(L:List KE)(s:St):Ab.runT (E b) L Qgg Qcn Qgg 0 s=Ab.runT (E b) L Qgg Qcn Qmj 0 s:=rfl
theorem Q6n(b:Nat):Ws (E b) 12 ((nth Qcn 12).getD 0) Qgg Qcn 0=true:=by kernel_rfl
abbrev Xih:List Oper:=[oP 23 (.slice 90 (oTt 4) none none none),oP 24 (.buildSlice 43 1 #[(0,(oTt 23))]),oP 25 (oMv 3),oP 26 (oBu .append #[(oTt 24),(oTt 25)] #[43,43]),oP 2 (oAs 26)]
abbrev Xmb:Code:=oRg Xih
abbrev Xo2:Code:=.seq Xmb .ret
abbrev Xnr:Code:=.seq Xry Xo2
abbrev Xpu:Code:=.seq Xsm Xnr
abbrev Xqi:Code:=.seq Xr6 Xpu
abbrev Xs1:Code:=.seq Xsl Xqi
def Qco:Code:=Xs1
theorem Xq2:Ww (Za 17)=Qco:=by kernel_rfl
theorem Xgv:Qla.body=some (Za 17):=by kernel_rfl
theorem Xtt:Qla.ntmps=27:=by kernel_rfl
theorem Qf5:Qla.results.toList=[.tmp 2]:=by kernel_rfl
abbrev Qhx:List Oper:=[oP 4 (.assign (.const (.bool false)))]
abbrev Xzb:Code:=oRg Qhx
abbrev Xvj:List Oper:=[oP 6 (oMv 0),oP 7 (oBu .len #[(oTt 6)] #[43]),oP 8 (oMv 1),oP 9 (oBu .len #[(oTt 8)] #[43]),oP 10 (.binOp .neq 3 (oTt 7) (oTt 9) 3)]
abbrev X0l:Code:=oRg Xvj
def Q4p:List Oper:=Qhx
def Q5m:Code:=oRg Q4p
theorem Qf4:oRQ Q5m Q4p Qhx:=fun _ _=>rfl
abbrev Xzv:Code:=.seq Q5m .ret
abbrev Xyk:Code:=.cond (.tmp 10) Xzv .skip
abbrev Xws:Code:=.seq X0l Xyk
abbrev Xvm:List Oper:=[oP 5 (.assign (oCi 0))]
abbrev Xzx:Code:=oRg Xvm
abbrev Xqx:List Oper:=[oP 11 (oMv 5),oP 12 (oMv 0),oP 13 (oBu .len #[(oTt 12)] #[43]),oP 14 (.binOp .lss 3 (oTt 11) (oTt 13) 3)]
abbrev Xvq:Code:=oRg Xqx
abbrev Xvi:Code:=.cond (.tmp 14) .skip (.exit 0)
abbrev Xuj:Code:=.seq Xvq Xvi
noncomputable def Qgz:Array Oper:=Qmw (Qms 6 (Za 23))
def X0g:Code:=.region 6 Qgz true
abbrev Qog:List Oper:=[oP 17 (oMv 0),oP 18 (oMv 5),oP 19 (oIx 43 17 18),oP 20 (oLd 47 19),oP 21 (oMv 1),oP 22 (oMv 5),oP 23 (oIx 43 21 22),oP 24 (oLd 47 23),oP 25 (oCa 12 #[(oTt 20),(oTt 24)] #[47,47]),oP 26 (.unOp .not 4 (oTt 25))]
def Qia:List Oper:=Qog
theorem Xd6:Qgz.toList.map bare=Qog:=by kernel_rfl
theorem Q8p:Qgz.toList.map bare=Qia:=Xd6
def Qdm:List Nat:=[0,0,3,7,0,0,48,112,255,511]
theorem Xd5:Qpo Qgz.toList []=some Qdm:=by kernel_rfl
theorem Q6q:Wm Qgz.toList Qgz.toList Qdm []=true:=by kernel_rfl
theorem Xld(b:Nat)(L:List KE)(s:St):Ab.runT (E b) L Qia Qdm Qia 0 s=Ab.runT (E b) L Qia Qdm Qog 0 s:=rfl
theorem Xno(b:Nat):Ws (E b) 8 ((nth Qdm 8).getD 0) Qia Qdm 0=true:=by kernel_rfl
def Q0o:List Oper:=Qhx
def Q17:Code:=oRg Q0o
theorem Qel:oRQ Q17 Q0o Qhx:=fun _ _=>rfl
abbrev Xu6:Code:=.seq Q17 .ret
abbrev Xw8:Code:=.cond (.tmp 26) Xu6 .skip
abbrev Xtn:Code:=.seq X0g Xw8
abbrev Xv4:Code:=.block 1 Xtn
abbrev Xrm:List Oper:=[oP 15 (oMv 5),oP 16 (.binOp .add 3 (oTt 15) (oCi 1) 3),oP 5 (oAs 16)]
abbrev Xvo:Code:=oRg Xrm
abbrev Xup:Code:=.seq Xv4 Xvo
abbrev Xvw:Code:=.seq Xuj Xup
def Xsr:Code:=.loop Xvw
abbrev Xsq:Code:=.block 0 Xsr
abbrev Xyr:Code:=.seq Xzx Xsq
abbrev Xr3:List Oper:=[oP 4 (.assign (.const (.bool true)))]
abbrev Xvs:Code:=oRg Xr3
abbrev Xw0:Code:=.seq Xvs .ret
abbrev Xvu:Code:=.seq Xyr Xw0
abbrev Xyl:Code:=.seq Xws Xvu
abbrev Xwt:Code:=.seq Xzb Xyl
def Qdn:Code:=Xwt
theorem Xz6:Ww (Za 23)=Qdn:=by kernel_rfl
theorem Xrn:Qo5.body=some (Za 23):=by kernel_rfl
theorem X6s:Qo5.ntmps=27:=by kernel_rfl
theorem Qh0:Qo5.results.toList=[.tmp 4]:=by kernel_rfl
end Go.Proofs.YtgeeklmjfbiieaaDoor
end
