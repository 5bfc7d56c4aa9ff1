/-
  Facts of the functions' code and of the types, printed by a program (ShD).
-/
import Derived.Test.YtcokebbiblnonaaDoorFactsR
import Derived.Test.YtcokebbiblnonaaDoorFactsL
set_option linter.all false
noncomputable section
namespace Go.Proofs.YtcokebbiblnonaaDoor
open Go Go.Ab
set_option maxRecDepth 100000
noncomputable def Qtn:Func:=(Tryd.prog.funcs[29]?).getD default
theorem Qd9(b:Nat):(mkE Tryd.prog nv b).fn.get 29=some Qtn:=by kernel_rfl
noncomputable def Xdh:Func:=(Tryd.prog.funcs[14]?).getD default
theorem Qab(b:Nat):(mkE Tryd.prog nv b).fn.get 14=some Xdh:=by kernel_rfl
noncomputable def Qm9:Func:=(Tryd.prog.funcs[47]?).getD default
theorem Yk(b:Nat):(mkE Tryd.prog nv b).fn.get 47=some Qm9:=by kernel_rfl
theorem Vr(b bk o:Nat):Wm (E b).toEnv 72 (.pointer (some ⟨bk,o,none⟩)) 1=some (.pointer (some ⟨bk,o+3,none⟩)):=by kernel_rfl
noncomputable def R70:TyRec:=((mkE Tryd.prog nv 0).ty.get 70).getD ⟨.invalid,0,0,.bool false,[]⟩
theorem Y2c(b:Nat):(E b).toEnv.ty.get 70=some R70:=by kernel_rfl
theorem Y6o:Qio R70.desc=false:=by kernel_rfl
theorem Yss:R70.size=1:=by kernel_rfl
noncomputable def R89:TyRec:=((mkE Tryd.prog nv 0).ty.get 89).getD ⟨.invalid,0,0,.bool false,[]⟩
theorem Y4a(b:Nat):(E b).toEnv.ty.get 89=some R89:=by kernel_rfl
theorem Y5t:Qio R89.desc=true:=by kernel_rfl
theorem Xco:R89.size=69:=by kernel_rfl
theorem T70(b:Nat):SlTy (E b).toEnv 89 70 R89 R70:=⟨Y4a b,Y2c b,by kernel_rfl⟩
theorem Qbd(b:Nat)(h:Heap)(bk o:Nat):Qnh (E b).toEnv 70 (.pointer (some ⟨bk,o,none⟩)) h=Vs h bk o:=Yad (Y2c b) Y6o
theorem Qfz(b:Nat)(a:Option Addr)(n c:Nat)(h:Heap):Q2a (E b).toEnv 70 (.slice a n c) h=some (.int .i64 n):=by kernel_rfl
theorem Qbg(b:Nat){bk o n c:Nat}{k:IntKind}{i:Int}(h:0≤i∧i < n):J2 (E b).toEnv 70 (.slice (some ⟨bk,o,none⟩) n c) (.int k i)=some (.pointer (some ⟨bk,o+i.toNat*69,none⟩)):=Qgs (T70 b) Xco h
theorem Uk(b bk o:Nat):Wm (E b).toEnv 89 (.pointer (some ⟨bk,o,none⟩)) 0=some (.pointer (some ⟨bk,o+0,none⟩)):=by kernel_rfl
theorem Qba(b bk o:Nat):Wm (E b).toEnv 74 (.pointer (some ⟨bk,o,none⟩)) 1=some (.pointer (some ⟨bk,o+1,none⟩)):=by kernel_rfl
noncomputable def Qgr:Func:=(Tryd.prog.funcs[36]?).getD default
theorem Xy(b:Nat):(mkE Tryd.prog nv b).fn.get 36=some Qgr:=by kernel_rfl
theorem Xkc(b bk o:Nat):Wm (E b).toEnv 72 (.pointer (some ⟨bk,o,none⟩)) 0=some (.pointer (some ⟨bk,o+0,none⟩)):=by kernel_rfl
theorem Qk3(b:Nat)(h:Heap)(bk o:Nat):Qnh (E b).toEnv 89 (.pointer (some ⟨bk,o,none⟩)) h=Qcd h bk o 69:=Ygu (Y4a b) Y5t Xco
theorem Xus(b:Nat)(h:Heap):Qfm (E b).toEnv 89 h=some (.pointer (some ⟨h.next,0,none⟩),h.push (.cells true 1 [(.int .i64 0),(.int .i64 0),(.int .i64 0),(.int .i64 0),(.int .u8 0),(.int .u8 0),(.int .u8 0),(.int .u8 0),(.int .u8 0),(.int .u8 0),(.int .u8 0),(.int .u8 0),(.int .u8 0),(.int .u8 0),(.int .u8 0),(.int .u8 0),(.int .u8 0),(.int .u8 0),(.int .u8 0),(.int .u8 0),(.int .u8 0),(.int .u8 0),(.int .u8 0),(.int .u8 0),(.int .u8 0),(.int .u8 0),(.int .u8 0),(.int .u8 0),(.int .u8 0),(.int .u8 0),(.int .u8 0),(.int .u8 0),(.int .u8 0),(.int .u8 0),(.int .u8 0),(.int .u8 0),(.int .i64 0),(.int .u8 0),(.int .u8 0),(.int .u8 0),(.int .u8 0),(.int .u8 0),(.int .u8 0),(.int .u8 0),(.int .u8 0),(.int .u8 0),(.int .u8 0),(.int .u8 0),(.int .u8 0),(.int .u8 0),(.int .u8 0),(.int .u8 0),(.int .u8 0),(.int .u8 0),(.int .u8 0),(.int .u8 0),(.int .u8 0),(.int .u8 0),(.int .u8 0),(.int .u8 0),(.int .u8 0),(.int .u8 0),(.int .u8 0),(.int .u8 0),(.int .u8 0),(.int .u8 0),(.int .u8 0),(.int .u8 0),(.int .u8 0)])):=by kernel_rfl
theorem Yn9(b:Nat)(h:Heap)(bk o:Nat)(l:List Value)(hl:l.length=69):Qjf (E b).toEnv 89 (.pointer (some ⟨bk,o,none⟩)) (.agg ⟨l⟩) h=Qdq h bk o l:=Yg6 (Y4a b) (by rw[Xco];exact hl)
theorem Qbf(b bk o:Nat):Wm (E b).toEnv 74 (.pointer (some ⟨bk,o,none⟩)) 0=some (.pointer (some ⟨bk,o+0,none⟩)):=by kernel_rfl
theorem Qao(b bk o:Nat):Wm (E b).toEnv 89 (.pointer (some ⟨bk,o,none⟩)) 1=some (.pointer (some ⟨bk,o+36,none⟩)):=by kernel_rfl
theorem Qar(b bk o:Nat):Wm (E b).toEnv 74 (.pointer (some ⟨bk,o,none⟩)) 2=some (.pointer (some ⟨bk,o+2,none⟩)):=by kernel_rfl
noncomputable def Qh4:Func:=(Tryd.prog.funcs[37]?).getD default
theorem Xz(b:Nat):(mkE Tryd.prog nv b).fn.get 37=some Qh4:=by kernel_rfl
noncomputable def R74:TyRec:=((mkE Tryd.prog nv 0).ty.get 74).getD ⟨.invalid,0,0,.bool false,[]⟩
theorem Y3j(b:Nat):(E b).toEnv.ty.get 74=some R74:=by kernel_rfl
theorem Y67:Qio R74.desc=true:=by kernel_rfl
theorem Xpw:R74.size=36:=by kernel_rfl
theorem Qcz(b:Nat)(h:Heap)(bk o:Nat):Qnh (E b).toEnv 74 (.pointer (some ⟨bk,o,none⟩)) h=Qcd h bk o 36:=Ygu (Y3j b) Y67 Xpw
noncomputable def R77:TyRec:=((mkE Tryd.prog nv 0).ty.get 77).getD ⟨.invalid,0,0,.bool false,[]⟩
theorem Y9c(b:Nat):(E b).toEnv.ty.get 77=some R77:=by kernel_rfl
theorem T77(b:Nat):SlTy (E b).toEnv 74 77 R74 R77:=⟨Y3j b,Y9c b,by kernel_rfl⟩
noncomputable def Qj8:Func:=(Tryd.prog.funcs[38]?).getD default
theorem J8(b:Nat):(mkE Tryd.prog nv b).fn.get 38=some Qj8:=by kernel_rfl
theorem Qet(b:Nat)(a:Option Addr)(n c:Nat)(h:Heap):Q2a (E b).toEnv 77 (.slice a n c) h=some (.int .i64 n):=by kernel_rfl
theorem Quy(b:Nat){bk o n c:Nat}{k:IntKind}{i:Int}(h:0≤i∧i < n):J2 (E b).toEnv 77 (.slice (some ⟨bk,o,none⟩) n c) (.int k i)=some (.pointer (some ⟨bk,o+i.toNat*36,none⟩)):=Qgs (T77 b) Xpw h
noncomputable def Qhb:Func:=(Tryd.prog.funcs[30]?).getD default
theorem Ym(b:Nat):(mkE Tryd.prog nv b).fn.get 30=some Qhb:=by kernel_rfl
theorem Qc2(b bk o:Nat):Wm (E b).toEnv 74 (.pointer (some ⟨bk,o,none⟩)) 3=some (.pointer (some ⟨bk,o+3,none⟩)):=by kernel_rfl
theorem Y9t(b:Nat)(h:Heap)(bk o:Nat)(v:Value)(hv:Ys9 v=true):Qjf (E b).toEnv 70 (.pointer (some ⟨bk,o,none⟩)) v h=Qdq h bk o [v]:=Yfz (Y2c b) Yss hv
theorem Qcq(b:Nat)(h:Heap)(bk o:Nat)(a:Option Addr)(n c:Nat):Qjf (E b).toEnv 70 (.pointer (some ⟨bk,o,none⟩)) (.slice a n c) h=Qdq h bk o [(.slice a n c)]:=Yfz (Y2c b) Yss rfl
noncomputable def Qhu:Func:=(Tryd.prog.funcs[32]?).getD default
theorem Z0(b:Nat):(mkE Tryd.prog nv b).fn.get 32=some Qhu:=by kernel_rfl
theorem Qqx(b bk o:Nat):Wm (E b).toEnv 74 (.pointer (some ⟨bk,o,none⟩)) 4=some (.pointer (some ⟨bk,o+4,none⟩)):=by kernel_rfl
theorem Qm0(b bk o:Nat):Wm (E b).toEnv 89 (.pointer (some ⟨bk,o,none⟩)) 2=some (.pointer (some ⟨bk,o+37,none⟩)):=by kernel_rfl
noncomputable def Qj7:Func:=(Tryd.prog.funcs[33]?).getD default
theorem Jw(b:Nat):(mkE Tryd.prog nv b).fn.get 33=some Qj7:=by kernel_rfl
noncomputable def Qhs:Func:=(Tryd.prog.funcs[34]?).getD default
theorem J9(b:Nat):(mkE Tryd.prog nv b).fn.get 34=some Qhs:=by kernel_rfl
noncomputable def Qkh:Func:=(Tryd.prog.funcs[39]?).getD default
theorem J4(b:Nat):(mkE Tryd.prog nv b).fn.get 39=some Qkh:=by kernel_rfl
theorem Qki(b:Nat)(h:Heap):Qfm (E b).toEnv 74 h=some (.pointer (some ⟨h.next,0,none⟩),h.push (.cells true 1 [(.int .i64 0),(.int .i64 0),(.int .i64 0),(.int .i64 0),(.int .u8 0),(.int .u8 0),(.int .u8 0),(.int .u8 0),(.int .u8 0),(.int .u8 0),(.int .u8 0),(.int .u8 0),(.int .u8 0),(.int .u8 0),(.int .u8 0),(.int .u8 0),(.int .u8 0),(.int .u8 0),(.int .u8 0),(.int .u8 0),(.int .u8 0),(.int .u8 0),(.int .u8 0),(.int .u8 0),(.int .u8 0),(.int .u8 0),(.int .u8 0),(.int .u8 0),(.int .u8 0),(.int .u8 0),(.int .u8 0),(.int .u8 0),(.int .u8 0),(.int .u8 0),(.int .u8 0),(.int .u8 0)])):=by kernel_rfl
theorem Qrw(b:Nat)(h:Heap)(bk o:Nat)(l:List Value)(hl:l.length=36):Qjf (E b).toEnv 74 (.pointer (some ⟨bk,o,none⟩)) (.agg ⟨l⟩) h=Qdq h bk o l:=Yg6 (Y3j b) (by rw[Xpw];exact hl)
noncomputable def Qhx:Func:=(Tryd.prog.funcs[40]?).getD default
theorem Zx(b:Nat):(mkE Tryd.prog nv b).fn.get 40=some Qhx:=by kernel_rfl
abbrev Xzb:List Oper:=[oP 2 (.assign (.const (.bool false)))]
abbrev X2i:Code:=oRg Xzb
abbrev Xef:List Oper:=[oP 3 (oMv 0),oP 4 (.binOp .geq 3 (oTt 3) (oCi 0) 3),oP 5 (oMv 4),oG 2 true 6 (oMv 0),oG 2 true 7 (.binOp .leq 3 (oTt 6) (oCi 1125899906842624) 3),oP 8 (.pick (oTt 5) (oTt 7) (.const (.bool false))),oP 2 (oAs 8)]
def Qy1:List Oper:=Xef
def Xla:Code:=oRg Qy1
theorem Qsr:oRQ Xla Qy1 Xef:=fun _ _=>rfl
theorem Qrq:nth Qy1 2=some ⟨(some 5),.move (.tmp 4),0,"",#[],none⟩:=rfl
abbrev X8a:Code:=.seq Xla .ret
abbrev X4u:Code:=.seq X2i X8a
def Qnb:Code:=X4u
theorem X7h:Qdk (V7 29)=Qnb:=by kernel_rfl
theorem Xwe:Qtn.body=some (V7 29):=by kernel_rfl
theorem Yes:Qtn.ntmps=9:=by kernel_rfl
theorem Qz3:Qtn.results.toList=[.tmp 2]:=by kernel_rfl
abbrev Yil:List Oper:=[oP 4 (.assign (.const (.pointer none))),oP 5 (.assign (oCi 0))]
abbrev Ykw:Code:=oRg Yil
abbrev Xu8:List Oper:=[oP 6 (oMv 0),oP 7 (oCa 29 #[(oTt 6)] #[3]),oP 8 (.unOp .not 4 (oTt 7)),oP 9 (oMv 8),oG 3 false 10 (oMv 1),oG 3 false 11 (oCa 29 #[(oTt 10)] #[3]),oG 3 false 12 (.unOp .not 4 (oTt 11)),oP 13 (.pick (oTt 9) (.const (.bool true)) (oTt 12)),oP 14 (oMv 13),oG 8 false 15 (oMv 0),oG 8 false 16 (oMv 1),oG 8 false 17 (.binOp .add 3 (oTt 15) (oTt 16) 3),oG 8 false 18 (.binOp .gtr 3 (oTt 17) (oCi 1125899906842624) 3),oP 19 (.pick (oTt 14) (.const (.bool true)) (oTt 18))]
def Q27:List Oper:=Xu8
def Xxt:Code:=oRg Q27
theorem Qlg:oRQ Xxt Q27 Xu8:=fun _ _=>rfl
theorem Qjk:nth Q27 3=some ⟨(some 9),.move (.tmp 8),0,"",#[],none⟩:=rfl
theorem Qjg:nth Q27 8=some ⟨(some 14),.move (.tmp 13),0,"",#[],none⟩:=rfl
abbrev Yi1:List Oper:=[oP 4 (.assign (.const (.pointer none))),oP 5 (.assign (oCi 15))]
abbrev Ymk:Code:=oRg Yi1
abbrev Ym5:Code:=.seq Ymk .ret
abbrev Yky:Code:=.cond (.tmp 19) Ym5 .skip
abbrev Yng:Code:=.seq Xxt Yky
abbrev Yio:List Oper:=[oP 20 (oMv 0),oP 21 (oMv 1),oP 22 (.build 54 #[(0,(oCi 0)),(1,(oTt 20)),(2,(oTt 21))]),oP 23 (.build 72 #[(0,(oTt 22))]),oP 24 (.box 72 (oTt 23)),oP 4 (oAs 24),oP 5 (.assign (oCi 0))]
abbrev Ynn:Code:=oRg Yio
abbrev Ynr:Code:=.seq Ynn .ret
abbrev Ynq:Code:=.seq Yng Ynr
abbrev Yn1:Code:=.seq Ykw Ynq
def Qiz:Code:=Yn1
theorem Yny:Qdk (V7 14)=Qiz:=by kernel_rfl
theorem Ydj:Xdh.body=some (V7 14):=by kernel_rfl
theorem Yp5:Xdh.ntmps=25:=by kernel_rfl
theorem Qpl:Xdh.results.toList=[.tmp 4,.tmp 5]:=by kernel_rfl
abbrev W7:List Oper:=[oP 4 (.assign (oCi 0))]
abbrev Xsd:Code:=oRg W7
abbrev Qoe:List Oper:=[oP 5 (.assign (oCi 0))]
abbrev Xtx:Code:=oRg Qoe
abbrev Xql:List Oper:=[oP 6 (oMv 5),oP 7 (oMv 0),oP 8 (.nilCheck (oTt 7)),oP 9 (oFa 72 8 1),oP 10 (oLd 70 9),oP 11 (oBu .len #[(oTt 10)] #[70]),oP 12 (.binOp .lss 3 (oTt 6) (oTt 11) 3)]
abbrev Xti:Code:=oRg Xql
abbrev Xse:Code:=.cond (.tmp 12) .skip (.exit 0)
abbrev Xt1:Code:=.seq Xti Xse
abbrev Xqu:List Oper:=[oP 15 (oMv 0),oP 16 (.nilCheck (oTt 15)),oP 17 (oFa 72 16 1),oP 18 (oLd 70 17),oP 19 (oMv 5),oP 20 (oIx 70 18 19),oP 21 (oFa 89 20 0),oP 22 (oFa 74 21 1),oP 23 (oLd 3 22),oP 24 (oMv 1),oP 25 (.binOp .eql 3 (oTt 23) (oTt 24) 3)]
abbrev Xt6:Code:=oRg Xqu
abbrev Xlf:List Oper:=[oP 26 (oMv 5),oP 4 (oAs 26)]
abbrev Xrz:Code:=oRg Xlf
abbrev Xrv:Code:=.seq Xrz .ret
abbrev Xqb:Code:=.cond (.tmp 25) Xrv .skip
abbrev Xtk:Code:=.seq Xt6 Xqb
abbrev Xs2:Code:=.block 1 Xtk
abbrev Xne:List Oper:=[oP 13 (oMv 5),oP 14 (.binOp .add 3 (oTt 13) (oCi 1) 3),oP 5 (oAs 14)]
abbrev Xqr:Code:=oRg Xne
abbrev Xqv:Code:=.seq Xs2 Xqr
abbrev Xtg:Code:=.seq Xt1 Xqv
def Xqe:Code:=.loop Xtg
abbrev Xq5:Code:=.block 0 Xqe
abbrev Xtb:Code:=.seq Xtx Xq5
abbrev Xpo:List Oper:=[oP 4 (.assign (oCi (-1)))]
abbrev Xr0:Code:=oRg Xpo
abbrev Xqw:Code:=.seq Xr0 .ret
abbrev Xs3:Code:=.seq Xtb Xqw
abbrev Xtn:Code:=.seq Xsd Xs3
def Qfv:Code:=Xtn
theorem Xty:Qdk (V7 47)=Qfv:=by kernel_rfl
theorem Xlv:Qm9.body=some (V7 47):=by kernel_rfl
theorem Xun:Qm9.ntmps=27:=by kernel_rfl
theorem Qkj:Qm9.results.toList=[.tmp 4]:=by kernel_rfl
def Qq6:List Oper:=W7
def Qpq:Code:=oRg Qq6
theorem Qa3:oRQ Qpq Qq6 W7:=fun _ _=>rfl
abbrev Qom:List Oper:=[oP 8 (oMv 1),oP 9 (.binOp .lss 3 (oTt 8) (oCi 1) 3),oP 10 (oMv 9),oG 2 false 11 (oMv 1),oG 2 false 12 (.binOp .gtr 3 (oTt 11) (oCi 2) 3),oP 13 (.pick (oTt 10) (.const (.bool true)) (oTt 12))]
def Qjj:List Oper:=Qom
def Qqe:Code:=oRg Qjj
theorem Qa5:oRQ Qqe Qjj Qom:=fun _ _=>rfl
theorem Wu:nth Qjj 2=some ⟨(some 10),.move (.tmp 9),0,"",#[],none⟩:=rfl
def Qq3:List Oper:=W7
def Qq2:Code:=oRg Qq3
theorem Qa2:oRQ Qq2 Qq3 W7:=fun _ _=>rfl
abbrev Q9k:Code:=.seq Qq2 .ret
abbrev Q6b:Code:=.cond (.tmp 13) Q9k .skip
abbrev Q6k:Code:=.seq Qqe Q6b
abbrev Q2l:List Oper:=[oP 14 (oMv 0),oP 15 (oMv 1),oP 16 (.nilCheck (oTt 14)),oP 17 (oFa 72 16 0),oP 18 (oIx 54 17 15),oP 19 (oLd 3 18),oP 5 (oAs 19)]
abbrev Q8w:Code:=oRg Q2l
abbrev Qcw:List Oper:=[oP 6 (.assign (oCi 0))]
abbrev Q2z:Code:=oRg Qcw
abbrev Q1t:List Oper:=[oP 20 (oMv 6),oP 21 (oMv 0),oP 22 (.nilCheck (oTt 21)),oP 23 (oFa 72 22 1),oP 24 (oLd 70 23),oP 25 (oBu .len #[(oTt 24)] #[70]),oP 26 (.binOp .lss 3 (oTt 20) (oTt 25) 3)]
abbrev Q3u:Code:=oRg Q1t
abbrev Q4x:Code:=.cond (.tmp 26) .skip (.exit 0)
abbrev Q5d:Code:=.seq Q3u Q4x
abbrev Qzf:List Oper:=[oP 29 (oMv 0),oP 30 (.nilCheck (oTt 29)),oP 31 (oFa 72 30 1),oP 32 (oLd 70 31),oP 33 (oMv 6),oP 34 (oIx 70 32 33),oP 35 (oLd 89 34),oP 7 (.alloc 89),oN (.store 89 (oTt 7) (oTt 35))]
abbrev Q4n:Code:=oRg Qzf
abbrev Qnw:List Oper:=[oP 36 (oFa 89 7 0),oP 37 (oFa 74 36 0),oP 38 (oLd 3 37),oP 39 (oMv 1),oP 40 (.binOp .eql 3 (oTt 38) (oTt 39) 3),oP 41 (oMv 40),oG 5 true 42 (oFa 89 7 1),oG 5 true 43 (oLd 3 42),oG 5 true 44 (.binOp .neq 3 (oTt 43) (oCi 3) 3),oP 45 (.pick (oTt 41) (oTt 44) (.const (.bool false)))]
def Qit:List Oper:=Qnw
def Qoo:Code:=oRg Qit
theorem Wx:oRQ Qoo Qit Qnw:=fun _ _=>rfl
theorem Wp:nth Qit 5=some ⟨(some 41),.move (.tmp 40),0,"",#[],none⟩:=rfl
abbrev Q1n:List Oper:=[oP 46 (oMv 5),oP 47 (oFa 89 7 0),oP 48 (oFa 74 47 2),oP 49 (oLd 3 48),oP 50 (.binOp .sub 3 (oTt 46) (oTt 49) 3),oP 5 (oAs 50)]
abbrev Q4a:Code:=oRg Q1n
abbrev Q33:Code:=.cond (.tmp 45) Q4a .skip
abbrev Q55:Code:=.seq Qoo Q33
abbrev Qno:List Oper:=[oP 51 (oFa 89 7 0),oP 52 (oFa 74 51 0),oP 53 (oLd 3 52),oP 54 (oMv 1),oP 55 (.binOp .neq 3 (oTt 53) (oTt 54) 3),oP 56 (oMv 55),oG 5 true 57 (oFa 89 7 1),oG 5 true 58 (oLd 3 57),oG 5 true 59 (.binOp .eql 3 (oTt 58) (oCi 2) 3),oP 60 (.pick (oTt 56) (oTt 59) (.const (.bool false)))]
def Qj2:List Oper:=Qno
def Qp8:Code:=oRg Qj2
theorem Ww:oRQ Qp8 Qj2 Qno:=fun _ _=>rfl
theorem Wq:nth Qj2 5=some ⟨(some 56),.move (.tmp 55),0,"",#[],none⟩:=rfl
abbrev Q0g:List Oper:=[oP 61 (oMv 5),oP 62 (oFa 89 7 0),oP 63 (oFa 74 62 2),oP 64 (oLd 3 63),oP 65 (.binOp .add 3 (oTt 61) (oTt 64) 3),oP 5 (oAs 65)]
abbrev Q45:Code:=oRg Q0g
abbrev Q5e:Code:=.cond (.tmp 60) Q45 .skip
abbrev Q5t:Code:=.seq Qp8 Q5e
abbrev Q4b:Code:=.seq Q55 Q5t
abbrev Q48:Code:=.seq Q4n Q4b
abbrev Q2d:Code:=.block 1 Q48
abbrev Qzs:List Oper:=[oP 27 (oMv 6),oP 28 (.binOp .add 3 (oTt 27) (oCi 1) 3),oP 6 (oAs 28)]
abbrev Q5f:Code:=oRg Qzs
abbrev Q4j:Code:=.seq Q2d Q5f
abbrev Q4e:Code:=.seq Q5d Q4j
def Q5g:Code:=.loop Q4e
abbrev Q5q:Code:=.block 0 Q5g
abbrev Q2q:Code:=.seq Q2z Q5q
abbrev Qzp:List Oper:=[oP 66 (oMv 5),oP 4 (oAs 66)]
abbrev Q3h:Code:=oRg Qzp
abbrev Q5n:Code:=.seq Q3h .ret
abbrev Q3q:Code:=.seq Q2q Q5n
abbrev Q78:Code:=.seq Q8w Q3q
abbrev Q6s:Code:=.seq Q6k Q78
abbrev Q8f:Code:=.seq Qpq Q6s
def Wn:Code:=Q8f
theorem Q8p:Qdk (V7 36)=Wn:=by kernel_rfl
theorem Q16:Qgr.body=some (V7 36):=by kernel_rfl
theorem Xbt:Qgr.ntmps=67:=by kernel_rfl
theorem Qan:Qgr.results.toList=[.tmp 4]:=by kernel_rfl
abbrev Q36:List Oper:=[oP 2 (.assign (.const (.slice none 0 0)))]
abbrev Q6e:Code:=oRg Q36
abbrev Q3l:List Oper:=[oP 3 (.assign (.const (.slice none 0 0)))]
abbrev Q6l:Code:=oRg Q3l
def Qq0:List Oper:=W7
def Qqi:Code:=oRg Qq0
theorem Qf0:oRQ Qqi Qq0 W7:=fun _ _=>rfl
abbrev Q3a:List Oper:=[oP 5 (oMv 4),oP 6 (oMv 0),oP 7 (.nilCheck (oTt 6)),oP 8 (oFa 72 7 1),oP 9 (oLd 70 8),oP 10 (oBu .len #[(oTt 9)] #[70]),oP 11 (.binOp .lss 3 (oTt 5) (oTt 10) 3)]
abbrev Xa1:Code:=oRg Q3a
abbrev Q73:Code:=.cond (.tmp 11) .skip (.exit 0)
abbrev Q9s:Code:=.seq Xa1 Q73
abbrev Q10:List Oper:=[oP 14 (oMv 0),oP 15 (.nilCheck (oTt 14)),oP 16 (oFa 72 15 1),oP 17 (oLd 70 16),oP 18 (oMv 4),oP 19 (oIx 70 17 18),oP 20 (oFa 89 19 1),oP 21 (oLd 3 20),oP 22 (.binOp .eql 3 (oTt 21) (oCi 1) 3)]
abbrev Q2g:Code:=oRg Q10
abbrev Q1h:List Oper:=[oP 23 (oMv 3),oP 24 (oMv 0),oP 25 (.nilCheck (oTt 24)),oP 26 (oFa 72 25 1),oP 27 (oLd 70 26),oP 28 (oMv 4),oP 29 (oIx 70 27 28),oP 30 (oFa 89 29 0),oP 31 (oLd 74 30),oP 32 (.buildSlice 77 1 #[(0,(oTt 31))]),oP 33 (oBu .append #[(oTt 23),(oTt 32)] #[77,77]),oP 3 (oAs 33)]
abbrev Q3c:Code:=oRg Q1h
abbrev Q3e:Code:=.cond (.tmp 22) Q3c .skip
abbrev Q5p:Code:=.seq Q2g Q3e
abbrev Q5w:Code:=.block 1 Q5p
abbrev Q0o:List Oper:=[oP 12 (oMv 4),oP 13 (.binOp .add 3 (oTt 12) (oCi 1) 3),oP 4 (oAs 13)]
abbrev Q2f:Code:=oRg Q0o
abbrev Q4s:Code:=.seq Q5w Q2f
abbrev Q9i:Code:=.seq Q9s Q4s
def Q5s:Code:=.loop Q9i
abbrev Q46:Code:=.block 0 Q5s
abbrev Q9z:Code:=.seq Qqi Q46
abbrev Q1x:List Oper:=[oP 34 (oMv 3),oP 2 (oAs 34)]
abbrev Q35:Code:=oRg Q1x
abbrev Q3w:Code:=.seq Q35 .ret
abbrev Q2m:Code:=.seq Q9z Q3w
abbrev Q6r:Code:=.seq Q6l Q2m
abbrev Q7o:Code:=.seq Q6e Q6r
def Qcr:Code:=Q7o
theorem Q74:Qdk (V7 37)=Qcr:=by kernel_rfl
theorem Q1m:Qh4.body=some (V7 37):=by kernel_rfl
theorem Xdm:Qh4.ntmps=35:=by kernel_rfl
theorem Qg8:Qh4.results.toList=[.tmp 2]:=by kernel_rfl
abbrev Xhu:List Oper:=[oP 2 (.assign (oCi 0))]
abbrev Xkp:Code:=oRg Xhu
abbrev Xhh:List Oper:=[oP 6 (oMv 0),oP 7 (oCa 37 #[(oTt 6)] #[40]),oP 3 (oAs 7)]
abbrev Xle:Code:=oRg Xhh
def Qug:List Oper:=W7
def Qup:Code:=oRg Qug
theorem Qh2:oRQ Qup Qug W7:=fun _ _=>rfl
def Qu7:List Oper:=Qoe
def Quq:Code:=oRg Qu7
theorem Qgx:oRQ Quq Qu7 Qoe:=fun _ _=>rfl
abbrev Xij:List Oper:=[oP 8 (oMv 5),oP 9 (oMv 3),oP 10 (oBu .len #[(oTt 9)] #[77]),oP 11 (.binOp .lss 3 (oTt 8) (oTt 10) 3)]
abbrev Xjx:Code:=oRg Xij
abbrev Xi7:Code:=.cond (.tmp 11) .skip (.exit 0)
abbrev Xm1:Code:=.seq Xjx Xi7
abbrev Xbu:List Oper:=[oP 14 (oMv 4),oP 15 (oMv 3),oP 16 (oMv 5),oP 17 (oIx 77 15 16),oP 18 (oFa 74 17 2),oP 19 (oLd 3 18),oP 20 (.binOp .add 3 (oTt 14) (oTt 19) 3),oP 4 (oAs 20)]
abbrev Xfq:Code:=oRg Xbu
abbrev Xgg:Code:=.block 1 Xfq
abbrev Xcd:List Oper:=[oP 12 (oMv 5),oP 13 (.binOp .add 3 (oTt 12) (oCi 1) 3),oP 5 (oAs 13)]
abbrev Xhp:Code:=oRg Xcd
abbrev Xi8:Code:=.seq Xgg Xhp
abbrev Xev:Code:=.seq Xm1 Xi8
def Xfh:Code:=.loop Xev
abbrev Xic:Code:=.block 0 Xfh
abbrev Xoj:Code:=.seq Quq Xic
abbrev Xcs:List Oper:=[oP 21 (oMv 4),oP 2 (oAs 21)]
abbrev Xft:Code:=oRg Xcs
abbrev Xgd:Code:=.seq Xft .ret
abbrev Xgw:Code:=.seq Xoj Xgd
abbrev Xmm:Code:=.seq Qup Xgw
abbrev Xo4:Code:=.seq Xle Xmm
abbrev Xm6:Code:=.seq Xkp Xo4
def Qe8:Code:=Xm6
theorem Xju:Qdk (V7 38)=Qe8:=by kernel_rfl
theorem Xau:Qj8.body=some (V7 38):=by kernel_rfl
theorem Xqn:Qj8.ntmps=22:=by kernel_rfl
theorem Qim:Qj8.results.toList=[.tmp 2]:=by kernel_rfl
abbrev Xom:List Oper:=[oP 3 (.box 74 (oTt 1)),oP 4 (.assign (oCi 0))]
abbrev Xqc:Code:=oRg Xom
abbrev Quz:List Oper:=[oP 8 (oFa 74 3 0),oP 9 (oLd 3 8),oP 10 (.binOp .lss 3 (oTt 9) (oCi 1) 3),oP 11 (oMv 10),oG 3 false 12 (oFa 74 3 0),oG 3 false 13 (oLd 3 12),oG 3 false 14 (.binOp .gtr 3 (oTt 13) (oCi 2) 3),oP 15 (.pick (oTt 11) (.const (.bool true)) (oTt 14)),oP 16 (oMv 15),oG 8 false 17 (oFa 74 3 1),oG 8 false 18 (oLd 3 17),oG 8 false 19 (.binOp .lss 3 (oTt 18) (oCi 1) 3),oP 20 (.pick (oTt 16) (.const (.bool true)) (oTt 19)),oP 21 (oMv 20),oG 13 false 22 (oFa 74 3 1),oG 13 false 23 (oLd 3 22),oG 13 false 24 (.binOp .gtr 3 (oTt 23) (oCi 1073741824) 3),oP 25 (.pick (oTt 21) (.const (.bool true)) (oTt 24)),oP 26 (oMv 25),oG 18 false 27 (oFa 74 3 3),oG 18 false 28 (oLd 3 27),oG 18 false 29 (.binOp .lss 3 (oTt 28) (oCi 0) 3),oP 30 (.pick (oTt 26) (.const (.bool true)) (oTt 29)),oP 31 (oMv 30),oG 23 false 32 (oFa 74 3 3),oG 23 false 33 (oLd 3 32),oG 23 false 34 (.binOp .gtr 3 (oTt 33) (oCi 1073741824) 3),oP 35 (.pick (oTt 31) (.const (.bool true)) (oTt 34))]
def Qcy:List Oper:=Quz
def Qvy:Code:=oRg Qcy
theorem Zc:oRQ Qvy Qcy Quz:=fun _ _=>rfl
theorem Z2:nth Qcy 3=some ⟨(some 11),.move (.tmp 10),0,"",#[],none⟩:=rfl
theorem Z5:nth Qcy 8=some ⟨(some 16),.move (.tmp 15),0,"",#[],none⟩:=rfl
theorem Yy:nth Qcy 13=some ⟨(some 21),.move (.tmp 20),0,"",#[],none⟩:=rfl
theorem Yx:nth Qcy 18=some ⟨(some 26),.move (.tmp 25),0,"",#[],none⟩:=rfl
theorem Yw:nth Qcy 23=some ⟨(some 31),.move (.tmp 30),0,"",#[],none⟩:=rfl
abbrev Xnh:List Oper:=[oP 4 (.assign (oCi 1))]
abbrev Xrm:Code:=oRg Xnh
abbrev Xr8:Code:=.seq Xrm .ret
abbrev Xro:Code:=.cond (.tmp 35) Xr8 .skip
abbrev Xs4:Code:=.seq Qvy Xro
abbrev Quh:List Oper:=[oP 36 (oFa 74 3 2),oP 37 (oLd 3 36),oP 38 (.binOp .lss 3 (oTt 37) (oCi 1) 3),oP 39 (oMv 38),oG 3 false 40 (oFa 74 3 2),oG 3 false 41 (oLd 3 40),oG 3 false 42 (.binOp .gtr 3 (oTt 41) (oCi 1125899906842624) 3),oP 43 (.pick (oTt 39) (.const (.bool true)) (oTt 42))]
def Qoa:List Oper:=Quh
def Qvt:Code:=oRg Qoa
theorem Zb:oRQ Qvt Qoa Quh:=fun _ _=>rfl
theorem Z3:nth Qoa 3=some ⟨(some 39),.move (.tmp 38),0,"",#[],none⟩:=rfl
abbrev Xhi:List Oper:=[oP 4 (.assign (oCi 15))]
abbrev Xll:Code:=oRg Xhi
abbrev Xmf:Code:=.seq Xll .ret
abbrev Xoq:Code:=.cond (.tmp 43) Xmf .skip
abbrev Xrr:Code:=.seq Qvt Xoq
abbrev Xhd:List Oper:=[oP 44 (oMv 0),oP 45 (oFa 74 3 1),oP 46 (oLd 3 45),oP 47 (oCa 47 #[(oTt 44),(oTt 46)] #[40,3]),oP 48 (.binOp .geq 3 (oTt 47) (oCi 0) 3)]
abbrev Xmw:Code:=oRg Xhd
abbrev Xgy:List Oper:=[oP 4 (.assign (oCi 13))]
abbrev Xpe:Code:=oRg Xgy
abbrev Xlo:Code:=.seq Xpe .ret
abbrev Xks:Code:=.cond (.tmp 48) Xlo .skip
abbrev Xkr:Code:=.seq Xmw Xks
abbrev Xeo:List Oper:=[oP 49 (oMv 0),oP 50 (oCa 37 #[(oTt 49)] #[40]),oP 51 (oBu .len #[(oTt 50)] #[77]),oP 52 (.binOp .geq 3 (oTt 51) (oCi 16) 3)]
abbrev Xk1:Code:=oRg Xeo
abbrev Xix:List Oper:=[oP 4 (.assign (oCi 3))]
abbrev Xkl:Code:=oRg Xix
abbrev Xpf:Code:=.seq Xkl .ret
abbrev Xnj:Code:=.cond (.tmp 52) Xpf .skip
abbrev Xns:Code:=.seq Xk1 Xnj
noncomputable def Qer:Array Oper:=Qmh (Qmr 9 (V7 30))
def Xqa:Code:=.region 9 Qer true
abbrev Qlm:List Oper:=[oP 53 (oMv 0),oP 54 (oFa 74 3 0),oP 55 (oLd 3 54),oP 56 (oCa 36 #[(oTt 53),(oTt 55)] #[40,3]),oP 57 (oFa 74 3 2),oP 58 (oLd 3 57),oP 59 (.binOp .lss 3 (oTt 56) (oTt 58) 3)]
def Qfx:List Oper:=Qlm
theorem Q5z:Qer.toList.map bare=Qlm:=by kernel_rfl
theorem Qo0:Qer.toList.map bare=Qfx:=Q5z
def Qb5:List Nat:=[0,0,2,7,0,16,63]
theorem Qpa:Qrx Qer.toList []=some Qb5:=by kernel_rfl
theorem Qnu:Qa6 Qer.toList Qer.toList Qb5 []=true:=by kernel_rfl
theorem Qqd(b:Nat)(L:List KE)(s:St):Ab.runT (E b) L Qfx Qb5 Qfx 0 s=Ab.runT (E b) L Qfx Qb5 Qlm 0 s:=rfl
theorem Qr6(b:Nat):Qaz (E b) 3 ((nth Qb5 3).getD 0) Qfx Qb5 0=true:=by kernel_rfl
abbrev Xgo:List Oper:=[oP 4 (.assign (oCi 22))]
abbrev Xp6:Code:=oRg Xgo
abbrev Xod:Code:=.seq Xp6 .ret
abbrev Xjc:Code:=.cond (.tmp 59) Xod .skip
abbrev Xpb:Code:=.seq Xqa Xjc
abbrev Qlx:List Oper:=[oP 5 (.assign (.const (.slice none 0 0)))]
abbrev Qux:Code:=oRg Qlx
abbrev Xi0:List Oper:=[oP 6 (.assign (.const (.bool false)))]
abbrev Xpr:Code:=oRg Xi0
abbrev Xht:List Oper:=[oP 7 (.assign (oCi 0))]
abbrev Xol:Code:=oRg Xht
abbrev Xia:List Oper:=[oP 60 (oMv 7),oP 61 (oMv 0),oP 62 (.nilCheck (oTt 61)),oP 63 (oFa 72 62 1),oP 64 (oLd 70 63),oP 65 (oBu .len #[(oTt 64)] #[70]),oP 66 (.binOp .lss 3 (oTt 60) (oTt 65) 3)]
abbrev Xo9:Code:=oRg Xia
abbrev Xpk:Code:=.cond (.tmp 66) .skip (.exit 0)
abbrev Xlw:Code:=.seq Xo9 Xpk
noncomputable def Qg3:Array Oper:=Qmh (Qmr 16 (V7 30))
def Xps:Code:=.region 16 Qg3 true
abbrev Xbs:List Oper:=[oP 69 (oMv 6),oP 70 (.unOp .not 4 (oTt 69)),oP 71 (oMv 70),oG 2 true 72 (oMv 0),oG 2 true 73 (.nilCheck (oTt 72)),oG 2 true 74 (oFa 72 73 1),oG 2 true 75 (oLd 70 74),oG 2 true 76 (oMv 7),oG 2 true 77 (oIx 70 75 76),oG 2 true 78 (oFa 89 77 0),oG 2 true 79 (oFa 74 78 1),oG 2 true 80 (oLd 3 79),oG 2 true 81 (oFa 74 3 1),oG 2 true 82 (oLd 3 81),oG 2 true 83 (.binOp .gtr 3 (oTt 80) (oTt 82) 3),oP 84 (.pick (oTt 71) (oTt 83) (.const (.bool false)))]
theorem Qi2:Qg3.toList.map bare=Xbs:=by kernel_rfl
def Qrf:List Nat:=[0,1,3,7,15,31,63,7,255,511,1023,2047,7,4103,16383,32767]
theorem Qi7:Qrx Qg3.toList []=some Qrf:=by kernel_rfl
theorem Qhl:Qa6 Qg3.toList Qg3.toList Qrf []=true:=by kernel_rfl
abbrev Xg1:List Oper:=[oP 85 (oMv 5),oP 86 (oLd 74 3),oP 87 (.build 89 #[(0,(oTt 86)),(1,(oCi 1))]),oP 88 (.buildSlice 70 1 #[(0,(oTt 87))]),oP 89 (oBu .append #[(oTt 85),(oTt 88)] #[70,70]),oP 5 (oAs 89)]
abbrev Xkv:Code:=oRg Xg1
abbrev Xio:List Oper:=[oP 6 (.assign (.const (.bool true)))]
abbrev Xpm:Code:=oRg Xio
abbrev Xow:Code:=.seq Xkv Xpm
abbrev Xoy:Code:=.cond (.tmp 84) Xow .skip
abbrev Xjs:Code:=.seq Xps Xoy
abbrev Xg9:List Oper:=[oP 90 (oMv 5),oP 91 (oMv 0),oP 92 (.nilCheck (oTt 91)),oP 93 (oFa 72 92 1),oP 94 (oLd 70 93),oP 95 (oMv 7),oP 96 (oIx 70 94 95),oP 97 (oLd 89 96),oP 98 (.buildSlice 70 1 #[(0,(oTt 97))]),oP 99 (oBu .append #[(oTt 90),(oTt 98)] #[70,70]),oP 5 (oAs 99)]
abbrev Xlg:Code:=oRg Xg9
abbrev Xnq:Code:=.seq Xjs Xlg
abbrev Xmv:Code:=.block 1 Xnq
abbrev Xha:List Oper:=[oP 67 (oMv 7),oP 68 (.binOp .add 3 (oTt 67) (oCi 1) 3),oP 7 (oAs 68)]
abbrev Xli:Code:=oRg Xha
abbrev Xmz:Code:=.seq Xmv Xli
abbrev Xpq:Code:=.seq Xlw Xmz
def Xlh:Code:=.loop Xpq
abbrev Xjv:Code:=.block 0 Xlh
abbrev Xnp:Code:=.seq Xol Xjv
abbrev Xf0:List Oper:=[oP 100 (oMv 6),oP 101 (.unOp .not 4 (oTt 100))]
abbrev Xo7:Code:=oRg Xf0
abbrev Xfr:List Oper:=[oP 102 (oMv 5),oP 103 (oLd 74 3),oP 104 (.build 89 #[(0,(oTt 103)),(1,(oCi 1))]),oP 105 (.buildSlice 70 1 #[(0,(oTt 104))]),oP 106 (oBu .append #[(oTt 102),(oTt 105)] #[70,70]),oP 5 (oAs 106)]
abbrev Xm5:Code:=oRg Xfr
abbrev Xn8:Code:=.cond (.tmp 101) Xm5 .skip
abbrev Xpa:Code:=.seq Xo7 Xn8
abbrev Xj3:List Oper:=[oP 107 (oMv 0),oP 108 (oMv 5),oP 109 (.nilCheck (oTt 107)),oP 110 (oFa 72 109 1),oN (.store 70 (oTt 110) (oTt 108))]
abbrev Xk3:Code:=oRg Xj3
def Qty:List Oper:=W7
def Qv4:Code:=oRg Qty
theorem Z7:oRQ Qv4 Qty W7:=fun _ _=>rfl
abbrev Xk4:Code:=.seq Qv4 .ret
abbrev Xm2:Code:=.seq Xk3 Xk4
abbrev Xoa:Code:=.seq Xpa Xm2
abbrev Xme:Code:=.seq Xnp Xoa
abbrev Qv6:Code:=.seq Xpr Xme
def Qmo:Code:=.seq Qux Qv6
theorem Yz:oSQ Qmo Qux Qv6:=fun _ _=>rfl
abbrev Xjb:Code:=.seq Xpb Qmo
abbrev Xlp:Code:=.seq Xns Xjb
abbrev Xke:Code:=.seq Xkr Xlp
abbrev Xjh:Code:=.seq Xrr Xke
abbrev Xqs:Code:=.seq Xs4 Xjh
abbrev Xr9:Code:=.seq Xqc Xqs
def Z8:Code:=Xr9
theorem Xq8:Qdk (V7 30)=Z8:=by kernel_rfl
theorem Xh9:Qhb.body=some (V7 30):=by kernel_rfl
theorem Xtj:Qhb.ntmps=111:=by kernel_rfl
theorem Zv:Qhb.results.toList=[.tmp 4]:=by kernel_rfl
abbrev Q8g:List Oper:=[oP 5 (.box 30 (oTt 2)),oP 6 (.assign (oCi 0))]
abbrev Xcx:Code:=oRg Q8g
abbrev Q8q:List Oper:=[oP 8 (oMv 0),oP 9 (oMv 1),oP 10 (oCa 47 #[(oTt 8),(oTt 9)] #[40,3]),oP 7 (oAs 10)]
abbrev Xcw:Code:=oRg Q8q
abbrev Qq5:List Oper:=[oP 11 (oMv 7),oP 12 (.binOp .lss 3 (oTt 11) (oCi 0) 3),oP 13 (oMv 12),oG 2 false 14 (oMv 0),oG 2 false 15 (.nilCheck (oTt 14)),oG 2 false 16 (oFa 72 15 1),oG 2 false 17 (oLd 70 16),oG 2 false 18 (oMv 7),oG 2 false 19 (oIx 70 17 18),oG 2 false 20 (oFa 89 19 1),oG 2 false 21 (oLd 3 20),oG 2 false 22 (.binOp .neq 3 (oTt 21) (oCi 1) 3),oP 23 (.pick (oTt 13) (.const (.bool true)) (oTt 22))]
def Qkm:List Oper:=Qq5
def Qr2:Code:=oRg Qkm
theorem Vn:oRQ Qr2 Qkm Qq5:=fun _ _=>rfl
theorem Vj:nth Qkm 2=some ⟨(some 13),.move (.tmp 12),0,"",#[],none⟩:=rfl
abbrev Q8y:List Oper:=[oP 6 (.assign (oCi 12))]
abbrev Xcy:Code:=oRg Q8y
abbrev Xam:Code:=.seq Xcy .ret
abbrev Xdd:Code:=.cond (.tmp 23) Xam .skip
abbrev Xcp:Code:=.seq Qr2 Xdd
noncomputable def Qcm:Array Oper:=Qmh (Qmr 4 (V7 32))
def Xdo:Code:=.region 4 Qcm true
abbrev Qj1:List Oper:=[oP 24 (.slice 30 (oTt 5) none none none),oP 25 (oCa 48 #[(oTt 24)] #[51]),oP 26 (oMv 0),oP 27 (.nilCheck (oTt 26)),oP 28 (oFa 72 27 1),oP 29 (oLd 70 28),oP 30 (oMv 7),oP 31 (oIx 70 29 30),oP 32 (oFa 89 31 0),oP 33 (oFa 74 32 4),oP 34 (oLd 30 33),oP 35 (.binOp .neq 30 (oTt 25) (oTt 34) 30)]
def Qdm:List Oper:=Qj1
theorem Qwv:Qcm.toList.map bare=Qj1:=by kernel_rfl
theorem Ql4:Qcm.toList.map bare=Qdm:=Qwv
def Qaa:List Nat:=[0,1,0,4,12,28,0,124,252,508,1020,2047]
theorem Qm7:Qrx Qcm.toList []=some Qaa:=by kernel_rfl
theorem Qkv:Qa6 Qcm.toList Qcm.toList Qaa []=true:=by kernel_rfl
theorem Qmd(b:Nat)(L:List KE)(s:St):Ab.runT (E b) L Qdm Qaa Qdm 0 s=Ab.runT (E b) L Qdm Qaa Qj1 0 s:=rfl
theorem Qnx(b:Nat):Qaz (E b) 1 ((nth Qaa 1).getD 0) Qdm Qaa 0=true:=by kernel_rfl
abbrev Q5u:List Oper:=[oP 6 (.assign (oCi 16))]
abbrev Q6x:Code:=oRg Q5u
abbrev Q8h:Code:=.seq Q6x .ret
abbrev Q6p:Code:=.cond (.tmp 35) Q8h .skip
abbrev Q7q:Code:=.seq Xdo Q6p
abbrev Q43:List Oper:=[oP 36 (oMv 0),oP 37 (.nilCheck (oTt 36)),oP 38 (oFa 72 37 1),oP 39 (oLd 70 38),oP 40 (oMv 7),oP 41 (oIx 70 39 40),oP 42 (oFa 89 41 1),oN (.store 3 (oTt 42) (oCi 2))]
abbrev Q97:Code:=oRg Q43
noncomputable def Qcl:Array Oper:=Qmh (Qmr 7 (V7 32))
def Xdp:Code:=.region 7 Qcl true
abbrev Qiq:List Oper:=[oP 43 (oMv 0),oP 44 (.nilCheck (oTt 43)),oP 45 (oFa 72 44 1),oP 46 (oLd 70 45),oP 47 (oMv 7),oP 48 (oLd 30 5),oP 49 (oIx 70 46 47),oP 50 (oFa 89 49 2),oN (.store 30 (oTt 50) (oTt 48))]
def Qdl:List Oper:=Qiq
theorem Qwq:Qcl.toList.map bare=Qiq:=by kernel_rfl
theorem Qv9:Qcl.toList.map bare=Qdl:=Qwq
def Qau:List Nat:=[0,1,3,7,0,0,63,127,255]
theorem Qws:Qrx Qcl.toList []=some Qau:=by kernel_rfl
theorem Qvk:Qa6 Qcl.toList Qcl.toList Qau []=true:=by kernel_rfl
theorem Qyp(b:Nat)(L:List KE)(s:St):Ab.runT (E b) L Qdl Qau Qdl 0 s=Ab.runT (E b) L Qdl Qau Qiq 0 s:=rfl
theorem Q1u(b:Nat):Qaz (E b) 8 ((nth Qau 8).getD 0) Qdl Qau 0=true:=by kernel_rfl
def Qpo:List Oper:=Qcw
def Qq8:Code:=oRg Qpo
theorem Vl:oRQ Qq8 Qpo Qcw:=fun _ _=>rfl
abbrev Q76:Code:=.seq Qq8 .ret
abbrev Q8t:Code:=.seq Xdp Q76
abbrev Q99:Code:=.seq Q97 Q8t
abbrev Q9x:Code:=.seq Q7q Q99
abbrev Xc8:Code:=.seq Xcp Q9x
abbrev Xdy:Code:=.seq Xcw Xc8
abbrev Xaz:Code:=.seq Xcx Xdy
def Vh:Code:=Xaz
theorem Xay:Qdk (V7 32)=Vh:=by kernel_rfl
theorem Q4f:Qhu.body=some (V7 32):=by kernel_rfl
theorem Xif:Qhu.ntmps=51:=by kernel_rfl
theorem Ud:Qhu.results.toList=[.tmp 6]:=by kernel_rfl
def Qu1:List Oper:=W7
def Quu:Code:=oRg Qu1
theorem Qh5:oRQ Quu Qu1 W7:=fun _ _=>rfl
abbrev Xhz:List Oper:=[oP 6 (oMv 0),oP 7 (oMv 1),oP 8 (oCa 47 #[(oTt 6),(oTt 7)] #[40,3]),oP 5 (oAs 8)]
abbrev Xn0:Code:=oRg Xhz
abbrev Qso:List Oper:=[oP 9 (oMv 5),oP 10 (.binOp .lss 3 (oTt 9) (oCi 0) 3),oP 11 (oMv 10),oG 2 false 12 (oMv 0),oG 2 false 13 (.nilCheck (oTt 12)),oG 2 false 14 (oFa 72 13 1),oG 2 false 15 (oLd 70 14),oG 2 false 16 (oMv 5),oG 2 false 17 (oIx 70 15 16),oG 2 false 18 (oFa 89 17 1),oG 2 false 19 (oLd 3 18),oG 2 false 20 (.binOp .neq 3 (oTt 19) (oCi 1) 3),oP 21 (.pick (oTt 11) (.const (.bool true)) (oTt 20))]
def Qmu:List Oper:=Qso
def Quo:Code:=oRg Qmu
theorem Qgu:oRQ Quo Qmu Qso:=fun _ _=>rfl
theorem Qgf:nth Qmu 2=some ⟨(some 11),.move (.tmp 10),0,"",#[],none⟩:=rfl
abbrev Xhr:List Oper:=[oP 4 (.assign (oCi 12))]
abbrev Xmd:Code:=oRg Xhr
abbrev Xmi:Code:=.seq Xmd .ret
abbrev Xjq:Code:=.cond (.tmp 21) Xmi .skip
abbrev Xn6:Code:=.seq Quo Xjq
abbrev Xdn:List Oper:=[oP 22 (oMv 0),oP 23 (.nilCheck (oTt 22)),oP 24 (oFa 72 23 1),oP 25 (oLd 70 24),oP 26 (oMv 5),oP 27 (oIx 70 25 26),oP 28 (oFa 89 27 1),oN (.store 3 (oTt 28) (oCi 3))]
abbrev Xh7:Code:=oRg Xdn
def Qsn:List Oper:=W7
def Qs9:Code:=oRg Qsn
theorem Qga:oRQ Qs9 Qsn W7:=fun _ _=>rfl
abbrev Xis:Code:=.seq Qs9 .ret
abbrev Xhb:Code:=.seq Xh7 Xis
abbrev Xox:Code:=.seq Xn6 Xhb
abbrev Xl1:Code:=.seq Xn0 Xox
abbrev Xo1:Code:=.seq Quu Xl1
def Qei:Code:=Xo1
theorem Xmn:Qdk (V7 33)=Qei:=by kernel_rfl
theorem Xdi:Qj7.body=some (V7 33):=by kernel_rfl
theorem Xrt:Qj7.ntmps=29:=by kernel_rfl
theorem Qij:Qj7.results.toList=[.tmp 4]:=by kernel_rfl
abbrev Q72:List Oper:=[oP 4 (.assign (.const (.slice none 0 0)))]
abbrev Xbr:Code:=oRg Q72
def Qr8:List Oper:=Qlx
def Qrs:Code:=oRg Qr8
theorem Qdc:oRQ Qrs Qr8 Qlx:=fun _ _=>rfl
def Qqo:List Oper:=Qcw
def Qqv:Code:=oRg Qqo
theorem Qde:oRQ Qqv Qqo Qcw:=fun _ _=>rfl
abbrev Q8k:List Oper:=[oP 7 (oMv 6),oP 8 (oMv 0),oP 9 (.nilCheck (oTt 8)),oP 10 (oFa 72 9 1),oP 11 (oLd 70 10),oP 12 (oBu .len #[(oTt 11)] #[70]),oP 13 (.binOp .lss 3 (oTt 7) (oTt 12) 3)]
abbrev Xc1:Code:=oRg Q8k
abbrev Xe8:Code:=.cond (.tmp 13) .skip (.exit 0)
abbrev Xc7:Code:=.seq Xc1 Xe8
abbrev Qp6:List Oper:=[oP 16 (oMv 0),oP 17 (.nilCheck (oTt 16)),oP 18 (oFa 72 17 1),oP 19 (oLd 70 18),oP 20 (oMv 6),oP 21 (oIx 70 19 20),oP 22 (oFa 89 21 1),oP 23 (oLd 3 22),oP 24 (.binOp .eql 3 (oTt 23) (oCi 1) 3),oP 25 (oMv 24),oG 9 true 26 (oMv 0),oG 9 true 27 (.nilCheck (oTt 26)),oG 9 true 28 (oFa 72 27 1),oG 9 true 29 (oLd 70 28),oG 9 true 30 (oMv 6),oG 9 true 31 (oIx 70 29 30),oG 9 true 32 (oFa 89 31 0),oG 9 true 33 (oFa 74 32 3),oG 9 true 34 (oLd 3 33),oG 9 true 35 (oMv 1),oG 9 true 36 (.binOp .leq 3 (oTt 34) (oTt 35) 3),oP 37 (.pick (oTt 25) (oTt 36) (.const (.bool false)))]
def Qjo:List Oper:=Qp6
def Qpn:Code:=oRg Qjo
theorem Qcx:oRQ Qpn Qjo Qp6:=fun _ _=>rfl
theorem Qcc:nth Qjo 9=some ⟨(some 25),.move (.tmp 24),0,"",#[],none⟩:=rfl
abbrev Q5v:List Oper:=[oP 38 (oMv 0),oP 39 (.nilCheck (oTt 38)),oP 40 (oFa 72 39 1),oP 41 (oLd 70 40),oP 42 (oMv 6),oP 43 (oIx 70 41 42),oP 44 (oFa 89 43 1),oN (.store 3 (oTt 44) (oCi 3))]
abbrev Q8u:Code:=oRg Q5v
abbrev Q51:List Oper:=[oP 45 (oMv 5),oP 46 (oMv 0),oP 47 (.nilCheck (oTt 46)),oP 48 (oFa 72 47 1),oP 49 (oLd 70 48),oP 50 (oMv 6),oP 51 (oIx 70 49 50),oP 52 (oFa 89 51 0),oP 53 (oFa 74 52 1),oP 54 (oLd 3 53),oP 55 (.buildSlice 53 1 #[(0,(oTt 54))]),oP 56 (oBu .append #[(oTt 45),(oTt 55)] #[53,53]),oP 5 (oAs 56)]
abbrev Q85:Code:=oRg Q51
abbrev Q8m:Code:=.seq Q8u Q85
abbrev Q81:Code:=.cond (.tmp 37) Q8m .skip
abbrev Q83:Code:=.seq Qpn Q81
abbrev Xa0:Code:=.block 1 Q83
abbrev Q3t:List Oper:=[oP 14 (oMv 6),oP 15 (.binOp .add 3 (oTt 14) (oCi 1) 3),oP 6 (oAs 15)]
abbrev Q9f:Code:=oRg Q3t
abbrev Q9o:Code:=.seq Xa0 Q9f
abbrev Xb9:Code:=.seq Xc7 Q9o
def Q8d:Code:=.loop Xb9
abbrev Q8e:Code:=.block 0 Q8d
abbrev Xbf:Code:=.seq Qqv Q8e
abbrev Q5j:List Oper:=[oP 57 (oMv 5),oP 4 (oAs 57)]
abbrev Q6g:Code:=oRg Q5j
abbrev Q95:Code:=.seq Q6g .ret
abbrev Q91:Code:=.seq Xbf Q95
abbrev Xag:Code:=.seq Qrs Q91
abbrev Xaj:Code:=.seq Xbr Xag
def Qbw:Code:=Xaj
theorem Xe7:Qdk (V7 34)=Qbw:=by kernel_rfl
theorem Q2y:Qhs.body=some (V7 34):=by kernel_rfl
theorem Xh1:Qhs.ntmps=58:=by kernel_rfl
theorem Qec:Qhs.results.toList=[.tmp 4]:=by kernel_rfl
abbrev Xjl:List Oper:=[oP 4 (.alloc 74),oP 5 (.assign (oCi 0))]
abbrev Xrp:Code:=oRg Xjl
abbrev Qmz:List Oper:=[oP 7 (oMv 0),oP 8 (oMv 1),oP 9 (oCa 47 #[(oTt 7),(oTt 8)] #[40,3]),oP 6 (oAs 9)]
abbrev Xqq:Code:=oRg Qmz
abbrev Xlk:List Oper:=[oP 10 (oMv 6),oP 11 (.binOp .lss 3 (oTt 10) (oCi 0) 3)]
abbrev Xrk:Code:=oRg Xlk
abbrev Xp0:List Oper:=[oP 12 (.build 74 #[]),oN (.store 74 (oTt 4) (oTt 12)),oP 5 (.assign (oCi 0))]
abbrev Xrx:Code:=oRg Xp0
abbrev Xrw:Code:=.seq Xrx .ret
abbrev Xrc:Code:=.cond (.tmp 11) Xrw .skip
abbrev Xr1:Code:=.seq Xrk Xrc
noncomputable def Qes:Array Oper:=Qmh (Qmr 4 (V7 39))
def Xqg:Code:=.region 4 Qes true
abbrev Qlp:List Oper:=[oP 13 (oMv 0),oP 14 (.nilCheck (oTt 13)),oP 15 (oFa 72 14 1),oP 16 (oLd 70 15),oP 17 (oMv 6),oP 18 (oIx 70 16 17),oP 19 (oFa 89 18 0),oP 20 (oLd 74 19),oP 21 (oMv 0),oP 22 (.nilCheck (oTt 21)),oP 23 (oFa 72 22 1),oP 24 (oLd 70 23),oP 25 (oMv 6),oP 26 (oIx 70 24 25),oP 27 (oFa 89 26 1),oP 28 (oLd 3 27),oN (.store 74 (oTt 4) (oTt 20)),oP 5 (oAs 28)]
def Qfw:List Oper:=Qlp
theorem Q2v:Qes.toList.map bare=Qlp:=by kernel_rfl
theorem Q1e:Qes.toList.map bare=Qfw:=Q2v
def Qc1:List Nat:=[0,1,3,7,0,31,63,127,0,256,768,1792,0,7936,16128,32512,255,131071]
theorem Q3m:Qrx Qes.toList []=some Qc1:=by kernel_rfl
theorem Q14:Qa6 Qes.toList Qes.toList Qc1 []=true:=by kernel_rfl
theorem Q70(b:Nat)(L:List KE)(s:St):Ab.runT (E b) L Qfw Qc1 Qfw 0 s=Ab.runT (E b) L Qfw Qc1 Qlp 0 s:=rfl
theorem Q7c(b:Nat):Qaz (E b) 16 ((nth Qc1 16).getD 0) Qfw Qc1 0=true:=by kernel_rfl
abbrev Xn5:Code:=.seq Xqg .ret
abbrev Xqh:Code:=.seq Xr1 Xn5
abbrev Xrs:Code:=.seq Xqq Xqh
abbrev Xr7:Code:=.seq Xrp Xrs
def Qc3:Code:=Xr7
theorem Xqt:Qdk (V7 39)=Qc3:=by kernel_rfl
theorem Xeq:Qkh.body=some (V7 39):=by kernel_rfl
theorem Xu0:Qkh.ntmps=29:=by kernel_rfl
theorem Qeq:Qkh.results.toList=[.cell 4 74,.tmp 5]:=by kernel_rfl
abbrev Q7b:List Oper:=[oP 4 (.alloc 30),oP 5 (.assign (.const (.bool false)))]
abbrev Xbc:Code:=oRg Q7b
def Qqs:List Oper:=Qmz
def Qqn:Code:=oRg Qqs
theorem Qfr:oRQ Qqn Qqs Qmz:=fun _ _=>rfl
abbrev Qqa:List Oper:=[oP 10 (oMv 6),oP 11 (.binOp .lss 3 (oTt 10) (oCi 0) 3),oP 12 (oMv 11),oG 2 false 13 (oMv 0),oG 2 false 14 (.nilCheck (oTt 13)),oG 2 false 15 (oFa 72 14 1),oG 2 false 16 (oLd 70 15),oG 2 false 17 (oMv 6),oG 2 false 18 (oIx 70 16 17),oG 2 false 19 (oFa 89 18 1),oG 2 false 20 (oLd 3 19),oG 2 false 21 (.binOp .neq 3 (oTt 20) (oCi 2) 3),oP 22 (.pick (oTt 12) (.const (.bool true)) (oTt 21))]
def Qkt:List Oper:=Qqa
def Qql:Code:=oRg Qkt
theorem Qft:oRQ Qql Qkt Qqa:=fun _ _=>rfl
theorem Qez:nth Qkt 2=some ⟨(some 12),.move (.tmp 11),0,"",#[],none⟩:=rfl
abbrev Q9t:List Oper:=[oP 23 (.build 30 #[]),oN (.store 30 (oTt 4) (oTt 23)),oP 5 (.assign (.const (.bool false)))]
abbrev Xe5:Code:=oRg Q9t
abbrev Xdg:Code:=.seq Xe5 .ret
abbrev Xaf:Code:=.cond (.tmp 22) Xdg .skip
abbrev Xb4:Code:=.seq Qql Xaf
abbrev Q47:List Oper:=[oP 24 (oMv 0),oP 25 (.nilCheck (oTt 24)),oP 26 (oFa 72 25 1),oP 27 (oLd 70 26),oP 28 (oMv 6),oP 29 (oIx 70 27 28),oP 30 (oFa 89 29 2),oP 31 (oLd 30 30),oN (.store 30 (oTt 4) (oTt 31)),oP 5 (.assign (.const (.bool true)))]
abbrev Q8a:Code:=oRg Q47
abbrev Xa2:Code:=.seq Q8a .ret
abbrev Xbx:Code:=.seq Xb4 Xa2
abbrev Xch:Code:=.seq Qqn Xbx
abbrev Xci:Code:=.seq Xbc Xch
def Qdd:Code:=Xci
theorem Xao:Qdk (V7 40)=Qdd:=by kernel_rfl
theorem Q5y:Qhx.body=some (V7 40):=by kernel_rfl
theorem Xhx:Qhx.ntmps=32:=by kernel_rfl
theorem Qgy:Qhx.results.toList=[.cell 4 30,.tmp 5]:=by kernel_rfl
end Go.Proofs.YtcokebbiblnonaaDoor
