/-
  Facts of the functions' code and of the types, printed by a program (ShD).
-/
import Derived.Test.YtcokebbiblnonaaDoorFactsS
set_option linter.all false
noncomputable section
namespace Go.Proofs.YtcokebbiblnonaaDoor
open Go Go.Ab
set_option maxRecDepth 100000
noncomputable def Xba:Func:=(Tryd.prog.funcs[31]?).getD default
theorem V8(b:Nat):(mkE Tryd.prog nv b).fn.get 31=some Xba:=by kernel_rfl
noncomputable def Q2b:Func:=(Tryd.prog.funcs[15]?).getD default
theorem Vm(b:Nat):(mkE Tryd.prog nv b).fn.get 15=some Q2b:=by kernel_rfl
noncomputable def Qr3:Func:=(Tryd.prog.funcs[35]?).getD default
theorem U6(b:Nat):(mkE Tryd.prog nv b).fn.get 35=some Qr3:=by kernel_rfl
noncomputable def Qru:Func:=(Tryd.prog.funcs[16]?).getD default
theorem Jz(b:Nat):(mkE Tryd.prog nv b).fn.get 16=some Qru:=by kernel_rfl
def L74:List Nat:=R74.leaf
theorem Qi5(b:Nat)(q:Bool)(x y:List Value):Zd (E b).toEnv .neq 74 q (.agg ⟨x⟩) (.agg ⟨y⟩)=(Qa7 L74 x y).map (fun z => .bool (!z)):=by kernel_rfl
theorem Qi1(b:Nat)(q:Bool)(x y:List Value):Zd (E b).toEnv .eql 74 q (.agg ⟨x⟩) (.agg ⟨y⟩)=(Qa7 L74 x y).map .bool:=by kernel_rfl
theorem Qic(b:Nat)(q:Bool)(x y:List Value):Zd (E b).toEnv .eql 30 q (.agg ⟨x⟩) (.agg ⟨y⟩)=(Qa7 L30 x y).map .bool:=by kernel_rfl
noncomputable def Qko:Func:=(Tryd.prog.funcs[4]?).getD default
theorem Xs(b:Nat):(mkE Tryd.prog nv b).fn.get 4=some Qko:=by kernel_rfl
noncomputable def Qtv:Func:=(Tryd.prog.funcs[49]?).getD default
theorem Qjq(b:Nat):(mkE Tryd.prog nv b).fn.get 49=some Qtv:=by kernel_rfl
abbrev Ykm:List Oper:=[oP 1 (.box 32 (oTt 0)),oP 2 (.alloc 74)]
abbrev Ymh:Code:=oRg Ykm
abbrev Yia:List Oper:=[oP 3 (oFa 32 1 0),oP 4 (oLd 3 3),oP 5 (oFa 32 1 1),oP 6 (oLd 3 5),oP 7 (oFa 32 1 2),oP 8 (oLd 3 7),oP 9 (oFa 32 1 3),oP 10 (oLd 3 9),oP 11 (oFa 32 1 4),oP 12 (oLd 30 11),oP 13 (.build 74 #[(0,(oTt 4)),(1,(oTt 6)),(2,(oTt 8)),(3,(oTt 10)),(4,(oTt 12))]),oN (.store 74 (oTt 2) (oTt 13))]
abbrev Ymv:Code:=oRg Yia
abbrev Ymq:Code:=.seq Ymv .ret
abbrev Yks:Code:=.seq Ymh Ymq
def Xs8:Code:=Yks
theorem Ynd:Qdk (V7 31)=Xs8:=by kernel_rfl
theorem Ydx:Xba.body=some (V7 31):=by kernel_rfl
theorem Yp1:Xba.ntmps=14:=by kernel_rfl
theorem Yl8:Xba.results.toList=[.cell 2 74]:=by kernel_rfl
abbrev Yd2:List Oper:=[oP 5 (.box 34 (oTt 2)),oP 6 (.assign (.const (.bool false)))]
abbrev Yiu:Code:=oRg Yd2
abbrev Ydh:List Oper:=[oP 9 (oFa 34 5 0),oP 10 (oLd 3 9),oP 11 (oCa 17 #[(oTt 10),(oCi 5)] #[3,3])]
abbrev Ykp:Code:=oRg Ydh
abbrev Yd7:List Oper:=[oP 13 (.binOp .eql 3 (oTt 11) (oCi 0) 3),oP 12 (oAs 13)]
abbrev Ykk:Code:=oRg Yd7
abbrev Yfb:List Oper:=[oP 14 (.binOp .eql 3 (oTt 11) (oCi 1) 3),oP 12 (oAs 14)]
abbrev Yhz:Code:=oRg Yfb
abbrev Yjf:Code:=.cond (.tmp 12) .skip Yhz
abbrev Yiq:Code:=.seq Ykk Yjf
noncomputable def Qne:Array Oper:=Qmh (Qmr 4 (V7 15))
def Yhs:Code:=.region 4 Qne true
abbrev Qym:List Oper:=[oP 15 (oMv 0),oP 16 (oFa 34 5 3),oP 17 (oLd 32 16),oP 18 (oCa 23 #[(oTt 15),(oTt 17)] #[23,32]),oP 19 (oMv 1),oP 20 (oFa 34 5 3),oP 21 (oLd 32 20),oP 22 (oCa 31 #[(oTt 21)] #[32]),oP 23 (oCa 30 #[(oTt 19),(oTt 22)] #[40,74]),oP 24 (.binOp .eql 24 (oTt 18) (oTt 23) 24),oP 6 (oAs 24)]
def Qis:List Oper:=Qym
theorem Xuh:Qne.toList.map bare=Qym:=by kernel_rfl
theorem Xss:Qne.toList.map bare=Qis:=Xuh
def Qcb:List Nat:=[0,0,2,7,0,0,32,111,255,511,1023]
theorem Xv3:Qrx Qne.toList []=some Qcb:=by kernel_rfl
theorem Xt0:Qa6 Qne.toList Qne.toList Qcb []=true:=by kernel_rfl
theorem Xwd(b:Nat)(L:List KE)(s:St):Ab.runT (E b) L Qis Qcb Qis 0 s=Ab.runT (E b) L Qis Qcb Qym 0 s:=rfl
theorem X1c(b:Nat):Qaz (E b) 3 ((nth Qcb 3).getD 0) Qis Qcb 0=true:=by kernel_rfl
theorem X0v(b:Nat):Qaz (E b) 7 ((nth Qcb 7).getD 0) Qis Qcb 0=true:=by kernel_rfl
theorem Xyt(b:Nat):Qaz (E b) 8 ((nth Qcb 8).getD 0) Qis Qcb 0=true:=by kernel_rfl
abbrev Yjt:Code:=.seq Yhs .ret
abbrev X5b:List Oper:=[oP 26 (.binOp .eql 3 (oTt 11) (oCi 2) 3),oP 25 (oAs 26)]
abbrev Yfi:Code:=oRg X5b
noncomputable def Qni:Array Oper:=Qmh (Qmr 6 (V7 15))
def Yk2:Code:=.region 6 Qni true
abbrev Qyd:List Oper:=[oP 27 (oMv 0),oP 28 (oFa 34 5 1),oP 29 (oLd 3 28),oP 30 (oFa 34 5 4),oP 31 (oLd 30 30),oP 32 (oCa 24 #[(oTt 27),(oTt 29),(oTt 31)] #[23,3,30]),oP 33 (oMv 1),oP 34 (oFa 34 5 1),oP 35 (oLd 3 34),oP 36 (oFa 34 5 4),oP 37 (oLd 30 36),oP 38 (oCa 32 #[(oTt 33),(oTt 35),(oTt 37)] #[40,3,30]),oP 39 (.binOp .eql 24 (oTt 32) (oTt 38) 24),oP 6 (oAs 39)]
def Qlj:List Oper:=Qyd
theorem Xvb:Qni.toList.map bare=Qyd:=by kernel_rfl
theorem Xtr:Qni.toList.map bare=Qlj:=Xvb
def Qe5:List Nat:=[0,0,2,0,8,31,0,0,128,0,512,2047,4095,8191]
theorem Xuz:Qrx Qni.toList []=some Qe5:=by kernel_rfl
theorem Xtc:Qa6 Qni.toList Qni.toList Qe5 []=true:=by kernel_rfl
theorem Xwu(b:Nat)(L:List KE)(s:St):Ab.runT (E b) L Qlj Qe5 Qlj 0 s=Ab.runT (E b) L Qlj Qe5 Qyd 0 s:=rfl
theorem Xzg(b:Nat):Qaz (E b) 5 ((nth Qe5 5).getD 0) Qlj Qe5 0=true:=by kernel_rfl
theorem Xws(b:Nat):Qaz (E b) 11 ((nth Qe5 11).getD 0) Qlj Qe5 0=true:=by kernel_rfl
abbrev Yd0:Code:=.seq Yk2 .ret
abbrev X32:List Oper:=[oP 41 (.binOp .eql 3 (oTt 11) (oCi 3) 3),oP 40 (oAs 41)]
abbrev Yed:Code:=oRg X32
noncomputable def Qnl:Array Oper:=Qmh (Qmr 8 (V7 15))
def Yim:Code:=.region 8 Qnl true
abbrev Qyj:List Oper:=[oP 42 (oMv 0),oP 43 (oFa 34 5 1),oP 44 (oLd 3 43),oP 45 (oCa 25 #[(oTt 42),(oTt 44)] #[23,3]),oP 46 (oMv 1),oP 47 (oFa 34 5 1),oP 48 (oLd 3 47),oP 49 (oCa 33 #[(oTt 46),(oTt 48)] #[40,3]),oP 50 (.binOp .eql 24 (oTt 45) (oTt 49) 24),oP 6 (oAs 50)]
def Qll:List Oper:=Qyj
theorem Xuc:Qnl.toList.map bare=Qyj:=by kernel_rfl
theorem Xsf:Qnl.toList.map bare=Qll:=Xuc
def Qek:List Nat:=[0,0,2,7,0,0,32,127,255,511]
theorem Xv0:Qrx Qnl.toList []=some Qek:=by kernel_rfl
theorem Xt5:Qa6 Qnl.toList Qnl.toList Qek []=true:=by kernel_rfl
theorem Xw1(b:Nat)(L:List KE)(s:St):Ab.runT (E b) L Qll Qek Qll 0 s=Ab.runT (E b) L Qll Qek Qyj 0 s:=rfl
theorem Xz0(b:Nat):Qaz (E b) 3 ((nth Qek 3).getD 0) Qll Qek 0=true:=by kernel_rfl
theorem Xz6(b:Nat):Qaz (E b) 7 ((nth Qek 7).getD 0) Qll Qek 0=true:=by kernel_rfl
abbrev Yf7:Code:=.seq Yim .ret
abbrev Ydy:Code:=.cond (.tmp 40) Yf7 .skip
abbrev Ye3:Code:=.seq Yed Ydy
abbrev Ycj:Code:=.cond (.tmp 25) Yd0 Ye3
abbrev Yfd:Code:=.seq Yfi Ycj
abbrev Ycg:Code:=.cond (.tmp 12) Yjt Yfd
abbrev Yjl:Code:=.seq Yiq Ycg
abbrev Ydg:Code:=.block 0 Yjl
abbrev Yhk:Code:=.seq Ykp Ydg
abbrev X9g:List Oper:=[oP 51 (oMv 0),oP 52 (oFa 34 5 2),oP 53 (oLd 3 52),oP 54 (oCa 22 #[(oTt 51),(oTt 53)] #[23,3]),oP 7 (oAs 54)]
abbrev Ycr:Code:=oRg X9g
abbrev X8f:List Oper:=[oP 55 (oMv 7),oP 56 (oMv 1),oP 57 (oFa 34 5 2),oP 58 (oLd 3 57),oP 59 (oCa 34 #[(oTt 56),(oTt 58)] #[40,3]),oP 60 (oCa 21 #[(oTt 55),(oTt 59)] #[53,53]),oP 8 (oAs 60)]
abbrev Yef:Code:=oRg X8f
abbrev X75:List Oper:=[oP 61 (oMv 7),oP 62 (oCa 35 #[(oTt 61)] #[53])]
abbrev Yev:Code:=oRg X75
abbrev X3f:List Oper:=[oP 63 (oMv 8),oP 6 (oAs 63)]
abbrev Yci:Code:=oRg X3f
abbrev Yel:Code:=.seq Yci .ret
abbrev Ye7:Code:=.seq Yev Yel
abbrev Ycd:Code:=.seq Yef Ye7
abbrev Yca:Code:=.seq Ycr Ycd
abbrev Yeg:Code:=.seq Yhk Yca
abbrev Yke:Code:=.seq Yiu Yeg
def Wj:Code:=Yke
theorem Yj6:Qdk (V7 15)=Wj:=by kernel_rfl
theorem X7z:Q2b.body=some (V7 15):=by kernel_rfl
theorem Ynw:Q2b.ntmps=64:=by kernel_rfl
theorem Qak:Q2b.results.toList=[.tmp 6]:=by kernel_rfl
abbrev Qb8:List Oper:=[oP 6 (.assign (.const (.bool false)))]
abbrev Yfl:Code:=oRg Qb8
abbrev Yaz:List Oper:=[oP 7 (.assign (oCi (-1)))]
abbrev Yen:Code:=oRg Yaz
abbrev X96:List Oper:=[oP 19 (oMv 7),oP 20 (.binOp .lss 3 (oTt 19) (oCi 4) 3)]
abbrev Yf1:Code:=oRg X96
abbrev Yd3:Code:=.cond (.tmp 20) .skip (.exit 0)
abbrev Yff:Code:=.seq Yf1 Yd3
abbrev X7k:List Oper:=[oP 23 (oMv 0),oP 24 (oMv 7),oP 25 (oCa 13 #[(oTt 23),(oTt 24)] #[23,3]),oP 26 (oMv 1),oP 27 (oMv 7),oP 28 (oCa 36 #[(oTt 26),(oTt 27)] #[40,3]),oP 29 (.binOp .neq 3 (oTt 25) (oTt 28) 3)]
abbrev Ydw:Code:=oRg X7k
def Xoi:List Oper:=Qb8
def Xnd:Code:=oRg Xoi
theorem Vw:oRQ Xnd Xoi Qb8:=fun _ _=>rfl
abbrev X9z:Code:=.seq Xnd .ret
abbrev Yc1:Code:=.cond (.tmp 29) X9z .skip
abbrev Yd6:Code:=.seq Ydw Yc1
abbrev Yat:Code:=.block 1 Yd6
abbrev Xzn:List Oper:=[oP 21 (oMv 7),oP 22 (.binOp .add 3 (oTt 21) (oCi 1) 3),oP 7 (oAs 22)]
abbrev X3q:Code:=oRg Xzn
abbrev X4a:Code:=.seq Yat X3q
abbrev Yfm:Code:=.seq Yff X4a
def X4k:Code:=.loop Yfm
abbrev X4d:Code:=.block 0 X4k
abbrev Yec:Code:=.seq Yen X4d
abbrev Xz7:List Oper:=[oP 30 (oMv 0),oP 31 (oCa 11 #[(oTt 30)] #[23]),oP 8 (oAs 31)]
abbrev X7l:Code:=oRg Xz7
abbrev X04:List Oper:=[oP 32 (oMv 1),oP 33 (oCa 37 #[(oTt 32)] #[40]),oP 9 (oAs 33)]
abbrev Yb9:Code:=oRg X04
abbrev Xej:List Oper:=[oP 34 (oMv 8),oP 35 (oBu .len #[(oTt 34)] #[35]),oP 36 (oMv 9),oP 37 (oBu .len #[(oTt 36)] #[77]),oP 38 (.binOp .neq 3 (oTt 35) (oTt 37) 3),oP 39 (oMv 38),oG 5 false 40 (oMv 0),oG 5 false 41 (oCa 12 #[(oTt 40)] #[23]),oG 5 false 42 (oMv 1),oG 5 false 43 (oCa 38 #[(oTt 42)] #[40]),oG 5 false 44 (.binOp .neq 3 (oTt 41) (oTt 43) 3),oP 45 (.pick (oTt 39) (.const (.bool true)) (oTt 44))]
def Qx5:List Oper:=Xej
def Xkk:Code:=oRg Qx5
theorem Vy:oRQ Xkk Qx5 Xej:=fun _ _=>rfl
theorem Vk:nth Qx5 5=some ⟨(some 39),.move (.tmp 38),0,"",#[],none⟩:=rfl
def Xob:List Oper:=Qb8
def Xlc:Code:=oRg Xob
theorem Vx:oRQ Xlc Xob Qb8:=fun _ _=>rfl
abbrev X4c:Code:=.seq Xlc .ret
abbrev X42:Code:=.cond (.tmp 45) X4c .skip
abbrev X8p:Code:=.seq Xkk X42
abbrev Xyz:List Oper:=[oP 10 (.assign (oCi 0))]
abbrev X4j:Code:=oRg Xyz
abbrev X0w:List Oper:=[oP 46 (oMv 10),oP 47 (oMv 8),oP 48 (oBu .len #[(oTt 47)] #[35]),oP 49 (.binOp .lss 3 (oTt 46) (oTt 48) 3)]
abbrev X22:Code:=oRg X0w
abbrev X39:Code:=.cond (.tmp 49) .skip (.exit 2)
abbrev X9w:Code:=.seq X22 X39
noncomputable def Qjs:Array Oper:=Qmh (Qmr 13 (V7 16))
def Yc4:Code:=.region 13 Qjs true
abbrev Qsp:List Oper:=[oP 52 (oMv 8),oP 53 (oMv 10),oP 54 (oIx 35 52 53),oP 55 (oLd 32 54),oP 56 (oCa 31 #[(oTt 55)] #[32]),oP 57 (oMv 9),oP 58 (oMv 10),oP 59 (oIx 77 57 58),oP 60 (oLd 74 59),oP 61 (.binOp .neq 74 (oTt 56) (oTt 60) 74)]
def Ql0:List Oper:=Qsp
theorem Xq4:Qjs.toList.map bare=Qsp:=by kernel_rfl
theorem Xpj:Qjs.toList.map bare=Ql0:=Xq4
def Qfg:List Nat:=[0,0,3,7,15,0,0,96,224,511]
theorem Xqy:Qrx Qjs.toList []=some Qfg:=by kernel_rfl
theorem Xjt:Qa6 Qjs.toList Qjs.toList Qfg []=true:=by kernel_rfl
theorem Xt2(b:Nat)(L:List KE)(s:St):Ab.runT (E b) L Ql0 Qfg Ql0 0 s=Ab.runT (E b) L Ql0 Qfg Qsp 0 s:=rfl
theorem Xu7(b:Nat):Qaz (E b) 4 ((nth Qfg 4).getD 0) Ql0 Qfg 0=true:=by kernel_rfl
def Xji:List Oper:=Qb8
def Xp3:Code:=oRg Xji
theorem Vz:oRQ Xp3 Xji Qb8:=fun _ _=>rfl
abbrev Yai:Code:=.seq Xp3 .ret
abbrev X74:Code:=.cond (.tmp 61) Yai .skip
abbrev Ya7:Code:=.seq Yc4 X74
abbrev Xyg:List Oper:=[oP 62 (oMv 8),oP 63 (oMv 10),oP 64 (oIx 35 62 63),oP 65 (oFa 32 64 2),oN (.store 3 (oTt 65) (oCi (-1)))]
abbrev X54:Code:=oRg Xyg
abbrev Ybe:Code:=.seq Ya7 X54
abbrev X34:Code:=.block 3 Ybe
abbrev Xya:List Oper:=[oP 50 (oMv 10),oP 51 (.binOp .add 3 (oTt 50) (oCi 1) 3),oP 10 (oAs 51)]
abbrev X7j:Code:=oRg Xya
abbrev X70:Code:=.seq X34 X7j
abbrev X2h:Code:=.seq X9w X70
def X5l:Code:=.loop X2h
abbrev X3d:Code:=.block 2 X5l
abbrev X57:Code:=.seq X4j X3d
abbrev Xyw:List Oper:=[oP 67 (oMv 0),oP 68 (oMv 2),oP 69 (oCa 18 #[(oTt 67),(oTt 68)] #[23,3]),oP 66 (oMv 69),oP 70 (.extract (oTt 66) 0),oP 71 (.extract (oTt 66) 1),oP 11 (.alloc 32),oN (.store 32 (oTt 11) (oTt 70)),oP 12 (oAs 71)]
abbrev Xl2:Code:=oRg Xyw
abbrev X0l:List Oper:=[oP 73 (oMv 1),oP 74 (oMv 2),oP 75 (oCa 39 #[(oTt 73),(oTt 74)] #[40,3]),oP 72 (oMv 75),oP 76 (.extract (oTt 72) 0),oP 77 (.extract (oTt 72) 1),oP 13 (.alloc 74),oN (.store 74 (oTt 13) (oTt 76)),oP 14 (oAs 77)]
abbrev X7e:Code:=oRg X0l
abbrev Xzu:List Oper:=[oP 79 (oMv 0),oP 80 (oMv 2),oP 81 (oCa 19 #[(oTt 79),(oTt 80)] #[23,3]),oP 78 (oMv 81),oP 82 (.extract (oTt 78) 0),oP 83 (.extract (oTt 78) 1),oP 15 (.alloc 30),oN (.store 30 (oTt 15) (oTt 82)),oP 16 (oAs 83)]
abbrev X8m:Code:=oRg Xzu
abbrev Xym:List Oper:=[oP 85 (oMv 1),oP 86 (oMv 2),oP 87 (oCa 40 #[(oTt 85),(oTt 86)] #[40,3]),oP 84 (oMv 87),oP 88 (.extract (oTt 84) 0),oP 89 (.extract (oTt 84) 1),oP 17 (.alloc 30),oN (.store 30 (oTt 17) (oTt 88)),oP 18 (oAs 89)]
abbrev X28:Code:=oRg Xym
noncomputable def Qjb:Array Oper:=Qmh (Qmr 20 (V7 16))
def X8d:Code:=.region 20 Qjb true
abbrev Qt2:List Oper:=[oP 90 (oLd 32 11),oP 91 (oCa 31 #[(oTt 90)] #[32]),oP 92 (oLd 74 13),oP 93 (.binOp .eql 74 (oTt 91) (oTt 92) 74),oP 94 (oMv 93),oG 4 true 95 (oMv 12),oG 4 true 96 (oMv 14),oG 4 true 97 (.binOp .eql 3 (oTt 95) (oTt 96) 3),oP 98 (.pick (oTt 94) (oTt 97) (.const (.bool false))),oP 99 (oMv 98),oG 9 true 100 (oLd 30 15),oG 9 true 101 (oLd 30 17),oG 9 true 102 (.binOp .eql 30 (oTt 100) (oTt 101) 30),oP 103 (.pick (oTt 99) (oTt 102) (.const (.bool false))),oP 104 (oMv 103),oG 14 true 105 (oMv 16),oG 14 true 106 (oMv 18),oG 14 true 107 (.binOp .eql 4 (oTt 105) (oTt 106) 4),oP 108 (.pick (oTt 104) (oTt 107) (.const (.bool false))),oP 6 (oAs 108)]
def Qev:List Oper:=Qt2
theorem Xr6:Qjb.toList.map bare=Qt2:=by kernel_rfl
theorem Xje:Qjb.toList.map bare=Qev:=Xr6
def Qfd:List Nat:=[0,1,0,7,15,31,31,127,255,511,1023,1023,4095,8191,16383,32767,32767,131071,262143,524287]
theorem Xqo:Qrx Qjb.toList []=some Qfd:=by kernel_rfl
theorem Xk9:Qa6 Qjb.toList Qjb.toList Qfd []=true:=by kernel_rfl
theorem Xsu(b:Nat)(L:List KE)(s:St):Ab.runT (E b) L Qev Qfd Qev 0 s=Ab.runT (E b) L Qev Qfd Qt2 0 s:=rfl
theorem Xsk:nth Qev 4=some ⟨(some 94),.move (.tmp 93),0,"",#[],none⟩:=rfl
theorem Xsl:nth Qev 9=some ⟨(some 99),.move (.tmp 98),0,"",#[],none⟩:=rfl
theorem Xra:nth Qev 14=some ⟨(some 104),.move (.tmp 103),0,"",#[],none⟩:=rfl
theorem Xu4(b:Nat):Qaz (E b) 1 ((nth Qfd 1).getD 0) Qev Qfd 0=true:=by kernel_rfl
abbrev Ybz:Code:=.seq X8d .ret
abbrev X97:Code:=.seq X28 Ybz
abbrev X9l:Code:=.seq X8m X97
abbrev Xnk:Code:=.seq X7e X9l
def Qy9:Code:=.seq Xl2 Xnk
theorem Jt:oSQ Qy9 Xl2 Xnk:=fun _ _=>rfl
abbrev X7w:Code:=.seq X57 Qy9
abbrev X5e:Code:=.seq X8p X7w
abbrev X2o:Code:=.seq Yb9 X5e
abbrev X62:Code:=.seq X7l X2o
abbrev Yax:Code:=.seq Yec X62
abbrev Ydr:Code:=.seq Yfl Yax
def U5:Code:=Ydr
theorem Yf8:Qdk (V7 16)=U5:=by kernel_rfl
theorem X14:Qru.body=some (V7 16):=by kernel_rfl
theorem Yi0:Qru.ntmps=109:=by kernel_rfl
theorem We:Qru.results.toList=[.tmp 6]:=by kernel_rfl
def Qvz:List Oper:=Qb8
def Qw0:Code:=oRg Qvz
theorem Us:oRQ Qw0 Qvz Qb8:=fun _ _=>rfl
abbrev Xm9:List Oper:=[oP 13 (oMv 0),oP 14 (oMv 1),oP 15 (oCa 8 #[(oTt 13),(oTt 14)] #[3,3]),oP 12 (oMv 15),oP 16 (.extract (oTt 12) 0),oP 17 (.extract (oTt 12) 1),oP 7 (oAs 16),oP 8 (oAs 17)]
abbrev Xs5:Code:=oRg Xm9
abbrev Xkq:List Oper:=[oP 19 (oMv 0),oP 20 (oMv 1),oP 21 (oCa 14 #[(oTt 19),(oTt 20)] #[3,3]),oP 18 (oMv 21),oP 22 (.extract (oTt 18) 0),oP 23 (.extract (oTt 18) 1),oP 9 (oAs 22),oP 10 (oAs 23)]
abbrev Xrf:Code:=oRg Xkq
abbrev Qui:List Oper:=[oP 24 (oMv 8),oP 25 (oMv 10),oP 26 (.binOp .neq 24 (oTt 24) (oTt 25) 24),oP 27 (oMv 26),oG 3 false 28 (oMv 7),oG 3 false 29 (.binOp .eql 23 (oTt 28) (.const (.pointer none)) 23),oG 3 false 30 (oMv 8),oG 3 false 31 (.binOp .neq 24 (oTt 30) (oCi 0) 24),oG 3 false 32 (.binOp .neq 4 (oTt 29) (oTt 31) 4),oP 33 (.pick (oTt 27) (.const (.bool true)) (oTt 32))]
def Qof:List Oper:=Qui
def Qw1:Code:=oRg Qof
theorem Ut:oRQ Qw1 Qof Qui:=fun _ _=>rfl
theorem Uh:nth Qof 3=some ⟨(some 27),.move (.tmp 26),0,"",#[],none⟩:=rfl
def Qvw:List Oper:=Qb8
def Qvv:Code:=oRg Qvw
theorem Uu:oRQ Qvv Qvw Qb8:=fun _ _=>rfl
abbrev Xq7:Code:=.seq Qvv .ret
abbrev Xoh:Code:=.cond (.tmp 33) Xq7 .skip
abbrev Xrd:Code:=.seq Qw1 Xoh
abbrev Qsh:List Oper:=[oP 34 (oMv 8),oP 35 (.binOp .neq 24 (oTt 34) (oCi 0) 24),oP 36 (oMv 35),oG 2 false 37 (oMv 2),oG 2 false 38 (oBu .len #[(oTt 37)] #[22]),oG 2 false 39 (.binOp .gtr 3 (oTt 38) (oCi 200) 3),oP 40 (.pick (oTt 36) (.const (.bool true)) (oTt 39))]
def Qn7:List Oper:=Qsh
def Quc:Code:=oRg Qn7
theorem Ug:oRQ Quc Qn7 Qsh:=fun _ _=>rfl
theorem U4:nth Qn7 2=some ⟨(some 36),.move (.tmp 35),0,"",#[],none⟩:=rfl
abbrev Xfo:List Oper:=[oP 41 (oCa 9 #[] #[]),oP 6 (oAs 41)]
abbrev Xmy:Code:=oRg Xfo
abbrev Xn2:Code:=.seq Xmy .ret
abbrev Xmk:Code:=.cond (.tmp 40) Xn2 .skip
abbrev Xoc:Code:=.seq Quc Xmk
abbrev Xj2:List Oper:=[oP 11 (.assign (oCi 0))]
abbrev Xnb:Code:=oRg Xj2
abbrev Xgj:List Oper:=[oP 42 (oMv 11),oP 43 (oMv 2),oP 44 (oBu .len #[(oTt 43)] #[22]),oP 45 (.binOp .lss 3 (oTt 42) (oTt 44) 3)]
abbrev Xlx:Code:=oRg Xgj
abbrev Xki:Code:=.cond (.tmp 45) .skip (.exit 0)
abbrev Xk2:Code:=.seq Xlx Xki
abbrev Qsk:List Oper:=[oP 48 (oMv 7),oP 49 (oMv 9),oP 50 (oMv 2),oP 51 (oMv 11),oP 52 (oIx 22 50 51),oP 53 (oLd 34 52),oP 54 (oCa 15 #[(oTt 48),(oTt 49),(oTt 53)] #[23,40,34]),oP 55 (.unOp .not 4 (oTt 54)),oP 56 (oMv 55),oG 8 false 57 (oMv 7),oG 8 false 58 (oMv 9),oG 8 false 59 (oMv 2),oG 8 false 60 (oMv 11),oG 8 false 61 (oIx 22 59 60),oG 8 false 62 (oFa 34 61 1),oG 8 false 63 (oLd 3 62),oG 8 false 64 (oCa 16 #[(oTt 57),(oTt 58),(oTt 63)] #[23,40,3]),oG 8 false 65 (.unOp .not 4 (oTt 64)),oP 66 (.pick (oTt 56) (.const (.bool true)) (oTt 65)),oP 67 (oMv 66),oG 19 false 68 (oMv 7),oG 19 false 69 (oMv 9),oG 19 false 70 (oMv 2),oG 19 false 71 (oMv 11),oG 19 false 72 (oIx 22 70 71),oG 19 false 73 (oFa 34 72 3),oG 19 false 74 (oFa 32 73 1),oG 19 false 75 (oLd 3 74),oG 19 false 76 (oCa 16 #[(oTt 68),(oTt 69),(oTt 75)] #[23,40,3]),oG 19 false 77 (.unOp .not 4 (oTt 76)),oP 78 (.pick (oTt 67) (.const (.bool true)) (oTt 77))]
def Qik:List Oper:=Qsk
def Qum:Code:=oRg Qik
theorem Uf:oRQ Qum Qik Qsk:=fun _ _=>rfl
theorem U3:nth Qik 8=some ⟨(some 56),.move (.tmp 55),0,"",#[],none⟩:=rfl
theorem Vq:nth Qik 19=some ⟨(some 67),.move (.tmp 66),0,"",#[],none⟩:=rfl
def Qv3:List Oper:=Qb8
def Qul:Code:=oRg Qv3
theorem Ue:oRQ Qul Qv3 Qb8:=fun _ _=>rfl
abbrev Xlu:Code:=.seq Qul .ret
abbrev Xkb:Code:=.cond (.tmp 78) Xlu .skip
abbrev Xmc:Code:=.seq Qum Xkb
abbrev Xnl:Code:=.block 1 Xmc
abbrev Xg2:List Oper:=[oP 46 (oMv 11),oP 47 (.binOp .add 3 (oTt 46) (oCi 1) 3),oP 11 (oAs 47)]
abbrev Xlz:Code:=oRg Xg2
abbrev Xly:Code:=.seq Xnl Xlz
abbrev Xl8:Code:=.seq Xk2 Xly
def Xkm:Code:=.loop Xl8
abbrev Xlr:Code:=.block 0 Xkm
abbrev Xmh:Code:=.seq Xnb Xlr
abbrev Xh0:List Oper:=[oP 79 (oCa 9 #[] #[]),oP 6 (oAs 79)]
abbrev Xp9:Code:=oRg Xh0
abbrev Xkz:Code:=.seq Xp9 .ret
abbrev Xm7:Code:=.seq Xmh Xkz
abbrev Xnu:Code:=.seq Xoc Xm7
abbrev Xnx:Code:=.seq Xrd Xnu
abbrev Xqp:Code:=.seq Xrf Xnx
abbrev Xrl:Code:=.seq Xs5 Xqp
abbrev Xr5:Code:=.seq Qw0 Xrl
def Uc:Code:=Xr5
theorem Xri:Qdk (V7 4)=Uc:=by kernel_rfl
theorem Xg6:Qko.body=some (V7 4):=by kernel_rfl
theorem Xth:Qko.ntmps=80:=by kernel_rfl
theorem Wd:Qko.results.toList=[.tmp 6]:=by kernel_rfl
abbrev Qt5:List Oper:=[oP 2 (.assign (oCi 0))]
abbrev Xy8:Code:=oRg Qt5
abbrev Xxe:List Oper:=[oP 3 (oMv 2),oP 4 (oMv 0),oP 5 (oBu .len #[(oTt 4)] #[53]),oP 6 (.binOp .lss 3 (oTt 3) (oTt 5) 3)]
abbrev Xzt:Code:=oRg Xxe
abbrev Xyb:Code:=.cond (.tmp 6) .skip (.exit 0)
abbrev Xzz:Code:=.seq Xzt Xyb
abbrev Xx0:List Oper:=[oP 9 (oMv 0),oP 10 (oMv 2),oP 11 (oMv 2),oP 12 (.binOp .add 3 (oTt 11) (oCi 7) 3),oP 13 (oCa 49 #[(oTt 12)] #[3]),oP 14 (oIx 53 9 10),oN (.store 3 (oTt 14) (oTt 13))]
abbrev Xz2:Code:=oRg Xx0
abbrev X1e:Code:=.block 1 Xz2
abbrev Xw3:List Oper:=[oP 7 (oMv 2),oP 8 (.binOp .add 3 (oTt 7) (oCi 1) 3),oP 2 (oAs 8)]
abbrev X1f:Code:=oRg Xw3
abbrev Xze:Code:=.seq X1e X1f
abbrev X16:Code:=.seq Xzz Xze
def Xwi:Code:=.loop X16
abbrev Xwc:Code:=.block 0 Xwi
abbrev Xys:Code:=.seq Xy8 Xwc
def Qii:Code:=Xys
theorem X0n:Qdk (V7 35)=Qii:=by kernel_rfl
theorem Xul:Qr3.body=some (V7 35):=by kernel_rfl
theorem X47:Qr3.ntmps=15:=by kernel_rfl
theorem Qpb:Qr3.results.toList=[]:=by kernel_rfl
def Xpd:List Oper:=Qt5
def Xm8:Code:=oRg Xpd
theorem Xwg:oRQ Xm8 Xpd Qt5:=fun _ _=>rfl
abbrev X10:List Oper:=[oP 3 (oMv 0),oP 4 (.binOp .mul 3 (oCi 13) (oTt 3) 3),oP 5 (.binOp .add 3 (oCi 7001) (oTt 4) 3),oP 2 (oAs 5)]
abbrev Yak:Code:=oRg X10
abbrev X91:Code:=.seq Yak .ret
abbrev Ybg:Code:=.seq Xm8 X91
def Q7v:Code:=Ybg
theorem Ybc:Qdk (V7 49)=Q7v:=by kernel_rfl
theorem Xxf:Qtv.body=some (V7 49):=by kernel_rfl
theorem Ye1:Qtv.ntmps=6:=by kernel_rfl
theorem X3n:Qtv.results.toList=[.tmp 2]:=by kernel_rfl
end Go.Proofs.YtcokebbiblnonaaDoor
