/-
  Facts of the functions' code and of the types, printed by a program (ShD).
-/
import Derived.Test.YtcokebbiblnonaaDoorFactsK
set_option linter.all false
noncomputable section
namespace Go.Proofs.YtcokebbiblnonaaDoor
open Go Go.Ab
set_option maxRecDepth 100000
noncomputable def Qtj:Func:=(Tryd.prog.funcs[68]?).getD default
theorem Ze(b:Nat):(mkE Tryd.prog nv b).fn.get 68=some Qtj:=by kernel_rfl
noncomputable def Zao:TyRec:=((mkE Tryd.prog nv 0).ty.get 109).getD ⟨.invalid,0,0,.bool false,[]⟩
theorem Y8q(b:Nat):(E b).toEnv.ty.get 109=some Zao:=by kernel_rfl
theorem Yt4(b:Nat):SlTy (E b).toEnv 90 109 R90 Zao:=⟨Y1g b,Y8q b,by kernel_rfl⟩
noncomputable def Qtt:Func:=(Tryd.prog.funcs[73]?).getD default
theorem Vc(b:Nat):(mkE Tryd.prog nv b).fn.get 73=some Qtt:=by kernel_rfl
noncomputable def Zai:TyRec:=((mkE Tryd.prog nv 0).ty.get 128).getD ⟨.invalid,0,0,.bool false,[]⟩
theorem Y80(b:Nat):(E b).toEnv.ty.get 128=some Zai:=by kernel_rfl
theorem Zag(b:Nat):SlTy (E b).toEnv 53 128 R53 Zai:=⟨Y4l b,Y80 b,by kernel_rfl⟩
noncomputable def Qte:Func:=(Tryd.prog.funcs[74]?).getD default
theorem Vb(b:Nat):(mkE Tryd.prog nv b).fn.get 74=some Qte:=by kernel_rfl
noncomputable def Qwj:Func:=(Tryd.prog.funcs[77]?).getD default
theorem Qa1(b:Nat):(mkE Tryd.prog nv b).fn.get 77=some Qwj:=by kernel_rfl
theorem Yko(x y:Int):Qdj (binOp .sub 87 (.int .u64 x) (.int .u64 y))=some (.int .u64 (IntKind.wrap .u64 (x-y))):=by kernel_rfl
noncomputable def Q23:Func:=(Tryd.prog.funcs[75]?).getD default
theorem Jx(b:Nat):(mkE Tryd.prog nv b).fn.get 75=some Q23:=by kernel_rfl
theorem V2(b:Nat){bk o n c:Nat}{k:IntKind}{i:Int}(h:0≤i∧i < n):J2 (E b).toEnv 53 (.slice (some ⟨bk,o,none⟩) n c) (.int k i)=some (.pointer (some ⟨bk,o+i.toNat*1,none⟩)):=Qgs (T53 b) Qt6 h
theorem Qal(b:Nat){bk o n c:Nat}{k:IntKind}{i:Int}(h:0≤i∧i < n):J2 (E b).toEnv 109 (.slice (some ⟨bk,o,none⟩) n c) (.int k i)=some (.pointer (some ⟨bk,o+i.toNat*1,none⟩)):=Qgs (Yt4 b) Qke h
theorem Qb7(x y:Int):Qdj (binOp .add 90 (.int .u32 x) (.int .u32 y))=some (.int .u32 (IntKind.wrap .u32 (x+y))):=by kernel_rfl
noncomputable def Qkg:Func:=(Tryd.prog.funcs[69]?).getD default
theorem Zw(b:Nat):(mkE Tryd.prog nv b).fn.get 69=some Qkg:=by kernel_rfl
theorem Qrz(b:Nat){bk o n c:Nat}{k:IntKind}{i:Int}(h:0≤i∧i < n):J2 (E b).toEnv 51 (.slice (some ⟨bk,o,none⟩) n c) (.int k i)=some (.pointer (some ⟨bk,o+i.toNat*1,none⟩)):=Qgs (T51 b) Qhd h
theorem Xvv(b:Nat)(h:Heap)(bk o:Nat):Qnh (E b).toEnv 5 (.pointer (some ⟨bk,o,none⟩)) h=Vs h bk o:=Yad (Y55 b) Y85
theorem Qew(b:Nat):Qww (E b).toEnv 5 90=true:=by kernel_rfl
theorem Qex(b:Nat)(k:IntKind)(n:Int):Qrl (E b).toEnv 5 90 (.int k n)=some (.int .u32 (IntKind.wrap .u32 n)):=by kernel_rfl
theorem Qey(x y:Int):Qdj (binOp .mul 90 (.int .u32 x) (.int .u32 y))=some (.int .u32 (IntKind.wrap .u32 (x*y))):=by kernel_rfl
theorem Jp(x:Int):Qdj (binOp .rem 93 (.int .u64 x) (.int .u64 4294967296))=some (.int .u64 (Int.tmod x 4294967296)):=by kernel_rfl
theorem Qca(b:Nat):Qww (E b).toEnv 93 90=true:=by kernel_rfl
theorem Qc9(b:Nat)(k:IntKind)(n:Int):Qrl (E b).toEnv 93 90 (.int k n)=some (.int .u32 (IntKind.wrap .u32 n)):=by kernel_rfl
theorem Jq(x:Int):Qdj (binOp .quo 93 (.int .u64 x) (.int .u64 4294967296))=some (.int .u64 (IntKind.wrap .u64 (Int.tdiv x 4294967296))):=by kernel_rfl
theorem Qj5(b:Nat){bk o n c:Nat}{k:IntKind}{i:Int}(h:0≤i∧i < n):J2 (E b).toEnv 128 (.slice (some ⟨bk,o,none⟩) n c) (.int k i)=some (.pointer (some ⟨bk,o+i.toNat*1,none⟩)):=Qgs (Zag b) Yrh h
theorem Qry(b:Nat)(h:Heap)(bk o:Nat):Qnh (E b).toEnv 53 (.pointer (some ⟨bk,o,none⟩)) h=Vs h bk o:=Yad (Y4l b) Y4o
noncomputable def Qkp:Func:=(Tryd.prog.funcs[61]?).getD default
theorem W6(b:Nat):(mkE Tryd.prog nv b).fn.get 61=some Qkp:=by kernel_rfl
theorem Qaw(x:Int):Qdj (binOp .quo 90 (.int .u32 x) (.int .u32 256))=some (.int .u32 (IntKind.wrap .u32 (Int.tdiv x 256))):=by kernel_rfl
theorem Qb1(x:Int):Qdj (binOp .rem 90 (.int .u32 x) (.int .u32 256))=some (.int .u32 (Int.tmod x 256)):=by kernel_rfl
noncomputable def Xcr:Func:=(Tryd.prog.funcs[48]?).getD default
theorem Qbh(b:Nat):(mkE Tryd.prog nv b).fn.get 48=some Xcr:=by kernel_rfl
abbrev Ql6:List Oper:=[oP 0 (.assign (.const (.slice none 0 0)))]
abbrev X6v:Code:=oRg Ql6
abbrev X1d:List Oper:=[oP 1 (.buildSlice 109 8 #[(0,(.const (.int .u32 1779033703))),(1,(.const (.int .u32 3144134277))),(2,(.const (.int .u32 1013904242))),(3,(.const (.int .u32 2773480762))),(4,(.const (.int .u32 1359893119))),(5,(.const (.int .u32 2600822924))),(6,(.const (.int .u32 528734635))),(7,(.const (.int .u32 1541459225)))]),oP 0 (oAs 1)]
abbrev X6l:Code:=oRg X1d
abbrev X71:Code:=.seq X6l .ret
abbrev X4f:Code:=.seq X6v X71
def Q7p:Code:=X4f
theorem Ybb:Qdk (V7 68)=Q7p:=by kernel_rfl
theorem Xvy:Qtj.body=some (V7 68):=by kernel_rfl
theorem Yd1:Qtj.ntmps=2:=by kernel_rfl
theorem X5q:Qtj.results.toList=[.tmp 0]:=by kernel_rfl
def Xp1:List Oper:=Ql6
def Xjk:Code:=oRg Xp1
theorem Xwj:oRQ Xjk Xp1 Ql6:=fun _ _=>rfl
abbrev X0c:List Oper:=[oP 1 (.buildSlice 53 16 #[(0,(oCi 0)),(1,(oCi 1)),(2,(oCi 2)),(3,(oCi 3)),(4,(oCi 4)),(5,(oCi 5)),(6,(oCi 6)),(7,(oCi 7)),(8,(oCi 8)),(9,(oCi 9)),(10,(oCi 10)),(11,(oCi 11)),(12,(oCi 12)),(13,(oCi 13)),(14,(oCi 14)),(15,(oCi 15))]),oP 2 (.buildSlice 53 16 #[(0,(oCi 14)),(1,(oCi 10)),(2,(oCi 4)),(3,(oCi 8)),(4,(oCi 9)),(5,(oCi 15)),(6,(oCi 13)),(7,(oCi 6)),(8,(oCi 1)),(9,(oCi 12)),(10,(oCi 0)),(11,(oCi 2)),(12,(oCi 11)),(13,(oCi 7)),(14,(oCi 5)),(15,(oCi 3))]),oP 3 (.buildSlice 53 16 #[(0,(oCi 11)),(1,(oCi 8)),(2,(oCi 12)),(3,(oCi 0)),(4,(oCi 5)),(5,(oCi 2)),(6,(oCi 15)),(7,(oCi 13)),(8,(oCi 10)),(9,(oCi 14)),(10,(oCi 3)),(11,(oCi 6)),(12,(oCi 7)),(13,(oCi 1)),(14,(oCi 9)),(15,(oCi 4))]),oP 4 (.buildSlice 53 16 #[(0,(oCi 7)),(1,(oCi 9)),(2,(oCi 3)),(3,(oCi 1)),(4,(oCi 13)),(5,(oCi 12)),(6,(oCi 11)),(7,(oCi 14)),(8,(oCi 2)),(9,(oCi 6)),(10,(oCi 5)),(11,(oCi 10)),(12,(oCi 4)),(13,(oCi 0)),(14,(oCi 15)),(15,(oCi 8))]),oP 5 (.buildSlice 53 16 #[(0,(oCi 9)),(1,(oCi 0)),(2,(oCi 5)),(3,(oCi 7)),(4,(oCi 2)),(5,(oCi 4)),(6,(oCi 10)),(7,(oCi 15)),(8,(oCi 14)),(9,(oCi 1)),(10,(oCi 11)),(11,(oCi 12)),(12,(oCi 6)),(13,(oCi 8)),(14,(oCi 3)),(15,(oCi 13))]),oP 6 (.buildSlice 53 16 #[(0,(oCi 2)),(1,(oCi 12)),(2,(oCi 6)),(3,(oCi 10)),(4,(oCi 0)),(5,(oCi 11)),(6,(oCi 8)),(7,(oCi 3)),(8,(oCi 4)),(9,(oCi 13)),(10,(oCi 7)),(11,(oCi 5)),(12,(oCi 15)),(13,(oCi 14)),(14,(oCi 1)),(15,(oCi 9))]),oP 7 (.buildSlice 53 16 #[(0,(oCi 12)),(1,(oCi 5)),(2,(oCi 1)),(3,(oCi 15)),(4,(oCi 14)),(5,(oCi 13)),(6,(oCi 4)),(7,(oCi 10)),(8,(oCi 0)),(9,(oCi 7)),(10,(oCi 6)),(11,(oCi 3)),(12,(oCi 9)),(13,(oCi 2)),(14,(oCi 8)),(15,(oCi 11))]),oP 8 (.buildSlice 53 16 #[(0,(oCi 13)),(1,(oCi 11)),(2,(oCi 7)),(3,(oCi 14)),(4,(oCi 12)),(5,(oCi 1)),(6,(oCi 3)),(7,(oCi 9)),(8,(oCi 5)),(9,(oCi 0)),(10,(oCi 15)),(11,(oCi 4)),(12,(oCi 8)),(13,(oCi 6)),(14,(oCi 2)),(15,(oCi 10))]),oP 9 (.buildSlice 53 16 #[(0,(oCi 6)),(1,(oCi 15)),(2,(oCi 14)),(3,(oCi 9)),(4,(oCi 11)),(5,(oCi 3)),(6,(oCi 0)),(7,(oCi 8)),(8,(oCi 12)),(9,(oCi 2)),(10,(oCi 13)),(11,(oCi 7)),(12,(oCi 1)),(13,(oCi 4)),(14,(oCi 10)),(15,(oCi 5))]),oP 10 (.buildSlice 53 16 #[(0,(oCi 10)),(1,(oCi 2)),(2,(oCi 8)),(3,(oCi 4)),(4,(oCi 7)),(5,(oCi 6)),(6,(oCi 1)),(7,(oCi 5)),(8,(oCi 15)),(9,(oCi 11)),(10,(oCi 9)),(11,(oCi 14)),(12,(oCi 3)),(13,(oCi 12)),(14,(oCi 13)),(15,(oCi 0))]),oP 11 (.buildSlice 128 10 #[(0,(oTt 1)),(1,(oTt 2)),(2,(oTt 3)),(3,(oTt 4)),(4,(oTt 5)),(5,(oTt 6)),(6,(oTt 7)),(7,(oTt 8)),(8,(oTt 9)),(9,(oTt 10))]),oP 0 (oAs 11)]
abbrev X53:Code:=oRg X0c
abbrev Yal:Code:=.seq X53 .ret
abbrev X72:Code:=.seq Xjk Yal
def Q8x:Code:=X72
theorem X8i:Qdk (V7 73)=Q8x:=by kernel_rfl
theorem Xw5:Qtt.body=some (V7 73):=by kernel_rfl
theorem Ycx:Qtt.ntmps=12:=by kernel_rfl
theorem Yb7:Qtt.results.toList=[.tmp 0]:=by kernel_rfl
def Xk0:List Oper:=Ql6
def Xlb:Code:=oRg Xk0
theorem Xxa:oRQ Xlb Xk0 Ql6:=fun _ _=>rfl
abbrev Xzj:List Oper:=[oP 1 (.buildSlice 53 4 #[(0,(oCi 0)),(1,(oCi 4)),(2,(oCi 8)),(3,(oCi 12))]),oP 2 (.buildSlice 53 4 #[(0,(oCi 1)),(1,(oCi 5)),(2,(oCi 9)),(3,(oCi 13))]),oP 3 (.buildSlice 53 4 #[(0,(oCi 2)),(1,(oCi 6)),(2,(oCi 10)),(3,(oCi 14))]),oP 4 (.buildSlice 53 4 #[(0,(oCi 3)),(1,(oCi 7)),(2,(oCi 11)),(3,(oCi 15))]),oP 5 (.buildSlice 53 4 #[(0,(oCi 0)),(1,(oCi 5)),(2,(oCi 10)),(3,(oCi 15))]),oP 6 (.buildSlice 53 4 #[(0,(oCi 1)),(1,(oCi 6)),(2,(oCi 11)),(3,(oCi 12))]),oP 7 (.buildSlice 53 4 #[(0,(oCi 2)),(1,(oCi 7)),(2,(oCi 8)),(3,(oCi 13))]),oP 8 (.buildSlice 53 4 #[(0,(oCi 3)),(1,(oCi 4)),(2,(oCi 9)),(3,(oCi 14))]),oP 9 (.buildSlice 128 8 #[(0,(oTt 1)),(1,(oTt 2)),(2,(oTt 3)),(3,(oTt 4)),(4,(oTt 5)),(5,(oTt 6)),(6,(oTt 7)),(7,(oTt 8))]),oP 0 (oAs 9)]
abbrev Yc5:Code:=oRg Xzj
abbrev X8y:Code:=.seq Yc5 .ret
abbrev X7n:Code:=.seq Xlb X8y
def Q7h:Code:=X7n
theorem Ybt:Qdk (V7 74)=Q7h:=by kernel_rfl
theorem Xww:Qte.body=some (V7 74):=by kernel_rfl
theorem Ycw:Qte.ntmps=10:=by kernel_rfl
theorem X7c:Qte.results.toList=[.tmp 0]:=by kernel_rfl
abbrev X8b:List Oper:=[oP 4 (.assign (.const (.int .u32 0)))]
abbrev Ydm:Code:=oRg X8b
abbrev X6p:List Oper:=[oP 5 (oMv 0),oP 6 (oMv 1),oP 7 (.binOp .shr 90 (oTt 5) (oTt 6) 87),oP 8 (oMv 0),oP 9 (oMv 1),oP 10 (.binOp .sub 87 (.const (.int .u64 32)) (oTt 9) 87),oP 11 (.binOp .shl 90 (oTt 8) (oTt 10) 87),oP 12 (.binOp .or 90 (oTt 7) (oTt 11) 90),oP 4 (oAs 12)]
abbrev Yfq:Code:=oRg X6p
abbrev Yck:Code:=.seq Yfq .ret
abbrev Yce:Code:=.seq Ydm Yck
def Qku:Code:=Yce
theorem Ydl:Qdk (V7 77)=Qku:=by kernel_rfl
theorem X0p:Qwj.body=some (V7 77):=by kernel_rfl
theorem Yjo:Qwj.ntmps=13:=by kernel_rfl
theorem Qtr:Qwj.results.toList=[.tmp 4]:=by kernel_rfl
noncomputable def Qng:Array Oper:=Qmh (Qmr 0 (V7 75))
def Yid:Code:=.region 0 Qng true
abbrev Qyg:List Oper:=[oP 10 (oMv 0),oP 11 (oMv 1),oP 12 (.indexAddr 53 (oTt 11) (oCi 0)),oP 13 (oLd 3 12),oP 14 (oMv 0),oP 15 (oMv 1),oP 16 (.indexAddr 53 (oTt 15) (oCi 0)),oP 17 (oLd 3 16),oP 18 (oIx 109 14 17),oP 19 (oLd 90 18),oP 20 (oMv 0),oP 21 (oMv 1),oP 22 (.indexAddr 53 (oTt 21) (oCi 1)),oP 23 (oLd 3 22),oP 24 (oIx 109 20 23),oP 25 (oLd 90 24),oP 26 (.binOp .add 90 (oTt 19) (oTt 25) 90),oP 27 (oMv 2),oP 28 (.binOp .add 90 (oTt 26) (oTt 27) 90),oP 29 (oIx 109 10 13),oN (.store 90 (oTt 29) (oTt 28))]
def Qp7:List Oper:=Qyg
theorem Xup:Qng.toList.map bare=Qyg:=by kernel_rfl
theorem Xsj:Qng.toList.map bare=Qp7:=Xup
def Qhn:List Nat:=[0,0,2,6,0,0,32,96,240,496,0,0,2048,6144,15360,31744,65520,0,262128,524287,1048575]
theorem Xvq:Qrx Qng.toList []=some Qhn:=by kernel_rfl
theorem Xtq:Qa6 Qng.toList Qng.toList Qhn []=true:=by kernel_rfl
theorem Xw4(b:Nat)(L:List KE)(s:St):Ab.runT (E b) L Qp7 Qhn Qp7 0 s=Ab.runT (E b) L Qp7 Qhn Qyg 0 s:=rfl
theorem Xw7(b:Nat):Qaz (E b) 20 ((nth Qhn 20).getD 0) Qp7 Qhn 0=true:=by kernel_rfl
noncomputable def Qnd:Array Oper:=Qmh (Qmr 1 (V7 75))
def Yji:Code:=.region 1 Qnd true
abbrev Qxj:List Oper:=[oP 30 (oMv 0),oP 31 (oMv 1),oP 32 (.indexAddr 53 (oTt 31) (oCi 3)),oP 33 (oLd 3 32),oP 34 (oMv 0),oP 35 (oMv 1),oP 36 (.indexAddr 53 (oTt 35) (oCi 3)),oP 37 (oLd 3 36),oP 38 (oIx 109 34 37),oP 39 (oLd 90 38),oP 40 (oMv 0),oP 41 (oMv 1),oP 42 (.indexAddr 53 (oTt 41) (oCi 0)),oP 43 (oLd 3 42),oP 44 (oIx 109 40 43),oP 45 (oLd 90 44),oP 46 (.binOp .xor 90 (oTt 39) (oTt 45) 90),oP 47 (oMv 3),oP 48 (oCa 77 #[(oTt 46),(oTt 47)] #[90,87]),oP 49 (oIx 109 30 33),oN (.store 90 (oTt 49) (oTt 48))]
def Qld:List Oper:=Qxj
theorem Xu2:Qnd.toList.map bare=Qxj:=by kernel_rfl
theorem Xtv:Qnd.toList.map bare=Qld:=Xu2
def Qej:List Nat:=[0,0,2,6,0,0,32,96,240,496,0,0,2048,6144,15360,31744,65520,0,262128,524287,1048575]
theorem Xvm:Qrx Qnd.toList []=some Qej:=by kernel_rfl
theorem Xts:Qa6 Qnd.toList Qnd.toList Qej []=true:=by kernel_rfl
theorem Xwz(b:Nat)(L:List KE)(s:St):Ab.runT (E b) L Qld Qej Qld 0 s=Ab.runT (E b) L Qld Qej Qxj 0 s:=rfl
theorem Xwk(b:Nat):Qaz (E b) 18 ((nth Qej 18).getD 0) Qld Qej 0=true:=by kernel_rfl
theorem Xvw(b:Nat):Qaz (E b) 20 ((nth Qej 20).getD 0) Qld Qej 0=true:=by kernel_rfl
noncomputable def Qnc:Array Oper:=Qmh (Qmr 2 (V7 75))
def Yhx:Code:=.region 2 Qnc true
abbrev Qxz:List Oper:=[oP 50 (oMv 0),oP 51 (oMv 1),oP 52 (.indexAddr 53 (oTt 51) (oCi 2)),oP 53 (oLd 3 52),oP 54 (oMv 0),oP 55 (oMv 1),oP 56 (.indexAddr 53 (oTt 55) (oCi 2)),oP 57 (oLd 3 56),oP 58 (oIx 109 54 57),oP 59 (oLd 90 58),oP 60 (oMv 0),oP 61 (oMv 1),oP 62 (.indexAddr 53 (oTt 61) (oCi 3)),oP 63 (oLd 3 62),oP 64 (oIx 109 60 63),oP 65 (oLd 90 64),oP 66 (.binOp .add 90 (oTt 59) (oTt 65) 90),oP 67 (oIx 109 50 53),oN (.store 90 (oTt 67) (oTt 66))]
def Qp2:List Oper:=Qxz
theorem Xu3:Qnc.toList.map bare=Qxz:=by kernel_rfl
theorem Xtd:Qnc.toList.map bare=Qp2:=Xu3
def Qho:List Nat:=[0,0,2,6,0,0,32,96,240,496,0,0,2048,6144,15360,31744,65520,131071,262143]
theorem Xv9:Qrx Qnc.toList []=some Qho:=by kernel_rfl
theorem Xtu:Qa6 Qnc.toList Qnc.toList Qho []=true:=by kernel_rfl
theorem Xxo(b:Nat)(L:List KE)(s:St):Ab.runT (E b) L Qp2 Qho Qp2 0 s=Ab.runT (E b) L Qp2 Qho Qxz 0 s:=rfl
theorem Xxm(b:Nat):Qaz (E b) 18 ((nth Qho 18).getD 0) Qp2 Qho 0=true:=by kernel_rfl
noncomputable def Qn9:Array Oper:=Qmh (Qmr 3 (V7 75))
def Yiz:Code:=.region 3 Qn9 true
abbrev Qxq:List Oper:=[oP 68 (oMv 0),oP 69 (oMv 1),oP 70 (.indexAddr 53 (oTt 69) (oCi 1)),oP 71 (oLd 3 70),oP 72 (oMv 0),oP 73 (oMv 1),oP 74 (.indexAddr 53 (oTt 73) (oCi 1)),oP 75 (oLd 3 74),oP 76 (oIx 109 72 75),oP 77 (oLd 90 76),oP 78 (oMv 0),oP 79 (oMv 1),oP 80 (.indexAddr 53 (oTt 79) (oCi 2)),oP 81 (oLd 3 80),oP 82 (oIx 109 78 81),oP 83 (oLd 90 82),oP 84 (.binOp .xor 90 (oTt 77) (oTt 83) 90),oP 85 (oMv 4),oP 86 (oCa 77 #[(oTt 84),(oTt 85)] #[90,87]),oP 87 (oIx 109 68 71),oN (.store 90 (oTt 87) (oTt 86))]
def Qli:List Oper:=Qxq
theorem Xuk:Qn9.toList.map bare=Qxq:=by kernel_rfl
theorem Xsn:Qn9.toList.map bare=Qli:=Xuk
def Qe9:List Nat:=[0,0,2,6,0,0,32,96,240,496,0,0,2048,6144,15360,31744,65520,0,262128,524287,1048575]
theorem Xui:Qrx Qn9.toList []=some Qe9:=by kernel_rfl
theorem Xtz:Qa6 Qn9.toList Qn9.toList Qe9 []=true:=by kernel_rfl
theorem Xx1(b:Nat)(L:List KE)(s:St):Ab.runT (E b) L Qli Qe9 Qli 0 s=Ab.runT (E b) L Qli Qe9 Qxq 0 s:=rfl
theorem Xw6(b:Nat):Qaz (E b) 18 ((nth Qe9 18).getD 0) Qli Qe9 0=true:=by kernel_rfl
theorem Xxi(b:Nat):Qaz (E b) 20 ((nth Qe9 20).getD 0) Qli Qe9 0=true:=by kernel_rfl
abbrev Yic:Code:=.seq Yhx Yiz
abbrev Yhw:Code:=.seq Yji Yic
abbrev Yj2:Code:=.seq Yid Yhw
def Qat:Code:=Yj2
theorem Yju:Qdk (V7 75)=Qat:=by kernel_rfl
theorem X3t:Q23.body=some (V7 75):=by kernel_rfl
theorem Ynp:Q23.ntmps=88:=by kernel_rfl
theorem Qck:Q23.results.toList=[]:=by kernel_rfl
abbrev X6c:List Oper:=[oP 8 (.assign (.const (.slice none 0 0)))]
abbrev Yem:Code:=oRg X6c
abbrev X3c:List Oper:=[oP 9 (.assign (.const (.slice none 0 0)))]
abbrev Ycz:Code:=oRg X3c
abbrev X2v:List Oper:=[oP 10 (.assign (oCi 0))]
abbrev Ye2:Code:=oRg X2v
abbrev X33:List Oper:=[oP 18 (oMv 10),oP 19 (.binOp .lss 3 (oTt 18) (oCi 64) 3)]
abbrev Yew:Code:=oRg X33
abbrev Yds:Code:=.cond (.tmp 19) .skip (.exit 0)
abbrev Ydq:Code:=.seq Yew Yds
noncomputable def Qlh:Array Oper:=Qmh (Qmr 5 (V7 69))
def Yc8:Code:=.region 5 Qlh true
abbrev Qvo:List Oper:=[oP 22 (oMv 9),oP 23 (oMv 1),oP 24 (oMv 10),oP 25 (oIx 51 23 24),oP 26 (oLd 5 25),oP 27 (.convert 5 90 (oTt 26)),oP 28 (oMv 1),oP 29 (oMv 10),oP 30 (.binOp .add 3 (oTt 29) (oCi 1) 3),oP 31 (oIx 51 28 30),oP 32 (oLd 5 31),oP 33 (.convert 5 90 (oTt 32)),oP 34 (.binOp .mul 90 (oTt 33) (.const (.int .u32 256)) 90),oP 35 (.binOp .add 90 (oTt 27) (oTt 34) 90),oP 36 (oMv 1),oP 37 (oMv 10),oP 38 (.binOp .add 3 (oTt 37) (oCi 2) 3),oP 39 (oIx 51 36 38),oP 40 (oLd 5 39),oP 41 (.convert 5 90 (oTt 40)),oP 42 (.binOp .mul 90 (oTt 41) (.const (.int .u32 65536)) 90),oP 43 (.binOp .add 90 (oTt 35) (oTt 42) 90),oP 44 (oMv 1),oP 45 (oMv 10),oP 46 (.binOp .add 3 (oTt 45) (oCi 3) 3),oP 47 (oIx 51 44 46),oP 48 (oLd 5 47),oP 49 (.convert 5 90 (oTt 48)),oP 50 (.binOp .mul 90 (oTt 49) (.const (.int .u32 16777216)) 90),oP 51 (.binOp .add 90 (oTt 43) (oTt 50) 90),oP 52 (.buildSlice 109 1 #[(0,(oTt 51))]),oP 53 (oBu .append #[(oTt 22),(oTt 52)] #[109,109]),oP 9 (oAs 53)]
def Qn6:List Oper:=Qvo
theorem Xsp:Qlh.toList.map bare=Qvo:=by kernel_rfl
theorem Xre:Qlh.toList.map bare=Qn6:=Xsp
def Qgk:List Nat:=[0,0,0,6,14,30,0,0,128,448,960,1984,4032,8190,0,0,32768,114688,245760,507904,1032192,2097150,0,0,8388608,29360128,62914560,130023424,264241152,536870910,1073741822,2147483647,4294967295]
theorem Xto:Qrx Qlh.toList []=some Qgk:=by kernel_rfl
theorem Xs1:Qa6 Qlh.toList Qlh.toList Qgk []=true:=by kernel_rfl
theorem Xue(b:Nat)(L:List KE)(s:St):Ab.runT (E b) L Qn6 Qgk Qn6 0 s=Ab.runT (E b) L Qn6 Qgk Qvo 0 s:=rfl
theorem Xvi(b:Nat):Qaz (E b) 31 ((nth Qgk 31).getD 0) Qn6 Qgk 0=true:=by kernel_rfl
abbrev X95:Code:=.block 1 Yc8
abbrev X0s:List Oper:=[oP 20 (oMv 10),oP 21 (.binOp .add 3 (oTt 20) (oCi 4) 3),oP 10 (oAs 21)]
abbrev X2f:Code:=oRg X0s
abbrev X4v:Code:=.seq X95 X2f
abbrev Yd5:Code:=.seq Ydq X4v
def X23:Code:=.loop Yd5
abbrev X2q:Code:=.block 0 X23
abbrev Yct:Code:=.seq Ye2 X2q
abbrev X00:List Oper:=[oP 11 (.assign (.const (.slice none 0 0)))]
abbrev X64:Code:=oRg X00
abbrev Xyk:List Oper:=[oP 54 (oMv 11),oP 55 (oMv 0),oP 56 (oBu .append #[(oTt 54),(oTt 55)] #[109,109]),oP 11 (oAs 56)]
abbrev Ya5:Code:=oRg Xyk
abbrev Xzv:List Oper:=[oP 57 (oMv 11),oP 58 (oCa 68 #[] #[]),oP 59 (oBu .append #[(oTt 57),(oTt 58)] #[109,109]),oP 11 (oAs 59)]
abbrev X7t:Code:=oRg Xzv
abbrev X0h:List Oper:=[oP 60 (oMv 11),oP 61 (oMv 11),oP 62 (.indexAddr 109 (oTt 61) (oCi 12)),oP 63 (oLd 90 62),oP 64 (oMv 2),oP 65 (.binOp .rem 93 (oTt 64) (.const (.int .u64 4294967296)) 93),oP 66 (.convert 93 90 (oTt 65)),oP 67 (.binOp .xor 90 (oTt 63) (oTt 66) 90),oP 68 (.indexAddr 109 (oTt 60) (oCi 12)),oN (.store 90 (oTt 68) (oTt 67))]
abbrev X2r:Code:=oRg X0h
abbrev Xyl:List Oper:=[oP 69 (oMv 11),oP 70 (oMv 11),oP 71 (.indexAddr 109 (oTt 70) (oCi 13)),oP 72 (oLd 90 71),oP 73 (oMv 2),oP 74 (.binOp .quo 93 (oTt 73) (.const (.int .u64 4294967296)) 93),oP 75 (.convert 93 90 (oTt 74)),oP 76 (.binOp .xor 90 (oTt 72) (oTt 75) 90),oP 77 (.indexAddr 109 (oTt 69) (oCi 13)),oN (.store 90 (oTt 77) (oTt 76))]
abbrev X3g:Code:=oRg Xyl
abbrev Xz4:List Oper:=[oP 78 (oMv 3)]
abbrev X2b:Code:=oRg Xz4
abbrev X0b:List Oper:=[oP 79 (oMv 11),oP 80 (oMv 11),oP 81 (.indexAddr 109 (oTt 80) (oCi 14)),oP 82 (oLd 90 81),oP 83 (.unOp .xor 90 (oTt 82)),oP 84 (.indexAddr 109 (oTt 79) (oCi 14)),oN (.store 90 (oTt 84) (oTt 83))]
abbrev X3i:Code:=oRg X0b
abbrev X65:Code:=.cond (.tmp 78) X3i .skip
abbrev X83:Code:=.seq X2b X65
abbrev X1g:List Oper:=[oP 85 (oCa 73 #[] #[]),oP 12 (oAs 85)]
abbrev Xky:Code:=oRg X1g
abbrev X09:List Oper:=[oP 86 (oCa 74 #[] #[]),oP 13 (oAs 86)]
abbrev X4l:Code:=oRg X09
abbrev Qvl:List Oper:=[oP 14 (.assign (oCi 0))]
abbrev X9o:Code:=oRg Qvl
abbrev Xzd:List Oper:=[oP 87 (oMv 14),oP 88 (.binOp .lss 3 (oTt 87) (oCi 10) 3)]
abbrev Ybp:Code:=oRg Xzd
abbrev X3x:Code:=.cond (.tmp 88) .skip (.exit 2)
abbrev X76:Code:=.seq Ybp X3x
abbrev Xzq:List Oper:=[oP 15 (.assign (oCi 0))]
abbrev X4q:Code:=oRg Xzq
abbrev Xyn:List Oper:=[oP 91 (oMv 15),oP 92 (.binOp .lss 3 (oTt 91) (oCi 8) 3)]
abbrev X29:Code:=oRg Xyn
abbrev Ybh:Code:=.cond (.tmp 92) .skip (.exit 4)
abbrev X8w:Code:=.seq X29 Ybh
noncomputable def Qjz:Array Oper:=Qmh (Qmr 21 (V7 69))
def Yb3:Code:=.region 21 Qjz true
abbrev Qsy:List Oper:=[oP 95 (oMv 11),oP 96 (oMv 13),oP 97 (oMv 15),oP 98 (oIx 128 96 97),oP 99 (oLd 53 98),oP 100 (oMv 9),oP 101 (oMv 12),oP 102 (oMv 14),oP 103 (oIx 128 101 102),oP 104 (oLd 53 103),oP 105 (oMv 15),oP 106 (.binOp .mul 3 (oCi 2) (oTt 105) 3),oP 107 (oIx 53 104 106),oP 108 (oLd 3 107),oP 109 (oIx 109 100 108),oP 110 (oLd 90 109),oP 111 (oCa 75 #[(oTt 95),(oTt 99),(oTt 110),(.const (.int .u64 16)),(.const (.int .u64 12))] #[109,53,90,87,87])]
def Ql8:List Oper:=Qsy
theorem Xqx:Qjz.toList.map bare=Qsy:=by kernel_rfl
theorem Xo2:Qjz.toList.map bare=Ql8:=Xqx
def Qfe:List Nat:=[0,0,0,6,14,0,0,0,192,448,0,1024,4032,8128,16352,32736,65535]
theorem Xrn:Qrx Qjz.toList []=some Qfe:=by kernel_rfl
theorem Xjm:Qa6 Qjz.toList Qjz.toList Qfe []=true:=by kernel_rfl
theorem Xta(b:Nat)(L:List KE)(s:St):Ab.runT (E b) L Ql8 Qfe Ql8 0 s=Ab.runT (E b) L Ql8 Qfe Qsy 0 s:=rfl
theorem Xtl(b:Nat):Qaz (E b) 16 ((nth Qfe 16).getD 0) Ql8 Qfe 0=true:=by kernel_rfl
noncomputable def Qjd:Array Oper:=Qmh (Qmr 22 (V7 69))
def X6j:Code:=.region 22 Qjd true
abbrev Qst:List Oper:=[oP 112 (oMv 11),oP 113 (oMv 13),oP 114 (oMv 15),oP 115 (oIx 128 113 114),oP 116 (oLd 53 115),oP 117 (oMv 9),oP 118 (oMv 12),oP 119 (oMv 14),oP 120 (oIx 128 118 119),oP 121 (oLd 53 120),oP 122 (oMv 15),oP 123 (.binOp .mul 3 (oCi 2) (oTt 122) 3),oP 124 (.binOp .add 3 (oTt 123) (oCi 1) 3),oP 125 (oIx 53 121 124),oP 126 (oLd 3 125),oP 127 (oIx 109 117 126),oP 128 (oLd 90 127),oP 129 (oCa 75 #[(oTt 112),(oTt 116),(oTt 128),(.const (.int .u64 8)),(.const (.int .u64 7))] #[109,53,90,87,87])]
def Ql9:List Oper:=Qst
theorem Xqj:Qjd.toList.map bare=Qst:=by kernel_rfl
theorem Xmu:Qjd.toList.map bare=Ql9:=Xqj
def Qfi:List Nat:=[0,0,0,6,14,0,0,0,192,448,0,1024,3072,8128,16320,32736,65504,131071]
theorem Xqf:Qrx Qjd.toList []=some Qfi:=by kernel_rfl
theorem Xld:Qa6 Qjd.toList Qjd.toList Qfi []=true:=by kernel_rfl
theorem Xte(b:Nat)(L:List KE)(s:St):Ab.runT (E b) L Ql9 Qfi Ql9 0 s=Ab.runT (E b) L Ql9 Qfi Qst 0 s:=rfl
theorem Xt7(b:Nat):Qaz (E b) 17 ((nth Qfi 17).getD 0) Ql9 Qfi 0=true:=by kernel_rfl
abbrev X98:Code:=.seq Yb3 X6j
abbrev X8s:Code:=.block 5 X98
abbrev X0g:List Oper:=[oP 93 (oMv 15),oP 94 (.binOp .add 3 (oTt 93) (oCi 1) 3),oP 15 (oAs 94)]
abbrev X2c:Code:=oRg X0g
abbrev X7v:Code:=.seq X8s X2c
abbrev X3v:Code:=.seq X8w X7v
def X4e:Code:=.loop X3v
abbrev X35:Code:=.block 4 X4e
abbrev X5n:Code:=.seq X4q X35
abbrev X6m:Code:=.block 3 X5n
abbrev Xyv:List Oper:=[oP 89 (oMv 14),oP 90 (.binOp .add 3 (oTt 89) (oCi 1) 3),oP 14 (oAs 90)]
abbrev X9q:Code:=oRg Xyv
abbrev X5d:Code:=.seq X6m X9q
abbrev X7u:Code:=.seq X76 X5d
def Yan:Code:=.loop X7u
abbrev Yb6:Code:=.block 2 Yan
abbrev Xn9:Code:=.seq X9o Yb6
abbrev X1h:List Oper:=[oP 16 (.assign (.const (.slice none 0 0)))]
abbrev Xn4:Code:=oRg X1h
abbrev Xyj:List Oper:=[oP 17 (.assign (oCi 0))]
abbrev Yar:Code:=oRg Xyj
abbrev Xzx:List Oper:=[oP 130 (oMv 17),oP 131 (.binOp .lss 3 (oTt 130) (oCi 8) 3)]
abbrev Yc3:Code:=oRg Xzx
abbrev X2e:Code:=.cond (.tmp 131) .skip (.exit 6)
abbrev X49:Code:=.seq Yc3 X2e
noncomputable def Qjn:Array Oper:=Qmh (Qmr 27 (V7 69))
def X6w:Code:=.region 27 Qjn true
abbrev Qss:List Oper:=[oP 134 (oMv 16),oP 135 (oMv 0),oP 136 (oMv 17),oP 137 (oIx 109 135 136),oP 138 (oLd 90 137),oP 139 (oMv 11),oP 140 (oMv 17),oP 141 (oIx 109 139 140),oP 142 (oLd 90 141),oP 143 (.binOp .xor 90 (oTt 138) (oTt 142) 90),oP 144 (oMv 11),oP 145 (oMv 17),oP 146 (.binOp .add 3 (oTt 145) (oCi 8) 3),oP 147 (oIx 109 144 146),oP 148 (oLd 90 147),oP 149 (.binOp .xor 90 (oTt 143) (oTt 148) 90),oP 150 (.buildSlice 109 1 #[(0,(oTt 149))]),oP 151 (oBu .append #[(oTt 134),(oTt 150)] #[109,109]),oP 16 (oAs 151)]
def Ql5:List Oper:=Qss
theorem Xrg:Qjn.toList.map bare=Qss:=by kernel_rfl
theorem Xnm:Qjn.toList.map bare=Ql5:=Xrg
def Qfk:List Nat:=[0,0,0,6,14,0,0,96,224,510,0,0,2048,7168,15360,32766,65534,131071,262143]
theorem Xqi:Qrx Qjn.toList []=some Qfk:=by kernel_rfl
theorem Xmb:Qa6 Qjn.toList Qjn.toList Qfk []=true:=by kernel_rfl
theorem Xtp(b:Nat)(L:List KE)(s:St):Ab.runT (E b) L Ql5 Qfk Ql5 0 s=Ab.runT (E b) L Ql5 Qfk Qss 0 s:=rfl
theorem Xtw(b:Nat):Qaz (E b) 17 ((nth Qfk 17).getD 0) Ql5 Qfk 0=true:=by kernel_rfl
abbrev X2k:Code:=.block 7 X6w
abbrev X0j:List Oper:=[oP 132 (oMv 17),oP 133 (.binOp .add 3 (oTt 132) (oCi 1) 3),oP 17 (oAs 133)]
abbrev X8v:Code:=oRg X0j
abbrev Yb5:Code:=.seq X2k X8v
abbrev Yas:Code:=.seq X49 Yb5
def X80:Code:=.loop Yas
abbrev X2p:Code:=.block 6 X80
abbrev X51:Code:=.seq Yar X2p
abbrev X07:List Oper:=[oP 152 (oMv 16),oP 8 (oAs 152)]
abbrev X31:Code:=oRg X07
abbrev X6b:Code:=.seq X31 .ret
abbrev Xna:Code:=.seq X51 X6b
def Qrt:Code:=.seq Xn4 Xna
theorem Jr:oSQ Qrt Xn4 Xna:=fun _ _=>rfl
def Qxp:Code:=.seq Xn9 Qrt
theorem Jy:oSQ Qxp Xn9 Qrt:=fun _ _=>rfl
abbrev Xk5:Code:=.seq X4l Qxp
def Qxd:Code:=.seq Xky Xk5
theorem Jv:oSQ Qxd Xky Xk5:=fun _ _=>rfl
abbrev X9p:Code:=.seq X83 Qxd
abbrev X40:Code:=.seq X3g X9p
abbrev X5w:Code:=.seq X2r X40
abbrev X56:Code:=.seq X7t X5w
abbrev X7p:Code:=.seq Ya5 X56
abbrev X8q:Code:=.seq X64 X7p
abbrev Ybd:Code:=.seq Yct X8q
abbrev Yeh:Code:=.seq Ycz Ybd
abbrev Ycn:Code:=.seq Yem Yeh
def V6:Code:=Ycn
theorem Yf2:Qdk (V7 69)=V6:=by kernel_rfl
theorem Xz1:Qkg.body=some (V7 69):=by kernel_rfl
theorem Yhi:Qkg.ntmps=153:=by kernel_rfl
theorem U1:Qkg.results.toList=[.tmp 8]:=by kernel_rfl
abbrev X3r:List Oper:=[oP 4 (.alloc 30)]
abbrev Ydd:Code:=oRg X3r
abbrev X6y:List Oper:=[oP 15 (oMv 0),oP 16 (oBu .len #[(oTt 15)] #[51]),oP 17 (.binOp .gtr 3 (oTt 16) (oCi 32) 3)]
abbrev Yep:Code:=oRg X6y
abbrev X8e:List Oper:=[oP 18 (oMv 0),oP 19 (oCa 61 #[(.const (.slice none 0 0)),(oTt 18)] #[51,51]),oP 5 (.alloc 30),oN (.store 30 (oTt 5) (oTt 19))]
abbrev Yfg:Code:=oRg X8e
abbrev X9d:List Oper:=[oP 20 (.slice 30 (oTt 5) none none none),oP 21 (oMv 1),oP 22 (oCa 61 #[(oTt 20),(oTt 21)] #[51,51]),oN (.store 30 (oTt 4) (oTt 22))]
abbrev Ycl:Code:=oRg X9d
abbrev Ye0:Code:=.seq Ycl .ret
abbrev Yda:Code:=.seq Yfg Ye0
abbrev Yf3:Code:=.cond (.tmp 17) Yda .skip
abbrev Yea:Code:=.seq Yep Yf3
abbrev Xyq:List Oper:=[oP 6 (.assign (.const (.slice none 0 0)))]
abbrev X8k:Code:=oRg Xyq
abbrev X05:List Oper:=[oP 23 (oMv 0),oP 24 (oBu .len #[(oTt 23)] #[51]),oP 25 (.binOp .gtr 3 (oTt 24) (oCi 0) 3)]
abbrev X7q:Code:=oRg X05
abbrev X0m:List Oper:=[oP 26 (oMv 6),oP 27 (oMv 0),oP 28 (oBu .append #[(oTt 26),(oTt 27)] #[51,51]),oP 6 (oAs 28)]
abbrev X25:Code:=oRg X0m
abbrev Xzo:List Oper:=[oP 29 (oMv 6),oP 30 (oBu .len #[(oTt 29)] #[51]),oP 31 (.binOp .lss 3 (oTt 30) (oCi 64) 3)]
abbrev X6o:Code:=oRg Xzo
abbrev X38:Code:=.cond (.tmp 31) .skip (.exit 0)
abbrev X58:Code:=.seq X6o X38
abbrev Xzc:List Oper:=[oP 32 (oMv 6),oP 33 (.buildSlice 51 1 #[(0,(.const (.int .u8 0)))]),oP 34 (oBu .append #[(oTt 32),(oTt 33)] #[51,51]),oP 6 (oAs 34)]
abbrev X50:Code:=oRg Xzc
abbrev X2n:Code:=.block 1 X50
abbrev X5z:Code:=.seq X58 X2n
def X3o:Code:=.loop X5z
abbrev X5x:Code:=.block 0 X3o
abbrev X6f:Code:=.seq X25 X5x
abbrev X8u:Code:=.cond (.tmp 25) X6f .skip
abbrev X9k:Code:=.seq X7q X8u
abbrev Xyr:List Oper:=[oP 35 (oMv 6),oP 36 (oMv 1),oP 37 (oBu .append #[(oTt 35),(oTt 36)] #[51,51]),oP 6 (oAs 37)]
abbrev Xn3:Code:=oRg Xyr
abbrev X0x:List Oper:=[oP 38 (oCa 68 #[] #[]),oP 7 (oAs 38)]
abbrev X5o:Code:=oRg X0x
abbrev Xzh:List Oper:=[oP 39 (oMv 7),oP 40 (oMv 7),oP 41 (.indexAddr 109 (oTt 40) (oCi 0)),oP 42 (oLd 90 41),oP 43 (.binOp .xor 90 (oTt 42) (.const (.int .u32 16842784)) 90),oP 44 (oMv 0),oP 45 (oBu .len #[(oTt 44)] #[51]),oP 46 (.binOp .mul 3 (oCi 256) (oTt 45) 3),oP 47 (.convert 3 90 (oTt 46)),oP 48 (.binOp .xor 90 (oTt 43) (oTt 47) 90),oP 49 (.indexAddr 109 (oTt 39) (oCi 0)),oN (.store 90 (oTt 49) (oTt 48))]
abbrev X5u:Code:=oRg Xzh
abbrev Xyf:List Oper:=[oP 8 (.assign (oCi 0))]
abbrev X5i:Code:=oRg Xyf
abbrev Xeg:List Oper:=[oP 50 (oMv 8),oP 51 (oMv 6),oP 52 (oBu .len #[(oTt 51)] #[51]),oP 53 (.binOp .lss 3 (oTt 50) (oTt 52) 3),oP 54 (oMv 53),oG 4 false 55 (oMv 8),oG 4 false 56 (.binOp .eql 3 (oTt 55) (oCi 0) 3),oP 57 (.pick (oTt 54) (.const (.bool true)) (oTt 56))]
def Qxf:List Oper:=Xeg
def Xjw:Code:=oRg Qxf
theorem Ua:oRQ Xjw Qxf Xeg:=fun _ _=>rfl
theorem Vp:nth Qxf 4=some ⟨(some 54),.move (.tmp 53),0,"",#[],none⟩:=rfl
abbrev X69:Code:=.cond (.tmp 57) .skip (.exit 2)
abbrev X9n:Code:=.seq Xjw X69
abbrev Xzi:List Oper:=[oP 60 (oMv 8),oP 61 (.binOp .add 3 (oTt 60) (oCi 64) 3),oP 62 (oMv 6),oP 63 (oBu .len #[(oTt 62)] #[51]),oP 64 (oBu .min #[(oTt 61),(oTt 63)] #[3,3]),oP 9 (oAs 64)]
abbrev X9m:Code:=oRg Xzi
abbrev X0t:List Oper:=[oP 10 (.assign (.const (.slice none 0 0)))]
abbrev X8g:Code:=oRg X0t
abbrev X0r:List Oper:=[oP 65 (oMv 10),oP 66 (oMv 6),oP 67 (oMv 8),oP 68 (oMv 9),oP 69 (.slice 51 (oTt 66) (some (oTt 67)) (some (oTt 68)) none),oP 70 (oBu .append #[(oTt 65),(oTt 69)] #[51,51]),oP 10 (oAs 70)]
abbrev Yaa:Code:=oRg X0r
abbrev X0y:List Oper:=[oP 71 (oMv 10),oP 72 (oBu .len #[(oTt 71)] #[51]),oP 73 (.binOp .lss 3 (oTt 72) (oCi 64) 3)]
abbrev X3h:Code:=oRg X0y
abbrev X2z:Code:=.cond (.tmp 73) .skip (.exit 4)
abbrev X4y:Code:=.seq X3h X2z
abbrev Xz8:List Oper:=[oP 74 (oMv 10),oP 75 (.buildSlice 51 1 #[(0,(.const (.int .u8 0)))]),oP 76 (oBu .append #[(oTt 74),(oTt 75)] #[51,51]),oP 10 (oAs 76)]
abbrev Ybv:Code:=oRg Xz8
abbrev X61:Code:=.block 5 Ybv
abbrev X60:Code:=.seq X4y X61
def X5a:Code:=.loop X60
abbrev X5r:Code:=.block 4 X5a
abbrev Xyy:List Oper:=[oP 77 (oMv 7),oP 78 (oMv 10),oP 79 (oMv 9),oP 80 (.convert 3 93 (oTt 79)),oP 81 (oMv 9),oP 82 (oMv 6),oP 83 (oBu .len #[(oTt 82)] #[51]),oP 84 (.binOp .eql 3 (oTt 81) (oTt 83) 3),oP 85 (oCa 69 #[(oTt 77),(oTt 78),(oTt 80),(oTt 84)] #[109,51,93,4]),oP 7 (oAs 85)]
abbrev X2a:Code:=oRg Xyy
abbrev X2j:Code:=.seq X5r X2a
abbrev Ybi:Code:=.seq Yaa X2j
abbrev Yao:Code:=.seq X8g Ybi
abbrev Xl0:Code:=.seq X9m Yao
def Qxl:Code:=.block 3 Xl0
theorem V5:oBQ 3 Qxl Xl0:=fun _ _=>rfl
abbrev X12:List Oper:=[oP 58 (oMv 8),oP 59 (.binOp .add 3 (oTt 58) (oCi 64) 3),oP 8 (oAs 59)]
abbrev X3w:Code:=oRg X12
abbrev X3z:Code:=.seq Qxl X3w
abbrev Yby:Code:=.seq X9n X3z
def X78:Code:=.loop Yby
abbrev X2t:Code:=.block 2 X78
abbrev Xjn:Code:=.seq X5i X2t
abbrev Xyo:List Oper:=[oP 11 (.alloc 30)]
abbrev Xo6:Code:=oRg Xyo
abbrev Xzk:List Oper:=[oP 12 (.assign (oCi 0))]
abbrev X6i:Code:=oRg Xzk
abbrev X0e:List Oper:=[oP 86 (oMv 12),oP 87 (.binOp .lss 3 (oTt 86) (oCi 32) 3)]
abbrev X2x:Code:=oRg X0e
abbrev X8x:Code:=.cond (.tmp 87) .skip (.exit 6)
abbrev X4t:Code:=.seq X2x X8x
abbrev Xzr:List Oper:=[oP 90 (oMv 7),oP 91 (oMv 12),oP 92 (.binOp .quo 3 (oTt 91) (oCi 4) 3),oP 93 (oIx 109 90 92),oP 94 (oLd 90 93),oP 13 (oAs 94)]
abbrev Ya0:Code:=oRg Xzr
def Xov:List Oper:=Qvl
def Xo0:Code:=oRg Xov
theorem U9:oRQ Xo0 Xov Qvl:=fun _ _=>rfl
abbrev X0q:List Oper:=[oP 95 (oMv 14),oP 96 (oMv 12),oP 97 (.binOp .rem 3 (oTt 96) (oCi 4) 3),oP 98 (.binOp .lss 3 (oTt 95) (oTt 97) 3)]
abbrev Yaw:Code:=oRg X0q
abbrev X3s:Code:=.cond (.tmp 98) .skip (.exit 8)
abbrev X87:Code:=.seq Yaw X3s
abbrev Xyd:List Oper:=[oP 101 (oMv 13),oP 102 (.binOp .quo 90 (oTt 101) (.const (.int .u32 256)) 90),oP 13 (oAs 102)]
abbrev X5k:Code:=oRg Xyd
abbrev X7b:Code:=.block 9 X5k
abbrev Xz3:List Oper:=[oP 99 (oMv 14),oP 100 (.binOp .add 3 (oTt 99) (oCi 1) 3),oP 14 (oAs 100)]
abbrev X30:Code:=oRg Xz3
abbrev X79:Code:=.seq X7b X30
abbrev X85:Code:=.seq X87 X79
def Yah:Code:=.loop X85
abbrev Ya6:Code:=.block 8 Yah
abbrev X3a:Code:=.seq Xo0 Ya6
abbrev Xzp:List Oper:=[oP 103 (oMv 12),oP 104 (oMv 13),oP 105 (.binOp .rem 90 (oTt 104) (.const (.int .u32 256)) 90),oP 106 (.convert 90 5 (oTt 105)),oP 107 (oIx 30 11 103),oN (.store 5 (oTt 107) (oTt 106))]
abbrev X89:Code:=oRg Xzp
abbrev Yau:Code:=.seq X3a X89
abbrev X9x:Code:=.seq Ya0 Yau
abbrev Ya9:Code:=.block 7 X9x
abbrev X1i:List Oper:=[oP 88 (oMv 12),oP 89 (.binOp .add 3 (oTt 88) (oCi 1) 3),oP 12 (oAs 89)]
abbrev X7i:Code:=oRg X1i
abbrev X37:Code:=.seq Ya9 X7i
abbrev X6n:Code:=.seq X4t X37
def X7f:Code:=.loop X6n
abbrev X6h:Code:=.block 6 X7f
abbrev X7d:Code:=.seq X6i X6h
abbrev X11:List Oper:=[oP 108 (oLd 30 11),oN (.store 30 (oTt 4) (oTt 108))]
abbrev X5f:Code:=oRg X11
abbrev X9u:Code:=.seq X5f .ret
abbrev Xog:Code:=.seq X7d X9u
def Qrn:Code:=.seq Xo6 Xog
theorem V4:oSQ Qrn Xo6 Xog:=fun _ _=>rfl
def Qxb:Code:=.seq Xjn Qrn
theorem U0:oSQ Qxb Xjn Qrn:=fun _ _=>rfl
abbrev X4i:Code:=.seq X5u Qxb
abbrev Xoz:Code:=.seq X5o X4i
def Qyh:Code:=.seq Xn3 Xoz
theorem Vg:oSQ Qyh Xn3 Xoz:=fun _ _=>rfl
abbrev X2m:Code:=.seq X9k Qyh
abbrev X4s:Code:=.seq X8k X2m
abbrev Ydt:Code:=.seq Yea X4s
abbrev Ydn:Code:=.seq Ydd Ydt
def Uj:Code:=Ydn
theorem Ycb:Qdk (V7 61)=Uj:=by kernel_rfl
theorem X1a:Qkp.body=some (V7 61):=by kernel_rfl
theorem Yif:Qkp.ntmps=109:=by kernel_rfl
theorem Wg:Qkp.results.toList=[.cell 4 30]:=by kernel_rfl
abbrev Yki:List Oper:=[oP 2 (.alloc 30)]
abbrev Ym6:Code:=oRg Yki
abbrev Yhn:List Oper:=[oP 3 (oMv 0),oP 4 (oCa 61 #[(.const (.slice none 0 0)),(oTt 3)] #[51,51]),oN (.store 30 (oTt 2) (oTt 4))]
abbrev Ym9:Code:=oRg Yhn
abbrev Ylf:Code:=.seq Ym9 .ret
abbrev Ymm:Code:=.seq Ym6 Ylf
def Q5l:Code:=Ymm
theorem Yl4:Qdk (V7 48)=Q5l:=by kernel_rfl
theorem Yf6:Xcr.body=some (V7 48):=by kernel_rfl
theorem Yq6:Xcr.ntmps=5:=by kernel_rfl
theorem Xxw:Xcr.results.toList=[.cell 2 30]:=by kernel_rfl
end Go.Proofs.YtcokebbiblnonaaDoor
