/-
  Facts of the functions' code and of the types, printed by a program (ShD).
-/
import Derived.Test.YtcokebbiblnonaaDoorFactsT
set_option linter.all false
noncomputable section
namespace Go.Proofs.YtcokebbiblnonaaDoor
open Go Go.Ab
set_option maxRecDepth 100000
noncomputable def Qgp:Func:=(Tryd.prog.funcs[7]?).getD default
theorem Y1(b:Nat):(mkE Tryd.prog nv b).fn.get 7=some Qgp:=by kernel_rfl
theorem Ve(x:Int):Qdj (binOp .rem 3 (.int .i64 x) (.int .i64 2))=some (.int .i64 (Int.tmod x 2)):=by kernel_rfl
abbrev Qlq:List Oper:=[oP 0 (.assign (.const (.bool false)))]
abbrev Xms:Code:=oRg Qlq
abbrev Xgz:List Oper:=[oP 9 (.build 30 #[(0,(.const (.int .u8 4)))]),oP 1 (.alloc 30),oN (.store 30 (oTt 1) (oTt 9))]
abbrev Xk7:Code:=oRg Xgz
abbrev Xer:List Oper:=[oP 10 (.slice 30 (oTt 1) none none none),oP 11 (oCa 20 #[(oTt 10)] #[51]),oP 2 (.alloc 30),oN (.store 30 (oTt 2) (oTt 11))]
abbrev Xl5:Code:=oRg Xer
abbrev Xfn:List Oper:=[oP 12 (.buildSlice 53 12 #[(0,(oCi (-9223372036854775808))),(1,(oCi (-1))),(2,(oCi 0)),(3,(oCi 1)),(4,(oCi 2)),(5,(oCi 3)),(6,(oCi 1073741824)),(7,(oCi 1073741825)),(8,(oCi 562949953421312)),(9,(oCi 1125899906842624)),(10,(oCi 1125899906842625)),(11,(oCi 9223372036854775807))]),oP 3 (oAs 12)]
abbrev Xph:Code:=oRg Xfn
abbrev Xi1:List Oper:=[oP 4 (.assign (oCi 0))]
abbrev Xp2:Code:=oRg Xi1
abbrev Xar:List Oper:=[oP 13 (oMv 4),oP 14 (oMv 3),oP 15 (oBu .len #[(oTt 14)] #[53]),oP 16 (.binOp .lss 3 (oTt 13) (oTt 15) 3)]
abbrev Xg7:Code:=oRg Xar
abbrev Xin:Code:=.cond (.tmp 16) .skip (.exit 0)
abbrev Xiu:Code:=.seq Xg7 Xin
abbrev Xds:List Oper:=[oP 5 (.assign (oCi 0))]
abbrev Xf9:Code:=oRg Xds
abbrev Xe4:List Oper:=[oP 19 (oMv 5),oP 20 (oMv 3),oP 21 (oBu .len #[(oTt 20)] #[53]),oP 22 (.binOp .lss 3 (oTt 19) (oTt 21) 3)]
abbrev Xi9:Code:=oRg Xe4
abbrev Xep:Code:=.cond (.tmp 22) .skip (.exit 2)
abbrev Xeu:Code:=.seq Xi9 Xep
noncomputable def Qd2:Array Oper:=Qmh (Qmr 10 (V7 7))
def Qs6:Code:=.region 10 Qd2 true
abbrev Qjw:List Oper:=[oP 25 (oMv 3),oP 26 (oMv 5),oP 27 (oIx 53 25 26),oP 28 (oLd 3 27),oP 29 (oLd 30 2),oP 30 (.build 32 #[(0,(oCi 1)),(1,(oCi 7)),(2,(oTt 28)),(3,(oCi 20)),(4,(oTt 29))]),oP 31 (.build 34 #[(3,(oTt 30))]),oP 32 (oMv 3),oP 33 (oMv 5),oP 34 (oIx 53 32 33),oP 35 (oLd 3 34),oP 36 (oMv 3),oP 37 (oMv 4),oP 38 (oIx 53 36 37),oP 39 (oLd 3 38),oP 40 (.build 32 #[(0,(oTt 35)),(1,(oCi 8)),(2,(oCi 1)),(3,(oTt 39))]),oP 41 (.build 34 #[(3,(oTt 40))]),oP 42 (oMv 3),oP 43 (oMv 5),oP 44 (oIx 53 42 43),oP 45 (oLd 3 44),oP 46 (oLd 30 2),oP 47 (.build 32 #[(0,(oCi 2)),(1,(oTt 45)),(2,(oCi 1)),(3,(oCi 5)),(4,(oTt 46))]),oP 48 (.build 34 #[(3,(oTt 47))]),oP 49 (oLd 30 1),oP 50 (.build 34 #[(0,(oCi 2)),(1,(oCi 7)),(4,(oTt 49))]),oP 51 (oMv 3),oP 52 (oMv 5),oP 53 (oIx 53 51 52),oP 54 (oLd 3 53),oP 55 (oLd 30 1),oP 56 (.build 34 #[(0,(oCi 2)),(1,(oTt 54)),(4,(oTt 55))]),oP 57 (.build 34 #[(0,(oCi 3)),(1,(oCi 8))]),oP 58 (oMv 3),oP 59 (oMv 4),oP 60 (oIx 53 58 59),oP 61 (oLd 3 60),oP 62 (.build 34 #[(0,(oCi 4)),(2,(oTt 61))]),oP 63 (.build 34 #[(0,(oCi 3)),(1,(oCi 7))]),oP 64 (.buildSlice 22 8 #[(0,(oTt 31)),(1,(oTt 41)),(2,(oTt 48)),(3,(oTt 50)),(4,(oTt 56)),(5,(oTt 57)),(6,(oTt 62)),(7,(oTt 63))]),oP 6 (oAs 64)]
def Qgq:List Oper:=Qjw
theorem Qye:Qd2.toList.map bare=Qjw:=by kernel_rfl
theorem Qwd:Qd2.toList.map bare=Qgq:=Qye
def Qdr:List Nat:=[0,0,3,7,0,31,63,0,0,384,896,0,0,6144,14336,32640,65408,0,0,393216,917504,0,4063232,8257536,0,16777216,0,0,201326592,469762048,0,2080374784,0,0,0,25769803776,60129542144,128849018880,0,549755813887,1099511627775]
theorem Qxt:Qrx Qd2.toList []=some Qdr:=by kernel_rfl
theorem Qwo:Qa6 Qd2.toList Qd2.toList Qdr []=true:=by kernel_rfl
theorem Q1b(b:Nat)(L:List KE)(s:St):Ab.runT (E b) L Qgq Qdr Qgq 0 s=Ab.runT (E b) L Qgq Qdr Qjw 0 s:=rfl
noncomputable def Qc0:Array Oper:=Qmh (Qmr 11 (V7 7))
def Qlz:Code:=.region 11 Qc0 true
abbrev Qpw:List Oper:=[oP 65 (oMv 3),oP 66 (oMv 4),oP 67 (oIx 53 65 66),oP 68 (oLd 3 67),oP 69 (oMv 3),oP 70 (oMv 5),oP 71 (oIx 53 69 70),oP 72 (oLd 3 71),oP 73 (oMv 6),oP 74 (oCa 4 #[(oTt 68),(oTt 72),(oTt 73)] #[3,3,22]),oP 75 (.unOp .not 4 (oTt 74)),oP 76 (oMv 75),oG 11 false 77 (oMv 6),oG 11 false 78 (oCa 4 #[(oCi 5),(oCi 5),(oTt 77)] #[3,3,22]),oG 11 false 79 (.unOp .not 4 (oTt 78)),oP 80 (.pick (oTt 76) (.const (.bool true)) (oTt 79)),oP 81 (oMv 80),oG 16 false 82 (oMv 3),oG 16 false 83 (oMv 4),oG 16 false 84 (oIx 53 82 83),oG 16 false 85 (oLd 3 84),oG 16 false 86 (oMv 6),oG 16 false 87 (oCa 3 #[(oTt 85),(oCi 3),(oTt 86)] #[3,3,22]),oG 16 false 88 (.unOp .not 4 (oTt 87)),oP 89 (.pick (oTt 81) (.const (.bool true)) (oTt 88)),oP 90 (oMv 89),oG 25 false 91 (oMv 6),oG 25 false 92 (oMv 3),oG 25 false 93 (oMv 5),oG 25 false 94 (oIx 53 92 93),oG 25 false 95 (oLd 3 94),oG 25 false 96 (oCa 5 #[(oCi 9),(oCi 9),(oTt 91),(oTt 95)] #[3,3,22,3]),oG 25 false 97 (.unOp .not 4 (oTt 96)),oP 98 (.pick (oTt 90) (.const (.bool true)) (oTt 97)),oP 99 (oMv 98),oG 34 false 100 (oMv 6),oG 34 false 101 (.slice 22 (oTt 100) none (some (oCi 6)) none),oG 34 false 102 (oMv 3),oG 34 false 103 (oMv 4),oG 34 false 104 (oIx 53 102 103),oG 34 false 105 (oLd 3 104),oG 34 false 106 (oCa 6 #[(oCi 9),(oCi 9),(oTt 101),(oTt 105)] #[3,3,22,3]),oG 34 false 107 (.unOp .not 4 (oTt 106)),oP 108 (.pick (oTt 99) (.const (.bool true)) (oTt 107))]
def Ye:List Oper:=Qpw
theorem Qz0:Qc0.toList.map bare=Qpw:=by kernel_rfl
theorem Qw5:Qc0.toList.map bare=Ye:=Qz0
def Qsi:List Oper:=Qlq
def Qsd:Code:=oRg Qsi
theorem Xp:oRQ Qsd Qsi Qlq:=fun _ _=>rfl
abbrev Qsg:Code:=.seq Qsd .ret
def Qht:Code:=.cond (.tmp 108) Qsg .skip
theorem Xq:oTQ 108 Qht Qsg:=fun _ _ h=>Y3b h
theorem Xm:oFQ 108 Qht .skip:=fun _ _ h=>Y3a h
def Qls:Code:=.seq Qlz Qht
theorem Xn:oSQ Qls Qlz Qht:=fun _ _=>rfl
def Qlo:Code:=.seq Qs6 Qls
theorem Xl:oSQ Qlo Qs6 Qls:=fun _ _=>rfl
abbrev Xiz:Code:=.block 3 Qlo
abbrev Xap:List Oper:=[oP 23 (oMv 5),oP 24 (.binOp .add 3 (oTt 23) (oCi 1) 3),oP 5 (oAs 24)]
abbrev Xii:Code:=oRg Xap
abbrev Xib:Code:=.seq Xiz Xii
abbrev Xf3:Code:=.seq Xeu Xib
def Xgm:Code:=.loop Xf3
abbrev Xhf:Code:=.block 2 Xgm
abbrev Xh5:Code:=.seq Xf9 Xhf
abbrev Xfl:Code:=.block 1 Xh5
abbrev Xbp:List Oper:=[oP 17 (oMv 4),oP 18 (.binOp .add 3 (oTt 17) (oCi 1) 3),oP 4 (oAs 18)]
abbrev Xh6:Code:=oRg Xbp
abbrev Xh4:Code:=.seq Xfl Xh6
abbrev Xi2:Code:=.seq Xiu Xh4
def Xf5:Code:=.loop Xi2
abbrev Xgx:Code:=.block 0 Xf5
abbrev Xmx:Code:=.seq Xp2 Xgx
abbrev Xbq:List Oper:=[oP 7 (.assign (.const (.slice none 0 0)))]
abbrev Qsm:Code:=oRg Xbq
abbrev Xcf:List Oper:=[oP 8 (.assign (oCi 1))]
abbrev Xip:Code:=oRg Xcf
abbrev Xal:List Oper:=[oP 109 (oMv 8),oP 110 (.binOp .lss 3 (oTt 109) (oCi 20) 3)]
abbrev Xez:Code:=oRg Xal
abbrev Xid:Code:=.cond (.tmp 110) .skip (.exit 4)
abbrev Xfk:Code:=.seq Xez Xid
abbrev Xbg:List Oper:=[oP 113 (oMv 7),oP 114 (oMv 8),oP 115 (.binOp .rem 3 (oTt 114) (oCi 2) 3),oP 116 (.binOp .add 3 (oCi 1) (oTt 115) 3),oP 117 (oMv 8),oP 118 (.binOp .sub 3 (oCi 20) (oTt 117) 3),oP 119 (oMv 8),oP 120 (oLd 30 2),oP 121 (.build 32 #[(0,(oTt 116)),(1,(oTt 118)),(2,(oCi 1)),(3,(oTt 119)),(4,(oTt 120))]),oP 122 (.build 34 #[(3,(oTt 121))]),oP 123 (.buildSlice 22 1 #[(0,(oTt 122))]),oP 124 (oBu .append #[(oTt 113),(oTt 123)] #[22,22]),oP 7 (oAs 124)]
abbrev Xfb:Code:=oRg Xbg
abbrev Xh2:Code:=.block 5 Xfb
abbrev Xat:List Oper:=[oP 111 (oMv 8),oP 112 (.binOp .add 3 (oTt 111) (oCi 1) 3),oP 8 (oAs 112)]
abbrev Xik:Code:=oRg Xat
abbrev Xh3:Code:=.seq Xh2 Xik
abbrev Xg5:Code:=.seq Xfk Xh3
def Xfg:Code:=.loop Xg5
abbrev Xi4:Code:=.block 4 Xfg
abbrev Xen:Code:=.seq Xip Xi4
noncomputable def Qd1:Array Oper:=Qmh (Qmr 18 (V7 7))
def Xi5:Code:=.region 18 Qd1 true
abbrev Qjr:List Oper:=[oP 125 (oMv 7),oP 126 (.build 34 #[(0,(oCi 4)),(2,(oCi 9))]),oP 127 (oMv 7),oP 128 (.indexAddr 22 (oTt 127) (oCi 18)),oP 129 (oLd 34 128),oP 130 (oMv 7),oP 131 (.indexAddr 22 (oTt 130) (oCi 17)),oP 132 (oLd 34 131),oP 133 (.buildSlice 22 3 #[(0,(oTt 126)),(1,(oTt 129)),(2,(oTt 132))]),oP 134 (oBu .append #[(oTt 125),(oTt 133)] #[22,22]),oP 7 (oAs 134)]
def Qe4:List Oper:=Qjr
theorem Qyx:Qd1.toList.map bare=Qjr:=by kernel_rfl
theorem Qw6:Qd1.toList.map bare=Qe4:=Qyx
def Qb6:List Nat:=[0,0,0,4,12,0,32,96,254,511,1023]
theorem Qxo:Qrx Qd1.toList []=some Qb6:=by kernel_rfl
theorem Qwk:Qa6 Qd1.toList Qd1.toList Qb6 []=true:=by kernel_rfl
theorem Q0z(b:Nat)(L:List KE)(s:St):Ab.runT (E b) L Qe4 Qb6 Qe4 0 s=Ab.runT (E b) L Qe4 Qb6 Qjr 0 s:=rfl
theorem Q5k(b:Nat):Qaz (E b) 9 ((nth Qb6 9).getD 0) Qe4 Qb6 0=true:=by kernel_rfl
abbrev Qri:List Oper:=[oP 135 (oMv 7),oP 136 (oCa 4 #[(oCi 50),(oCi 50),(oTt 135)] #[3,3,22]),oP 137 (oMv 136),oG 2 true 138 (oMv 7),oG 2 true 139 (oCa 3 #[(oCi 50),(oCi 50),(oTt 138)] #[3,3,22]),oP 140 (.pick (oTt 137) (oTt 139) (.const (.bool false))),oP 141 (oMv 140),oG 6 true 142 (oMv 7),oG 6 true 143 (.slice 22 (oTt 142) none (some (oCi 19)) none),oG 6 true 144 (oCa 6 #[(oCi 50),(oCi 50),(oTt 143),(oCi 3)] #[3,3,22,3]),oP 145 (.pick (oTt 141) (oTt 144) (.const (.bool false))),oP 146 (oMv 145),oG 11 true 147 (oCa 9 #[] #[]),oP 148 (.pick (oTt 146) (oTt 147) (.const (.bool false))),oP 0 (oAs 148)]
def Qf5:List Oper:=Qri
def Qs5:Code:=oRg Qf5
theorem Xr:oRQ Qs5 Qf5 Qri:=fun _ _=>rfl
theorem Xj:nth Qf5 2=some ⟨(some 137),.move (.tmp 136),0,"",#[],none⟩:=rfl
theorem Xi:nth Qf5 6=some ⟨(some 141),.move (.tmp 140),0,"",#[],none⟩:=rfl
theorem Xf:nth Qf5 11=some ⟨(some 146),.move (.tmp 145),0,"",#[],none⟩:=rfl
abbrev Xhm:Code:=.seq Qs5 .ret
abbrev Xg0:Code:=.seq Xi5 Xhm
abbrev Qs0:Code:=.seq Xen Xg0
def Qlr:Code:=.seq Qsm Qs0
theorem Xo:oSQ Qlr Qsm Qs0:=fun _ _=>rfl
abbrev Xil:Code:=.seq Xmx Qlr
abbrev Xjf:Code:=.seq Xph Xil
abbrev Xmt:Code:=.seq Xl5 Xjf
abbrev Xkt:Code:=.seq Xk7 Xmt
abbrev Xnw:Code:=.seq Xms Xkt
def Xt:Code:=Xnw
theorem Xpc:Qdk (V7 7)=Xt:=by kernel_rfl
theorem Xb3:Qgp.body=some (V7 7):=by kernel_rfl
theorem Xrq:Qgp.ntmps=149:=by kernel_rfl
theorem Y6:Qgp.results.toList=[.tmp 0]:=by kernel_rfl
end Go.Proofs.YtcokebbiblnonaaDoor
