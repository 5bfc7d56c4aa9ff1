/-
  Facts of the functions' code and of the types, printed by a program (ShD).
-/
import Derived.Test.YtgeeklmjfbiieaaDoorFactsK
set_option linter.all false
noncomputable section
namespace Go.Proofs.YtgeeklmjfbiieaaDoor
open Go Go.Ab
set_option maxRecDepth 100000
noncomputable def Qpq:Func:=(Tryd.prog.funcs[64]?).getD default
theorem Qf9(b:Nat):(mkE Tryd.prog nv b).fn.get 64=some Qpq:=by kernel_rfl
theorem Xx7(b:Nat)(h:Heap):Qdl (E b).toEnv 59 h=some (.pointer (some ⟨h.next,0,none⟩),h.push (.cells true 1 [(.pointer none),(.int .u8 0),(.int .u8 0),(.int .u8 0),(.int .u8 0),(.int .u8 0),(.int .u8 0),(.int .u8 0),(.int .u8 0),(.int .u8 0),(.int .u8 0),(.int .u8 0),(.int .u8 0),(.int .u8 0),(.int .u8 0),(.int .u8 0),(.int .u8 0),(.int .u8 0),(.int .u8 0),(.int .u8 0),(.int .u8 0),(.int .u8 0),(.int .u8 0),(.int .u8 0),(.int .u8 0),(.int .u8 0),(.int .u8 0),(.int .u8 0),(.int .u8 0),(.int .u8 0),(.int .u8 0),(.int .u8 0),(.int .u8 0),(.int .i64 0)])):=by kernel_rfl
theorem Xns(b:Nat):Qfm (E b).toEnv 47 47=false:=by kernel_rfl
noncomputable def Xqf:Func:=(Tryd.prog.funcs[19]?).getD default
theorem Q80(b:Nat):(mkE Tryd.prog nv b).fn.get 19=some Xqf:=by kernel_rfl
theorem X14(b:Nat)(h:Heap)(bk o:Nat)(l:List Value)(hl:l.length=34):Wy (E b).toEnv 59 (.pointer (some ⟨bk,o,none⟩)) (.agg ⟨l⟩) h=Uv h bk o l:=Xg5 (X25 b) (by rw[Xol];exact hl)
noncomputable def Qma:Func:=(Tryd.prog.funcs[27]?).getD default
theorem Yl(b:Nat):(mkE Tryd.prog nv b).fn.get 27=some Qma:=by kernel_rfl
noncomputable def Qex:Func:=(Tryd.prog.funcs[28]?).getD default
theorem Y8(b:Nat):(mkE Tryd.prog nv b).fn.get 28=some Qex:=by kernel_rfl
noncomputable def Qz5:Func:=(Tryd.prog.funcs[25]?).getD default
theorem Yu(b:Nat):(mkE Tryd.prog nv b).fn.get 25=some Qz5:=by kernel_rfl
noncomputable def Qhn:Func:=(Tryd.prog.funcs[26]?).getD default
theorem Yd(b:Nat):(mkE Tryd.prog nv b).fn.get 26=some Qhn:=by kernel_rfl
theorem Xcy(b:Nat)(a:Option Addr)(n c:Nat)(h:Heap):Qib (E b).toEnv 86 (.slice a n c) h=some (.int .i64 n):=by kernel_rfl
noncomputable def R86:TyRec:=((mkE Tryd.prog nv 0).ty.get 86).getD ⟨.invalid,0,0,.bool false,[]⟩
theorem X3p(b:Nat):(E b).toEnv.ty.get 86=some R86:=by kernel_rfl
theorem T86(b:Nat):SlTy (E b).toEnv 4 86 R4 R86:=⟨X45 b,X3p b,by kernel_rfl⟩
theorem Xd3(b:Nat){bk o n c:Nat}{k:IntKind}{i:Int}(h:0≤i∧i < n):J7 (E b).toEnv 86 (.slice (some ⟨bk,o,none⟩) n c) (.int k i)=some (.pointer (some ⟨bk,o+i.toNat*1,none⟩)):=Qqk (T86 b) Q1o h
noncomputable def Qcl:Func:=(Tryd.prog.funcs[5]?).getD default
theorem Y3(b:Nat):(mkE Tryd.prog nv b).fn.get 5=some Qcl:=by kernel_rfl
theorem Jb(x y:Int):Qa3 (binOp .neq 35 (.int .i64 x) (.int .i64 y))=some (.bool (!(decide (x=y)))):=by kernel_rfl
noncomputable def Xi9:Func:=(Tryd.prog.funcs[15]?).getD default
theorem Yk(b:Nat):(mkE Tryd.prog nv b).fn.get 15=some Xi9:=by kernel_rfl
abbrev Xhr:List Oper:=[oP 2 (.alloc 59)]
abbrev Xkn:Code:=oRg Xhr
abbrev Xgt:List Oper:=[oP 3 (.buildSlice 47 4 #[(0,(.const (.int .u8 115))),(1,(.const (.int .u8 101))),(2,(.const (.int .u8 101))),(3,(.const (.int .u8 100)))]),oP 4 (.convert 47 47 (oTt 3)),oP 5 (oCa 19 #[(oTt 4)] #[47]),oP 6 (oMv 0),oP 7 (.build 59 #[(0,(oTt 5)),(2,(oTt 6))]),oN (.store 59 (oTt 2) (oTt 7))]
abbrev Xkb:Code:=oRg Xgt
abbrev Xjl:Code:=.seq Xkb .ret
abbrev Xks:Code:=.seq Xkn Xjl
def Qmx:Code:=Xks
theorem Xjw:Uu (J2 64)=Qmx:=by kernel_rfl
theorem Xdj:Qpq.body=some (J2 64):=by kernel_rfl
theorem Xm0:Qpq.ntmps=8:=by kernel_rfl
theorem Q3e:Qpq.results.toList=[.cell 2 59]:=by kernel_rfl
abbrev Qbn:List Oper:=[oP 4 (.assign (oCi 0))]
abbrev Xh7:Code:=oRg Qbn
abbrev Xd1:List Oper:=[oP 5 (oMv 0),oP 6 (oMv 1),oP 7 (oCa 64 #[(oCi 9)] #[3]),oP 8 (oCa 18 #[(oTt 5),(oTt 6),(oTt 7)] #[47,43,59]),oP 4 (oAs 8)]
abbrev Xhh:Code:=oRg Xd1
abbrev Xgm:Code:=.seq Xhh .ret
abbrev Xi7:Code:=.seq Xh7 Xgm
def Qg2:Code:=Xi7
theorem Xgf:Uu (J2 27)=Qg2:=by kernel_rfl
theorem Xam:Qma.body=some (J2 27):=by kernel_rfl
theorem Xjk:Qma.ntmps=9:=by kernel_rfl
theorem Qrl:Qma.results.toList=[.tmp 4]:=by kernel_rfl
abbrev Q0l:List Oper:=[oP 2 (.assign (.const (.slice none 0 0)))]
abbrev Q1g:Code:=oRg Q0l
abbrev Qfo:List Oper:=[oP 3 (.assign (.const (.slice none 0 0)))]
abbrev Q1b:Code:=oRg Qfo
def Qox:List Oper:=Qbn
def Qng:Code:=oRg Qox
theorem Qcm:oRQ Qng Qox Qbn:=fun _ _=>rfl
abbrev Qg7:List Oper:=[oP 5 (oMv 4),oP 6 (oMv 0),oP 7 (oBu .len #[(oTt 6)] #[43]),oP 8 (.binOp .lss 3 (oTt 5) (oTt 7) 3)]
abbrev Q1n:Code:=oRg Qg7
abbrev Q1h:Code:=.cond (.tmp 8) .skip (.exit 0)
abbrev Q2a:Code:=.seq Q1n Q1h
abbrev Qxu:List Oper:=[oP 11 (oMv 3),oP 12 (oMv 0),oP 13 (oMv 4),oP 14 (oIx 43 12 13),oP 15 (oLd 47 14),oP 16 (oCa 46 #[(oTt 15)] #[47]),oP 17 (.buildSlice 43 1 #[(0,(oTt 16))]),oP 18 (oBu .append #[(oTt 11),(oTt 17)] #[43,43]),oP 3 (oAs 18)]
abbrev Qzk:Code:=oRg Qxu
abbrev Qzi:Code:=.block 1 Qzk
abbrev Qf8:List Oper:=[oP 9 (oMv 4),oP 10 (.binOp .add 3 (oTt 9) (oCi 1) 3),oP 4 (oAs 10)]
abbrev Q00:Code:=oRg Qf8
abbrev Qzp:Code:=.seq Qzi Q00
abbrev Q2c:Code:=.seq Q2a Qzp
def Qzf:Code:=.loop Q2c
abbrev Qzm:Code:=.block 0 Qzf
abbrev Q20:Code:=.seq Qng Qzm
abbrev Qym:List Oper:=[oP 19 (oMv 3),oP 2 (oAs 19)]
abbrev Q06:Code:=oRg Qym
abbrev Qzz:Code:=.seq Q06 .ret
abbrev Qzy:Code:=.seq Q20 Qzz
abbrev Q1j:Code:=.seq Q1b Qzy
abbrev Q2r:Code:=.seq Q1g Q1j
def Qar:Code:=Q2r
theorem Q1t:Uu (J2 28)=Qar:=by kernel_rfl
theorem Qy2:Qex.body=some (J2 28):=by kernel_rfl
theorem Q3z:Qex.ntmps=20:=by kernel_rfl
theorem Qe5:Qex.results.toList=[.tmp 2]:=by kernel_rfl
abbrev Xm2:List Oper:=[oP 2 (.assign (oCi 0))]
abbrev Xqu:Code:=oRg Xm2
abbrev Xma:List Oper:=[oP 3 (.assign (oCi 0))]
abbrev Xq2:Code:=oRg Xma
def Xf1:List Oper:=Qbn
def Xfv:Code:=oRg Xf1
theorem Qv4:oRQ Xfv Xf1 Qbn:=fun _ _=>rfl
def Xfu:List Oper:=Qg7
def Xfe:Code:=oRg Xfu
theorem Quw:oRQ Xfe Xfu Qg7:=fun _ _=>rfl
abbrev Xpm:Code:=.cond (.tmp 8) .skip (.exit 0)
abbrev Xpr:Code:=.seq Xfe Xpm
abbrev Xkp:List Oper:=[oP 11 (oMv 3),oP 12 (oMv 0),oP 13 (oMv 4),oP 14 (oIx 43 12 13),oP 15 (oLd 47 14),oP 16 (oBu .len #[(oTt 15)] #[47]),oP 17 (.binOp .add 3 (oTt 11) (oTt 16) 3),oP 18 (.binOp .add 3 (oTt 17) (oCi 1) 3),oP 19 (oBu .min #[(oTt 18),(oCi 1099511627776)] #[3,3]),oP 3 (oAs 19)]
abbrev Xn9:Code:=oRg Xkp
abbrev Xn2:Code:=.block 1 Xn9
def Xbp:List Oper:=Qf8
def Xc3:Code:=oRg Xbp
theorem Qpu:oRQ Xc3 Xbp Qf8:=fun _ _=>rfl
abbrev Xmh:Code:=.seq Xn2 Xc3
abbrev Xqd:Code:=.seq Xpr Xmh
def Xnb:Code:=.loop Xqd
abbrev Xn0:Code:=.block 0 Xnb
abbrev Xp3:Code:=.seq Xfv Xn0
abbrev Xj2:List Oper:=[oP 20 (oMv 3),oP 2 (oAs 20)]
abbrev Xn7:Code:=oRg Xj2
abbrev Xm5:Code:=.seq Xn7 .ret
abbrev Xn5:Code:=.seq Xp3 Xm5
abbrev Xpo:Code:=.seq Xq2 Xn5
abbrev Xpz:Code:=.seq Xqu Xpo
def Qly:Code:=Xpz
theorem Xpn:Uu (J2 25)=Qly:=by kernel_rfl
theorem Xjf:Qz5.body=some (J2 25):=by kernel_rfl
theorem Xtw:Qz5.ntmps=21:=by kernel_rfl
theorem Q1y:Qz5.results.toList=[.tmp 2]:=by kernel_rfl
abbrev Qcw:List Oper:=[oP 2 (.assign (.const (.bool false)))]
abbrev Q91:Code:=oRg Qcw
def Qwi:List Oper:=Qfo
def Qv8:Code:=oRg Qwi
theorem Vq:oRQ Qv8 Qwi Qfo:=fun _ _=>rfl
def Qw1:List Oper:=Qbn
def Qw3:Code:=oRg Qw1
theorem Vr:oRQ Qw3 Qw1 Qbn:=fun _ _=>rfl
abbrev Q6d:List Oper:=[oP 6 (oMv 4),oP 7 (oMv 0),oP 8 (oBu .len #[(oTt 7)] #[67]),oP 9 (.binOp .lss 3 (oTt 6) (oTt 8) 3)]
abbrev Q97:Code:=oRg Q6d
abbrev Q8f:Code:=.cond (.tmp 9) .skip (.exit 0)
abbrev Xbz:Code:=.seq Q97 Q8f
abbrev Q2f:List Oper:=[oP 12 (oMv 3),oP 13 (oBu .len #[(oTt 12)] #[86]),oP 5 (oAs 13)]
abbrev Q6u:Code:=oRg Q2f
abbrev Q31:List Oper:=[oP 14 (oMv 0),oP 15 (oMv 4),oP 16 (oIx 67 14 15),oP 17 (oFa 103 16 0),oP 18 (oLd 3 17)]
abbrev Q76:Code:=oRg Q31
abbrev Q1e:List Oper:=[oP 20 (.binOp .eql 3 (oTt 18) (oCi 136) 3),oP 19 (oAs 20)]
abbrev Q5d:Code:=oRg Q1e
abbrev Q2j:List Oper:=[oP 21 (oMv 3),oP 22 (.buildSlice 86 1 #[(0,(.const (.bool false)))]),oP 23 (oBu .append #[(oTt 21),(oTt 22)] #[86,86]),oP 3 (oAs 23)]
abbrev Q5k:Code:=oRg Q2j
abbrev Q1u:List Oper:=[oP 25 (.binOp .eql 3 (oTt 18) (oCi 137) 3),oP 24 (oAs 25)]
abbrev Q5b:Code:=oRg Q1u
abbrev Qp3:List Oper:=[oP 26 (oMv 5),oP 27 (.binOp .eql 3 (oTt 26) (oCi 0) 3),oP 28 (oMv 27),oG 2 false 29 (oMv 3),oG 2 false 30 (oMv 5),oG 2 false 31 (.binOp .sub 3 (oTt 30) (oCi 1) 3),oG 2 false 32 (oIx 86 29 31),oG 2 false 33 (oLd 4 32),oP 34 (.pick (oTt 28) (.const (.bool true)) (oTt 33))]
def Qig:List Oper:=Qp3
def Qs3:Code:=oRg Qig
theorem V9:oRQ Qs3 Qig Qp3:=fun _ _=>rfl
theorem Jt:nth Qig 2=some ⟨(some 28),.move (.tmp 27),0,"",#[],none⟩:=rfl
def Qs7:List Oper:=Qcw
def Qrt:Code:=oRg Qs7
theorem Vb:oRQ Qrt Qs7 Qcw:=fun _ _=>rfl
abbrev Q45:Code:=.seq Qrt .ret
abbrev Q5h:Code:=.cond (.tmp 34) Q45 .skip
abbrev Q51:Code:=.seq Qs3 Q5h
abbrev Q0y:List Oper:=[oP 35 (oMv 3),oP 36 (oMv 5),oP 37 (.binOp .sub 3 (oTt 36) (oCi 1) 3),oP 38 (oIx 86 35 37),oN (.store 4 (oTt 38) (.const (.bool true)))]
abbrev Q6p:Code:=oRg Q0y
abbrev Q3v:Code:=.seq Q51 Q6p
abbrev Q2p:List Oper:=[oP 40 (.binOp .eql 3 (oTt 18) (oCi 138) 3),oP 39 (oAs 40)]
abbrev Q5m:Code:=oRg Q2p
abbrev Q2i:List Oper:=[oP 41 (oMv 5),oP 42 (.binOp .eql 3 (oTt 41) (oCi 0) 3)]
abbrev Q5j:Code:=oRg Q2i
def Qrw:List Oper:=Qcw
def Qrz:Code:=oRg Qrw
theorem Va:oRQ Qrz Qrw Qcw:=fun _ _=>rfl
abbrev Q4a:Code:=.seq Qrz .ret
abbrev Q4p:Code:=.cond (.tmp 42) Q4a .skip
abbrev Q4k:Code:=.seq Q5j Q4p
abbrev Q2y:List Oper:=[oP 43 (oMv 3),oP 44 (oMv 5),oP 45 (.binOp .sub 3 (oTt 44) (oCi 1) 3),oP 46 (.slice 86 (oTt 43) none (some (oTt 45)) none),oP 3 (oAs 46)]
abbrev Q46:Code:=oRg Q2y
abbrev Q56:Code:=.seq Q4k Q46
abbrev Q3s:Code:=.cond (.tmp 39) Q56 .skip
abbrev Q3j:Code:=.seq Q5m Q3s
abbrev Q4x:Code:=.cond (.tmp 24) Q3v Q3j
abbrev Q57:Code:=.seq Q5b Q4x
abbrev Q4h:Code:=.cond (.tmp 19) Q5k Q57
abbrev Q5a:Code:=.seq Q5d Q4h
abbrev Q6l:Code:=.block 2 Q5a
abbrev Q6j:Code:=.seq Q76 Q6l
abbrev Q4t:Code:=.seq Q6u Q6j
abbrev Q52:Code:=.block 1 Q4t
abbrev Q1p:List Oper:=[oP 10 (oMv 4),oP 11 (.binOp .add 3 (oTt 10) (oCi 1) 3),oP 4 (oAs 11)]
abbrev Q63:Code:=oRg Q1p
abbrev Q6n:Code:=.seq Q52 Q63
abbrev Q7p:Code:=.seq Xbz Q6n
def Q55:Code:=.loop Q7p
abbrev Q4g:Code:=.block 0 Q55
abbrev Xbb:Code:=.seq Qw3 Q4g
abbrev Q1l:List Oper:=[oP 47 (oMv 3),oP 48 (oBu .len #[(oTt 47)] #[86]),oP 49 (.binOp .eql 3 (oTt 48) (oCi 0) 3),oP 2 (oAs 49)]
abbrev Q4d:Code:=oRg Q1l
abbrev Q5s:Code:=.seq Q4d .ret
abbrev Q3k:Code:=.seq Xbb Q5s
abbrev Q8e:Code:=.seq Qv8 Q3k
abbrev Xb2:Code:=.seq Q91 Q8e
def Jy:Code:=Xb2
theorem Xc6:Uu (J2 26)=Jy:=by kernel_rfl
theorem Q29:Qhn.body=some (J2 26):=by kernel_rfl
theorem Xcz:Qhn.ntmps=50:=by kernel_rfl
theorem Uh:Qhn.results.toList=[.tmp 2]:=by kernel_rfl
abbrev Qun:List Oper:=[oP 6 (.assign (.const (.bool false)))]
abbrev Qwv:Code:=oRg Qun
abbrev Quh:List Oper:=[oP 17 (oMv 0),oP 18 (oCa 24 #[(oTt 17)] #[47]),oP 16 (oMv 18),oP 19 (.extract (oTt 16) 0),oP 20 (.extract (oTt 16) 1),oP 7 (oAs 19),oP 8 (oAs 20)]
abbrev Qwx:Code:=oRg Quh
abbrev Qvb:List Oper:=[oP 22 (oMv 1),oP 23 (oCa 24 #[(oTt 22)] #[47]),oP 21 (oMv 23),oP 24 (.extract (oTt 21) 0),oP 25 (.extract (oTt 21) 1),oP 9 (oAs 24),oP 10 (oAs 25)]
abbrev Qxc:Code:=oRg Qvb
abbrev Qhx:List Oper:=[oP 26 (oMv 0),oP 27 (oBu .len #[(oTt 26)] #[47]),oP 28 (.binOp .gtr 3 (oTt 27) (oCi 1024) 3),oP 29 (oMv 28),oG 3 false 30 (oMv 1),oG 3 false 31 (oBu .len #[(oTt 30)] #[47]),oG 3 false 32 (.binOp .gtr 3 (oTt 31) (oCi 1024) 3),oP 33 (.pick (oTt 29) (.const (.bool true)) (oTt 32)),oP 34 (oMv 33),oG 8 false 35 (oMv 2),oG 8 false 36 (oCa 25 #[(oTt 35)] #[43]),oG 8 false 37 (.binOp .gtr 3 (oTt 36) (oCi 4096) 3),oP 38 (.pick (oTt 34) (.const (.bool true)) (oTt 37)),oP 39 (oMv 38),oG 13 false 40 (oMv 2),oG 13 false 41 (oBu .len #[(oTt 40)] #[43]),oG 13 false 42 (.binOp .gtr 3 (oTt 41) (oCi 15) 3),oP 43 (.pick (oTt 39) (.const (.bool true)) (oTt 42)),oP 44 (oMv 43),oG 18 false 45 (oMv 8),oG 18 false 46 (.binOp .neq 35 (oTt 45) (oCi 0) 35),oP 47 (.pick (oTt 44) (.const (.bool true)) (oTt 46)),oP 48 (oMv 47),oG 22 false 49 (oMv 10),oG 22 false 50 (.binOp .neq 35 (oTt 49) (oCi 0) 35),oP 51 (.pick (oTt 48) (.const (.bool true)) (oTt 50)),oP 52 (oMv 51),oG 26 false 53 (oMv 7),oG 26 false 54 (oCa 26 #[(oTt 53)] #[67]),oG 26 false 55 (.unOp .not 4 (oTt 54)),oP 56 (.pick (oTt 52) (.const (.bool true)) (oTt 55)),oP 57 (oMv 56),oG 31 false 58 (oMv 9),oG 31 false 59 (oCa 26 #[(oTt 58)] #[67]),oG 31 false 60 (.unOp .not 4 (oTt 59)),oP 61 (.pick (oTt 57) (.const (.bool true)) (oTt 60))]
def Jw:List Oper:=Qhx
def Qin:Code:=oRg Jw
theorem Xx:oRQ Qin Jw Qhx:=fun _ _=>rfl
theorem Xv:nth Jw 3=some ⟨(some 29),.move (.tmp 28),0,"",#[],none⟩:=rfl
theorem Xs:nth Jw 8=some ⟨(some 34),.move (.tmp 33),0,"",#[],none⟩:=rfl
theorem Xn:nth Jw 13=some ⟨(some 39),.move (.tmp 38),0,"",#[],none⟩:=rfl
theorem Xq:nth Jw 18=some ⟨(some 44),.move (.tmp 43),0,"",#[],none⟩:=rfl
theorem Xl:nth Jw 22=some ⟨(some 48),.move (.tmp 47),0,"",#[],none⟩:=rfl
theorem Xp:nth Jw 26=some ⟨(some 52),.move (.tmp 51),0,"",#[],none⟩:=rfl
theorem Xo:nth Jw 31=some ⟨(some 57),.move (.tmp 56),0,"",#[],none⟩:=rfl
abbrev Qwb:List Oper:=[oP 62 (oCa 15 #[] #[]),oP 6 (oAs 62)]
abbrev Qxb:Code:=oRg Qwb
abbrev Qx5:Code:=.seq Qxb .ret
abbrev Qw0:Code:=.cond (.tmp 61) Qx5 .skip
abbrev Qx2:Code:=.seq Qin Qw0
abbrev Qtw:List Oper:=[oP 11 (.assign (.const (.slice none 0 0))),oP 12 (.assign (.const (.slice none 0 0)))]
abbrev Qw4:Code:=oRg Qtw
abbrev Qsr:List Oper:=[oP 63 (.buildSlice 47 1 #[(0,(.const (.int .u8 136)))]),oP 64 (oMv 0),oP 65 (oBu .append #[(oTt 63),(oTt 64)] #[47,47]),oP 66 (.buildSlice 47 1 #[(0,(.const (.int .u8 137)))]),oP 67 (oBu .append #[(oTt 65),(oTt 66)] #[47,47]),oP 68 (oMv 1),oP 69 (oBu .append #[(oTt 67),(oTt 68)] #[47,47]),oP 70 (.buildSlice 47 1 #[(0,(.const (.int .u8 138)))]),oP 71 (oBu .append #[(oTt 69),(oTt 70)] #[47,47]),oP 11 (oAs 71)]
abbrev Quf:Code:=oRg Qsr
abbrev Qtc:List Oper:=[oP 72 (.buildSlice 47 1 #[(0,(.const (.int .u8 136)))]),oP 73 (oMv 1),oP 74 (oBu .append #[(oTt 72),(oTt 73)] #[47,47]),oP 75 (.buildSlice 47 1 #[(0,(.const (.int .u8 137)))]),oP 76 (oBu .append #[(oTt 74),(oTt 75)] #[47,47]),oP 77 (oMv 0),oP 78 (oBu .append #[(oTt 76),(oTt 77)] #[47,47]),oP 79 (.buildSlice 47 1 #[(0,(.const (.int .u8 138)))]),oP 80 (oBu .append #[(oTt 78),(oTt 79)] #[47,47]),oP 12 (oAs 80)]
abbrev Qvz:Code:=oRg Qtc
abbrev Qh6:List Oper:=[oP 81 (oMv 11),oP 82 (oBu .len #[(oTt 81)] #[47]),oP 83 (.binOp .gtr 3 (oTt 82) (oCi 256) 3),oP 84 (oMv 83),oG 3 false 85 (oMv 7),oG 3 false 86 (oBu .len #[(oTt 85)] #[67]),oG 3 false 87 (oMv 9),oG 3 false 88 (oBu .len #[(oTt 87)] #[67]),oG 3 false 89 (.binOp .add 3 (oTt 86) (oTt 88) 3),oG 3 false 90 (.binOp .add 3 (oTt 89) (oCi 3) 3),oG 3 false 91 (.binOp .gtr 3 (oTt 90) (oCi 64) 3),oP 92 (.pick (oTt 84) (.const (.bool true)) (oTt 91))]
def Qdn:List Oper:=Qh6
def Qhy:Code:=oRg Qdn
theorem Xt:oRQ Qhy Qdn Qh6:=fun _ _=>rfl
theorem Xr:nth Qdn 3=some ⟨(some 84),.move (.tmp 83),0,"",#[],none⟩:=rfl
abbrev Qt4:List Oper:=[oP 93 (oCa 15 #[] #[]),oP 6 (oAs 93)]
abbrev Qwa:Code:=oRg Qt4
abbrev Qvr:Code:=.seq Qwa .ret
abbrev Qv5:Code:=.cond (.tmp 92) Qvr .skip
abbrev Qwe:Code:=.seq Qhy Qv5
abbrev Qsi:List Oper:=[oP 94 (oMv 0),oP 95 (oMv 2),oP 96 (oCa 27 #[(oTt 94),(oTt 95)] #[47,43]),oP 13 (oAs 96)]
abbrev Qul:Code:=oRg Qsi
abbrev Qsw:List Oper:=[oP 97 (oMv 11),oP 98 (oMv 2),oP 99 (oCa 28 #[(oTt 98)] #[43]),oP 100 (.buildSlice 47 1 #[(0,(.const (.int .u8 1)))]),oP 101 (.buildSlice 43 1 #[(0,(oTt 100))]),oP 102 (oBu .append #[(oTt 99),(oTt 101)] #[43,43]),oP 103 (oCa 27 #[(oTt 97),(oTt 102)] #[47,43]),oP 14 (oAs 103)]
abbrev Qvy:Code:=oRg Qsw
abbrev Qss:List Oper:=[oP 104 (oMv 12),oP 105 (oMv 2),oP 106 (oCa 28 #[(oTt 105)] #[43]),oP 107 (.buildSlice 43 1 #[(0,(.const (.slice none 0 0)))]),oP 108 (oBu .append #[(oTt 106),(oTt 107)] #[43,43]),oP 109 (oCa 27 #[(oTt 104),(oTt 108)] #[47,43]),oP 15 (oAs 109)]
abbrev Qwf:Code:=oRg Qss
abbrev Qgt:List Oper:=[oP 110 (oMv 14),oP 111 (oMv 13),oP 112 (.binOp .eql 35 (oTt 110) (oTt 111) 35),oP 113 (oMv 112),oG 3 true 114 (oMv 15),oG 3 true 115 (oMv 13),oG 3 true 116 (.binOp .eql 35 (oTt 114) (oTt 115) 35),oP 117 (.pick (oTt 113) (oTt 116) (.const (.bool false))),oP 118 (oMv 117),oG 8 true 119 (oCa 15 #[] #[]),oP 120 (.pick (oTt 118) (oTt 119) (.const (.bool false))),oP 6 (oAs 120)]
def Qbl:List Oper:=Qgt
def Qhv:Code:=oRg Qbl
theorem Xu:oRQ Qhv Qbl Qgt:=fun _ _=>rfl
theorem Xm:nth Qbl 3=some ⟨(some 113),.move (.tmp 112),0,"",#[],none⟩:=rfl
theorem Xk:nth Qbl 8=some ⟨(some 118),.move (.tmp 117),0,"",#[],none⟩:=rfl
abbrev Qvq:Code:=.seq Qhv .ret
abbrev Qtz:Code:=.seq Qwf Qvq
abbrev Qus:Code:=.seq Qvy Qtz
abbrev Qu8:Code:=.seq Qul Qus
abbrev Qvj:Code:=.seq Qwe Qu8
abbrev Qv0:Code:=.seq Qvz Qvj
abbrev Qv2:Code:=.seq Quf Qv0
abbrev Qwl:Code:=.seq Qw4 Qv2
abbrev Quo:Code:=.seq Qx2 Qwl
abbrev Qx3:Code:=.seq Qxc Quo
abbrev Qxa:Code:=.seq Qwx Qx3
abbrev Qwu:Code:=.seq Qwv Qxa
def Xw:Code:=Qwu
theorem Qx7:Uu (J2 5)=Xw:=by kernel_rfl
theorem Qt9:Qcl.body=some (J2 5):=by kernel_rfl
theorem Qya:Qcl.ntmps=121:=by kernel_rfl
theorem Y4:Qcl.results.toList=[.tmp 6]:=by kernel_rfl
end Go.Proofs.YtgeeklmjfbiieaaDoor
