/-
  Facts of the functions' code and of the types, printed by a program (ShD).
-/
import Derived.Test.YtgeeklmjfbiieaaDoorFactsP
set_option linter.all false
noncomputable section
namespace Go.Proofs.YtgeeklmjfbiieaaDoor
open Go Go.Ab
set_option maxRecDepth 100000
variable{b:Nat}{C:CallP}{D0:CallF}{rd:Option Nat}(s:St)(K:Exit→St→Prop)
noncomputable def Qir:Func:=(Tryd.prog.funcs[50]?).getD default
theorem Qa(b:Nat):(mkE Tryd.prog nv b).fn.get 50=some Qir:=by kernel_rfl
theorem X2c(b:Nat)(v:Value):Q0k (E b).toEnv 35 v=some (.iface 35 v):=by kernel_rfl
noncomputable def Qbx:Func:=(Tryd.prog.funcs[86]?).getD default
theorem Q0(b:Nat):(mkE Tryd.prog nv b).fn.get 86=some Qbx:=by kernel_rfl
theorem Jx(b bk o:Nat):Uq (E b).toEnv 107 (.pointer (some ⟨bk,o,none⟩)) 1=some (.pointer (some ⟨bk,o+34,none⟩)):=by kernel_rfl
noncomputable def R43:TyRec:=((mkE Tryd.prog nv 0).ty.get 43).getD ⟨.invalid,0,0,.bool false,[]⟩
theorem Xwm(b:Nat):(E b).toEnv.ty.get 43=some R43:=by kernel_rfl
theorem Xyg:Qb0 R43.desc=false:=by kernel_rfl
theorem Xou:R43.size=1:=by kernel_rfl
theorem T43(b:Nat):SlTy (E b).toEnv 47 43 R47 R43:=⟨Qy5 b,Xwm b,by kernel_rfl⟩
theorem Qeb(b:Nat)(h:Heap)(bk o:Nat):Qdh (E b).toEnv 43 (.pointer (some ⟨bk,o,none⟩)) h=Vs h bk o:=Qzl (Xwm b) Xyg
theorem Jd(b:Nat)(a:Option Addr)(n c:Nat)(h:Heap):Qib (E b).toEnv 43 (.slice a n c) h=some (.int .i64 n):=by kernel_rfl
theorem J5(x y:Int):Qa3 (binOp .sub 3 (.int .i64 x) (.int .i64 y))=some (.int .i64 (IntKind.wrap .i64 (x-y))):=by kernel_rfl
theorem Qbf(b:Nat){bk o n c:Nat}{k:IntKind}{i:Int}(h:0≤i∧i < n):J7 (E b).toEnv 43 (.slice (some ⟨bk,o,none⟩) n c) (.int k i)=some (.pointer (some ⟨bk,o+i.toNat*1,none⟩)):=Qqk (T43 b) Qcj h
theorem Zs(b:Nat)(h:Heap)(bk o:Nat):Qdh (E b).toEnv 47 (.pointer (some ⟨bk,o,none⟩)) h=Vs h bk o:=Qzl (Qy5 b) Xz3
theorem X1b(b:Nat)(h:Heap)(bk o:Nat)(v:Value)(hv:Xjn v=true):Wy (E b).toEnv 43 (.pointer (some ⟨bk,o,none⟩)) v h=Uv h bk o [v]:=Qxg (Xwm b) Xou hv
theorem Qg0(b:Nat)(h:Heap)(bk o:Nat)(a:Option Addr)(n c:Nat):Wy (E b).toEnv 43 (.pointer (some ⟨bk,o,none⟩)) (.slice a n c) h=Uv h bk o [(.slice a n c)]:=Qxg (Xwm b) Xou rfl
noncomputable def Qbh:Func:=(Tryd.prog.funcs[83]?).getD default
theorem Qh(b:Nat):(mkE Tryd.prog nv b).fn.get 83=some Qbh:=by kernel_rfl
noncomputable def Qb8:Func:=(Tryd.prog.funcs[88]?).getD default
theorem Qv(b:Nat):(mkE Tryd.prog nv b).fn.get 88=some Qb8:=by kernel_rfl
noncomputable def Qfl:Func:=(Tryd.prog.funcs[53]?).getD default
theorem Qn(b:Nat):(mkE Tryd.prog nv b).fn.get 53=some Qfl:=by kernel_rfl
noncomputable def Qm5:Func:=(Tryd.prog.funcs[91]?).getD default
theorem Qbg(b:Nat):(mkE Tryd.prog nv b).fn.get 91=some Qm5:=by kernel_rfl
theorem Ym(x y:Int):Qa3 (binOp .eql 3 (.int .i64 x) (.int .i64 y))=some (.bool (decide (x=y))):=by kernel_rfl
theorem X0t(b:Nat)(s:ByteArray)(h:Heap):Qib (E b).toEnv 9 (.string s) h=some (.int .i64 s.size):=by kernel_rfl
noncomputable def R9:TyRec:=((mkE Tryd.prog nv 0).ty.get 9).getD ⟨.invalid,0,0,.bool false,[]⟩
theorem X4c(b:Nat):(E b).toEnv.ty.get 9=some R9:=by kernel_rfl
theorem Xio(x y:Int):Qa3 (binOp .lss 5 (.int .u8 x) (.int .u8 y))=some (.bool (decide (x < y))):=by kernel_rfl
noncomputable def Qbc:Func:=(Tryd.prog.funcs[125]?).getD default
theorem Ja(b:Nat):(mkE Tryd.prog nv b).fn.get 125=some Qbc:=by kernel_rfl
noncomputable def Qby:Func:=(Tryd.prog.funcs[124]?).getD default
theorem Jg(b:Nat):(mkE Tryd.prog nv b).fn.get 124=some Qby:=by kernel_rfl
noncomputable def Qws:Func:=(Tryd.prog.funcs[126]?).getD default
theorem Wt(b:Nat):(mkE Tryd.prog nv b).fn.get 126=some Qws:=by kernel_rfl
noncomputable def X4f:TyRec:=((mkE Tryd.prog nv 0).ty.get 202).getD ⟨.invalid,0,0,.bool false,[]⟩
theorem X2i(b:Nat):(E b).toEnv.ty.get 202=some X4f:=by kernel_rfl
theorem Xu6:X4f.size=256:=by kernel_rfl
noncomputable def R4:TyRec:=((mkE Tryd.prog nv 0).ty.get 4).getD ⟨.invalid,0,0,.bool false,[]⟩
theorem X45(b:Nat):(E b).toEnv.ty.get 4=some R4:=by kernel_rfl
theorem X1r:Qb0 R4.desc=false:=by kernel_rfl
theorem Q1o:R4.size=1:=by kernel_rfl
theorem Xwv:R4.bytes=1:=by kernel_rfl
theorem Xl1(b:Nat)(h:Heap):Qdl (E b).toEnv 202 h=some (.pointer (some ⟨h.next,0,none⟩),h.push (.cells true 1 (List.replicate 256 (.bool false)))):=by kernel_rfl
theorem Xl5(b:Nat)(h:Heap)(bk o:Nat)(l:List Value)(hl:l.length=256):Wy (E b).toEnv 202 (.pointer (some ⟨bk,o,none⟩)) (.agg ⟨l⟩) h=Uv h bk o l:=Xg5 (X2i b) (by rw[Xu6];exact hl)
noncomputable def Qsc:Func:=(Tryd.prog.funcs[128]?).getD default
theorem Uz(b:Nat):(mkE Tryd.prog nv b).fn.get 128=some Qsc:=by kernel_rfl
noncomputable def Qvt:Func:=(Tryd.prog.funcs[127]?).getD default
theorem Wa(b:Nat):(mkE Tryd.prog nv b).fn.get 127=some Qvt:=by kernel_rfl
noncomputable def Qon:Func:=(Tryd.prog.funcs[130]?).getD default
theorem Uj(b:Nat):(mkE Tryd.prog nv b).fn.get 130=some Qon:=by kernel_rfl
noncomputable def Qpw:Func:=(Tryd.prog.funcs[129]?).getD default
theorem Ur(b:Nat):(mkE Tryd.prog nv b).fn.get 129=some Qpw:=by kernel_rfl
noncomputable def Qbt:Func:=(Tryd.prog.funcs[85]?).getD default
theorem Q9(b:Nat):(mkE Tryd.prog nv b).fn.get 85=some Qbt:=by kernel_rfl
theorem Zi(b bk o:Nat):Uq (E b).toEnv 107 (.pointer (some ⟨bk,o,none⟩)) 2=some (.pointer (some ⟨bk,o+35,none⟩)):=by kernel_rfl
noncomputable def X2r:TyRec:=((mkE Tryd.prog nv 0).ty.get 105).getD ⟨.invalid,0,0,.bool false,[]⟩
theorem Xoy(b:Nat):(E b).toEnv.ty.get 105=some X2r:=by kernel_rfl
theorem Xvc:Qb0 X2r.desc=false:=by kernel_rfl
theorem Xjc:X2r.size=1:=by kernel_rfl
noncomputable def X32:TyRec:=((mkE Tryd.prog nv 0).ty.get 197).getD ⟨.invalid,0,0,.bool false,[]⟩
theorem X27(b:Nat):(E b).toEnv.ty.get 197=some X32:=by kernel_rfl
theorem Quq:X32.size=3:=by kernel_rfl
theorem Xq6:X32.bytes=3:=by kernel_rfl
theorem Xv1(b:Nat):SlTy (E b).toEnv 197 105 X32 X2r:=⟨X27 b,Xoy b,by kernel_rfl⟩
theorem V0(b:Nat)(h:Heap)(bk o:Nat):Qdh (E b).toEnv 105 (.pointer (some ⟨bk,o,none⟩)) h=Vs h bk o:=Qzl (Xoy b) Xvc
theorem V5(b:Nat)(a:Option Addr)(n c:Nat)(h:Heap):Qib (E b).toEnv 105 (.slice a n c) h=some (.int .i64 n):=by kernel_rfl
theorem Wc(b:Nat){bk o n c:Nat}{k:IntKind}{i:Int}(h:0≤i∧i < n):J7 (E b).toEnv 105 (.slice (some ⟨bk,o,none⟩) n c) (.int k i)=some (.pointer (some ⟨bk,o+i.toNat*3,none⟩)):=Qqk (Xv1 b) Quq h
theorem Jj(b bk o:Nat):Uq (E b).toEnv 197 (.pointer (some ⟨bk,o,none⟩)) 0=some (.pointer (some ⟨bk,o+0,none⟩)):=by kernel_rfl
theorem Ql8(b:Nat)(h:Heap)(bk o:Nat):Qdh (E b).toEnv 4 (.pointer (some ⟨bk,o,none⟩)) h=Vs h bk o:=Qzl (X45 b) X1r
noncomputable def Ws:Func:=(Tryd.prog.funcs[84]?).getD default
theorem Q1(b:Nat):(mkE Tryd.prog nv b).fn.get 84=some Ws:=by kernel_rfl
theorem Xy6(b:Nat)(h:Heap)(bk o:Nat)(v:Value)(hv:Xjn v=true):Wy (E b).toEnv 105 (.pointer (some ⟨bk,o,none⟩)) v h=Uv h bk o [v]:=Qxg (Xoy b) Xjc hv
theorem Vw(b:Nat)(h:Heap)(bk o:Nat)(a:Option Addr)(n c:Nat):Wy (E b).toEnv 105 (.pointer (some ⟨bk,o,none⟩)) (.slice a n c) h=Uv h bk o [(.slice a n c)]:=Qxg (Xoy b) Xjc rfl
theorem Vz(b bk o:Nat):Uq (E b).toEnv 197 (.pointer (some ⟨bk,o,none⟩)) 2=some (.pointer (some ⟨bk,o+2,none⟩)):=by kernel_rfl
theorem W3(b:Nat)(h:Heap)(bk o:Nat)(x:Bool):Wy (E b).toEnv 4 (.pointer (some ⟨bk,o,none⟩)) (.bool x) h=Uv h bk o [(.bool x)]:=Qxg (X45 b) Q1o rfl
theorem Vy(b bk o:Nat):Uq (E b).toEnv 197 (.pointer (some ⟨bk,o,none⟩)) 1=some (.pointer (some ⟨bk,o+1,none⟩)):=by kernel_rfl
noncomputable def Qbj:Func:=(Tryd.prog.funcs[89]?).getD default
theorem Qj(b:Nat):(mkE Tryd.prog nv b).fn.get 89=some Qbj:=by kernel_rfl
theorem Ua(b bk o:Nat):Uq (E b).toEnv 107 (.pointer (some ⟨bk,o,none⟩)) 0=some (.pointer (some ⟨bk,o+0,none⟩)):=by kernel_rfl
theorem Qf3(b bk o:Nat):Uq (E b).toEnv 59 (.pointer (some ⟨bk,o,none⟩)) 0=some (.pointer (some ⟨bk,o+0,none⟩)):=by kernel_rfl
noncomputable def R38:TyRec:=((mkE Tryd.prog nv 0).ty.get 38).getD ⟨.invalid,0,0,.bool false,[]⟩
theorem X3y(b:Nat):(E b).toEnv.ty.get 38=some R38:=by kernel_rfl
theorem Xzd:Qb0 R38.desc=false:=by kernel_rfl
theorem Qxz(b:Nat)(h:Heap)(bk o:Nat):Qdh (E b).toEnv 38 (.pointer (some ⟨bk,o,none⟩)) h=Vs h bk o:=Qzl (X3y b) Xzd
theorem Qf5(b bk o:Nat):Uq (E b).toEnv 59 (.pointer (some ⟨bk,o,none⟩)) 1=some (.pointer (some ⟨bk,o+1,none⟩)):=by kernel_rfl
noncomputable def R23:TyRec:=((mkE Tryd.prog nv 0).ty.get 23).getD ⟨.invalid,0,0,.bool false,[]⟩
theorem Xwe(b:Nat):(E b).toEnv.ty.get 23=some R23:=by kernel_rfl
theorem X04:Qb0 R23.desc=true:=by kernel_rfl
theorem Xht:R23.size=32:=by kernel_rfl
theorem T23(b:Nat):ArTy (E b).toEnv 32 5 23 R5 R23:=⟨Xpe b,Xwe b,by kernel_rfl⟩
theorem Qec(b:Nat)(h:Heap)(bk o:Nat):Qdh (E b).toEnv 23 (.pointer (some ⟨bk,o,none⟩)) h=Qgg h bk o 32:=Xiu (Xwe b) X04 Xht
noncomputable def R90:TyRec:=((mkE Tryd.prog nv 0).ty.get 90).getD ⟨.invalid,0,0,.bool false,[]⟩
theorem Xze(b:Nat):(E b).toEnv.ty.get 90=some R90:=by kernel_rfl
theorem X03:Qb0 R90.desc=true:=by kernel_rfl
theorem Xom:R90.size=16:=by kernel_rfl
theorem Qf1(b:Nat)(h:Heap)(bk o:Nat):Qdh (E b).toEnv 90 (.pointer (some ⟨bk,o,none⟩)) h=Qgg h bk o 16:=Xiu (Xze b) X03 Xom
noncomputable def Qbv:Func:=(Tryd.prog.funcs[123]?).getD default
theorem Yo(b:Nat):(mkE Tryd.prog nv b).fn.get 123=some Qbv:=by kernel_rfl
noncomputable def Qax:Func:=(Tryd.prog.funcs[90]?).getD default
theorem Qi(b:Nat):(mkE Tryd.prog nv b).fn.get 90=some Qax:=by kernel_rfl
theorem Qif(b bk o:Nat):Uq (E b).toEnv 59 (.pointer (some ⟨bk,o,none⟩)) 2=some (.pointer (some ⟨bk,o+33,none⟩)):=by kernel_rfl
noncomputable def R3:TyRec:=((mkE Tryd.prog nv 0).ty.get 3).getD ⟨.invalid,0,0,.bool false,[]⟩
theorem X4l(b:Nat):(E b).toEnv.ty.get 3=some R3:=by kernel_rfl
theorem X2b:Qb0 R3.desc=false:=by kernel_rfl
theorem Qa5(b:Nat)(h:Heap)(bk o:Nat):Qdh (E b).toEnv 3 (.pointer (some ⟨bk,o,none⟩)) h=Vs h bk o:=Qzl (X4l b) X2b
theorem Qs9(x y:Int):Qa3 (binOp .geq 3 (.int .i64 x) (.int .i64 y))=some (.bool (decide (x ≥ y))):=by kernel_rfl
noncomputable def Qbb:Func:=(Tryd.prog.funcs[52]?).getD default
theorem Q8(b:Nat):(mkE Tryd.prog nv b).fn.get 52=some Qbb:=by kernel_rfl
theorem Yr(b bk o:Nat):Uq (E b).toEnv 103 (.pointer (some ⟨bk,o,none⟩)) 0=some (.pointer (some ⟨bk,o+0,none⟩)):=by kernel_rfl
noncomputable def Qpd:Func:=(Tryd.prog.funcs[87]?).getD default
theorem Y5(b:Nat):(mkE Tryd.prog nv b).fn.get 87=some Qpd:=by kernel_rfl
theorem J8(b:Nat)(h:Heap):Qdl (E b).toEnv 23 h=some (.pointer (some ⟨h.next,0,none⟩),h.push (.cells true 1 [(.int .u8 0),(.int .u8 0),(.int .u8 0),(.int .u8 0),(.int .u8 0),(.int .u8 0),(.int .u8 0),(.int .u8 0),(.int .u8 0),(.int .u8 0),(.int .u8 0),(.int .u8 0),(.int .u8 0),(.int .u8 0),(.int .u8 0),(.int .u8 0),(.int .u8 0),(.int .u8 0),(.int .u8 0),(.int .u8 0),(.int .u8 0),(.int .u8 0),(.int .u8 0),(.int .u8 0),(.int .u8 0),(.int .u8 0),(.int .u8 0),(.int .u8 0),(.int .u8 0),(.int .u8 0),(.int .u8 0),(.int .u8 0)])):=by kernel_rfl
theorem Jf(b:Nat)(h:Heap)(bk o:Nat)(l:List Value)(hl:l.length=32):Wy (E b).toEnv 23 (.pointer (some ⟨bk,o,none⟩)) (.agg ⟨l⟩) h=Uv h bk o l:=Xg5 (Xwe b) (by rw[Xht];exact hl)
noncomputable def Qis:Func:=(Tryd.prog.funcs[42]?).getD default
theorem Y2(b:Nat):(mkE Tryd.prog nv b).fn.get 42=some Qis:=by kernel_rfl
abbrev Xc0:List Oper:=[oP 4 (oMv 0),oP 5 (.unOp .not 4 (oTt 4))]
abbrev Xcl:Code:=oRg Xc0
abbrev Xba:List Oper:=[oP 6 (oMv 1),oP 7 (.makeInterface 35 (oTt 6)),oN (.panic (oTt 7))]
abbrev Xe7:Code:=oRg Xba
abbrev Xdv:Code:=.cond (.tmp 5) Xe7 .skip
abbrev Xcg:Code:=.seq Xcl Xdv
def Qij:Code:=Xcg
theorem Qxf:Uu (J2 50)=Qij:=by kernel_rfl
theorem Qrr:Qir.body=some (J2 50):=by kernel_rfl
theorem Q0m:Qir.ntmps=8:=by kernel_rfl
theorem Qxj:Qir.results.toList=[]:=by kernel_rfl
abbrev Qtr:List Oper:=[oP 2 (.assign (.const (.slice none 0 0)))]
abbrev Qw6:Code:=oRg Qtr
abbrev Qsu:List Oper:=[oP 4 (oMv 0),oP 5 (.nilCheck (oTt 4)),oP 6 (oFa 107 5 1),oP 7 (oLd 43 6),oP 8 (oBu .len #[(oTt 7)] #[43]),oP 9 (.binOp .gtr 3 (oTt 8) (oCi 0) 3),oP 10 (oCa 50 #[(oTt 9),(oCi 16)] #[4,35])]
abbrev Qwc:Code:=oRg Qsu
noncomputable def Um:Array Oper:=Q8d (Q7j 2 (J2 86))
def Qvo:Code:=.region 2 Um true
abbrev Qcd:List Oper:=[oP 11 (oMv 0),oP 12 (.nilCheck (oTt 11)),oP 13 (oFa 107 12 1),oP 14 (oLd 43 13),oP 15 (oMv 0),oP 16 (.nilCheck (oTt 15)),oP 17 (oFa 107 16 1),oP 18 (oLd 43 17),oP 19 (oBu .len #[(oTt 18)] #[43]),oP 20 (.binOp .sub 3 (oTt 19) (oCi 1) 3),oP 21 (oIx 43 14 20),oP 22 (oLd 47 21),oP 3 (oAs 22)]
def Qaw:List Oper:=Qcd
theorem Qli:Um.toList.map bare=Qcd:=by kernel_rfl
theorem Qkp:Um.toList.map bare=Qaw:=Qli
def Ux:List Nat:=[0,1,3,7,0,16,48,112,240,496,1023,2047,4095]
theorem Qls:Qtx Um.toList []=some Ux:=by kernel_rfl
theorem Qkw:W7 Um.toList Um.toList Ux []=true:=by kernel_rfl
theorem Qmt(b:Nat)(L:List KE)(s:St):Ab.runT (E b) L Qaw Ux Qaw 0 s=Ab.runT (E b) L Qaw Ux Qcd 0 s:=rfl
noncomputable def Uo:Array Oper:=Q8d (Q7j 3 (J2 86))
def Quz:Code:=.region 3 Uo true
abbrev Qcn:List Oper:=[oP 23 (oMv 0),oP 24 (oMv 0),oP 25 (.nilCheck (oTt 24)),oP 26 (oFa 107 25 1),oP 27 (oLd 43 26),oP 28 (oMv 0),oP 29 (.nilCheck (oTt 28)),oP 30 (oFa 107 29 1),oP 31 (oLd 43 30),oP 32 (oBu .len #[(oTt 31)] #[43]),oP 33 (.binOp .sub 3 (oTt 32) (oCi 1) 3),oP 34 (.slice 43 (oTt 27) none (some (oTt 33)) none),oP 35 (.nilCheck (oTt 23)),oP 36 (oFa 107 35 1),oN (.store 43 (oTt 36) (oTt 34))]
def W9:List Oper:=Qcn
theorem Ql9:Uo.toList.map bare=Qcn:=by kernel_rfl
theorem Qju:Uo.toList.map bare=W9:=Ql9
def Vi:List Nat:=[0,0,2,6,14,0,32,96,224,480,992,2046,4095,8191,16383]
theorem Qln:Qtx Uo.toList []=some Vi:=by kernel_rfl
theorem Qkn:W7 Uo.toList Uo.toList Vi []=true:=by kernel_rfl
theorem Qmk(b:Nat)(L:List KE)(s:St):Ab.runT (E b) L W9 Vi W9 0 s=Ab.runT (E b) L W9 Vi Qcn 0 s:=rfl
theorem Qmh(b:Nat):Qap (E b) 14 ((nth Vi 14).getD 0) W9 Vi 0=true:=by kernel_rfl
abbrev Qt0:List Oper:=[oP 37 (oMv 3),oP 2 (oAs 37)]
abbrev Quy:Code:=oRg Qt0
abbrev Qwg:Code:=.seq Quy .ret
abbrev Qu6:Code:=.seq Quz Qwg
abbrev Quc:Code:=.seq Qvo Qu6
abbrev Qwh:Code:=.seq Qwc Quc
abbrev Qvd:Code:=.seq Qw6 Qwh
def J0:Code:=Qvd
theorem Qhz:Uu (J2 86)=J0:=by kernel_rfl
theorem Qg9:Qbx.body=some (J2 86):=by kernel_rfl
theorem Qio:Qbx.ntmps=38:=by kernel_rfl
theorem Jh:Qbx.results.toList=[.tmp 2]:=by kernel_rfl
abbrev Qrj:List Oper:=[oP 4 (oMv 0),oP 5 (.nilCheck (oTt 4)),oP 6 (oFa 107 5 1),oP 7 (oLd 43 6),oP 8 (oBu .len #[(oTt 7)] #[43]),oP 9 (.binOp .lss 3 (oTt 8) (oCi 16) 3),oP 10 (oCa 50 #[(oTt 9),(oCi 16)] #[4,35])]
abbrev Qti:Code:=oRg Qrj
abbrev Qp6:List Oper:=[oP 11 (oMv 0),oP 12 (oMv 0),oP 13 (.nilCheck (oTt 12)),oP 14 (oFa 107 13 1),oP 15 (oLd 43 14),oP 16 (oMv 1),oP 17 (.buildSlice 43 1 #[(0,(oTt 16))]),oP 18 (oBu .append #[(oTt 15),(oTt 17)] #[43,43]),oP 19 (.nilCheck (oTt 11)),oP 20 (oFa 107 19 1),oN (.store 43 (oTt 20) (oTt 18))]
abbrev Qsp:Code:=oRg Qp6
abbrev Qtn:Code:=.seq Qti Qsp
def Us:Code:=Qtn
theorem Qh7:Uu (J2 83)=Us:=by kernel_rfl
theorem Qfd:Qbh.body=some (J2 83):=by kernel_rfl
theorem Qi4:Qbh.ntmps=21:=by kernel_rfl
theorem Qav:Qbh.results.toList=[]:=by kernel_rfl
abbrev Qqn:List Oper:=[oP 4 (oMv 1)]
abbrev Qtk:Code:=oRg Qqn
abbrev Qr1:List Oper:=[oP 5 (oMv 0),oP 6 (.buildSlice 47 1 #[(0,(.const (.int .u8 1)))]),oP 7 (oCa 83 #[(oTt 5),(oTt 6)] #[100,47])]
abbrev Qsz:Code:=oRg Qr1
abbrev Qq5:List Oper:=[oP 8 (oMv 0),oP 9 (oCa 83 #[(oTt 8),(.const (.slice none 0 0))] #[100,47])]
abbrev Qtj:Code:=oRg Qq5
abbrev Qsk:Code:=.cond (.tmp 4) Qsz Qtj
abbrev Qt3:Code:=.seq Qtk Qsk
def V1:Code:=Qt3
theorem Qtb:Uu (J2 88)=V1:=by kernel_rfl
theorem Qnc:Qb8.body=some (J2 88):=by kernel_rfl
theorem Qw7:Qb8.ntmps=10:=by kernel_rfl
theorem Uf:Qb8.results.toList=[]:=by kernel_rfl
abbrev Qc4:List Oper:=[oP 2 (.assign (.const (.bool false)))]
abbrev Q4z:Code:=oRg Qc4
abbrev Q10:List Oper:=[oP 3 (oMv 0),oP 4 (oCa 91 #[(oTt 3),(.const (.string ⟨⟨[0]⟩⟩))] #[47,9]),oP 5 (oBu .len #[(oTt 4)] #[47]),oP 6 (.binOp .gtr 3 (oTt 5) (oCi 0) 3),oP 2 (oAs 6)]
abbrev Q5w:Code:=oRg Q10
abbrev Q6y:Code:=.seq Q5w .ret
abbrev Q4e:Code:=.seq Q4z Q6y
def Qg6:Code:=Q4e
theorem Q74:Uu (J2 53)=Qg6:=by kernel_rfl
theorem Q0h:Qfl.body=some (J2 53):=by kernel_rfl
theorem Xb3:Qfl.ntmps=7:=by kernel_rfl
theorem Qrq:Qfl.results.toList=[.tmp 2]:=by kernel_rfl
abbrev Wn:List Oper:=[oP 4 (.assign (.const (.slice none 0 0)))]
abbrev Xi5:Code:=oRg Wn
abbrev Xd0:List Oper:=[oP 7 (oMv 0),oP 8 (oBu .len #[(oTt 7)] #[47]),oP 9 (.binOp .eql 3 (oTt 8) (oCi 0) 3)]
abbrev Xhu:Code:=oRg Xd0
def Qyv:List Oper:=Wn
def Qze:Code:=oRg Qyv
theorem Qdm:oRQ Qze Qyv Wn:=fun _ _=>rfl
abbrev Xhj:Code:=.seq Qze .ret
abbrev Xho:Code:=.cond (.tmp 9) Xhj .skip
abbrev Xgh:Code:=.seq Xhu Xho
abbrev Xdb:List Oper:=[oP 10 (oMv 1),oP 11 (.binOp .eql 9 (oTt 10) (.const (.string ⟨⟨[]⟩⟩)) 9)]
abbrev Xhn:Code:=oRg Xdb
abbrev Q7w:List Oper:=[oP 12 (oMv 0),oP 4 (oAs 12)]
abbrev Xd6:Code:=oRg Q7w
abbrev Xeo:Code:=.seq Xd6 .ret
abbrev Xee:Code:=.cond (.tmp 11) Xeo .skip
abbrev Xha:Code:=.seq Xhn Xee
abbrev Qvl:List Oper:=[oP 13 (oMv 1),oP 14 (oBu .len #[(oTt 13)] #[9]),oP 15 (.binOp .eql 3 (oTt 14) (oCi 1) 3),oP 16 (oMv 15),oG 3 true 17 (oMv 1),oG 3 true 18 (.index 9 (oTt 17) (oCi 0)),oG 3 true 19 (.binOp .lss 5 (oTt 18) (.const (.int .u8 128)) 5),oP 20 (.pick (oTt 16) (oTt 19) (.const (.bool false)))]
def Qmp:List Oper:=Qvl
def Qxk:Code:=oRg Qmp
theorem Qcr:oRQ Qxk Qmp Qvl:=fun _ _=>rfl
theorem Qc2:nth Qmp 3=some ⟨(some 16),.move (.tmp 15),0,"",#[],none⟩:=rfl
noncomputable def Qe0:Array Oper:=Q8d (Q7j 6 (J2 91))
def Xhc:Code:=.region 6 Qe0 true
abbrev Qjj:List Oper:=[oP 21 (oMv 0),oP 22 (oMv 1),oP 23 (.index 9 (oTt 22) (oCi 0)),oP 24 (oCa 125 #[(oTt 21),(oTt 23)] #[47,5]),oP 25 (oMv 1),oP 26 (.index 9 (oTt 25) (oCi 0)),oP 27 (oCa 124 #[(oTt 24),(oTt 26)] #[47,5]),oP 4 (oAs 27)]
def Qd3:List Oper:=Qjj
theorem Qyz:Qe0.toList.map bare=Qjj:=by kernel_rfl
theorem Qxv:Qe0.toList.map bare=Qd3:=Qyz
def Uy:List Nat:=[0,0,2,7,0,16,63,127]
theorem Q09:Qtx Qe0.toList []=some Uy:=by kernel_rfl
theorem Qxy:W7 Qe0.toList Qe0.toList Uy []=true:=by kernel_rfl
theorem Q1r(b:Nat)(L:List KE)(s:St):Ab.runT (E b) L Qd3 Uy Qd3 0 s=Ab.runT (E b) L Qd3 Uy Qjj 0 s:=rfl
theorem Q6e(b:Nat):Qap (E b) 3 ((nth Uy 3).getD 0) Qd3 Uy 0=true:=by kernel_rfl
theorem Q4b(b:Nat):Qap (E b) 6 ((nth Uy 6).getD 0) Qd3 Uy 0=true:=by kernel_rfl
abbrev Xcu:Code:=.seq Xhc .ret
abbrev Xeh:Code:=.cond (.tmp 20) Xcu .skip
abbrev Xep:Code:=.seq Qxk Xeh
abbrev Q9c:List Oper:=[oP 29 (oMv 1),oP 30 (oCa 126 #[(oTt 29)] #[9]),oP 28 (oMv 30),oP 31 (.extract (oTt 28) 0),oP 32 (.extract (oTt 28) 1),oP 5 (.alloc 202),oN (.store 202 (oTt 5) (oTt 31)),oP 6 (oAs 32)]
abbrev Xdc:Code:=oRg Q9c
abbrev Q8q:List Oper:=[oP 33 (oMv 6)]
abbrev Xd7:Code:=oRg Q8q
abbrev Xaa:List Oper:=[oP 34 (oMv 0),oP 35 (oCa 128 #[(oTt 34),(oTt 5)] #[47,206]),oP 36 (oCa 127 #[(oTt 35),(oTt 5)] #[47,206]),oP 4 (oAs 36)]
abbrev Xea:Code:=oRg Xaa
abbrev Xei:Code:=.seq Xea .ret
abbrev Xci:Code:=.cond (.tmp 33) Xei .skip
abbrev Xdu:Code:=.seq Xd7 Xci
abbrev Xeb:Code:=.seq Xdc Xdu
abbrev Q81:List Oper:=[oP 37 (oMv 0),oP 38 (oMv 1),oP 39 (oCa 130 #[(oTt 37),(oTt 38)] #[47,9]),oP 40 (oMv 1),oP 41 (oCa 129 #[(oTt 39),(oTt 40)] #[47,9]),oP 4 (oAs 41)]
abbrev Xcp:Code:=oRg Q81
abbrev Xdy:Code:=.seq Xcp .ret
abbrev Xe3:Code:=.seq Xeb Xdy
abbrev Xd4:Code:=.seq Xep Xe3
abbrev Xew:Code:=.seq Xha Xd4
abbrev Xi6:Code:=.seq Xgh Xew
abbrev Xgj:Code:=.seq Xi5 Xi6
def Qc3:Code:=Xgj
theorem Xgw:Uu (J2 91)=Qc3:=by kernel_rfl
theorem Xah:Qm5.body=some (J2 91):=by kernel_rfl
theorem Xk3:Qm5.ntmps=42:=by kernel_rfl
theorem Qfn:Qm5.results.toList=[.tmp 4]:=by kernel_rfl
def Qi6:List Oper:=Wn
def Qi5:Code:=oRg Qi6
theorem Qae:oRQ Qi5 Qi6 Wn:=fun _ _=>rfl
abbrev Qgv:List Oper:=[oP 5 (oMv 0),oP 6 (oBu .len #[(oTt 5)] #[47]),oP 7 (.binOp .gtr 3 (oTt 6) (oCi 0) 3),oP 8 (oMv 7),oG 3 true 9 (oMv 0),oG 3 true 10 (.indexAddr 47 (oTt 9) (oCi 0)),oG 3 true 11 (oLd 5 10),oG 3 true 12 (oMv 1),oG 3 true 13 (.binOp .eql 5 (oTt 11) (oTt 12) 5),oP 14 (.pick (oTt 8) (oTt 13) (.const (.bool false)))]
def Qdx:List Oper:=Qgv
def Qi7:Code:=oRg Qdx
theorem Qah:oRQ Qi7 Qdx Qgv:=fun _ _=>rfl
theorem Qa0:nth Qdx 3=some ⟨(some 8),.move (.tmp 7),0,"",#[],none⟩:=rfl
abbrev Que:Code:=.cond (.tmp 14) .skip (.exit 0)
abbrev Qwd:Code:=.seq Qi7 Que
abbrev Qt5:List Oper:=[oP 15 (oMv 0),oP 16 (.slice 47 (oTt 15) (some (oCi 1)) none none),oP 0 (oAs 16)]
abbrev Qvv:Code:=oRg Qt5
abbrev Qut:Code:=.block 1 Qvv
abbrev Quu:Code:=.seq Qwd Qut
def Quj:Code:=.loop Quu
abbrev Qvc:Code:=.block 0 Quj
abbrev Qpp:List Oper:=[oP 17 (oMv 0),oP 18 (oBu .len #[(oTt 17)] #[47]),oP 19 (.binOp .eql 3 (oTt 18) (oCi 0) 3)]
abbrev Qtp:Code:=oRg Qpp
def Qgu:List Oper:=Wn
def Qh4:Code:=oRg Qgu
theorem Wz:oRQ Qh4 Qgu Wn:=fun _ _=>rfl
abbrev Qsg:Code:=.seq Qh4 .ret
abbrev Qse:Code:=.cond (.tmp 19) Qsg .skip
abbrev Qsm:Code:=.seq Qtp Qse
abbrev Qqe:List Oper:=[oP 20 (oMv 0),oP 4 (oAs 20)]
abbrev Qsf:Code:=oRg Qqe
abbrev Qtf:Code:=.seq Qsf .ret
abbrev Qth:Code:=.seq Qsm Qtf
abbrev Qt2:Code:=.seq Qvc Qth
abbrev Qvm:Code:=.seq Qi5 Qt2
def Uw:Code:=Qvm
theorem Qw9:Uu (J2 124)=Uw:=by kernel_rfl
theorem Qrc:Qby.body=some (J2 124):=by kernel_rfl
theorem Qx1:Qby.ntmps=21:=by kernel_rfl
theorem Qba:Qby.results.toList=[.tmp 4]:=by kernel_rfl
def Qh1:List Oper:=Wn
def Qgs:Code:=oRg Qh1
theorem Qa1:oRQ Qgs Qh1 Wn:=fun _ _=>rfl
abbrev Qgc:List Oper:=[oP 5 (oMv 0),oP 6 (oBu .len #[(oTt 5)] #[47]),oP 7 (.binOp .gtr 3 (oTt 6) (oCi 0) 3),oP 8 (oMv 7),oG 3 true 9 (oMv 0),oG 3 true 10 (oMv 0),oG 3 true 11 (oBu .len #[(oTt 10)] #[47]),oG 3 true 12 (.binOp .sub 3 (oTt 11) (oCi 1) 3),oG 3 true 13 (oIx 47 9 12),oG 3 true 14 (oLd 5 13),oG 3 true 15 (oMv 1),oG 3 true 16 (.binOp .eql 5 (oTt 14) (oTt 15) 5),oP 17 (.pick (oTt 8) (oTt 16) (.const (.bool false)))]
def Qd5:List Oper:=Qgc
def Qgy:Code:=oRg Qd5
theorem Qa2:oRQ Qgy Qd5 Qgc:=fun _ _=>rfl
theorem Wq:nth Qd5 3=some ⟨(some 8),.move (.tmp 7),0,"",#[],none⟩:=rfl
abbrev Qt8:Code:=.cond (.tmp 17) .skip (.exit 0)
abbrev Qtd:Code:=.seq Qgy Qt8
abbrev Qr0:List Oper:=[oP 18 (oMv 0),oP 19 (oMv 0),oP 20 (oBu .len #[(oTt 19)] #[47]),oP 21 (.binOp .sub 3 (oTt 20) (oCi 1) 3),oP 22 (.slice 47 (oTt 18) none (some (oTt 21)) none),oP 0 (oAs 22)]
abbrev Qt6:Code:=oRg Qr0
abbrev Qtv:Code:=.block 1 Qt6
abbrev Qts:Code:=.seq Qtd Qtv
def Qto:Code:=.loop Qts
abbrev Qt1:Code:=.block 0 Qto
abbrev Qn4:List Oper:=[oP 23 (oMv 0),oP 4 (oAs 23)]
abbrev Qpj:Code:=oRg Qn4
abbrev Qqm:Code:=.seq Qpj .ret
abbrev Qre:Code:=.seq Qt1 Qqm
abbrev Qsa:Code:=.seq Qgs Qre
def Ut:Code:=Qsa
theorem Qtg:Uu (J2 125)=Ut:=by kernel_rfl
theorem Qp1:Qbc.body=some (J2 125):=by kernel_rfl
theorem Qu9:Qbc.ntmps=24:=by kernel_rfl
theorem Qay:Qbc.results.toList=[.tmp 4]:=by kernel_rfl
def Qhw:List Oper:=Qc4
def Qi2:Code:=oRg Qhw
theorem Vj:oRQ Qi2 Qhw Qc4:=fun _ _=>rfl
noncomputable def Up:Array Oper:=Q8d (Q7j 1 (J2 85))
def Qvx:Code:=.region 1 Up true
abbrev Qck:List Oper:=[oP 3 (oMv 0),oP 4 (.nilCheck (oTt 3)),oP 5 (oFa 107 4 2),oP 6 (oLd 105 5),oP 7 (oBu .len #[(oTt 6)] #[105]),oP 8 (.binOp .gtr 3 (oTt 7) (oCi 0) 3),oP 9 (oMv 8),oG 6 true 10 (oMv 0),oG 6 true 11 (.nilCheck (oTt 10)),oG 6 true 12 (oFa 107 11 2),oG 6 true 13 (oLd 105 12),oG 6 true 14 (oMv 0),oG 6 true 15 (.nilCheck (oTt 14)),oG 6 true 16 (oFa 107 15 2),oG 6 true 17 (oLd 105 16),oG 6 true 18 (oBu .len #[(oTt 17)] #[105]),oG 6 true 19 (.binOp .sub 3 (oTt 18) (oCi 1) 3),oG 6 true 20 (oIx 105 13 19),oG 6 true 21 (oFa 197 20 0),oG 6 true 22 (oLd 4 21),oP 23 (.pick (oTt 9) (oTt 22) (.const (.bool false))),oP 2 (oAs 23)]
def Wf:List Oper:=Qck
theorem Qlm:Up.toList.map bare=Qck:=by kernel_rfl
theorem Qdv:Up.toList.map bare=Wf:=Qlm
def Ub:List Nat:=[0,1,3,7,15,31,63,127,255,511,1023,127,2175,6271,14463,30847,63615,131071,262143,524287,1048575,2097151]
theorem Qe7:Qtx Up.toList []=some Ub:=by kernel_rfl
theorem Qdq:W7 Up.toList Up.toList Ub []=true:=by kernel_rfl
theorem Qes(b:Nat)(L:List KE)(s:St):Ab.runT (E b) L Wf Ub Wf 0 s=Ab.runT (E b) L Wf Ub Qck 0 s:=rfl
theorem Qei:nth Wf 6=some ⟨(some 9),.move (.tmp 8),0,"",#[],none⟩:=rfl
abbrev Qvg:Code:=.seq Qvx .ret
abbrev Qty:Code:=.seq Qi2 Qvg
def Jq:Code:=Qty
theorem Qum:Uu (J2 85)=Jq:=by kernel_rfl
theorem Qpy:Qbt.body=some (J2 85):=by kernel_rfl
theorem Qx8:Qbt.ntmps=24:=by kernel_rfl
theorem U1:Qbt.results.toList=[.tmp 2]:=by kernel_rfl
abbrev Qaq:List Oper:=[oP 4 (.assign (.const (.bool false)))]
abbrev Qlq:Code:=oRg Qaq
abbrev Qjt:List Oper:=[oP 7 (oMv 1)]
abbrev Qld:Code:=oRg Qjt
abbrev Qk2:List Oper:=[oP 9 (.binOp .eql 3 (oTt 7) (oCi 136) 3),oP 8 (oAs 9)]
abbrev Qla:Code:=oRg Qk2
abbrev Qjw:List Oper:=[oP 10 (oMv 0),oP 11 (oCa 85 #[(oTt 10)] #[100]),oP 5 (oAs 11)]
abbrev Qlk:Code:=oRg Qjw
noncomputable def Jk:Array Oper:=Q8d (Q7j 5 (J2 84))
def Qll:Code:=.region 5 Jk true
abbrev Qac:List Oper:=[oP 12 (oMv 0),oP 13 (oMv 0),oP 14 (.nilCheck (oTt 13)),oP 15 (oFa 107 14 2),oP 16 (oLd 105 15),oP 17 (oMv 5),oP 18 (oMv 17),oG 6 false 19 (oMv 0),oG 6 false 20 (oCa 86 #[(oTt 19)] #[100]),oG 6 false 21 (oCa 53 #[(oTt 20)] #[47]),oG 6 false 22 (.unOp .not 4 (oTt 21)),oP 23 (.pick (oTt 18) (.const (.bool true)) (oTt 22)),oP 24 (oMv 5),oP 25 (.build 197 #[(0,(oTt 23)),(1,(oTt 24))]),oP 26 (.buildSlice 105 1 #[(0,(oTt 25))]),oP 27 (oBu .append #[(oTt 16),(oTt 26)] #[105,105]),oP 28 (.nilCheck (oTt 12)),oP 29 (oFa 107 28 2),oN (.store 105 (oTt 29) (oTt 27))]
def Zm:List Oper:=Qac
theorem Qhj:Jk.toList.map bare=Qac:=by kernel_rfl
theorem W6:Jk.toList.map bare=Zm:=Qhj
def Yt:List Nat:=[0,0,2,6,14,0,32,96,224,480,992,2016,0,8160,16352,32766,65535,131071,262143]
theorem Wj:Qtx Jk.toList []=some Yt:=by kernel_rfl
theorem Qbq:W7 Jk.toList Jk.toList Yt []=true:=by kernel_rfl
theorem Qc8(b:Nat)(L:List KE)(s:St):Ab.runT (E b) L Zm Yt Zm 0 s=Ab.runT (E b) L Zm Yt Qac 0 s:=rfl
theorem Qc9:nth Zm 6=some ⟨(some 18),.move (.tmp 17),0,"",#[],none⟩:=rfl
theorem Qcq(b:Nat):Qap (E b) 8 ((nth Yt 8).getD 0) Zm Yt 0=true:=by kernel_rfl
theorem Qcx(b:Nat):Qap (E b) 9 ((nth Yt 9).getD 0) Zm Yt 0=true:=by kernel_rfl
theorem Qca(b:Nat):Qap (E b) 15 ((nth Yt 15).getD 0) Zm Yt 0=true:=by kernel_rfl
theorem Qcb(b:Nat):Qap (E b) 18 ((nth Yt 18).getD 0) Zm Yt 0=true:=by kernel_rfl
abbrev Qlj:Code:=.seq Qlk Qll
abbrev Qkt:List Oper:=[oP 31 (.binOp .eql 3 (oTt 7) (oCi 137) 3),oP 30 (oAs 31)]
abbrev Qlg:Code:=oRg Qkt
abbrev Qj0:List Oper:=[oP 32 (.binOp .eql 3 (oTt 7) (oCi 138) 3),oP 30 (oAs 32)]
abbrev Qkj:Code:=oRg Qj0
abbrev Ql4:Code:=.cond (.tmp 30) .skip Qkj
abbrev Qlh:Code:=.seq Qlg Ql4
abbrev Qix:List Oper:=[oP 33 (oMv 0),oP 34 (.nilCheck (oTt 33)),oP 35 (oFa 107 34 2),oP 36 (oLd 105 35),oP 37 (oBu .len #[(oTt 36)] #[105]),oP 38 (.binOp .gtr 3 (oTt 37) (oCi 0) 3),oP 39 (oCa 50 #[(oTt 38),(oCi 16)] #[4,35])]
abbrev Qkf:Code:=oRg Qix
noncomputable def Vh:Array Oper:=Q8d (Q7j 9 (J2 84))
def Qlb:Code:=.region 9 Vh true
abbrev Qag:List Oper:=[oP 40 (oMv 0),oP 41 (.nilCheck (oTt 40)),oP 42 (oFa 107 41 2),oP 43 (oLd 105 42),oP 44 (oMv 0),oP 45 (.nilCheck (oTt 44)),oP 46 (oFa 107 45 2),oP 47 (oLd 105 46),oP 48 (oBu .len #[(oTt 47)] #[105]),oP 49 (.binOp .sub 3 (oTt 48) (oCi 1) 3),oP 50 (oIx 105 43 49),oP 6 (oAs 50)]
def W2:List Oper:=Qag
theorem Qhg:Vh.toList.map bare=Qag:=by kernel_rfl
theorem Qbr:Vh.toList.map bare=W2:=Qhg
def Ju:List Nat:=[0,1,3,7,0,16,48,112,240,496,1023,2047]
theorem Qc6:Qtx Vh.toList []=some Ju:=by kernel_rfl
theorem Qbs:W7 Vh.toList Vh.toList Ju []=true:=by kernel_rfl
theorem Qcc(b:Nat)(L:List KE)(s:St):Ab.runT (E b) L W2 Ju W2 0 s=Ab.runT (E b) L W2 Ju Qag 0 s:=rfl
abbrev Qj4:List Oper:=[oP 51 (oMv 1),oP 52 (.binOp .eql 3 (oTt 51) (oCi 138) 3)]
abbrev Qjz:Code:=oRg Qj4
noncomputable def V4:Array Oper:=Q8d (Q7j 11 (J2 84))
def Qde:Code:=.region 11 V4 true
abbrev Qa4:List Oper:=[oP 53 (oMv 0),oP 54 (oMv 0),oP 55 (.nilCheck (oTt 54)),oP 56 (oFa 107 55 2),oP 57 (oLd 105 56),oP 58 (oMv 0),oP 59 (.nilCheck (oTt 58)),oP 60 (oFa 107 59 2),oP 61 (oLd 105 60),oP 62 (oBu .len #[(oTt 61)] #[105]),oP 63 (.binOp .sub 3 (oTt 62) (oCi 1) 3),oP 64 (.slice 105 (oTt 57) none (some (oTt 63)) none),oP 65 (.nilCheck (oTt 53)),oP 66 (oFa 107 65 2),oN (.store 105 (oTt 66) (oTt 64))]
def Vx:List Oper:=Qa4
theorem Qgq:V4.toList.map bare=Qa4:=by kernel_rfl
theorem Qgb:V4.toList.map bare=Vx:=Qgq
def Jc:List Nat:=[0,0,2,6,14,0,32,96,224,480,992,2046,4095,8191,16383]
theorem Qgn:Qtx V4.toList []=some Jc:=by kernel_rfl
theorem Qfr:W7 V4.toList V4.toList Jc []=true:=by kernel_rfl
theorem Qhi(b:Nat)(L:List KE)(s:St):Ab.runT (E b) L Vx Jc Vx 0 s=Ab.runT (E b) L Vx Jc Qa4 0 s:=rfl
theorem Qhh(b:Nat):Qap (E b) 14 ((nth Jc 14).getD 0) Vx Jc 0=true:=by kernel_rfl
def Qdi:Code:=.seq Qde (.exit 0)
theorem Yb:Jp (E b) C D0 rd Qdi s K=Jp (E b) C D0 rd Qde s (Qx6 (X18 (E b) C D0 rd (.exit 0) K) K):=rfl
abbrev Qk3:Code:=.cond (.tmp 52) Qdi .skip
abbrev Qjx:Code:=.seq Qjz Qk3
abbrev Qiz:List Oper:=[oP 67 (oMv 6),oP 68 (.nilCheck (oTt 67)),oP 69 (oFa 197 68 2),oP 70 (oLd 4 69),oP 71 (.unOp .not 4 (oTt 70)),oP 72 (oCa 50 #[(oTt 71),(oCi 16)] #[4,35])]
abbrev Ql1:Code:=oRg Qiz
abbrev Qiy:List Oper:=[oP 73 (oMv 6),oP 74 (.nilCheck (oTt 73)),oP 75 (oFa 197 74 2),oN (.store 4 (oTt 75) (.const (.bool true)))]
abbrev Qku:Code:=oRg Qiy
abbrev Qd9:List Oper:=[oP 76 (oMv 6),oP 77 (oMv 6),oP 78 (.nilCheck (oTt 77)),oP 79 (oFa 197 78 1),oP 80 (oLd 4 79),oP 81 (oMv 80),oG 5 false 82 (oMv 6),oG 5 false 83 (.nilCheck (oTt 82)),oG 5 false 84 (oFa 197 83 0),oG 5 false 85 (oLd 4 84),oG 5 false 86 (.unOp .not 4 (oTt 85)),oP 87 (.pick (oTt 81) (.const (.bool true)) (oTt 86)),oP 88 (.nilCheck (oTt 76)),oP 89 (oFa 197 88 0),oN (.store 4 (oTt 89) (oTt 87))]
def Qan:List Oper:=Qd9
def Qdw:Code:=oRg Qan
theorem Y9:oRQ Qdw Qan Qd9:=fun _ _=>rfl
theorem Y6:nth Qan 5=some ⟨(some 81),.move (.tmp 80),0,"",#[],none⟩:=rfl
abbrev Qkb:Code:=.seq Qku Qdw
abbrev Qko:Code:=.seq Ql1 Qkb
abbrev Qky:Code:=.seq Qjx Qko
abbrev Qk1:Code:=.seq Qlb Qky
abbrev Qki:Code:=.seq Qkf Qk1
def Qdj:List Oper:=Qaq
def Qdk:Code:=oRg Qdj
theorem Ya:oRQ Qdk Qdj Qaq:=fun _ _=>rfl
abbrev Ql7:Code:=.seq Qdk .ret
abbrev Qjq:Code:=.cond (.tmp 30) Qki Ql7
abbrev Qkl:Code:=.seq Qlh Qjq
abbrev Qjl:Code:=.cond (.tmp 8) Qlj Qkl
abbrev Qlr:Code:=.seq Qla Qjl
abbrev Ql2:Code:=.block 0 Qlr
abbrev Qlt:Code:=.seq Qld Ql2
abbrev Qj9:List Oper:=[oP 4 (.assign (.const (.bool true)))]
abbrev Qjp:Code:=oRg Qj9
abbrev Ql0:Code:=.seq Qjp .ret
abbrev Qk8:Code:=.seq Qlt Ql0
abbrev Qlo:Code:=.seq Qlq Qk8
def Yc:Code:=Qlo
theorem Uc:Uu (J2 84)=Yc:=by kernel_rfl
theorem U0:Ws.body=some (J2 84):=by kernel_rfl
theorem Ui:Ws.ntmps=90:=by kernel_rfl
theorem Yg:Ws.results.toList=[.tmp 4]:=by kernel_rfl
def Qgw:List Oper:=Qc4
def Qh2:Code:=oRg Qgw
theorem Z5:oRQ Qh2 Qgw Qc4:=fun _ _=>rfl
abbrev Qpg:List Oper:=[oP 5 (oMv 0),oP 6 (oCa 86 #[(oTt 5)] #[100]),oP 7 (oMv 0),oP 8 (oCa 86 #[(oTt 7)] #[100]),oP 3 (oAs 6),oP 4 (oAs 8)]
abbrev Qsv:Code:=oRg Qpg
abbrev Qg8:List Oper:=[oP 9 (oMv 3),oP 10 (oBu .len #[(oTt 9)] #[47]),oP 11 (.binOp .eql 3 (oTt 10) (oCi 1) 3),oP 12 (oMv 11),oG 3 true 13 (oMv 4),oG 3 true 14 (oBu .len #[(oTt 13)] #[47]),oG 3 true 15 (.binOp .eql 3 (oTt 14) (oCi 16) 3),oP 16 (.pick (oTt 12) (oTt 15) (.const (.bool false))),oP 17 (oCa 50 #[(oTt 16),(oCi 16)] #[4,35])]
def Qd4:List Oper:=Qg8
def Qh0:Code:=oRg Qd4
theorem Z4:oRQ Qh0 Qd4 Qg8:=fun _ _=>rfl
theorem Yz:nth Qd4 3=some ⟨(some 12),.move (.tmp 11),0,"",#[],none⟩:=rfl
noncomputable def Ue:Array Oper:=Q8d (Q7j 3 (J2 89))
def Qsl:Code:=.region 3 Ue true
abbrev Qc5:List Oper:=[oP 18 (oMv 0),oP 19 (.nilCheck (oTt 18)),oP 20 (oFa 107 19 0),oP 21 (oFa 59 20 0),oP 22 (oLd 38 21),oP 23 (oMv 3),oP 24 (.indexAddr 47 (oTt 23) (oCi 0)),oP 25 (oLd 5 24),oP 26 (.convert 5 3 (oTt 25)),oP 27 (oMv 0),oP 28 (.nilCheck (oTt 27)),oP 29 (oFa 107 28 0),oP 30 (oFa 59 29 1),oP 31 (oLd 23 30),oP 32 (oMv 4),oP 33 (.sliceToArrayPointer 90 (oTt 32)),oP 34 (oLd 90 33),oP 35 (oCa 123 #[(oTt 22),(oTt 26),(oTt 31),(oTt 34)] #[38,3,23,90]),oP 2 (oAs 35)]
def W1:List Oper:=Qc5
theorem Qjm:Ue.toList.map bare=Qc5:=by kernel_rfl
theorem Qj2:Ue.toList.map bare=W1:=Qjm
def V3:List Nat:=[0,1,3,7,15,0,32,96,224,0,512,1536,3584,7680,0,16384,49152,131071,262143]
theorem Qjs:Qtx Ue.toList []=some V3:=by kernel_rfl
theorem Qiu:W7 Ue.toList Ue.toList V3 []=true:=by kernel_rfl
theorem Qlp(b:Nat)(L:List KE)(s:St):Ab.runT (E b) L W1 V3 W1 0 s=Ab.runT (E b) L W1 V3 Qc5 0 s:=rfl
theorem Qlf(b:Nat):Qap (E b) 17 ((nth V3 17).getD 0) W1 V3 0=true:=by kernel_rfl
abbrev Qsb:Code:=.seq Qsl .ret
abbrev Qtu:Code:=.seq Qh0 Qsb
abbrev Qsn:Code:=.seq Qsv Qtu
abbrev Qsy:Code:=.seq Qh2 Qsn
def Yy:Code:=Qsy
theorem Qgz:Uu (J2 89)=Yy:=by kernel_rfl
theorem Qfg:Qbj.body=some (J2 89):=by kernel_rfl
theorem Qia:Qbj.ntmps=36:=by kernel_rfl
theorem Za:Qbj.results.toList=[.tmp 2]:=by kernel_rfl
abbrev Qnp:List Oper:=[oP 6 (oMv 0),oP 7 (oCa 86 #[(oTt 6)] #[100]),oP 2 (oAs 7)]
abbrev Qpi:Code:=oRg Qnp
abbrev Qog:List Oper:=[oP 8 (oMv 2),oP 9 (oBu .len #[(oTt 8)] #[47]),oP 10 (.binOp .eql 3 (oTt 9) (oCi 4) 3),oP 11 (oCa 50 #[(oTt 10),(oCi 16)] #[4,35])]
abbrev Qr5:Code:=oRg Qog
abbrev Qp0:List Oper:=[oP 3 (.assign (oCi 0))]
abbrev Qpm:Code:=oRg Qp0
abbrev Qov:List Oper:=[oP 12 (oMv 2),oP 13 (oBu .len #[(oTt 12)] #[47]),oP 14 (.move (oCi 0))]
abbrev Qqt:Code:=oRg Qov
abbrev Qok:List Oper:=[oP 15 (.binOp .lss 3 (oTt 14) (oTt 13) 3)]
abbrev Qql:Code:=oRg Qok
abbrev Qoc:Code:=.cond (.tmp 15) .skip (.exit 0)
abbrev Qmj:List Oper:=[oP 16 (oMv 14),oP 17 (oIx 47 12 14),oP 18 (oLd 5 17),oP 4 (oAs 16),oP 5 (oAs 18)]
abbrev Qn2:Code:=oRg Qmj
abbrev Qmg:List Oper:=[oP 19 (oMv 3),oP 20 (oMv 5),oP 21 (.convert 5 3 (oTt 20)),oP 22 (oMv 4),oP 23 (.binOp .mul 3 (oCi 8) (oTt 22) 3),oP 24 (.binOp .shl 3 (oTt 21) (oTt 23) 3),oP 25 (.binOp .or 3 (oTt 19) (oTt 24) 3),oP 3 (oAs 25)]
abbrev Qnk:Code:=oRg Qmg
abbrev Qn3:Code:=.seq Qn2 Qnk
abbrev Qnr:Code:=.block 1 Qn3
abbrev Qmm:List Oper:=[oP 26 (.binOp .add 3 (oTt 14) (oCi 1) 3),oP 14 (oMv 26)]
abbrev Qnl:Code:=oRg Qmm
abbrev Qo4:Code:=.seq Qnr Qnl
abbrev Qoz:Code:=.seq Qoc Qo4
abbrev Qrf:Code:=.seq Qql Qoz
def Qne:Code:=.loop Qrf
abbrev Qo7:Code:=.block 0 Qne
abbrev Qqf:Code:=.seq Qqt Qo7
abbrev Qmv:List Oper:=[oP 27 (oMv 0),oP 28 (.nilCheck (oTt 27)),oP 29 (oFa 107 28 0),oP 30 (oFa 59 29 2),oP 31 (oLd 3 30),oP 32 (oMv 3),oP 33 (.binOp .geq 3 (oTt 31) (oTt 32) 3),oP 34 (oCa 50 #[(oTt 33),(oCi 18)] #[4,35])]
abbrev Qnq:Code:=oRg Qmv
abbrev Qo2:Code:=.seq Qqf Qnq
abbrev Qq1:Code:=.seq Qpm Qo2
abbrev Qqo:Code:=.seq Qr5 Qq1
abbrev Qqi:Code:=.seq Qpi Qqo
def Z8:Code:=Qqi
theorem Qg1:Uu (J2 90)=Z8:=by kernel_rfl
theorem Qep:Qax.body=some (J2 90):=by kernel_rfl
theorem Qgx:Qax.ntmps=35:=by kernel_rfl
theorem Zq:Qax.results.toList=[]:=by kernel_rfl
abbrev Qp4:List Oper:=[oP 3 (.box 103 (oTt 1))]
abbrev Qst:Code:=oRg Qp4
abbrev Qgf:List Oper:=[oP 9 (oMv 0),oP 10 (oFa 103 3 0),oP 11 (oLd 3 10),oP 12 (oCa 84 #[(oTt 9),(oTt 11)] #[100,3]),oP 13 (oMv 12),oG 4 false 14 (oMv 0),oG 4 false 15 (oCa 85 #[(oTt 14)] #[100]),oP 16 (.pick (oTt 13) (.const (.bool true)) (oTt 15))]
def Qd6:List Oper:=Qgf
def Qh3:Code:=oRg Qd6
theorem Qr:oRQ Qh3 Qd6 Qgf:=fun _ _=>rfl
theorem Ql:nth Qd6 4=some ⟨(some 13),.move (.tmp 12),0,"",#[],none⟩:=rfl
abbrev Qsj:Code:=.cond (.tmp 16) .ret .skip
abbrev Qsd:Code:=.seq Qh3 Qsj
abbrev Qps:List Oper:=[oP 17 (oFa 103 3 0),oP 18 (oLd 3 17)]
abbrev Qsh:Code:=oRg Qps
abbrev Qrb:List Oper:=[oP 24 (.binOp .eql 3 (oTt 18) (oCi 129) 3),oP 23 (oAs 24)]
abbrev Qsq:Code:=oRg Qrb
abbrev Qoq:List Oper:=[oP 25 (oMv 0),oP 26 (oCa 86 #[(oTt 25)] #[100]),oP 4 (oAs 26)]
abbrev Qqd:Code:=oRg Qoq
abbrev Qnh:List Oper:=[oP 27 (oMv 0),oP 28 (oMv 4),oP 29 (oCa 83 #[(oTt 27),(oTt 28)] #[100,47])]
abbrev Qqr:Code:=oRg Qnh
abbrev Qol:List Oper:=[oP 30 (oMv 0),oP 31 (oMv 4),oP 32 (oCa 83 #[(oTt 30),(oTt 31)] #[100,47])]
abbrev Qr7:Code:=oRg Qol
abbrev Qqz:Code:=.seq Qqr Qr7
abbrev Qq2:Code:=.seq Qqd Qqz
abbrev Qnt:List Oper:=[oP 34 (.binOp .eql 3 (oTt 18) (oCi 130) 3),oP 33 (oAs 34)]
abbrev Qpb:Code:=oRg Qnt
abbrev Qo6:List Oper:=[oP 35 (oMv 0),oP 36 (oCa 86 #[(oTt 35)] #[100])]
abbrev Qrg:Code:=oRg Qo6
abbrev Qoo:List Oper:=[oP 38 (.binOp .eql 3 (oTt 18) (oCi 131) 3),oP 37 (oAs 38)]
abbrev Qrk:Code:=oRg Qoo
abbrev Qo1:List Oper:=[oP 39 (oMv 0),oP 40 (oCa 86 #[(oTt 39)] #[100]),oP 41 (oCa 87 #[(oTt 40)] #[47]),oP 5 (.alloc 23),oN (.store 23 (oTt 5) (oTt 41))]
abbrev Qpt:Code:=oRg Qo1
abbrev Qoy:List Oper:=[oP 42 (oMv 0),oP 43 (.slice 23 (oTt 5) none none none),oP 44 (oCa 83 #[(oTt 42),(oTt 43)] #[100,47])]
abbrev Qpf:Code:=oRg Qoy
abbrev Qpk:Code:=.seq Qpt Qpf
abbrev Qny:List Oper:=[oP 46 (.binOp .eql 3 (oTt 18) (oCi 132) 3),oP 45 (oAs 46)]
abbrev Qqh:Code:=oRg Qny
abbrev Qof:List Oper:=[oP 47 (oMv 0),oP 48 (oCa 86 #[(oTt 47)] #[100]),oP 49 (oMv 0),oP 50 (oCa 86 #[(oTt 49)] #[100]),oP 6 (oAs 48),oP 7 (oAs 50)]
abbrev Qqw:Code:=oRg Qof
abbrev Qni:List Oper:=[oP 51 (oMv 0),oP 52 (oMv 6),oP 53 (oMv 7),oP 54 (oCa 42 #[(oTt 52),(oTt 53)] #[47,47]),oP 55 (oCa 88 #[(oTt 51),(oTt 54)] #[100,4])]
abbrev Qqq:Code:=oRg Qni
abbrev Qra:Code:=.seq Qqw Qqq
abbrev Qn6:List Oper:=[oP 57 (.binOp .eql 3 (oTt 18) (oCi 133) 3),oP 56 (oAs 57)]
abbrev Qr2:Code:=oRg Qn6
abbrev Qnj:List Oper:=[oP 58 (oMv 0),oP 59 (oCa 86 #[(oTt 58)] #[100]),oP 60 (oCa 53 #[(oTt 59)] #[47]),oP 61 (oCa 50 #[(oTt 60),(oCi 16)] #[4,35])]
abbrev Qq4:Code:=oRg Qnj
abbrev Qnd:List Oper:=[oP 63 (.binOp .eql 3 (oTt 18) (oCi 134) 3),oP 62 (oAs 63)]
abbrev Qp7:Code:=oRg Qnd
abbrev Qnu:List Oper:=[oP 64 (oMv 0),oP 65 (oMv 0),oP 66 (oCa 89 #[(oTt 65)] #[100]),oP 67 (oCa 88 #[(oTt 64),(oTt 66)] #[100,4])]
abbrev Qqp:Code:=oRg Qnu
abbrev Qna:List Oper:=[oP 69 (.binOp .eql 3 (oTt 18) (oCi 135) 3),oP 68 (oAs 69)]
abbrev Qri:Code:=oRg Qna
abbrev Qos:List Oper:=[oP 70 (oMv 0),oP 71 (oCa 90 #[(oTt 70)] #[100])]
abbrev Qqy:Code:=oRg Qos
abbrev Qo8:List Oper:=[oP 73 (.binOp .eql 3 (oTt 18) (oCi 139) 3),oP 72 (oAs 73)]
abbrev Qq7:Code:=oRg Qo8
abbrev Qnf:List Oper:=[oP 74 (oMv 0),oP 75 (oCa 86 #[(oTt 74)] #[100]),oP 8 (oAs 75)]
abbrev Qqu:Code:=oRg Qnf
abbrev Qo9:List Oper:=[oP 76 (oMv 0),oP 77 (oMv 8),oP 78 (oCa 83 #[(oTt 76),(oTt 77)] #[100,47])]
abbrev Qpr:Code:=oRg Qo9
abbrev Qob:List Oper:=[oP 79 (oMv 0),oP 80 (oMv 8),oP 81 (oBu .len #[(oTt 80)] #[47]),oP 82 (.convert 3 5 (oTt 81)),oP 83 (.buildSlice 47 1 #[(0,(oTt 82))]),oP 84 (oCa 83 #[(oTt 79),(oTt 83)] #[100,47])]
abbrev Qr6:Code:=oRg Qob
abbrev Qrd:Code:=.seq Qpr Qr6
abbrev Qp9:Code:=.seq Qqu Qrd
abbrev Qno:List Oper:=[oP 19 (oMv 0),oP 20 (oFa 103 3 1),oP 21 (oLd 47 20),oP 22 (oCa 83 #[(oTt 19),(oTt 21)] #[100,47])]
abbrev Qr9:Code:=oRg Qno
abbrev Qpc:Code:=.cond (.tmp 72) Qp9 Qr9
abbrev Qpl:Code:=.seq Qq7 Qpc
abbrev Qpo:Code:=.cond (.tmp 68) Qqy Qpl
abbrev Qq9:Code:=.seq Qri Qpo
abbrev Qqg:Code:=.cond (.tmp 62) Qqp Qq9
abbrev Qq3:Code:=.seq Qp7 Qqg
abbrev Qr3:Code:=.cond (.tmp 56) Qq4 Qq3
abbrev Qpx:Code:=.seq Qr2 Qr3
abbrev Qpe:Code:=.cond (.tmp 45) Qra Qpx
abbrev Qpz:Code:=.seq Qqh Qpe
abbrev Qqc:Code:=.cond (.tmp 37) Qpk Qpz
abbrev Qqa:Code:=.seq Qrk Qqc
abbrev Qr8:Code:=.cond (.tmp 33) Qrg Qqa
abbrev Qqb:Code:=.seq Qpb Qr8
abbrev Qr4:Code:=.cond (.tmp 23) Qq2 Qqb
abbrev Qtq:Code:=.seq Qsq Qr4
abbrev Qpv:Code:=.block 0 Qtq
abbrev Qtt:Code:=.seq Qsh Qpv
abbrev Qtl:Code:=.seq Qsd Qtt
abbrev Qsx:Code:=.seq Qst Qtl
def Qm:Code:=Qsx
theorem Zl:Uu (J2 52)=Qm:=by kernel_rfl
theorem Zd:Qbb.body=some (J2 52):=by kernel_rfl
theorem Zr:Qbb.ntmps=85:=by kernel_rfl
theorem X3:Qbb.results.toList=[]:=by kernel_rfl
end Go.Proofs.YtgeeklmjfbiieaaDoor
