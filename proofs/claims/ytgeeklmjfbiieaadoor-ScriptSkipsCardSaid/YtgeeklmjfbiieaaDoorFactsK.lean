/-
  Facts of the functions' code and of the types, printed by a program (ShD).
-/
import Derived.Test.YtgeeklmjfbiieaaDoorFactsR
set_option linter.all false
noncomputable section
namespace Go.Proofs.YtgeeklmjfbiieaaDoor
open Go Go.Ab
set_option maxRecDepth 100000
noncomputable def Qhr:Func:=(Tryd.prog.funcs[51]?).getD default
theorem Z0(b:Nat):(mkE Tryd.prog nv b).fn.get 51=some Qhr:=by kernel_rfl
noncomputable def R59:TyRec:=((mkE Tryd.prog nv 0).ty.get 59).getD ⟨.invalid,0,0,.bool false,[]⟩
theorem X25(b:Nat):(E b).toEnv.ty.get 59=some R59:=by kernel_rfl
theorem X00:Qb0 R59.desc=true:=by kernel_rfl
theorem Xol:R59.size=34:=by kernel_rfl
theorem Qgo(b:Nat)(h:Heap)(bk o:Nat):Qdh (E b).toEnv 59 (.pointer (some ⟨bk,o,none⟩)) h=Qgg h bk o 34:=Xiu (X25 b) X00 Xol
noncomputable def Qai:Func:=(Tryd.prog.funcs[18]?).getD default
theorem Zw(b:Nat):(mkE Tryd.prog nv b).fn.get 18=some Qai:=by kernel_rfl
noncomputable def R35:TyRec:=((mkE Tryd.prog nv 0).ty.get 35).getD ⟨.invalid,0,0,.bool false,[]⟩
theorem X10(b:Nat):(E b).toEnv.ty.get 35=some R35:=by kernel_rfl
theorem Xz2:Qb0 R35.desc=false:=by kernel_rfl
theorem Xxj:R35.size=1:=by kernel_rfl
theorem Qmr(b:Nat)(h:Heap):Qdl (E b).toEnv 35 h=some (.pointer (some ⟨h.next,0,none⟩),h.push (.cells true 1 [(.int .i64 0)])):=by kernel_rfl
theorem Zf(x y:Int):Qa3 (binOp .eql 35 (.int .i64 x) (.int .i64 y))=some (.bool (decide (x=y))):=by kernel_rfl
theorem Qfz(b:Nat){bk o n c:Nat}{k:IntKind}{i:Int}(h:0≤i∧i < n):J7 (E b).toEnv 67 (.slice (some ⟨bk,o,none⟩) n c) (.int k i)=some (.pointer (some ⟨bk,o+i.toNat*2,none⟩)):=Qqk (T67 b) Qfx h
theorem Qbm(b:Nat)(h:Heap)(bk o:Nat)(k:IntKind)(z:Int):Wy (E b).toEnv 35 (.pointer (some ⟨bk,o,none⟩)) (.int k z) h=Uv h bk o [(.int k z)]:=Qxg (X10 b) Xxj rfl
noncomputable def Qaj:Func:=(Tryd.prog.funcs[49]?).getD default
theorem Qga(b:Nat):(mkE Tryd.prog nv b).fn.get 49=some Qaj:=by kernel_rfl
theorem Xzf(b:Nat):Qfm (E b).toEnv 47 9=false:=by kernel_rfl
noncomputable def Qce:Func:=(Tryd.prog.funcs[54]?).getD default
theorem J1(b:Nat):(mkE Tryd.prog nv b).fn.get 54=some Qce:=by kernel_rfl
noncomputable def X35:TyRec:=((mkE Tryd.prog nv 0).ty.get 158).getD ⟨.invalid,0,0,.bool false,[]⟩
theorem Xuk(b:Nat):(E b).toEnv.ty.get 158=some X35:=by kernel_rfl
theorem Xwl:Qb0 X35.desc=true:=by kernel_rfl
theorem Xj4:X35.size=8:=by kernel_rfl
noncomputable def X2u:TyRec:=((mkE Tryd.prog nv 0).ty.get 156).getD ⟨.invalid,0,0,.bool false,[]⟩
theorem Xt0(b:Nat):(E b).toEnv.ty.get 156=some X2u:=by kernel_rfl
theorem Xvp:Qb0 X2u.desc=false:=by kernel_rfl
theorem Xim:X2u.size=1:=by kernel_rfl
theorem X4p(b:Nat):ArTy (E b).toEnv 8 156 158 X2u X35:=⟨Xt0 b,Xuk b,by kernel_rfl⟩
theorem Qzc(b:Nat)(h:Heap)(bk o:Nat):Qdh (E b).toEnv 158 (.pointer (some ⟨bk,o,none⟩)) h=Qgg h bk o 8:=Xiu (Xuk b) Xwl Xj4
theorem Qu7(b:Nat)(h:Heap):Qdl (E b).toEnv 158 h=some (.pointer (some ⟨h.next,0,none⟩),h.push (.cells true 1 [(.int .u32 0),(.int .u32 0),(.int .u32 0),(.int .u32 0),(.int .u32 0),(.int .u32 0),(.int .u32 0),(.int .u32 0)])):=by kernel_rfl
theorem Qua(b:Nat)(h:Heap)(bk o:Nat)(l:List Value)(hl:l.length=8):Wy (E b).toEnv 158 (.pointer (some ⟨bk,o,none⟩)) (.agg ⟨l⟩) h=Uv h bk o l:=Xg5 (Xuk b) (by rw[Xj4];exact hl)
theorem Quk(b:Nat){bk o:Nat}{k:IntKind}{i:Int}(h:0≤i∧i < 8):J7 (E b).toEnv 158 (.pointer (some ⟨bk,o,none⟩)) (.int k i)=some (.pointer (some ⟨bk,o+i.toNat*1,none⟩)):=Xi3 (X4p b) Xim h
theorem Qzs(b:Nat)(h:Heap)(bk o:Nat):Qdh (E b).toEnv 156 (.pointer (some ⟨bk,o,none⟩)) h=Vs h bk o:=Qzl (Xt0 b) Xvp
theorem Qj6(b:Nat):Qfm (E b).toEnv 3 156=true:=by kernel_rfl
theorem Qfw(b:Nat)(k:IntKind)(n:Int):Qhm (E b).toEnv 3 156 (.int k n)=some (.int .u32 (IntKind.wrap .u32 n)):=by kernel_rfl
theorem Qiw(b:Nat)(h:Heap)(bk o:Nat)(k:IntKind)(z:Int):Wy (E b).toEnv 156 (.pointer (some ⟨bk,o,none⟩)) (.int k z) h=Uv h bk o [(.int k z)]:=Qxg (Xt0 b) Xim rfl
theorem Qui(b:Nat)(h:Heap):Qdl (E b).toEnv 161 h=some (.pointer (some ⟨h.next,0,none⟩),h.push (.cells true 1 (List.replicate 64 (.int .u8 0)))):=by kernel_rfl
theorem Qjc(b:Nat):Qfm (E b).toEnv 3 160=true:=by kernel_rfl
theorem Qj3(b:Nat)(k:IntKind)(n:Int):Qhm (E b).toEnv 3 160 (.int k n)=some (.int .u64 (IntKind.wrap .u64 n)):=by kernel_rfl
theorem Qj8(x y:Int):Qa3 (binOp .add 160 (.int .u64 x) (.int .u64 y))=some (.int .u64 (IntKind.wrap .u64 (x+y))):=by kernel_rfl
noncomputable def Q0t:Func:=(Tryd.prog.funcs[92]?).getD default
theorem Vl(b:Nat):(mkE Tryd.prog nv b).fn.get 92=some Q0t:=by kernel_rfl
theorem Qj5(x:Int):Qa3 (binOp .quo 3 (.int .i64 x) (.int .i64 4))=some (.int .i64 (IntKind.wrap .i64 (Int.tdiv x 4))):=by kernel_rfl
theorem Qjb(x:Int):Qa3 (binOp .rem 3 (.int .i64 x) (.int .i64 4))=some (.int .i64 (Int.tmod x 4)):=by kernel_rfl
theorem Qj7(b:Nat):Qfm (E b).toEnv 156 5=true:=by kernel_rfl
theorem Qja(b:Nat)(k:IntKind)(n:Int):Qhm (E b).toEnv 156 5 (.int k n)=some (.int .u8 (IntKind.wrap .u8 n)):=by kernel_rfl
theorem Xe2(b:Nat){bk o:Nat}{k:IntKind}{i:Int}(h:0≤i∧i < 32):J7 (E b).toEnv 23 (.pointer (some ⟨bk,o,none⟩)) (.int k i)=some (.pointer (some ⟨bk,o+i.toNat*1,none⟩)):=Xi3 (T23 b) Qb3 h
theorem Qz6(b:Nat)(h:Heap)(bk o:Nat)(k:IntKind)(z:Int):Wy (E b).toEnv 5 (.pointer (some ⟨bk,o,none⟩)) (.int k z) h=Uv h bk o [(.int k z)]:=Qxg (Xpe b) Qb3 rfl
noncomputable def Qe6:Func:=(Tryd.prog.funcs[144]?).getD default
theorem Z6(b:Nat):(mkE Tryd.prog nv b).fn.get 144=some Qe6:=by kernel_rfl
theorem Qa8(b:Nat)(q:Bool)(a:Option Addr):Z3 (E b).toEnv .neq 227 q (.pointer a) (.pointer none)=some (.bool (!a.isNone)):=by cases a <;> kernel_rfl
noncomputable def Qd7:Func:=(Tryd.prog.funcs[115]?).getD default
theorem Ze(b:Nat):(mkE Tryd.prog nv b).fn.get 115=some Qd7:=by kernel_rfl
def L90:List Nat:=R90.leaf
theorem Qw8(b:Nat)(q:Bool)(x y:List Value):Z3 (E b).toEnv .eql 90 q (.agg ⟨x⟩) (.agg ⟨y⟩)=(Vd L90 x y).map .bool:=by kernel_rfl
theorem Xdp(b:Nat)(h:Heap):Qdl (E b).toEnv 90 h=some (.pointer (some ⟨h.next,0,none⟩),h.push (.cells true 1 [(.int .u8 0),(.int .u8 0),(.int .u8 0),(.int .u8 0),(.int .u8 0),(.int .u8 0),(.int .u8 0),(.int .u8 0),(.int .u8 0),(.int .u8 0),(.int .u8 0),(.int .u8 0),(.int .u8 0),(.int .u8 0),(.int .u8 0),(.int .u8 0)])):=by kernel_rfl
theorem Xji(b:Nat)(h:Heap)(bk o:Nat)(l:List Value)(hl:l.length=16):Wy (E b).toEnv 90 (.pointer (some ⟨bk,o,none⟩)) (.agg ⟨l⟩) h=Uv h bk o l:=Xg5 (Xze b) (by rw[Xom];exact hl)
theorem Xh9(b bk o:Nat):Uq (E b).toEnv 111 (.pointer (some ⟨bk,o,none⟩)) 0=some (.pointer (some ⟨bk,o+0,none⟩)):=by kernel_rfl
noncomputable def X4k:TyRec:=((mkE Tryd.prog nv 0).ty.get 109).getD ⟨.invalid,0,0,.bool false,[]⟩
theorem X11(b:Nat):(E b).toEnv.ty.get 109=some X4k:=by kernel_rfl
theorem X4m(b:Nat):ArTy (E b).toEnv 32 23 109 R23 X4k:=⟨Xwe b,X11 b,by kernel_rfl⟩
theorem Xo5(b:Nat){bk o:Nat}{k:IntKind}{i:Int}(h:0≤i∧i < 32):J7 (E b).toEnv 109 (.pointer (some ⟨bk,o,none⟩)) (.int k i)=some (.pointer (some ⟨bk,o+i.toNat*32,none⟩)):=Xi3 (X4m b) Xht h
abbrev Q5v:List Oper:=[oP 3 (.box 59 (oTt 1)),oP 4 (.assign (.const (.pointer none)))]
abbrev Q7q:Code:=oRg Q5v
abbrev Q54:List Oper:=[oP 8 (oLd 59 3),oP 9 (.build 107 #[(0,(oTt 8))]),oP 10 (.box 107 (oTt 9)),oP 5 (oAs 10)]
abbrev Xae:Code:=oRg Q54
abbrev Q43:List Oper:=[oP 11 (oMv 0),oP 12 (oBu .len #[(oTt 11)] #[43]),oP 13 (.move (oCi 0))]
abbrev Xan:Code:=oRg Q43
abbrev Q5c:List Oper:=[oP 14 (.binOp .lss 3 (oTt 13) (oTt 12) 3)]
abbrev Xaw:Code:=oRg Q5c
abbrev Xbk:Code:=.cond (.tmp 14) .skip (.exit 0)
abbrev Q27:List Oper:=[oP 15 (oIx 43 11 13),oP 16 (oLd 47 15),oP 7 (oAs 16)]
abbrev Q5u:Code:=oRg Q27
abbrev Q0x:List Oper:=[oP 17 (oMv 7),oP 18 (oBu .len #[(oTt 17)] #[47]),oP 19 (.binOp .leq 3 (oTt 18) (oCi 64) 3),oP 20 (oCa 50 #[(oTt 19),(oCi 16)] #[4,35])]
abbrev Q40:Code:=oRg Q0x
abbrev Q15:List Oper:=[oP 21 (oMv 5),oP 22 (oMv 7),oP 23 (oCa 83 #[(oTt 21),(oTt 22)] #[100,47])]
abbrev Q5z:Code:=oRg Q15
abbrev Q6v:Code:=.seq Q40 Q5z
abbrev Q5e:Code:=.seq Q5u Q6v
abbrev Q5p:Code:=.block 1 Q5e
abbrev Q2q:List Oper:=[oP 24 (.binOp .add 3 (oTt 13) (oCi 1) 3),oP 13 (oMv 24)]
abbrev Q62:Code:=oRg Q2q
abbrev Q4n:Code:=.seq Q5p Q62
abbrev Q8a:Code:=.seq Xbk Q4n
abbrev Q8u:Code:=.seq Xaw Q8a
def Q4u:Code:=.loop Q8u
abbrev Q4j:Code:=.block 0 Q4u
abbrev Xbf:Code:=.seq Xan Q4j
abbrev Q33:List Oper:=[oP 25 (oMv 5),oP 4 (oAs 25)]
abbrev Q44:Code:=oRg Q33
abbrev Q3o:Code:=.seq Q44 .ret
abbrev Q64:Code:=.seq Xbf Q3o
abbrev Q8y:Code:=.seq Xae Q64
abbrev Xa1:Code:=.seq Q7q Q8y
def U9:Code:=Xa1
theorem Xa8:Uu (J2 51)=U9:=by kernel_rfl
theorem Q2s:Qhr.body=some (J2 51):=by kernel_rfl
theorem Xen:Qhr.ntmps=26:=by kernel_rfl
theorem Wu:Qhr.results.toList=[.tmp 4]:=by kernel_rfl
abbrev Xd5:List Oper:=[oP 5 (.box 59 (oTt 2)),oP 6 (.alloc 35)]
abbrev Xhz:Code:=oRg Xd5
abbrev Xe9:List Oper:=[oP 12 (.makeFunc (.func 49) #[] #[(oTt 6)]),oN (.defer {callee:=.value (oTt 12),args:=#[],argTypes:=#[]})]
abbrev Xh6:Code:=oRg Xe9
abbrev Xem:List Oper:=[oP 14 (oMv 0),oP 15 (oCa 24 #[(oTt 14)] #[47]),oP 13 (oMv 15),oP 16 (.extract (oTt 13) 0),oP 17 (.extract (oTt 13) 1),oP 7 (oAs 16),oP 8 (oAs 17)]
abbrev Xgi:Code:=oRg Xem
abbrev Xdl:List Oper:=[oP 18 (oMv 8),oP 19 (.binOp .eql 35 (oTt 18) (oCi 0) 35),oP 20 (oMv 8),oP 21 (oCa 50 #[(oTt 19),(oTt 20)] #[4,35])]
abbrev Xid:Code:=oRg Xdl
abbrev Xcq:List Oper:=[oP 22 (oMv 1),oP 23 (oLd 59 5),oP 24 (oCa 51 #[(oTt 22),(oTt 23)] #[43,59]),oP 9 (oAs 24)]
abbrev Xi0:Code:=oRg Xcq
abbrev Xbd:List Oper:=[oP 25 (oMv 7),oP 26 (oBu .len #[(oTt 25)] #[67]),oP 27 (.move (oCi 0))]
abbrev Xdi:Code:=oRg Xbd
abbrev Q99:List Oper:=[oP 28 (.binOp .lss 3 (oTt 27) (oTt 26) 3)]
abbrev Xel:Code:=oRg Q99
abbrev Xey:Code:=.cond (.tmp 28) .skip (.exit 0)
abbrev Xaj:List Oper:=[oP 29 (oIx 67 25 27),oP 30 (oLd 103 29),oP 11 (.alloc 103),oN (.store 103 (oTt 11) (oTt 30))]
abbrev Xe4:Code:=oRg Xaj
abbrev Xc2:List Oper:=[oP 31 (oMv 9),oP 32 (oLd 103 11),oP 33 (oCa 52 #[(oTt 31),(oTt 32)] #[100,103])]
abbrev Xcs:Code:=oRg Xc2
abbrev Xds:Code:=.seq Xe4 Xcs
abbrev Xec:Code:=.block 1 Xds
abbrev Q8w:List Oper:=[oP 34 (.binOp .add 3 (oTt 27) (oCi 1) 3),oP 27 (oMv 34)]
abbrev Xdn:Code:=oRg Q8w
abbrev Xeu:Code:=.seq Xec Xdn
abbrev Xcf:Code:=.seq Xey Xeu
abbrev Xev:Code:=.seq Xel Xcf
def Xcr:Code:=.loop Xev
abbrev Xdz:Code:=.block 0 Xcr
abbrev Xdx:Code:=.seq Xdi Xdz
abbrev Qwj:List Oper:=[oP 35 (oMv 9),oP 36 (.nilCheck (oTt 35)),oP 37 (oFa 107 36 2),oP 38 (oLd 105 37),oP 39 (oBu .len #[(oTt 38)] #[105]),oP 40 (.binOp .eql 3 (oTt 39) (oCi 0) 3),oP 41 (oMv 40),oG 6 true 42 (oMv 9),oG 6 true 43 (.nilCheck (oTt 42)),oG 6 true 44 (oFa 107 43 1),oG 6 true 45 (oLd 43 44),oG 6 true 46 (oBu .len #[(oTt 45)] #[43]),oG 6 true 47 (.binOp .eql 3 (oTt 46) (oCi 1) 3),oP 48 (.pick (oTt 41) (oTt 47) (.const (.bool false))),oP 49 (oMv 48),oG 14 true 50 (oMv 9),oG 14 true 51 (.nilCheck (oTt 50)),oG 14 true 52 (oFa 107 51 1),oG 14 true 53 (oLd 43 52),oG 14 true 54 (.indexAddr 43 (oTt 53) (oCi 0)),oG 14 true 55 (oLd 47 54),oG 14 true 56 (oCa 53 #[(oTt 55)] #[47]),oP 57 (.pick (oTt 49) (oTt 56) (.const (.bool false))),oP 58 (oCa 50 #[(oTt 57),(oCi 16)] #[4,35])]
def Qht:List Oper:=Qwj
def Qxe:Code:=oRg Qht
theorem Zp:oRQ Qxe Qht Qwj:=fun _ _=>rfl
theorem Zh:nth Qht 6=some ⟨(some 41),.move (.tmp 40),0,"",#[],none⟩:=rfl
theorem Zc:nth Qht 14=some ⟨(some 49),.move (.tmp 48),0,"",#[],none⟩:=rfl
abbrev Xal:List Oper:=[oN (.store 35 (oTt 6) (oCi 0))]
abbrev Xcj:Code:=oRg Xal
abbrev Xef:Code:=.seq Xcj .ret
abbrev Xe0:Code:=.seq Qxe Xef
abbrev Xet:Code:=.seq Xdx Xe0
abbrev Xhe:Code:=.seq Xi0 Xet
abbrev Xig:Code:=.seq Xid Xhe
abbrev Xi4:Code:=.seq Xgi Xig
abbrev Xhd:Code:=.seq Xh6 Xi4
abbrev Xih:Code:=.seq Xhz Xhd
def Zn:Code:=Xih
theorem Xgp:Uu (J2 18)=Zn:=by kernel_rfl
theorem Q8t:Qai.body=some (J2 18):=by kernel_rfl
theorem Xjb:Qai.ntmps=59:=by kernel_rfl
theorem J3:Qai.results.toList=[.cell 6 35]:=by kernel_rfl
abbrev Q42:List Oper:=[oP 2 (oBu .recover #[] #[]),oP 1 (oAs 2)]
def Ql5:List Oper:=Q42
def Qjv:Code:=oRg Ql5
abbrev Q58:List Oper:=[oP 3 (oMv 1),oP 4 (.binOp .neq 20 (oTt 3) (.const .nilIface) 20)]
def Qka:List Oper:=Q58
def Qjo:Code:=oRg Qka
abbrev Q50:List Oper:=[oP 5 (oMv 1),oP 6 (.typeAssert (oTt 5) 20 35 false),oN (.store 35 (oTt 0) (oTt 6))]
def Qk6:List Oper:=Q50
def Qkr:Code:=oRg Qk6
abbrev Qjk:Code:=.cond (.tmp 4) Qkr .skip
abbrev Qkv:Code:=.seq Qjo Qjk
abbrev Qjn:Code:=.seq Qjv Qkv
def Qhc:Code:=Qjn
theorem Qw5:Uu (J2 49)=Qhc:=by kernel_rfl
theorem Qn7:Qaj.body=some (J2 49):=by kernel_rfl
theorem Qxr:Qaj.ntmps=7:=by kernel_rfl
theorem Qv9:Qaj.results.toList=[]:=by kernel_rfl
abbrev Q9n:List Oper:=[oP 4 (.assign (.const (.bool false)))]
abbrev Xe6:Code:=oRg Q9n
abbrev Xbw:List Oper:=[oP 5 (oMv 0),oP 6 (.convert 47 9 (oTt 5)),oP 7 (oMv 1),oP 8 (.convert 47 9 (oTt 7)),oP 9 (.binOp .eql 9 (oTt 6) (oTt 8) 9),oP 4 (oAs 9)]
abbrev Xce:Code:=oRg Xbw
abbrev Xct:Code:=.seq Xce .ret
abbrev Xdd:Code:=.seq Xe6 Xct
def Qs6:Code:=Xdd
theorem Xco:Uu (J2 42)=Qs6:=by kernel_rfl
theorem Q6q:Qis.body=some (J2 42):=by kernel_rfl
theorem Xgv:Qis.ntmps=10:=by kernel_rfl
theorem Xer:Qis.results.toList=[.tmp 4]:=by kernel_rfl
abbrev Xh0:List Oper:=[oP 2 (.alloc 23)]
abbrev Xit:Code:=oRg Xh0
abbrev Xgu:List Oper:=[oP 3 (oMv 0),oP 4 (oCa 54 #[(.const (.slice none 0 0)),(oTt 3)] #[47,47]),oN (.store 23 (oTt 2) (oTt 4))]
abbrev Xkr:Code:=oRg Xgu
abbrev Xkc:Code:=.seq Xkr .ret
abbrev Xkt:Code:=.seq Xit Xkc
def Qmi:Code:=Xkt
theorem Xjo:Uu (J2 87)=Qmi:=by kernel_rfl
theorem Xe8:Qpd.body=some (J2 87):=by kernel_rfl
theorem Xmk:Qpd.ntmps=5:=by kernel_rfl
theorem Q3f:Qpd.results.toList=[.cell 2 23]:=by kernel_rfl
abbrev Q9s:List Oper:=[oP 4 (.alloc 23)]
abbrev Xex:Code:=oRg Q9s
abbrev Q88:List Oper:=[oP 13 (oMv 0),oP 14 (oBu .len #[(oTt 13)] #[47]),oP 15 (.binOp .gtr 3 (oTt 14) (oCi 32) 3)]
abbrev Xdh:Code:=oRg Q88
abbrev Q87:List Oper:=[oP 16 (oMv 0),oP 17 (oCa 87 #[(oTt 16)] #[47]),oP 5 (.alloc 23),oN (.store 23 (oTt 5) (oTt 17))]
abbrev Xe5:Code:=oRg Q87
abbrev Q7r:List Oper:=[oP 18 (.slice 23 (oTt 5) none none none),oP 0 (oAs 18)]
abbrev Xcc:Code:=oRg Q7r
abbrev Xdm:Code:=.seq Xe5 Xcc
abbrev Xed:Code:=.cond (.tmp 15) Xdm .skip
abbrev Xf0:Code:=.seq Xdh Xed
abbrev Xbs:List Oper:=[oP 19 (.load 158 (.global 0)),oP 6 (.alloc 158),oN (.store 158 (oTt 6) (oTt 19))]
abbrev Xdo:Code:=oRg Xbs
abbrev Q4v:List Oper:=[oP 20 (.indexAddr 158 (oTt 6) (oCi 0)),oP 21 (oLd 156 20),oP 22 (oMv 0),oP 23 (oBu .len #[(oTt 22)] #[47]),oP 24 (.convert 3 156 (oTt 23)),oP 25 (.binOp .shl 156 (oTt 24) (.const (.int .u64 8)) 159),oP 26 (.binOp .xor 156 (.const (.int .u32 16842752)) (oTt 25) 156),oP 27 (.binOp .xor 156 (oTt 26) (.const (.int .u32 32)) 156),oP 28 (.binOp .xor 156 (oTt 21) (oTt 27) 156),oP 29 (.indexAddr 158 (oTt 6) (oCi 0)),oN (.store 156 (oTt 29) (oTt 28))]
abbrev Xbq:Code:=oRg Q4v
abbrev Q5r:List Oper:=[oP 30 (oMv 1),oP 7 (oAs 30)]
abbrev Xb8:Code:=oRg Q5r
abbrev Q6z:List Oper:=[oP 31 (oMv 0),oP 32 (oBu .len #[(oTt 31)] #[47]),oP 33 (.binOp .gtr 3 (oTt 32) (oCi 0) 3)]
abbrev Q9k:Code:=oRg Q6z
abbrev Q4l:List Oper:=[oP 34 (oMv 1),oP 35 (oBu .len #[(oTt 34)] #[47]),oP 36 (.binOp .add 3 (oCi 64) (oTt 35) 3),oP 37 (.makeSlice 47 (oCi 0) (oTt 36)),oP 38 (oMv 0),oP 39 (oBu .append #[(oTt 37),(oTt 38)] #[47,47]),oP 40 (oMv 0),oP 41 (oBu .len #[(oTt 40)] #[47]),oP 42 (.binOp .sub 3 (oCi 64) (oTt 41) 3),oP 43 (oBu .append #[(oTt 39),(oTt 42)] #[47,3]),oP 44 (oMv 1),oP 45 (oBu .append #[(oTt 43),(oTt 44)] #[47,47]),oP 7 (oAs 45)]
abbrev Xa6:Code:=oRg Q4l
abbrev Q96:Code:=.cond (.tmp 33) Xa6 .skip
abbrev Xbr:Code:=.seq Q9k Q96
abbrev Q6c:List Oper:=[oP 8 (.assign (.const (.int .u64 0)))]
abbrev Q8j:Code:=oRg Q6c
abbrev Q5o:List Oper:=[oP 9 (.alloc 161)]
abbrev Xat:Code:=oRg Q5o
abbrev Q59:List Oper:=[oP 46 (.slice 161 (oTt 9) none none none),oP 47 (oMv 7),oP 48 (oBu .copy #[(oTt 46),(oTt 47)] #[47,47]),oP 10 (oAs 48)]
abbrev Xbe:Code:=oRg Q59
abbrev Q6t:List Oper:=[oP 49 (oMv 7),oP 50 (oMv 10),oP 51 (.slice 47 (oTt 49) (some (oTt 50)) none none),oP 7 (oAs 51)]
abbrev Q8x:Code:=oRg Q6t
abbrev Q5t:List Oper:=[oP 52 (oMv 8),oP 53 (oMv 10),oP 54 (.convert 3 160 (oTt 53)),oP 55 (.binOp .add 160 (oTt 52) (oTt 54) 160),oP 8 (oAs 55)]
abbrev Xao:Code:=oRg Q5t
abbrev Q3y:List Oper:=[oP 56 (oLd 158 6),oP 57 (oMv 8),oP 58 (oMv 7),oP 59 (oBu .len #[(oTt 58)] #[47]),oP 60 (.binOp .eql 3 (oTt 59) (oCi 0) 3),oP 61 (oCa 92 #[(oTt 56),(oTt 9),(oTt 57),(oTt 60)] #[158,163,160,4]),oN (.store 158 (oTt 6) (oTt 61))]
abbrev Xc5:Code:=oRg Q3y
abbrev Q6m:List Oper:=[oP 62 (oMv 7),oP 63 (oBu .len #[(oTt 62)] #[47]),oP 64 (.binOp .eql 3 (oTt 63) (oCi 0) 3)]
abbrev Q82:Code:=oRg Q6m
abbrev Q8b:Code:=.cond (.tmp 64) (.exit 0) .skip
abbrev Xa2:Code:=.seq Q82 Q8b
abbrev Q90:Code:=.seq Xc5 Xa2
abbrev Xb9:Code:=.seq Xao Q90
abbrev Xav:Code:=.seq Q8x Xb9
abbrev Xa5:Code:=.seq Xbe Xav
abbrev Xaz:Code:=.seq Xat Xa5
abbrev Q9m:Code:=.block 1 Xaz
def Qwk:Code:=.loop Q9m
def Qkd:Code:=.block 0 Qwk
theorem Vp:oBQ 0 Qkd Qwk:=fun _ _=>rfl
abbrev Q6b:List Oper:=[oP 11 (.alloc 23)]
abbrev Q7s:Code:=oRg Q6b
abbrev Q72:List Oper:=[oP 65 (.move (oCi 0))]
abbrev Xab:Code:=oRg Q72
abbrev Q4f:List Oper:=[oP 66 (.binOp .lss 3 (oTt 65) (oCi 32) 3)]
abbrev Xbo:Code:=oRg Q4f
abbrev Xau:Code:=.cond (.tmp 66) .skip (.exit 2)
abbrev Q3q:List Oper:=[oP 67 (oMv 65),oP 12 (oAs 67)]
abbrev Q9q:Code:=oRg Q3q
abbrev Q75:List Oper:=[oP 68 (oMv 12),oP 69 (oMv 12),oP 70 (.binOp .quo 3 (oTt 69) (oCi 4) 3),oP 71 (oIx 158 6 70),oP 72 (oLd 156 71),oP 73 (oMv 12),oP 74 (.binOp .rem 3 (oTt 73) (oCi 4) 3),oP 75 (.binOp .mul 3 (oCi 8) (oTt 74) 3),oP 76 (.binOp .shr 156 (oTt 72) (oTt 75) 3),oP 77 (.convert 156 5 (oTt 76)),oP 78 (oIx 23 11 68),oN (.store 5 (oTt 78) (oTt 77))]
abbrev Xbt:Code:=oRg Q75
abbrev Q84:Code:=.seq Q9q Xbt
abbrev Xa4:Code:=.block 3 Q84
abbrev Q66:List Oper:=[oP 79 (.binOp .add 3 (oTt 65) (oCi 1) 3),oP 65 (oMv 79)]
abbrev Xb0:Code:=oRg Q66
abbrev Q7x:Code:=.seq Xa4 Xb0
abbrev Xa9:Code:=.seq Xau Q7x
abbrev Xb1:Code:=.seq Xbo Xa9
def Xa7:Code:=.loop Xb1
abbrev Xad:Code:=.block 2 Xa7
abbrev Q7n:Code:=.seq Xab Xad
abbrev Q60:List Oper:=[oP 80 (oLd 23 11),oN (.store 23 (oTt 4) (oTt 80))]
abbrev Q8m:Code:=oRg Q60
abbrev Q9t:Code:=.seq Q8m .ret
abbrev Xb5:Code:=.seq Q7n Q9t
abbrev Ql3:Code:=.seq Q7s Xb5
def Qfp:Code:=.seq Qkd Ql3
theorem Jm:oSQ Qfp Qkd Ql3:=fun _ _=>rfl
abbrev Q7m:Code:=.seq Q8j Qfp
abbrev Xbj:Code:=.seq Xbr Q7m
abbrev Q9g:Code:=.seq Xb8 Xbj
abbrev Xbu:Code:=.seq Xbq Q9g
abbrev Q9r:Code:=.seq Xdo Xbu
abbrev Xdw:Code:=.seq Xf0 Q9r
abbrev Xej:Code:=.seq Xex Xdw
def U6:Code:=Xej
theorem Xck:Uu (J2 54)=U6:=by kernel_rfl
theorem Q4s:Qce.body=some (J2 54):=by kernel_rfl
theorem Xib:Qce.ntmps=81:=by kernel_rfl
theorem Wm:Qce.results.toList=[.cell 4 23]:=by kernel_rfl
abbrev Qso:List Oper:=[oP 6 (.box 23 (oTt 2)),oP 7 (.box 90 (oTt 3)),oP 8 (.assign (.const (.bool false)))]
abbrev Qv7:Code:=oRg Qso
noncomputable def Un:Array Oper:=Q8d (Q7j 1 (J2 123))
def Qw2:Code:=.region 1 Un true
abbrev Qch:List Oper:=[oP 9 (oMv 0),oP 10 (oMv 1),oP 11 (oCa 144 #[(oTt 9),(oTt 10)] #[38,3]),oP 12 (.binOp .neq 227 (oTt 11) (.const (.pointer none)) 227),oP 13 (oMv 12),oG 4 true 14 (oMv 0),oG 4 true 15 (oMv 1),oG 4 true 16 (oLd 23 6),oG 4 true 17 (oCa 115 #[(oTt 14),(oTt 15),(oTt 16)] #[38,3,23]),oG 4 true 18 (oLd 90 7),oG 4 true 19 (.binOp .eql 90 (oTt 17) (oTt 18) 90),oP 20 (.pick (oTt 13) (oTt 19) (.const (.bool false))),oP 8 (oAs 20)]
def Vu:List Oper:=Qch
theorem Qle:Un.toList.map bare=Qch:=by kernel_rfl
theorem Qdt:Un.toList.map bare=Vu:=Qle
def J4:List Nat:=[0,0,3,7,15,31,31,31,255,31,1023,2047,4095]
theorem Qe8:Qtx Un.toList []=some J4:=by kernel_rfl
theorem Qdc:W7 Un.toList Un.toList J4 []=true:=by kernel_rfl
theorem Qeh(b:Nat)(L:List KE)(s:St):Ab.runT (E b) L Vu J4 Vu 0 s=Ab.runT (E b) L Vu J4 Qch 0 s:=rfl
theorem Qeg:nth Vu 4=some ⟨(some 13),.move (.tmp 12),0,"",#[],none⟩:=rfl
theorem Qfa(b:Nat):Qap (E b) 2 ((nth J4 2).getD 0) Vu J4 0=true:=by kernel_rfl
theorem Qfh(b:Nat):Qap (E b) 8 ((nth J4 8).getD 0) Vu J4 0=true:=by kernel_rfl
abbrev Qub:Code:=.seq Qw2 .ret
abbrev Qv6:Code:=.seq Qv7 Qub
def Je:Code:=Qv6
theorem Qi9:Uu (J2 123)=Je:=by kernel_rfl
theorem Qgh:Qbv.body=some (J2 123):=by kernel_rfl
theorem Qiq:Qbv.ntmps=21:=by kernel_rfl
theorem Ve:Qbv.results.toList=[.tmp 8]:=by kernel_rfl
abbrev Qx9:List Oper:=[oP 5 (.box 23 (oTt 2)),oP 6 (.alloc 90)]
abbrev Qyk:Code:=oRg Qx9
abbrev Qwz:List Oper:=[oP 9 (oMv 0),oP 10 (oMv 1),oP 11 (oCa 144 #[(oTt 9),(oTt 10)] #[38,3]),oP 7 (oAs 11)]
abbrev Qye:Code:=oRg Qwz
abbrev Qwt:List Oper:=[oP 12 (oMv 7),oP 13 (.binOp .neq 227 (oTt 12) (.const (.pointer none)) 227)]
abbrev Qyt:Code:=oRg Qwt
noncomputable def Wi:Array Oper:=Q8d (Q7j 3 (J2 115))
def Qyc:Code:=.region 3 Wi true
abbrev Qdd:List Oper:=[oP 14 (oMv 7),oP 15 (.nilCheck (oTt 14)),oP 16 (.slice 23 (oTt 15) none none none),oP 17 (.slice 23 (oTt 5) none none none),oP 18 (oCa 54 #[(oTt 16),(oTt 17)] #[47,47]),oP 8 (.alloc 23),oN (.store 23 (oTt 8) (oTt 18))]
def Qaa:List Oper:=Qdd
theorem Qn8:Wi.toList.map bare=Qdd:=by kernel_rfl
theorem Qmw:Wi.toList.map bare=Qaa:=Qn8
def U3:List Nat:=[0,1,3,0,15,0,63]
theorem Qoe:Qtx Wi.toList []=some U3:=by kernel_rfl
theorem Qmq:W7 Wi.toList Wi.toList U3 []=true:=by kernel_rfl
theorem Qq0(b:Nat)(L:List KE)(s:St):Ab.runT (E b) L Qaa U3 Qaa 0 s=Ab.runT (E b) L Qaa U3 Qdd 0 s:=rfl
theorem Qta(b:Nat):Qap (E b) 6 ((nth U3 6).getD 0) Qaa U3 0=true:=by kernel_rfl
noncomputable def Wh:Array Oper:=Q8d (Q7j 4 (J2 115))
def Qyn:Code:=.region 4 Wh true
abbrev Qdz:List Oper:=[oP 19 (.slice 90 (oTt 6) none none none),oP 20 (.slice 23 (oTt 8) none none none),oP 21 (oBu .copy #[(oTt 19),(oTt 20)] #[47,47])]
def Qa6:List Oper:=Qdz
theorem Qot:Wh.toList.map bare=Qdz:=by kernel_rfl
theorem Qmy:Wh.toList.map bare=Qa6:=Qot
def U5:List Nat:=[0,0,3]
theorem Qnz:Qtx Wh.toList []=some U5:=by kernel_rfl
theorem Qml:W7 Wh.toList Wh.toList U5 []=true:=by kernel_rfl
theorem Qqj(b:Nat)(L:List KE)(s:St):Ab.runT (E b) L Qa6 U5 Qa6 0 s=Ab.runT (E b) L Qa6 U5 Qdz 0 s:=rfl
theorem Qtm(b:Nat):Qap (E b) 2 ((nth U5 2).getD 0) Qa6 U5 0=true:=by kernel_rfl
abbrev Qyj:Code:=.seq Qyc Qyn
abbrev Qy3:Code:=.cond (.tmp 13) Qyj .skip
abbrev Qyq:Code:=.seq Qyt Qy3
abbrev Qyi:Code:=.seq Qye Qyq
abbrev Qwy:List Oper:=[oP 22 (oLd 90 6),oN (.store 90 (oTt 6) (oTt 22))]
abbrev Qy6:Code:=oRg Qwy
abbrev Qx0:Code:=.seq Qy6 .ret
abbrev Qyr:Code:=.seq Qyi Qx0
abbrev Qy4:Code:=.seq Qyk Qyr
def Jo:Code:=Qy4
theorem Qys:Uu (J2 115)=Jo:=by kernel_rfl
theorem Qve:Qd7.body=some (J2 115):=by kernel_rfl
theorem Q0i:Qd7.ntmps=23:=by kernel_rfl
theorem U2:Qd7.results.toList=[.cell 6 90]:=by kernel_rfl
abbrev Qf4:List Oper:=[oP 4 (.assign (.const (.pointer none)))]
abbrev Qzn:Code:=oRg Qf4
abbrev Qkc:List Oper:=[oP 5 (oMv 1),oP 6 (.binOp .lss 3 (oTt 5) (oCi 1) 3),oP 7 (oMv 6),oG 2 false 8 (oMv 1),oG 2 false 9 (.binOp .gtr 3 (oTt 8) (oCi 32) 3),oP 10 (.pick (oTt 7) (.const (.bool true)) (oTt 9))]
def Qgk:List Oper:=Qkc
def Qlz:Code:=oRg Qgk
theorem Qee:oRQ Qlz Qgk Qkc:=fun _ _=>rfl
theorem Qdy:nth Qgk 2=some ⟨(some 7),.move (.tmp 6),0,"",#[],none⟩:=rfl
def Qlv:List Oper:=Qf4
def Qmb:Code:=oRg Qlv
theorem Qed:oRQ Qmb Qlv Qf4:=fun _ _=>rfl
abbrev Qza:Code:=.seq Qmb .ret
abbrev Q0d:Code:=.cond (.tmp 10) Qza .skip
abbrev Qyy:Code:=.seq Qlz Q0d
abbrev Qxx:List Oper:=[oP 11 (oMv 0),oP 12 (oMv 1),oP 13 (.binOp .sub 3 (oTt 12) (oCi 1) 3),oP 14 (.nilCheck (oTt 11)),oP 15 (oFa 111 14 0),oP 16 (oIx 109 15 13),oP 4 (oAs 16)]
abbrev Q0b:Code:=oRg Qxx
abbrev Q07:Code:=.seq Q0b .ret
abbrev Qyx:Code:=.seq Qyy Q07
abbrev Q0p:Code:=.seq Qzn Qyx
def Qbu:Code:=Q0p
theorem Qmd:Uu (J2 144)=Qbu:=by kernel_rfl
theorem Qip:Qe6.body=some (J2 144):=by kernel_rfl
theorem Qom:Qe6.ntmps=17:=by kernel_rfl
theorem Qgj:Qe6.results.toList=[.tmp 4]:=by kernel_rfl
end Go.Proofs.YtgeeklmjfbiieaaDoor
