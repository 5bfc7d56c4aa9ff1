/-
  Facts of the functions' code and of the types, printed by a program (ShD).
-/
import Derived.Test.YtcokebbiblnonaaDoorFactsK
set_option linter.all false
noncomputable section
namespace Go.Proofs.YtcokebbiblnonaaDoor
open Go Go.Ab
set_option maxRecDepth 100000
noncomputable def Q25:Func:=(Tryd.prog.funcs[10]?).getD default
theorem Xu(b:Nat):(mkE Tryd.prog nv b).fn.get 10=some Q25:=by kernel_rfl
theorem Wl(b bk o:Nat):Wm (E b).toEnv 34 (.pointer (some ⟨bk,o,none⟩)) 0=some (.pointer (some ⟨bk,o+0,none⟩)):=by kernel_rfl
noncomputable def Xpy:Func:=(Tryd.prog.funcs[17]?).getD default
theorem Ja(b:Nat):(mkE Tryd.prog nv b).fn.get 17=some Xpy:=by kernel_rfl
theorem Um(b bk o:Nat):Wm (E b).toEnv 34 (.pointer (some ⟨bk,o,none⟩)) 3=some (.pointer (some ⟨bk,o+3,none⟩)):=by kernel_rfl
theorem Qen(x y:Int):Qdj (binOp .eql 24 (.int .i64 x) (.int .i64 y))=some (.bool (decide (x=y))):=by kernel_rfl
theorem Qax(b bk o:Nat):Wm (E b).toEnv 34 (.pointer (some ⟨bk,o,none⟩)) 1=some (.pointer (some ⟨bk,o+1,none⟩)):=by kernel_rfl
theorem Qe6(b bk o:Nat):Wm (E b).toEnv 34 (.pointer (some ⟨bk,o,none⟩)) 4=some (.pointer (some ⟨bk,o+39,none⟩)):=by kernel_rfl
theorem Qem(b bk o:Nat):Wm (E b).toEnv 34 (.pointer (some ⟨bk,o,none⟩)) 2=some (.pointer (some ⟨bk,o+2,none⟩)):=by kernel_rfl
noncomputable def Qtu:Func:=(Tryd.prog.funcs[21]?).getD default
theorem Yb(b:Nat):(mkE Tryd.prog nv b).fn.get 21=some Qtu:=by kernel_rfl
theorem Vv(b:Nat)(a:Option Addr)(n c:Nat)(h:Heap):Q2a (E b).toEnv 53 (.slice a n c) h=some (.int .i64 n):=by kernel_rfl
theorem V2(b:Nat){bk o n c:Nat}{k:IntKind}{i:Int}(h:0≤i∧i < n):J2 (E b).toEnv 53 (.slice (some ⟨bk,o,none⟩) n c) (.int k i)=some (.pointer (some ⟨bk,o+i.toNat*1,none⟩)):=Qgs (T53 b) Qt6 h
noncomputable def Qj6:Func:=(Tryd.prog.funcs[3]?).getD default
theorem Xd(b:Nat):(mkE Tryd.prog nv b).fn.get 3=some Qj6:=by kernel_rfl
theorem Zq(x y:Int):Qdj (binOp .neq 24 (.int .i64 x) (.int .i64 y))=some (.bool (!(decide (x=y)))):=by kernel_rfl
theorem Uo(b:Nat)(a:Option Addr)(n c:Nat)(h:Heap):Q2a (E b).toEnv 22 (.slice a n c) h=some (.int .i64 n):=by kernel_rfl
theorem Yv(b:Nat)(q:Bool)(a:Option Addr):Zd (E b).toEnv .eql 23 q (.pointer a) (.pointer none)=some (.bool (a.isNone)):=by cases a <;> kernel_rfl
theorem Jj(b:Nat)(q x y:Bool):Zd (E b).toEnv .eql 4 q (.bool x) (.bool y)=some (.bool (x == y)):=by kernel_rfl
noncomputable def Yjy:Func:=(Tryd.prog.funcs[9]?).getD default
theorem Qt(b:Nat):(mkE Tryd.prog nv b).fn.get 9=some Yjy:=by kernel_rfl
noncomputable def R22:TyRec:=((mkE Tryd.prog nv 0).ty.get 22).getD ⟨.invalid,0,0,.bool false,[]⟩
theorem Zac(b:Nat):(E b).toEnv.ty.get 22=some R22:=by kernel_rfl
noncomputable def R34:TyRec:=((mkE Tryd.prog nv 0).ty.get 34).getD ⟨.invalid,0,0,.bool false,[]⟩
theorem Y8t(b:Nat):(E b).toEnv.ty.get 34=some R34:=by kernel_rfl
theorem Y4p:Qio R34.desc=true:=by kernel_rfl
theorem Qqu:R34.size=71:=by kernel_rfl
theorem T22(b:Nat):SlTy (E b).toEnv 34 22 R34 R22:=⟨Y8t b,Zac b,by kernel_rfl⟩
theorem Js(b:Nat){bk o n c:Nat}{k:IntKind}{i:Int}(h:0≤i∧i < n):J2 (E b).toEnv 22 (.slice (some ⟨bk,o,none⟩) n c) (.int k i)=some (.pointer (some ⟨bk,o+i.toNat*71,none⟩)):=Qgs (T22 b) Qqu h
theorem Ju(b:Nat)(h:Heap)(bk o:Nat):Qnh (E b).toEnv 34 (.pointer (some ⟨bk,o,none⟩)) h=Qcd h bk o 71:=Ygu (Y8t b) Y4p Qqu
noncomputable def Qks:Func:=(Tryd.prog.funcs[5]?).getD default
theorem Xc(b:Nat):(mkE Tryd.prog nv b).fn.get 5=some Qks:=by kernel_rfl
def L32:List Nat:=R32.leaf
theorem Qel(b:Nat)(q:Bool)(x y:List Value):Zd (E b).toEnv .neq 32 q (.agg ⟨x⟩) (.agg ⟨y⟩)=(Qa7 L32 x y).map (fun z => .bool (!z)):=by kernel_rfl
theorem Qda(b:Nat)(q x y:Bool):Zd (E b).toEnv .neq 4 q (.bool x) (.bool y)=some (.bool (!(x == y))):=by kernel_rfl
noncomputable def Qd6:Func:=(Tryd.prog.funcs[6]?).getD default
theorem Qc(b:Nat):(mkE Tryd.prog nv b).fn.get 6=some Qd6:=by kernel_rfl
theorem Qbe(b:Nat)(h:Heap):Qfm (E b).toEnv 54 h=some (.pointer (some ⟨h.next,0,none⟩),h.push (.cells true 1 [(.int .i64 0),(.int .i64 0),(.int .i64 0)])):=by kernel_rfl
theorem Qbn(b:Nat)(h:Heap)(bk o:Nat)(l:List Value)(hl:l.length=3):Qjf (E b).toEnv 54 (.pointer (some ⟨bk,o,none⟩)) (.agg ⟨l⟩) h=Qdq h bk o l:=Yg6 (Y7k b) (by rw[Y0h];exact hl)
abbrev Ye6:List Oper:=[oP 3 (.box 34 (oTt 1)),oP 4 (.assign (.const (.bool false)))]
abbrev Yjs:Code:=oRg Ye6
abbrev Yek:List Oper:=[oP 5 (oFa 34 3 0),oP 6 (oLd 3 5),oP 7 (oCa 17 #[(oTt 6),(oCi 5)] #[3,3])]
abbrev Yj4:Code:=oRg Yek
abbrev Yc9:List Oper:=[oP 9 (.binOp .eql 3 (oTt 7) (oCi 0) 3),oP 8 (oAs 9)]
abbrev Yi2:Code:=oRg Yc9
abbrev Ycv:List Oper:=[oP 10 (.binOp .eql 3 (oTt 7) (oCi 1) 3),oP 8 (oAs 10)]
abbrev Yjp:Code:=oRg Ycv
abbrev Yiw:Code:=.cond (.tmp 8) .skip Yjp
abbrev Yi9:Code:=.seq Yi2 Yiw
abbrev Yd8:List Oper:=[oP 11 (oMv 0),oP 12 (oFa 34 3 3),oP 13 (oLd 32 12),oP 14 (oCa 23 #[(oTt 11),(oTt 13)] #[23,32]),oP 15 (.binOp .eql 24 (oTt 14) (oCi 0) 24),oP 4 (oAs 15)]
abbrev Yht:Code:=oRg Yd8
abbrev Yez:Code:=.seq Yht .ret
abbrev X5c:List Oper:=[oP 17 (.binOp .eql 3 (oTt 7) (oCi 2) 3),oP 16 (oAs 17)]
abbrev Ydc:Code:=oRg X5c
abbrev X9c:List Oper:=[oP 18 (oMv 0),oP 19 (oFa 34 3 1),oP 20 (oLd 3 19),oP 21 (oFa 34 3 4),oP 22 (oLd 30 21),oP 23 (oCa 24 #[(oTt 18),(oTt 20),(oTt 22)] #[23,3,30]),oP 24 (.binOp .eql 24 (oTt 23) (oCi 0) 24),oP 4 (oAs 24)]
abbrev Ycp:Code:=oRg X9c
abbrev Ydi:Code:=.seq Ycp .ret
abbrev X7x:List Oper:=[oP 26 (.binOp .eql 3 (oTt 7) (oCi 3) 3),oP 25 (oAs 26)]
abbrev Yfo:Code:=oRg X7x
abbrev X5v:List Oper:=[oP 27 (oMv 0),oP 28 (oFa 34 3 1),oP 29 (oLd 3 28),oP 30 (oCa 25 #[(oTt 27),(oTt 29)] #[23,3]),oP 31 (.binOp .eql 24 (oTt 30) (oCi 0) 24),oP 4 (oAs 31)]
abbrev Ydz:Code:=oRg X5v
abbrev Yd9:Code:=.seq Ydz .ret
abbrev Ydf:Code:=.cond (.tmp 25) Yd9 .skip
abbrev Yf5:Code:=.seq Yfo Ydf
abbrev Ycs:Code:=.cond (.tmp 16) Ydi Yf5
abbrev Yee:Code:=.seq Ydc Ycs
abbrev Ydu:Code:=.cond (.tmp 8) Yez Yee
abbrev Yhu:Code:=.seq Yi9 Ydu
abbrev Yde:Code:=.block 0 Yhu
abbrev Yhj:Code:=.seq Yj4 Yde
abbrev X7r:List Oper:=[oP 32 (oMv 0),oP 33 (oFa 34 3 2),oP 34 (oLd 3 33),oP 35 (oCa 22 #[(oTt 32),(oTt 34)] #[23,3])]
abbrev Yfc:Code:=oRg X7r
abbrev Qzb:List Oper:=[oP 4 (.assign (.const (.bool true)))]
abbrev Ydk:Code:=oRg Qzb
abbrev Yex:Code:=.seq Ydk .ret
abbrev Yeu:Code:=.seq Yfc Yex
abbrev Ych:Code:=.seq Yhj Yeu
abbrev Yis:Code:=.seq Yjs Ych
def Qbp:Code:=Yis
theorem Ykb:Qdk (V7 10)=Qbp:=by kernel_rfl
theorem X8z:Q25.body=some (V7 10):=by kernel_rfl
theorem Ymb:Q25.ntmps=36:=by kernel_rfl
theorem Qed:Q25.results.toList=[.tmp 4]:=by kernel_rfl
abbrev Xls:List Oper:=[oP 4 (.assign (oCi 0))]
abbrev Yqm:Code:=oRg Xls
abbrev Ykz:List Oper:=[oP 5 (oMv 1),oP 6 (.binOp .lss 3 (oTt 5) (oCi 1) 3)]
abbrev Yp7:Code:=oRg Ykz
def X5t:List Oper:=Xls
def X36:Code:=oRg X5t
theorem Xuj:oRQ X36 X5t Xls:=fun _ _=>rfl
abbrev Ypj:Code:=.seq X36 .ret
abbrev Ypb:Code:=.cond (.tmp 6) Ypj .skip
abbrev Yq0:Code:=.seq Yp7 Ypb
abbrev Yn3:List Oper:=[oP 7 (oMv 0),oP 8 (oMv 1),oP 9 (.binOp .rem 3 (oTt 7) (oTt 8) 3),oP 0 (oAs 9)]
abbrev Ypc:Code:=oRg Yn3
abbrev Yiv:List Oper:=[oP 10 (oMv 0),oP 11 (.binOp .lss 3 (oTt 10) (oCi 0) 3)]
abbrev Ymo:Code:=oRg Yiv
abbrev Yk9:List Oper:=[oP 12 (oMv 0),oP 13 (oMv 1),oP 14 (.binOp .add 3 (oTt 12) (oTt 13) 3),oP 0 (oAs 14)]
abbrev Yl2:Code:=oRg Yk9
abbrev Ymg:Code:=.cond (.tmp 11) Yl2 .skip
abbrev Yl5:Code:=.seq Ymo Ymg
abbrev Yhp:List Oper:=[oP 15 (oMv 0),oP 4 (oAs 15)]
abbrev Yml:Code:=oRg Yhp
abbrev Ynf:Code:=.seq Yml .ret
abbrev Yo2:Code:=.seq Yl5 Ynf
abbrev Yp8:Code:=.seq Ypc Yo2
abbrev Yqc:Code:=.seq Yq0 Yp8
abbrev Yqp:Code:=.seq Yqm Yqc
def Xeb:Code:=Yqp
theorem Yq5:Qdk (V7 17)=Xeb:=by kernel_rfl
theorem Yk3:Xpy.body=some (V7 17):=by kernel_rfl
theorem Yu9:Xpy.ntmps=16:=by kernel_rfl
theorem X4p:Xpy.results.toList=[.tmp 4]:=by kernel_rfl
abbrev Qkz:List Oper:=[oP 4 (.assign (.const (.bool false)))]
abbrev X24:Code:=oRg Qkz
abbrev Xyi:List Oper:=[oP 6 (oMv 0),oP 7 (oBu .len #[(oTt 6)] #[53]),oP 8 (oMv 1),oP 9 (oBu .len #[(oTt 8)] #[53]),oP 10 (.binOp .neq 3 (oTt 7) (oTt 9) 3)]
abbrev Yba:Code:=oRg Xyi
def Xo8:List Oper:=Qkz
def Xp4:Code:=oRg Xo8
theorem Qjc:oRQ Xp4 Xo8 Qkz:=fun _ _=>rfl
abbrev Yb0:Code:=.seq Xp4 .ret
abbrev Ybl:Code:=.cond (.tmp 10) Yb0 .skip
abbrev X8o:Code:=.seq Yba Ybl
abbrev X0z:List Oper:=[oP 5 (.assign (oCi 0))]
abbrev X8n:Code:=oRg X0z
abbrev Xx6:List Oper:=[oP 11 (oMv 5),oP 12 (oMv 0),oP 13 (oBu .len #[(oTt 12)] #[53]),oP 14 (.binOp .lss 3 (oTt 11) (oTt 13) 3)]
abbrev X13:Code:=oRg Xx6
abbrev X18:Code:=.cond (.tmp 14) .skip (.exit 0)
abbrev X0u:Code:=.seq X13 X18
noncomputable def Qn3:Array Oper:=Qmh (Qmr 6 (V7 21))
def Yav:Code:=.region 6 Qn3 true
abbrev Xxn:List Oper:=[oP 17 (oMv 0),oP 18 (oMv 5),oP 19 (oIx 53 17 18),oP 20 (oLd 3 19),oP 21 (oMv 1),oP 22 (oMv 5),oP 23 (oIx 53 21 22),oP 24 (oLd 3 23),oP 25 (.binOp .eql 3 (oTt 20) (oTt 24) 3),oP 26 (.unOp .not 4 (oTt 25))]
theorem Xqz:Qn3.toList.map bare=Xxn:=by kernel_rfl
def Q7a:List Nat:=[0,0,3,7,0,0,48,112,255,511]
theorem Xqk:Qrx Qn3.toList []=some Q7a:=by kernel_rfl
theorem Xlj:Qa6 Qn3.toList Qn3.toList Q7a []=true:=by kernel_rfl
def Xei:List Oper:=Qkz
def Xed:Code:=oRg Xei
theorem Qig:oRQ Xed Xei Qkz:=fun _ _=>rfl
abbrev X0f:Code:=.seq Xed .ret
abbrev Xyc:Code:=.cond (.tmp 26) X0f .skip
abbrev Xzf:Code:=.seq Yav Xyc
abbrev Xzy:Code:=.block 1 Xzf
abbrev Xwb:List Oper:=[oP 15 (oMv 5),oP 16 (.binOp .add 3 (oTt 15) (oCi 1) 3),oP 5 (oAs 16)]
abbrev Xyu:Code:=oRg Xwb
abbrev X06:Code:=.seq Xzy Xyu
abbrev Xz9:Code:=.seq X0u X06
def X0d:Code:=.loop Xz9
abbrev Xye:Code:=.block 0 X0d
abbrev X7y:Code:=.seq X8n Xye
def Xeh:List Oper:=Qzb
def Xee:Code:=oRg Xeh
theorem Qif:oRQ Xee Xeh Qzb:=fun _ _=>rfl
abbrev X15:Code:=.seq Xee .ret
abbrev Xzw:Code:=.seq X7y X15
abbrev X7o:Code:=.seq X8o Xzw
abbrev X7g:Code:=.seq X24 X7o
def Qh8:Code:=X7g
theorem Yaf:Qdk (V7 21)=Qh8:=by kernel_rfl
theorem Xxg:Qtu.body=some (V7 21):=by kernel_rfl
theorem Yfp:Qtu.ntmps=27:=by kernel_rfl
theorem Qmi:Qtu.results.toList=[.tmp 4]:=by kernel_rfl
abbrev Qf6:List Oper:=[oP 6 (.assign (.const (.bool false)))]
abbrev Xmr:Code:=oRg Qf6
abbrev Xfd:List Oper:=[oP 14 (oMv 0),oP 15 (oMv 1),oP 16 (oCa 8 #[(oTt 14),(oTt 15)] #[3,3]),oP 13 (oMv 16),oP 17 (.extract (oTt 13) 0),oP 18 (.extract (oTt 13) 1),oP 7 (oAs 17),oP 8 (oAs 18)]
abbrev Xop:Code:=oRg Xfd
abbrev Qs8:List Oper:=[oP 19 (oMv 8),oP 20 (.binOp .neq 24 (oTt 19) (oCi 0) 24),oP 21 (oMv 20),oG 2 false 22 (oMv 2),oG 2 false 23 (oBu .len #[(oTt 22)] #[22]),oG 2 false 24 (.binOp .gtr 3 (oTt 23) (oCi 200) 3),oP 25 (.pick (oTt 21) (.const (.bool true)) (oTt 24))]
def Qmj:List Oper:=Qs8
def Qv1:Code:=oRg Qmj
theorem Jh:oRQ Qv1 Qmj Qs8:=fun _ _=>rfl
theorem Jb:nth Qmj 2=some ⟨(some 21),.move (.tmp 20),0,"",#[],none⟩:=rfl
abbrev Qsc:List Oper:=[oP 26 (oMv 8),oP 27 (.binOp .neq 24 (oTt 26) (oCi 0) 24),oP 28 (oMv 7),oP 29 (.binOp .eql 23 (oTt 28) (.const (.pointer none)) 23),oP 30 (.binOp .eql 4 (oTt 27) (oTt 29) 4),oP 31 (oMv 30),oG 5 true 32 (oCa 9 #[] #[]),oP 33 (.pick (oTt 31) (oTt 32) (.const (.bool false))),oP 6 (oAs 33)]
def Qml:List Oper:=Qsc
def Quw:Code:=oRg Qml
theorem Ji:oRQ Quw Qml Qsc:=fun _ _=>rfl
theorem Jd:nth Qml 5=some ⟨(some 31),.move (.tmp 30),0,"",#[],none⟩:=rfl
abbrev Xjy:Code:=.seq Quw .ret
abbrev Xpn:Code:=.cond (.tmp 25) Xjy .skip
abbrev Xo5:Code:=.seq Qv1 Xpn
abbrev Xd6:List Oper:=[oP 9 (.assign (oCi 0))]
abbrev Xiv:Code:=oRg Xd6
abbrev Xcn:List Oper:=[oP 34 (oMv 9),oP 35 (oMv 2),oP 36 (oBu .len #[(oTt 35)] #[22]),oP 37 (.binOp .lss 3 (oTt 34) (oTt 36) 3)]
abbrev Xgk:Code:=oRg Xcn
abbrev Xiw:Code:=.cond (.tmp 37) .skip (.exit 0)
abbrev Xf1:Code:=.seq Xgk Xiw
abbrev Xc9:List Oper:=[oP 40 (oMv 7),oP 41 (oMv 2),oP 42 (oMv 9),oP 43 (oIx 22 41 42),oP 44 (oLd 34 43),oP 45 (oCa 10 #[(oTt 40),(oTt 44)] #[23,34])]
abbrev Xiq:Code:=oRg Xc9
abbrev Xc4:List Oper:=[oP 10 (.assign (oCi 0))]
abbrev Xga:Code:=oRg Xc4
abbrev Xc0:List Oper:=[oP 46 (oMv 7),oP 47 (oCa 11 #[(oTt 46)] #[23]),oP 11 (oAs 47)]
abbrev Xgl:Code:=oRg Xc0
abbrev Xbn:List Oper:=[oP 12 (.assign (oCi 0))]
abbrev Xir:Code:=oRg Xbn
abbrev Xas:List Oper:=[oP 48 (oMv 12),oP 49 (oMv 11),oP 50 (oBu .len #[(oTt 49)] #[35]),oP 51 (.binOp .lss 3 (oTt 48) (oTt 50) 3)]
abbrev Xj1:Code:=oRg Xas
abbrev Xj5:Code:=.cond (.tmp 51) .skip (.exit 2)
abbrev Xgn:Code:=.seq Xj1 Xj5
abbrev Xd0:List Oper:=[oP 54 (oMv 10),oP 55 (oMv 11),oP 56 (oMv 12),oP 57 (oIx 35 55 56),oP 58 (oFa 32 57 2),oP 59 (oLd 3 58),oP 60 (.binOp .add 3 (oTt 54) (oTt 59) 3),oP 10 (oAs 60)]
abbrev Xex:Code:=oRg Xd0
noncomputable def Qf7:Array Oper:=Qmh (Qmr 14 (V7 3))
def Xfy:Code:=.region 14 Qf7 true
abbrev Q8v:List Oper:=[oP 61 (oMv 12),oP 62 (.binOp .gtr 3 (oTt 61) (oCi 0) 3),oP 63 (oMv 62),oG 2 true 64 (oMv 11),oG 2 true 65 (oMv 12),oG 2 true 66 (oIx 35 64 65),oG 2 true 67 (oFa 32 66 1),oG 2 true 68 (oLd 3 67),oG 2 true 69 (oMv 11),oG 2 true 70 (oMv 12),oG 2 true 71 (.binOp .sub 3 (oTt 70) (oCi 1) 3),oG 2 true 72 (oIx 35 69 71),oG 2 true 73 (oFa 32 72 1),oG 2 true 74 (oLd 3 73),oG 2 true 75 (.binOp .leq 3 (oTt 68) (oTt 74) 3),oP 76 (.pick (oTt 63) (oTt 75) (.const (.bool false)))]
theorem Qn5:Qf7.toList.map bare=Q8v:=by kernel_rfl
def Qqf:List Nat:=[0,1,3,7,7,31,63,127,7,7,519,1799,3847,7943,16383,32767]
theorem Qn0:Qrx Qf7.toList []=some Qqf:=by kernel_rfl
theorem Qm1:Qa6 Qf7.toList Qf7.toList Qqf []=true:=by kernel_rfl
def Qs1:List Oper:=Qf6
def Qsb:Code:=oRg Qs1
theorem Jf:oRQ Qsb Qs1 Qf6:=fun _ _=>rfl
abbrev Xgc:Code:=.seq Qsb .ret
abbrev Xfp:Code:=.cond (.tmp 76) Xgc .skip
abbrev Xgh:Code:=.seq Xfy Xfp
abbrev Xhs:Code:=.seq Xex Xgh
abbrev Xim:Code:=.block 3 Xhs
abbrev Xe6:List Oper:=[oP 52 (oMv 12),oP 53 (.binOp .add 3 (oTt 52) (oCi 1) 3),oP 12 (oAs 53)]
abbrev Xfu:Code:=oRg Xe6
abbrev Xhn:Code:=.seq Xim Xfu
abbrev Xhw:Code:=.seq Xgn Xhn
def Xj4:Code:=.loop Xhw
abbrev Xgr:Code:=.block 2 Xj4
abbrev Xhj:Code:=.seq Xir Xgr
abbrev Qrb:List Oper:=[oP 77 (oMv 7),oP 78 (oCa 12 #[(oTt 77)] #[23]),oP 79 (oMv 10),oP 80 (.binOp .neq 3 (oTt 78) (oTt 79) 3),oP 81 (oMv 80),oG 4 false 82 (oMv 11),oG 4 false 83 (oBu .len #[(oTt 82)] #[35]),oG 4 false 84 (.binOp .gtr 3 (oTt 83) (oCi 16) 3),oP 85 (.pick (oTt 81) (.const (.bool true)) (oTt 84)),oP 86 (oMv 85),oG 9 false 87 (oMv 7),oG 9 false 88 (oCa 13 #[(oTt 87),(oCi 1)] #[23,3]),oG 9 false 89 (.binOp .lss 3 (oTt 88) (oCi 0) 3),oP 90 (.pick (oTt 86) (.const (.bool true)) (oTt 89)),oP 91 (oMv 90),oG 14 false 92 (oMv 7),oG 14 false 93 (oCa 13 #[(oTt 92),(oCi 2)] #[23,3]),oG 14 false 94 (.binOp .lss 3 (oTt 93) (oCi 0) 3),oP 95 (.pick (oTt 91) (.const (.bool true)) (oTt 94)),oP 96 (oMv 95),oG 19 false 97 (oMv 7),oG 19 false 98 (oCa 13 #[(oTt 97),(oCi 1)] #[23,3]),oG 19 false 99 (oMv 7),oG 19 false 100 (oCa 13 #[(oTt 99),(oCi 2)] #[23,3]),oG 19 false 101 (.binOp .add 3 (oTt 98) (oTt 100) 3),oG 19 false 102 (oMv 10),oG 19 false 103 (.binOp .add 3 (oTt 101) (oTt 102) 3),oG 19 false 104 (oMv 0),oG 19 false 105 (oMv 1),oG 19 false 106 (.binOp .add 3 (oTt 104) (oTt 105) 3),oG 19 false 107 (.binOp .neq 3 (oTt 103) (oTt 106) 3),oP 108 (.pick (oTt 96) (.const (.bool true)) (oTt 107))]
def Qd3:List Oper:=Qrb
def Qs3:Code:=oRg Qd3
theorem Je:oRQ Qs3 Qd3 Qrb:=fun _ _=>rfl
theorem J7:nth Qd3 4=some ⟨(some 81),.move (.tmp 80),0,"",#[],none⟩:=rfl
theorem J6:nth Qd3 9=some ⟨(some 86),.move (.tmp 85),0,"",#[],none⟩:=rfl
theorem J0:nth Qd3 14=some ⟨(some 91),.move (.tmp 90),0,"",#[],none⟩:=rfl
theorem J1:nth Qd3 19=some ⟨(some 96),.move (.tmp 95),0,"",#[],none⟩:=rfl
def Qsf:List Oper:=Qf6
def Qse:Code:=oRg Qsf
theorem Jc:oRQ Qse Qsf Qf6:=fun _ _=>rfl
abbrev Xih:Code:=.seq Qse .ret
abbrev Xf7:Code:=.cond (.tmp 108) Xih .skip
abbrev Xj8:Code:=.seq Qs3 Xf7
abbrev Xek:Code:=.seq Xhj Xj8
abbrev Xhy:Code:=.seq Xgl Xek
abbrev Xg4:Code:=.seq Xga Xhy
abbrev Xem:Code:=.seq Xiq Xg4
abbrev Xhg:Code:=.block 1 Xem
abbrev Xcl:List Oper:=[oP 38 (oMv 9),oP 39 (.binOp .add 3 (oTt 38) (oCi 1) 3),oP 9 (oAs 39)]
abbrev Xho:Code:=oRg Xcl
abbrev Xig:Code:=.seq Xhg Xho
abbrev Xhv:Code:=.seq Xf1 Xig
def Xj6:Code:=.loop Xhv
abbrev Xg3:Code:=.block 0 Xj6
abbrev Xey:Code:=.seq Xiv Xg3
abbrev Xck:List Oper:=[oP 109 (oCa 9 #[] #[]),oP 6 (oAs 109)]
abbrev Xhk:Code:=oRg Xck
abbrev Xgt:Code:=.seq Xhk .ret
abbrev Xfa:Code:=.seq Xey Xgt
abbrev Xma:Code:=.seq Xo5 Xfa
abbrev Xkn:Code:=.seq Xop Xma
abbrev Xnt:Code:=.seq Xmr Xkn
def Jg:Code:=Xnt
theorem Xka:Qdk (V7 3)=Jg:=by kernel_rfl
theorem Xbm:Qj6.body=some (V7 3):=by kernel_rfl
theorem Xrj:Qj6.ntmps=110:=by kernel_rfl
theorem V0:Qj6.results.toList=[.tmp 6]:=by kernel_rfl
abbrev Wv:List Oper:=[oP 8 (.assign (.const (.bool false)))]
abbrev Xrb:Code:=oRg Wv
abbrev Qmx:List Oper:=[oP 20 (oMv 0),oP 21 (oMv 1),oP 22 (oCa 8 #[(oTt 20),(oTt 21)] #[3,3]),oP 19 (oMv 22),oP 23 (.extract (oTt 19) 0),oP 24 (.extract (oTt 19) 1),oP 9 (oAs 23),oP 10 (oAs 24)]
abbrev Xq6:Code:=oRg Qmx
abbrev Que:List Oper:=[oP 25 (oMv 10),oP 26 (.binOp .neq 24 (oTt 25) (oCi 0) 24),oP 27 (oMv 26),oG 2 false 28 (oMv 2),oG 2 false 29 (oBu .len #[(oTt 28)] #[22]),oG 2 false 30 (.binOp .gtr 3 (oTt 29) (oCi 150) 3),oP 31 (.pick (oTt 27) (.const (.bool true)) (oTt 30))]
def Qo9:List Oper:=Que
def Qvu:Code:=oRg Qo9
theorem Zu:oRQ Qvu Qo9 Que:=fun _ _=>rfl
theorem Zi:nth Qo9 2=some ⟨(some 27),.move (.tmp 26),0,"",#[],none⟩:=rfl
abbrev Qih:List Oper:=[oP 32 (oMv 10),oP 33 (.binOp .neq 24 (oTt 32) (oCi 0) 24),oP 34 (oMv 9),oP 35 (.binOp .eql 23 (oTt 34) (.const (.pointer none)) 23),oP 36 (.binOp .eql 4 (oTt 33) (oTt 35) 4),oP 37 (oMv 36),oG 5 true 38 (oCa 9 #[] #[]),oP 39 (.pick (oTt 37) (oTt 38) (.const (.bool false))),oP 8 (oAs 39)]
def Qod:List Oper:=Qih
def Qvx:Code:=oRg Qod
theorem Zt:oRQ Qvx Qod Qih:=fun _ _=>rfl
theorem Zj:nth Qod 5=some ⟨(some 37),.move (.tmp 36),0,"",#[],none⟩:=rfl
abbrev Xr2:Code:=.seq Qvx .ret
abbrev Xs0:Code:=.cond (.tmp 31) Xr2 .skip
abbrev Xry:Code:=.seq Qvu Xs0
abbrev Qln:List Oper:=[oP 11 (.assign (oCi 0))]
abbrev Xln:Code:=oRg Qln
abbrev Xgu:List Oper:=[oP 12 (.alloc 32)]
abbrev Xm4:Code:=oRg Xgu
abbrev Xgv:List Oper:=[oP 13 (.assign (oCi 0))]
abbrev Xnv:Code:=oRg Xgv
abbrev Xhq:List Oper:=[oP 40 (oMv 13),oP 41 (oMv 2),oP 42 (oBu .len #[(oTt 41)] #[22]),oP 43 (.binOp .lss 3 (oTt 40) (oTt 42) 3)]
abbrev Xo3:Code:=oRg Xhq
abbrev Xl7:Code:=.cond (.tmp 43) .skip (.exit 0)
abbrev Xpg:Code:=.seq Xo3 Xl7
abbrev Xgb:List Oper:=[oP 46 (oMv 9),oP 47 (oMv 2),oP 48 (oMv 13),oP 49 (oIx 22 47 48),oP 50 (oLd 34 49),oP 51 (oCa 10 #[(oTt 46),(oTt 50)] #[23,34]),oP 14 (oAs 51)]
abbrev Xjr:Code:=oRg Xgb
abbrev Qs7:List Oper:=[oP 52 (oMv 14),oP 53 (oMv 52),oG 1 true 54 (oMv 2),oG 1 true 55 (oMv 13),oG 1 true 56 (oIx 22 54 55),oG 1 true 57 (oFa 34 56 0),oG 1 true 58 (oLd 3 57),oG 1 true 59 (oCa 17 #[(oTt 58),(oCi 5)] #[3,3]),oG 1 true 60 (.binOp .lss 3 (oTt 59) (oCi 2) 3),oP 61 (.pick (oTt 53) (oTt 60) (.const (.bool false))),oP 62 (oMv 61),oG 10 true 63 (oMv 2),oG 10 true 64 (oMv 13),oG 10 true 65 (oIx 22 63 64),oG 10 true 66 (oFa 34 65 3),oG 10 true 67 (oFa 32 66 1),oG 10 true 68 (oLd 3 67),oG 10 true 69 (oMv 3),oG 10 true 70 (.binOp .eql 3 (oTt 68) (oTt 69) 3),oP 71 (.pick (oTt 62) (oTt 70) (.const (.bool false)))]
def Qin:List Oper:=Qs7
def Qu9:Code:=oRg Qin
theorem Zh:oRQ Qu9 Qin Qs7:=fun _ _=>rfl
theorem Za:nth Qin 1=some ⟨(some 53),.move (.tmp 52),0,"",#[],none⟩:=rfl
theorem Z4:nth Qin 10=some ⟨(some 62),.move (.tmp 61),0,"",#[],none⟩:=rfl
abbrev Xew:List Oper:=[oP 72 (oMv 11),oP 73 (.binOp .neq 3 (oTt 72) (oCi 0) 3)]
abbrev Xkj:Code:=oRg Xew
def Qub:List Oper:=Wv
def Qu5:Code:=oRg Qub
theorem Zk:oRQ Qu5 Qub Wv:=fun _ _=>rfl
abbrev Xny:Code:=.seq Qu5 .ret
abbrev Xkf:Code:=.cond (.tmp 73) Xny .skip
abbrev Xot:Code:=.seq Xkj Xkf
abbrev Xfz:List Oper:=[oP 74 (oMv 2),oP 75 (oMv 13),oP 76 (oIx 22 74 75),oP 77 (oFa 34 76 3),oP 78 (oLd 32 77),oN (.store 32 (oTt 12) (oTt 78))]
abbrev Xp5:Code:=oRg Xfz
abbrev Xpl:Code:=.seq Xot Xp5
abbrev Xjg:Code:=.cond (.tmp 71) Xpl .skip
abbrev Xoe:Code:=.seq Qu9 Xjg
abbrev Xfw:List Oper:=[oP 80 (oMv 9),oP 81 (oMv 3),oP 82 (oCa 18 #[(oTt 80),(oTt 81)] #[23,3]),oP 79 (oMv 82),oP 83 (.extract (oTt 79) 0),oP 84 (.extract (oTt 79) 1),oP 15 (.alloc 32),oN (.store 32 (oTt 15) (oTt 83)),oP 16 (oAs 84)]
abbrev Quv:Code:=oRg Xfw
abbrev Xf2:List Oper:=[oP 86 (oMv 9),oP 87 (oMv 3),oP 88 (oCa 19 #[(oTt 86),(oTt 87)] #[23,3]),oP 85 (oMv 88),oP 89 (.extract (oTt 85) 0),oP 90 (.extract (oTt 85) 1),oP 17 (.alloc 30),oN (.store 30 (oTt 17) (oTt 89)),oP 18 (oAs 90)]
abbrev Xnc:Code:=oRg Xf2
noncomputable def Qdt:Array Oper:=Qmh (Qmr 16 (V7 5))
def Xpi:Code:=.region 16 Qdt true
abbrev Qk7:List Oper:=[oP 91 (oLd 32 15),oP 92 (oLd 32 12),oP 93 (.binOp .neq 32 (oTt 91) (oTt 92) 32),oP 94 (oMv 93),oG 3 false 95 (oMv 16),oG 3 false 96 (oMv 11),oG 3 false 97 (.binOp .lss 3 (oTt 95) (oTt 96) 3),oP 98 (.pick (oTt 94) (.const (.bool true)) (oTt 97)),oP 99 (oMv 98),oG 8 false 100 (oMv 11),oG 8 false 101 (.binOp .gtr 3 (oTt 100) (oCi 1) 3),oG 8 false 102 (oMv 101),oG 11 true 103 (oMv 16),oG 11 true 104 (oMv 11),oG 11 true 105 (.binOp .neq 3 (oTt 103) (oTt 104) 3),oG 8 false 106 (.pick (oTt 102) (oTt 105) (.const (.bool false))),oP 107 (.pick (oTt 99) (.const (.bool true)) (oTt 106)),oP 108 (oMv 107),oG 17 false 109 (oMv 11),oG 17 false 110 (.binOp .eql 3 (oTt 109) (oCi 1) 3),oG 17 false 111 (oMv 110),oG 20 true 112 (oMv 16),oG 20 true 113 (.binOp .lss 3 (oTt 112) (oCi 1) 3),oG 17 false 114 (.pick (oTt 111) (oTt 113) (.const (.bool false))),oP 115 (.pick (oTt 108) (.const (.bool true)) (oTt 114)),oP 116 (oMv 115),oG 25 false 117 (oMv 18),oG 25 false 118 (oMv 16),oG 25 false 119 (.binOp .eql 3 (oTt 118) (oCi 2) 3),oG 25 false 120 (.binOp .neq 4 (oTt 117) (oTt 119) 4),oP 121 (.pick (oTt 116) (.const (.bool true)) (oTt 120)),oP 122 (oMv 121),oG 31 false 123 (oMv 18),oG 31 false 124 (oMv 123),oG 33 true 125 (.slice 30 (oTt 17) none none none),oG 33 true 126 (oCa 20 #[(oTt 125)] #[51]),oG 33 true 127 (oFa 32 12 4),oG 33 true 128 (oLd 30 127),oG 33 true 129 (.binOp .neq 30 (oTt 126) (oTt 128) 30),oG 31 false 130 (.pick (oTt 124) (oTt 129) (.const (.bool false))),oP 131 (.pick (oTt 122) (.const (.bool true)) (oTt 130))]
def W9:List Oper:=Qk7
theorem Q0w:Qdt.toList.map bare=Qk7:=by kernel_rfl
theorem Qmf:Qdt.toList.map bare=W9:=Q0w
def Qas:List Nat:=[0,0,3,7,15,15,63,127,255,511,1023,2047,4095,4095,16383,32767,65535,131071,262143,524287,1048575,2097151,4194303,8388607,16777215,33554431,67108863,67108863,201326591,536870911,1073741823,2147483647,4294967295,8589934591,17179869183,34359738367,17179869183,85899345919,274877906943,549755813887,1099511627775]
theorem Qo2:Qrx Qdt.toList []=some Qas:=by kernel_rfl
theorem Qn1:Qa6 Qdt.toList Qdt.toList Qas []=true:=by kernel_rfl
theorem Qox(b:Nat)(L:List KE)(s:St):Ab.runT (E b) L W9 Qas W9 0 s=Ab.runT (E b) L W9 Qas Qk7 0 s:=rfl
theorem Qp0:nth W9 3=some ⟨(some 94),.move (.tmp 93),0,"",#[],none⟩:=rfl
theorem Qp4:nth W9 8=some ⟨(some 99),.move (.tmp 98),0,"",#[],none⟩:=rfl
theorem Qnr:nth W9 11=some ⟨(some 102),.move (.tmp 101),0,"",#[],(some (8,false))⟩:=rfl
theorem Qo4:nth W9 17=some ⟨(some 108),.move (.tmp 107),0,"",#[],none⟩:=rfl
theorem Qnv:nth W9 20=some ⟨(some 111),.move (.tmp 110),0,"",#[],(some (17,false))⟩:=rfl
theorem Qnm:nth W9 25=some ⟨(some 116),.move (.tmp 115),0,"",#[],none⟩:=rfl
theorem Qo7:nth W9 31=some ⟨(some 122),.move (.tmp 121),0,"",#[],none⟩:=rfl
theorem Qnp:nth W9 33=some ⟨(some 124),.move (.tmp 123),0,"",#[],(some (31,false))⟩:=rfl
theorem Qoy(b:Nat):Qaz (E b) 35 ((nth Qas 35).getD 0) W9 Qas 0=true:=by kernel_rfl
def Qu4:List Oper:=Wv
def Qu3:Code:=oRg Qu4
theorem Zm:oRQ Qu3 Qu4 Wv:=fun _ _=>rfl
abbrev Xjz:Code:=.seq Qu3 .ret
abbrev Xmo:Code:=.cond (.tmp 131) Xjz .skip
abbrev Qua:Code:=.seq Xpi Xmo
abbrev Xi6:List Oper:=[oP 132 (oMv 16),oP 11 (oAs 132)]
abbrev Qun:Code:=oRg Xi6
def Qmg:Code:=.seq Qua Qun
theorem Zg:oSQ Qmg Qua Qun:=fun _ _=>rfl
abbrev Qu2:Code:=.seq Xnc Qmg
def Qn4:Code:=.seq Quv Qu2
theorem Z1:oSQ Qn4 Quv Qu2:=fun _ _=>rfl
abbrev Xmq:Code:=.seq Xoe Qn4
abbrev Xok:Code:=.seq Xjr Xmq
abbrev Xjj:Code:=.block 1 Xok
abbrev Xiy:List Oper:=[oP 44 (oMv 13),oP 45 (.binOp .add 3 (oTt 44) (oCi 1) 3),oP 13 (oAs 45)]
abbrev Xko:Code:=oRg Xiy
abbrev Xno:Code:=.seq Xjj Xko
abbrev Xmj:Code:=.seq Xpg Xno
def Xmg:Code:=.loop Xmj
abbrev Xkx:Code:=.block 0 Xmg
abbrev Xjd:Code:=.seq Xnv Xkx
abbrev Xj7:List Oper:=[oP 133 (oCa 9 #[] #[]),oP 8 (oAs 133)]
abbrev Xnf:Code:=oRg Xj7
abbrev Xng:Code:=.seq Xnf .ret
abbrev Xl9:Code:=.seq Xjd Xng
abbrev Xlq:Code:=.seq Xm4 Xl9
abbrev Xmp:Code:=.seq Xln Xlq
abbrev Xrh:Code:=.seq Xry Xmp
abbrev Xr3:Code:=.seq Xq6 Xrh
abbrev Xqm:Code:=.seq Xrb Xr3
def Zo:Code:=Xqm
theorem Xr4:Qdk (V7 5)=Zo:=by kernel_rfl
theorem Xfs:Qks.body=some (V7 5):=by kernel_rfl
theorem Xst:Qks.ntmps=134:=by kernel_rfl
theorem J5:Qks.results.toList=[.tmp 8]:=by kernel_rfl
def Qqz:List Oper:=Wv
def Qqk:Code:=oRg Qqz
theorem Xa:oRQ Qqk Qqz Wv:=fun _ _=>rfl
def Qra:List Oper:=Qmx
def Qro:Code:=oRg Qra
theorem X9:oRQ Qro Qra Qmx:=fun _ _=>rfl
abbrev Qpi:List Oper:=[oP 25 (oMv 10),oP 26 (.binOp .neq 24 (oTt 25) (oCi 0) 24),oP 27 (oMv 26),oG 2 false 28 (oMv 2),oG 2 false 29 (oBu .len #[(oTt 28)] #[22]),oG 2 false 30 (.binOp .gtr 3 (oTt 29) (oCi 100) 3),oP 31 (.pick (oTt 27) (.const (.bool true)) (oTt 30))]
def Qkc:List Oper:=Qpi
def Qrg:Code:=oRg Qkc
theorem Xb:oRQ Qrg Qkc Qpi:=fun _ _=>rfl
theorem X2:nth Qkc 2=some ⟨(some 27),.move (.tmp 26),0,"",#[],none⟩:=rfl
def Qkf:List Oper:=Qih
def Qre:Code:=oRg Qkf
theorem X8:oRQ Qre Qkf Qih:=fun _ _=>rfl
theorem X3:nth Qkf 5=some ⟨(some 37),.move (.tmp 36),0,"",#[],none⟩:=rfl
abbrev Xbk:Code:=.seq Qre .ret
abbrev Xb5:Code:=.cond (.tmp 31) Xbk .skip
abbrev Xbo:Code:=.seq Qrg Xb5
def Qpu:List Oper:=Qln
def Qqc:Code:=oRg Qpu
theorem X4:oRQ Qqc Qpu Qln:=fun _ _=>rfl
abbrev Q57:List Oper:=[oP 40 (oMv 11),oP 41 (oMv 2),oP 42 (oBu .len #[(oTt 41)] #[22]),oP 43 (.binOp .lss 3 (oTt 40) (oTt 42) 3)]
abbrev Q8l:Code:=oRg Q57
abbrev Q6z:Code:=.cond (.tmp 43) .skip (.exit 0)
abbrev Q7s:Code:=.seq Q8l Q6z
abbrev Q2n:List Oper:=[oP 46 (oMv 9),oP 47 (oMv 2),oP 48 (oMv 11),oP 49 (oIx 22 47 48),oP 50 (oLd 34 49),oP 51 (oCa 10 #[(oTt 46),(oTt 50)] #[23,34])]
abbrev Q62:Code:=oRg Q2n
abbrev Q93:Code:=.block 1 Q62
abbrev Q32:List Oper:=[oP 44 (oMv 11),oP 45 (.binOp .add 3 (oTt 44) (oCi 1) 3),oP 11 (oAs 45)]
abbrev Xa9:Code:=oRg Q32
abbrev Q6c:Code:=.seq Q93 Xa9
abbrev Q6h:Code:=.seq Q7s Q6c
def Q79:Code:=.loop Q6h
abbrev Q7f:Code:=.block 0 Q79
abbrev Q8r:Code:=.seq Qqc Q7f
abbrev Q4u:List Oper:=[oP 52 (oMv 9),oP 53 (oCa 11 #[(oTt 52)] #[23]),oP 12 (oAs 53)]
abbrev Q65:Code:=oRg Q4u
abbrev Q4y:List Oper:=[oP 13 (.assign (.const (.slice none 0 0)))]
abbrev Q9d:Code:=oRg Q4y
abbrev Q4r:List Oper:=[oP 54 (oMv 9),oP 55 (oCa 13 #[(oTt 54),(oCi 1)] #[23,3]),oP 56 (oMv 9),oP 57 (oCa 13 #[(oTt 56),(oCi 2)] #[23,3]),oP 58 (.build 54 #[(0,(oCi 0)),(1,(oTt 55)),(2,(oTt 57))]),oP 14 (.alloc 54),oN (.store 54 (oTt 14) (oTt 58))]
abbrev Q6u:Code:=oRg Q4r
abbrev Q3p:List Oper:=[oP 15 (.assign (oCi 0))]
abbrev Q7y:Code:=oRg Q3p
abbrev Q4m:List Oper:=[oP 59 (oMv 15),oP 60 (oMv 12),oP 61 (oBu .len #[(oTt 60)] #[35]),oP 62 (.binOp .lss 3 (oTt 59) (oTt 61) 3)]
abbrev Q98:Code:=oRg Q4m
abbrev Q7l:Code:=.cond (.tmp 62) .skip (.exit 2)
abbrev Q87:Code:=.seq Q98 Q7l
abbrev Q52:List Oper:=[oP 65 (oMv 12),oP 66 (oMv 15),oP 67 (oIx 35 65 66),oP 68 (oFa 32 67 3),oP 69 (oLd 3 68),oP 70 (oMv 3),oP 71 (.binOp .leq 3 (oTt 69) (oTt 70) 3)]
abbrev Q8j:Code:=oRg Q52
abbrev Q4v:List Oper:=[oP 72 (oMv 13),oP 73 (oMv 12),oP 74 (oMv 15),oP 75 (oIx 35 73 74),oP 76 (oFa 32 75 1),oP 77 (oLd 3 76),oP 78 (.buildSlice 53 1 #[(0,(oTt 77))]),oP 79 (oBu .append #[(oTt 72),(oTt 78)] #[53,53]),oP 13 (oAs 79)]
abbrev Q7w:Code:=oRg Q4v
noncomputable def Qc7:Array Oper:=Qmh (Qmr 16 (V7 6))
def Q82:Code:=.region 16 Qc7 true
abbrev Qi3:List Oper:=[oP 80 (oMv 12),oP 81 (oMv 15),oP 82 (oIx 35 80 81),oP 83 (oFa 32 82 0),oP 84 (oLd 3 83),oP 85 (oMv 12),oP 86 (oMv 15),oP 87 (oIx 35 85 86),oP 88 (oFa 32 87 0),oP 89 (oLd 3 88),oP 90 (oIx 54 14 89),oP 91 (oLd 3 90),oP 92 (oMv 12),oP 93 (oMv 15),oP 94 (oIx 35 92 93),oP 95 (oFa 32 94 2),oP 96 (oLd 3 95),oP 97 (.binOp .add 3 (oTt 91) (oTt 96) 3),oP 98 (oIx 54 14 84),oN (.store 3 (oTt 98) (oTt 97))]
def Qd7:List Oper:=Qi3
theorem Qvp:Qc7.toList.map bare=Qi3:=by kernel_rfl
theorem Qk4:Qc7.toList.map bare=Qd7:=Qvp
def Qa4:List Nat:=[0,0,3,7,15,0,0,96,224,480,992,2016,0,0,12288,28672,61440,131040,262143,524287]
theorem Ql2:Qrx Qc7.toList []=some Qa4:=by kernel_rfl
theorem Qk5:Qa6 Qc7.toList Qc7.toList Qa4 []=true:=by kernel_rfl
theorem Qm6(b:Nat)(L:List KE)(s:St):Ab.runT (E b) L Qd7 Qa4 Qd7 0 s=Ab.runT (E b) L Qd7 Qa4 Qi3 0 s:=rfl
theorem Qma(b:Nat):Qaz (E b) 19 ((nth Qa4 19).getD 0) Qd7 Qa4 0=true:=by kernel_rfl
abbrev Q8n:Code:=.seq Q7w Q82
abbrev Q6f:Code:=.cond (.tmp 71) Q8n .skip
abbrev Q6v:Code:=.seq Q8j Q6f
abbrev Q9h:Code:=.block 3 Q6v
abbrev Q2e:List Oper:=[oP 63 (oMv 15),oP 64 (.binOp .add 3 (oTt 63) (oCi 1) 3),oP 15 (oAs 64)]
abbrev Q89:Code:=oRg Q2e
abbrev Q86:Code:=.seq Q9h Q89
abbrev Q8o:Code:=.seq Q87 Q86
def Q9j:Code:=.loop Q8o
abbrev Xa5:Code:=.block 2 Q9j
abbrev Q67:Code:=.seq Q7y Xa5
noncomputable def Qge:Array Oper:=Qmh (Qmr 17 (V7 6))
def Qjh:Code:=.region 17 Qge true
abbrev Qo1:List Oper:=[oP 99 (oMv 9),oP 100 (oMv 3),oP 101 (oCa 22 #[(oTt 99),(oTt 100)] #[23,3]),oP 102 (oMv 13),oP 103 (oCa 21 #[(oTt 101),(oTt 102)] #[53,53]),oP 104 (.unOp .not 4 (oTt 103)),oP 105 (oMv 104),oG 6 false 106 (oMv 9),oG 6 false 107 (oCa 13 #[(oTt 106),(oCi 1)] #[23,3]),oG 6 false 108 (.indexAddr 54 (oTt 14) (oCi 1)),oG 6 false 109 (oLd 3 108),oG 6 false 110 (.binOp .neq 3 (oTt 107) (oTt 109) 3),oP 111 (.pick (oTt 105) (.const (.bool true)) (oTt 110)),oP 112 (oMv 111),oG 13 false 113 (oMv 9),oG 13 false 114 (oCa 13 #[(oTt 113),(oCi 2)] #[23,3]),oG 13 false 115 (.indexAddr 54 (oTt 14) (oCi 2)),oG 13 false 116 (oLd 3 115),oG 13 false 117 (.binOp .neq 3 (oTt 114) (oTt 116) 3),oP 118 (.pick (oTt 112) (.const (.bool true)) (oTt 117))]
def Yj:List Oper:=Qo1
theorem Qvr:Qge.toList.map bare=Qo1:=by kernel_rfl
theorem Qtz:Qge.toList.map bare=Yj:=Qvr
def Qpp:List Oper:=Wv
def Qq4:Code:=oRg Qpp
theorem X5:oRQ Qq4 Qpp Wv:=fun _ _=>rfl
abbrev Q88:Code:=.seq Qq4 .ret
abbrev Qpy:Code:=.cond (.tmp 118) Q88 .skip
def Qjm:Code:=.seq Qjh Qpy
theorem Qz:oSQ Qjm Qjh Qpy:=fun _ _=>rfl
abbrev Q5c:List Oper:=[oP 16 (.assign (oCi 0))]
abbrev Q63:Code:=oRg Q5c
abbrev Q4q:List Oper:=[oP 119 (oMv 16),oP 120 (oMv 13),oP 121 (oBu .len #[(oTt 120)] #[53]),oP 122 (.binOp .lss 3 (oTt 119) (oTt 121) 3)]
abbrev Q8i:Code:=oRg Q4q
abbrev Q9q:Code:=.cond (.tmp 122) .skip (.exit 4)
abbrev Q7x:Code:=.seq Q8i Q9q
abbrev Q3g:List Oper:=[oP 126 (oMv 9),oP 127 (oMv 13),oP 128 (oMv 16),oP 129 (oIx 53 127 128),oP 130 (oLd 3 129),oP 131 (oCa 18 #[(oTt 126),(oTt 130)] #[23,3]),oP 125 (oMv 131),oP 132 (.extract (oTt 125) 0),oP 133 (.extract (oTt 125) 1),oP 17 (.alloc 32),oN (.store 32 (oTt 17) (oTt 132)),oP 18 (oAs 133)]
abbrev Q6j:Code:=oRg Q3g
abbrev Q5r:List Oper:=[oP 134 (oMv 18),oP 135 (.binOp .neq 3 (oTt 134) (oCi 3) 3)]
abbrev Xa6:Code:=oRg Q5r
def Qpm:List Oper:=Wv
def Qqh:Code:=oRg Qpm
theorem X1:oRQ Qqh Qpm Wv:=fun _ _=>rfl
abbrev Q7t:Code:=.seq Qqh .ret
abbrev Q7u:Code:=.cond (.tmp 135) Q7t .skip
abbrev Xab:Code:=.seq Xa6 Q7u
abbrev Q6y:Code:=.seq Q6j Xab
abbrev Q64:Code:=.block 5 Q6y
abbrev Q3v:List Oper:=[oP 123 (oMv 16),oP 124 (.binOp .add 3 (oTt 123) (oCi 1) 3),oP 16 (oAs 124)]
abbrev Q8b:Code:=oRg Q3v
abbrev Q9u:Code:=.seq Q64 Q8b
abbrev Q9v:Code:=.seq Q7x Q9u
def Q9l:Code:=.loop Q9v
abbrev Q94:Code:=.block 4 Q9l
abbrev Qpr:Code:=.seq Q63 Q94
abbrev Qp9:List Oper:=[oP 136 (oMv 9),oP 137 (oCa 11 #[(oTt 136)] #[23]),oP 138 (oBu .len #[(oTt 137)] #[35]),oP 139 (oMv 12),oP 140 (oBu .len #[(oTt 139)] #[35]),oP 141 (oMv 13),oP 142 (oBu .len #[(oTt 141)] #[53]),oP 143 (.binOp .sub 3 (oTt 140) (oTt 142) 3),oP 144 (.binOp .eql 3 (oTt 138) (oTt 143) 3),oP 145 (oMv 144),oG 9 true 146 (oMv 9),oG 9 true 147 (oMv 3),oG 9 true 148 (oCa 22 #[(oTt 146),(oTt 147)] #[23,3]),oG 9 true 149 (oBu .len #[(oTt 148)] #[53]),oG 9 true 150 (.binOp .eql 3 (oTt 149) (oCi 0) 3),oP 151 (.pick (oTt 145) (oTt 150) (.const (.bool false))),oP 152 (oMv 151),oG 16 true 153 (oCa 9 #[] #[]),oP 154 (.pick (oTt 152) (oTt 153) (.const (.bool false))),oP 8 (oAs 154)]
def Qgc:List Oper:=Qp9
def Qq1:Code:=oRg Qgc
theorem X0:oRQ Qq1 Qgc Qp9:=fun _ _=>rfl
theorem Qx:nth Qgc 9=some ⟨(some 145),.move (.tmp 144),0,"",#[],none⟩:=rfl
theorem Qv:nth Qgc 16=some ⟨(some 152),.move (.tmp 151),0,"",#[],none⟩:=rfl
abbrev Qpv:Code:=.seq Qq1 .ret
def Qg9:Code:=.seq Qpr Qpv
theorem Qw:oSQ Qg9 Qpr Qpv:=fun _ _=>rfl
def Qjx:Code:=.seq Qjm Qg9
theorem Qy:oSQ Qjx Qjm Qg9:=fun _ _=>rfl
abbrev Q8s:Code:=.seq Q67 Qjx
abbrev Q9m:Code:=.seq Q6u Q8s
abbrev Xa8:Code:=.seq Q9d Q9m
abbrev Q7g:Code:=.seq Q65 Xa8
abbrev Q9g:Code:=.seq Q8r Q7g
abbrev Xcg:Code:=.seq Xbo Q9g
abbrev Xcq:Code:=.seq Qro Xcg
abbrev Xbb:Code:=.seq Qqk Xcq
def X7:Code:=Xbb
theorem Xd4:Qdk (V7 6)=X7:=by kernel_rfl
theorem Q3k:Qd6.body=some (V7 6):=by kernel_rfl
theorem Xhl:Qd6.ntmps=155:=by kernel_rfl
theorem Xk:Qd6.results.toList=[.tmp 8]:=by kernel_rfl
end Go.Proofs.YtcokebbiblnonaaDoor
