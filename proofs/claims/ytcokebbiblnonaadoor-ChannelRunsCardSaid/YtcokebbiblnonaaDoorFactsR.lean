/-
  Facts of the functions' code and of the types, printed by a program (ShD).
-/
import Derived.Test.YtcokebbiblnonaaDoorFactsK
set_option linter.all false
noncomputable section
namespace Go.Proofs.YtcokebbiblnonaaDoor
open Go Go.Ab
set_option maxRecDepth 100000
variable{b:Nat}{C:CallP}{D0:CallF}{rd:Option Nat}(s:St)(K:Exit→St→Prop)
noncomputable def Xti:Func:=(Tryd.prog.funcs[68]?).getD default
theorem Ju(b:Nat):(mkE Tryd.prog nv b).fn.get 68=some Xti:=by kernel_rfl
noncomputable def Zqd:TyRec:=((mkE Tryd.prog nv 0).ty.get 109).getD ⟨.invalid,0,0, .bool false,[]⟩
theorem Zo5(b:Nat):(E b).toEnv.ty.get 109=some Zqd:=by kernel_rfl
theorem Zau(b:Nat):SlTy (E b).toEnv 90 109 R90 Zqd:=⟨Zic b,Zo5 b,by kernel_rfl⟩
noncomputable def Xtc:Func:=(Tryd.prog.funcs[73]?).getD default
theorem Qa6(b:Nat):(mkE Tryd.prog nv b).fn.get 73=some Xtc:=by kernel_rfl
noncomputable def Zqc:TyRec:=((mkE Tryd.prog nv 0).ty.get 128).getD ⟨.invalid,0,0, .bool false,[]⟩
theorem Zo3(b:Nat):(E b).toEnv.ty.get 128=some Zqc:=by kernel_rfl
theorem Zql(b:Nat):SlTy (E b).toEnv 53 128 R53 Zqc:=⟨Zme b,Zo3 b,by kernel_rfl⟩
noncomputable def Xta:Func:=(Tryd.prog.funcs[74]?).getD default
theorem Qa4(b:Nat):(mkE Tryd.prog nv b).fn.get 74=some Xta:=by kernel_rfl
noncomputable def Xy7:Func:=(Tryd.prog.funcs[77]?).getD default
theorem Qkq(b:Nat):(mkE Tryd.prog nv b).fn.get 77=some Xy7:=by kernel_rfl
theorem Y0f(x y:Int):Qsp (binOp .sub 87 (.int .u64 x) (.int .u64 y))=some (.int .u64 (IntKind.wrap .u64 (x-y))):=by kernel_rfl
noncomputable def X66:Func:=(Tryd.prog.funcs[75]?).getD default
theorem Vm(b:Nat):(mkE Tryd.prog nv b).fn.get 75=some X66:=by kernel_rfl
theorem Qxb(b:Nat){bk o n c:Nat}{k:IntKind}{i:Int}(h:0≤i∧i < n):Vo (E b).toEnv 53 (.slice (some ⟨bk,o,none⟩) n c) (.int k i)=some (.pointer (some ⟨bk,o+i.toNat*1,none⟩)):=Qyu (T53 b) Xwt h
theorem Qlg(b:Nat){bk o n c:Nat}{k:IntKind}{i:Int}(h:0≤i∧i < n):Vo (E b).toEnv 109 (.slice (some ⟨bk,o,none⟩) n c) (.int k i)=some (.pointer (some ⟨bk,o+i.toNat*1,none⟩)):=Qyu (Zau b) Q9x h
theorem Qnj(x y:Int):Qsp (binOp .add 90 (.int .u32 x) (.int .u32 y))=some (.int .u32 (IntKind.wrap .u32 (x+y))):=by kernel_rfl
noncomputable def Q95:Func:=(Tryd.prog.funcs[69]?).getD default
theorem V2(b:Nat):(mkE Tryd.prog nv b).fn.get 69=some Q95:=by kernel_rfl
theorem Xr3(b:Nat){bk o n c:Nat}{k:IntKind}{i:Int}(h:0≤i∧i < n):Vo (E b).toEnv 51 (.slice (some ⟨bk,o,none⟩) n c) (.int k i)=some (.pointer (some ⟨bk,o+i.toNat*1,none⟩)):=Qyu (T51 b) Q09 h
theorem Yri(b:Nat)(h:Heap)(bk o:Nat):Xhb (E b).toEnv 5 (.pointer (some ⟨bk,o,none⟩)) h=Qhe h bk o:=Yw4 (Zkv b) Zon
theorem Qui(b:Nat):Xy2 (E b).toEnv 5 90=true:=by kernel_rfl
theorem Quh(b:Nat)(k:IntKind)(n:Int):Xpd (E b).toEnv 5 90 (.int k n)=some (.int .u32 (IntKind.wrap .u32 n)):=by kernel_rfl
theorem Qug(x y:Int):Qsp (binOp .mul 90 (.int .u32 x) (.int .u32 y))=some (.int .u32 (IntKind.wrap .u32 (x*y))):=by kernel_rfl
theorem Vh(x:Int):Qsp (binOp .rem 93 (.int .u64 x) (.int .u64 4294967296))=some (.int .u64 (Int.tmod x 4294967296)):=by kernel_rfl
theorem Qof(b:Nat):Xy2 (E b).toEnv 93 90=true:=by kernel_rfl
theorem Qog(b:Nat)(k:IntKind)(n:Int):Xpd (E b).toEnv 93 90 (.int k n)=some (.int .u32 (IntKind.wrap .u32 n)):=by kernel_rfl
theorem Vg(x:Int):Qsp (binOp .quo 93 (.int .u64 x) (.int .u64 4294967296))=some (.int .u64 (IntKind.wrap .u64 (Int.tdiv x 4294967296))):=by kernel_rfl
theorem Q6c(b:Nat){bk o n c:Nat}{k:IntKind}{i:Int}(h:0≤i∧i < n):Vo (E b).toEnv 128 (.slice (some ⟨bk,o,none⟩) n c) (.int k i)=some (.pointer (some ⟨bk,o+i.toNat*1,none⟩)):=Qyu (Zql b) Y8l h
theorem Xr4(b:Nat)(h:Heap)(bk o:Nat):Xhb (E b).toEnv 53 (.pointer (some ⟨bk,o,none⟩)) h=Qhe h bk o:=Yw4 (Zme b) Zk7
noncomputable def Q9i:Func:=(Tryd.prog.funcs[61]?).getD default
theorem Qha(b:Nat):(mkE Tryd.prog nv b).fn.get 61=some Q9i:=by kernel_rfl
theorem Qm5(x:Int):Qsp (binOp .quo 90 (.int .u32 x) (.int .u32 256))=some (.int .u32 (IntKind.wrap .u32 (Int.tdiv x 256))):=by kernel_rfl
theorem Qm3(x:Int):Qsp (binOp .rem 90 (.int .u32 x) (.int .u32 256))=some (.int .u32 (Int.tmod x 256)):=by kernel_rfl
noncomputable def Yar:Func:=(Tryd.prog.funcs[48]?).getD default
theorem Qnr(b:Nat):(mkE Tryd.prog nv b).fn.get 48=some Yar:=by kernel_rfl
abbrev Q2s:List Oper := [oP 0 (.assign (.const (.slice none 0 0)))]
def Yhq:List Oper:=Q2s
def X0q:Code := .region 0 Yhq.toArray false
theorem Ysd:Q0 (E b) C D0 rd X0q s K=Qac (E b) C rd Yhq K Q2s s:=rfl
abbrev Yd4:List Oper := [oP 1 (.buildSlice 109 8 #[(0,(.const (.int .u32 1779033703))),(1,(.const (.int .u32 3144134277))),(2,(.const (.int .u32 1013904242))),(3,(.const (.int .u32 2773480762))),(4,(.const (.int .u32 1359893119))),(5,(.const (.int .u32 2600822924))),(6,(.const (.int .u32 528734635))),(7,(.const (.int .u32 1541459225)))]),
  oP 0 (.assign (.tmp 1))]
def Yjq:List Oper:=Yd4
def X1p:Code := .region 0 Yjq.toArray false
theorem Yt4:Q0 (E b) C D0 rd X1p s K=Qac (E b) C rd Yjq K Yd4 s:=rfl
def X36:Code := .seq X1p .ret
theorem Yt0:Q0 (E b) C D0 rd X36 s K=Q0 (E b) C D0 rd X1p s (Yg (Vr (E b) C D0 rd .ret K) K):=rfl
def Yj1:Code := .seq X0q X36
theorem Yt1:Q0 (E b) C D0 rd Yj1 s K=Q0 (E b) C D0 rd X0q s (Yg (Vr (E b) C D0 rd X36 K) K):=rfl
def X8t:Code:=Yj1
theorem Ywj:Quc (Qas 68)=X8t:=by kernel_rfl
theorem Ytb:Xti.body=some (Qas 68):=by kernel_rfl
theorem Yxz:Xti.ntmps=2:=by kernel_rfl
theorem Yxf:Xti.results.toList = [.tmp 0]:=by kernel_rfl
def Yfr:List Oper:=Q2s
def X2k:Code := .region 0 Yfr.toArray false
theorem Ysh:Q0 (E b) C D0 rd X2k s K=Qac (E b) C rd Yfr K Q2s s:=rfl
abbrev Ybx:List Oper := [oP 1 (.buildSlice 53 16 #[(0,(.const (.int .i64 0))),(1,(.const (.int .i64 1))),(2,(.const (.int .i64 2))),(3,(.const (.int .i64 3))),(4,(.const (.int .i64 4))),(5,(.const (.int .i64 5))),(6,(.const (.int .i64 6))),(7,(.const (.int .i64 7))),(8,(.const (.int .i64 8))),(9,(.const (.int .i64 9))),(10,(.const (.int .i64 10))),(11,(.const (.int .i64 11))),(12,(.const (.int .i64 12))),(13,(.const (.int .i64 13))),(14,(.const (.int .i64 14))),(15,(.const (.int .i64 15)))]),
  oP 2 (.buildSlice 53 16 #[(0,(.const (.int .i64 14))),(1,(.const (.int .i64 10))),(2,(.const (.int .i64 4))),(3,(.const (.int .i64 8))),(4,(.const (.int .i64 9))),(5,(.const (.int .i64 15))),(6,(.const (.int .i64 13))),(7,(.const (.int .i64 6))),(8,(.const (.int .i64 1))),(9,(.const (.int .i64 12))),(10,(.const (.int .i64 0))),(11,(.const (.int .i64 2))),(12,(.const (.int .i64 11))),(13,(.const (.int .i64 7))),(14,(.const (.int .i64 5))),(15,(.const (.int .i64 3)))]),
  oP 3 (.buildSlice 53 16 #[(0,(.const (.int .i64 11))),(1,(.const (.int .i64 8))),(2,(.const (.int .i64 12))),(3,(.const (.int .i64 0))),(4,(.const (.int .i64 5))),(5,(.const (.int .i64 2))),(6,(.const (.int .i64 15))),(7,(.const (.int .i64 13))),(8,(.const (.int .i64 10))),(9,(.const (.int .i64 14))),(10,(.const (.int .i64 3))),(11,(.const (.int .i64 6))),(12,(.const (.int .i64 7))),(13,(.const (.int .i64 1))),(14,(.const (.int .i64 9))),(15,(.const (.int .i64 4)))]),
  oP 4 (.buildSlice 53 16 #[(0,(.const (.int .i64 7))),(1,(.const (.int .i64 9))),(2,(.const (.int .i64 3))),(3,(.const (.int .i64 1))),(4,(.const (.int .i64 13))),(5,(.const (.int .i64 12))),(6,(.const (.int .i64 11))),(7,(.const (.int .i64 14))),(8,(.const (.int .i64 2))),(9,(.const (.int .i64 6))),(10,(.const (.int .i64 5))),(11,(.const (.int .i64 10))),(12,(.const (.int .i64 4))),(13,(.const (.int .i64 0))),(14,(.const (.int .i64 15))),(15,(.const (.int .i64 8)))]),
  oP 5 (.buildSlice 53 16 #[(0,(.const (.int .i64 9))),(1,(.const (.int .i64 0))),(2,(.const (.int .i64 5))),(3,(.const (.int .i64 7))),(4,(.const (.int .i64 2))),(5,(.const (.int .i64 4))),(6,(.const (.int .i64 10))),(7,(.const (.int .i64 15))),(8,(.const (.int .i64 14))),(9,(.const (.int .i64 1))),(10,(.const (.int .i64 11))),(11,(.const (.int .i64 12))),(12,(.const (.int .i64 6))),(13,(.const (.int .i64 8))),(14,(.const (.int .i64 3))),(15,(.const (.int .i64 13)))]),
  oP 6 (.buildSlice 53 16 #[(0,(.const (.int .i64 2))),(1,(.const (.int .i64 12))),(2,(.const (.int .i64 6))),(3,(.const (.int .i64 10))),(4,(.const (.int .i64 0))),(5,(.const (.int .i64 11))),(6,(.const (.int .i64 8))),(7,(.const (.int .i64 3))),(8,(.const (.int .i64 4))),(9,(.const (.int .i64 13))),(10,(.const (.int .i64 7))),(11,(.const (.int .i64 5))),(12,(.const (.int .i64 15))),(13,(.const (.int .i64 14))),(14,(.const (.int .i64 1))),(15,(.const (.int .i64 9)))]),
  oP 7 (.buildSlice 53 16 #[(0,(.const (.int .i64 12))),(1,(.const (.int .i64 5))),(2,(.const (.int .i64 1))),(3,(.const (.int .i64 15))),(4,(.const (.int .i64 14))),(5,(.const (.int .i64 13))),(6,(.const (.int .i64 4))),(7,(.const (.int .i64 10))),(8,(.const (.int .i64 0))),(9,(.const (.int .i64 7))),(10,(.const (.int .i64 6))),(11,(.const (.int .i64 3))),(12,(.const (.int .i64 9))),(13,(.const (.int .i64 2))),(14,(.const (.int .i64 8))),(15,(.const (.int .i64 11)))]),
  oP 8 (.buildSlice 53 16 #[(0,(.const (.int .i64 13))),(1,(.const (.int .i64 11))),(2,(.const (.int .i64 7))),(3,(.const (.int .i64 14))),(4,(.const (.int .i64 12))),(5,(.const (.int .i64 1))),(6,(.const (.int .i64 3))),(7,(.const (.int .i64 9))),(8,(.const (.int .i64 5))),(9,(.const (.int .i64 0))),(10,(.const (.int .i64 15))),(11,(.const (.int .i64 4))),(12,(.const (.int .i64 8))),(13,(.const (.int .i64 6))),(14,(.const (.int .i64 2))),(15,(.const (.int .i64 10)))]),
  oP 9 (.buildSlice 53 16 #[(0,(.const (.int .i64 6))),(1,(.const (.int .i64 15))),(2,(.const (.int .i64 14))),(3,(.const (.int .i64 9))),(4,(.const (.int .i64 11))),(5,(.const (.int .i64 3))),(6,(.const (.int .i64 0))),(7,(.const (.int .i64 8))),(8,(.const (.int .i64 12))),(9,(.const (.int .i64 2))),(10,(.const (.int .i64 13))),(11,(.const (.int .i64 7))),(12,(.const (.int .i64 1))),(13,(.const (.int .i64 4))),(14,(.const (.int .i64 10))),(15,(.const (.int .i64 5)))]),
  oP 10 (.buildSlice 53 16 #[(0,(.const (.int .i64 10))),(1,(.const (.int .i64 2))),(2,(.const (.int .i64 8))),(3,(.const (.int .i64 4))),(4,(.const (.int .i64 7))),(5,(.const (.int .i64 6))),(6,(.const (.int .i64 1))),(7,(.const (.int .i64 5))),(8,(.const (.int .i64 15))),(9,(.const (.int .i64 11))),(10,(.const (.int .i64 9))),(11,(.const (.int .i64 14))),(12,(.const (.int .i64 3))),(13,(.const (.int .i64 12))),(14,(.const (.int .i64 13))),(15,(.const (.int .i64 0)))]),
  oP 11 (.buildSlice 128 10 #[(0,(.tmp 1)),(1,(.tmp 2)),(2,(.tmp 3)),(3,(.tmp 4)),(4,(.tmp 5)),(5,(.tmp 6)),(6,(.tmp 7)),(7,(.tmp 8)),(8,(.tmp 9)),(9,(.tmp 10))]),
  oP 0 (.assign (.tmp 11))]
def Yhb:List Oper:=Ybx
def X4f:Code := .region 0 Yhb.toArray false
theorem Ys8:Q0 (E b) C D0 rd X4f s K=Qac (E b) C rd Yhb K Ybx s:=rfl
def Xzc:Code := .seq X4f .ret
theorem Yta:Q0 (E b) C D0 rd Xzc s K=Q0 (E b) C D0 rd X4f s (Yg (Vr (E b) C D0 rd .ret K) K):=rfl
def Yjx:Code := .seq X2k Xzc
theorem Yt3:Q0 (E b) C D0 rd Yjx s K=Q0 (E b) C D0 rd X2k s (Yg (Vr (E b) C D0 rd Xzc K) K):=rfl
def X9k:Code:=Yjx
theorem Ywh:Quc (Qas 73)=X9k:=by kernel_rfl
theorem Yrz:Xtc.body=some (Qas 73):=by kernel_rfl
theorem Yyn:Xtc.ntmps=12:=by kernel_rfl
theorem Yw1:Xtc.results.toList = [.tmp 0]:=by kernel_rfl
def Yiv:List Oper:=Q2s
def X4q:Code := .region 0 Yiv.toArray false
theorem Yro:Q0 (E b) C D0 rd X4q s K=Qac (E b) C rd Yiv K Q2s s:=rfl
abbrev Ybs:List Oper := [oP 1 (.buildSlice 53 4 #[(0,(.const (.int .i64 0))),(1,(.const (.int .i64 4))),(2,(.const (.int .i64 8))),(3,(.const (.int .i64 12)))]),
  oP 2 (.buildSlice 53 4 #[(0,(.const (.int .i64 1))),(1,(.const (.int .i64 5))),(2,(.const (.int .i64 9))),(3,(.const (.int .i64 13)))]),
  oP 3 (.buildSlice 53 4 #[(0,(.const (.int .i64 2))),(1,(.const (.int .i64 6))),(2,(.const (.int .i64 10))),(3,(.const (.int .i64 14)))]),
  oP 4 (.buildSlice 53 4 #[(0,(.const (.int .i64 3))),(1,(.const (.int .i64 7))),(2,(.const (.int .i64 11))),(3,(.const (.int .i64 15)))]),
  oP 5 (.buildSlice 53 4 #[(0,(.const (.int .i64 0))),(1,(.const (.int .i64 5))),(2,(.const (.int .i64 10))),(3,(.const (.int .i64 15)))]),
  oP 6 (.buildSlice 53 4 #[(0,(.const (.int .i64 1))),(1,(.const (.int .i64 6))),(2,(.const (.int .i64 11))),(3,(.const (.int .i64 12)))]),
  oP 7 (.buildSlice 53 4 #[(0,(.const (.int .i64 2))),(1,(.const (.int .i64 7))),(2,(.const (.int .i64 8))),(3,(.const (.int .i64 13)))]),
  oP 8 (.buildSlice 53 4 #[(0,(.const (.int .i64 3))),(1,(.const (.int .i64 4))),(2,(.const (.int .i64 9))),(3,(.const (.int .i64 14)))]),
  oP 9 (.buildSlice 128 8 #[(0,(.tmp 1)),(1,(.tmp 2)),(2,(.tmp 3)),(3,(.tmp 4)),(4,(.tmp 5)),(5,(.tmp 6)),(6,(.tmp 7)),(7,(.tmp 8))]),
  oP 0 (.assign (.tmp 9))]
def Yi9:List Oper:=Ybs
def X2y:Code := .region 0 Yi9.toArray false
theorem Yrp:Q0 (E b) C D0 rd X2y s K=Qac (E b) C rd Yi9 K Ybs s:=rfl
def X2t:Code := .seq X2y .ret
theorem Ysg:Q0 (E b) C D0 rd X2t s K=Q0 (E b) C D0 rd X2y s (Yg (Vr (E b) C D0 rd .ret K) K):=rfl
def Ygi:Code := .seq X4q X2t
theorem Ys3:Q0 (E b) C D0 rd Ygi s K=Q0 (E b) C D0 rd X4q s (Yg (Vr (E b) C D0 rd X2t K) K):=rfl
def X8x:Code:=Ygi
theorem Yvf:Quc (Qas 74)=X8x:=by kernel_rfl
theorem Ysc:Xta.body=some (Qas 74):=by kernel_rfl
theorem Yyh:Xta.ntmps=10:=by kernel_rfl
theorem Yvi:Xta.results.toList = [.tmp 0]:=by kernel_rfl
abbrev Ykc:List Oper := [oP 4 (.assign (.const (.int .u32 0)))]
def Yn1:List Oper:=Ykc
def X6s:Code := .region 0 Yn1.toArray false
theorem Xmg:Q0 (E b) C D0 rd X6s s K=Qac (E b) C rd Yn1 K Ykc s:=rfl
abbrev Yjo:List Oper := [oP 5 (.move (.tmp 0)),
  oP 6 (.move (.tmp 1)),
  oP 7 (.binOp Go.BinOp.shr 90 (.tmp 5) (.tmp 6) 87),
  oP 8 (.move (.tmp 0)),
  oP 9 (.move (.tmp 1)),
  oP 10 (.binOp Go.BinOp.sub 87 (.const (.int .u64 32)) (.tmp 9) 87),
  oP 11 (.binOp Go.BinOp.shl 90 (.tmp 8) (.tmp 10) 87),
  oP 12 (.binOp Go.BinOp.or 90 (.tmp 7) (.tmp 11) 90),
  oP 4 (.assign (.tmp 12))]
def Ym9:List Oper:=Yjo
def X6k:Code := .region 0 Ym9.toArray false
theorem Xm9:Q0 (E b) C D0 rd X6k s K=Qac (E b) C rd Ym9 K Yjo s:=rfl
def X6q:Code := .seq X6k .ret
theorem Xmd:Q0 (E b) C D0 rd X6q s K=Q0 (E b) C D0 rd X6k s (Yg (Vr (E b) C D0 rd .ret K) K):=rfl
def Yn3:Code := .seq X6s X6q
theorem Xmh:Q0 (E b) C D0 rd Yn3 s K=Q0 (E b) C D0 rd X6s s (Yg (Vr (E b) C D0 rd X6q K) K):=rfl
def Xax:Code:=Yn3
theorem Yyq:Quc (Qas 77)=Xax:=by kernel_rfl
theorem Yuw:Xy7.body=some (Qas 77):=by kernel_rfl
theorem Y11:Xy7.ntmps=13:=by kernel_rfl
theorem Xtr:Xy7.results.toList = [.tmp 4]:=by kernel_rfl
noncomputable def Xhh:Array Oper:=Xr7 (Xr6 0 (Qas 75))
def Ypf:Code := .region 0 Xhh true
abbrev Xys:List Oper := [oP 10 (.move (.tmp 0)),
  oP 11 (.move (.tmp 1)),
  oP 12 (.indexAddr 53 (.tmp 11) (.const (.int .i64 0))),
  oP 13 (.load 3 (.tmp 12)),
  oP 14 (.move (.tmp 0)),
  oP 15 (.move (.tmp 1)),
  oP 16 (.indexAddr 53 (.tmp 15) (.const (.int .i64 0))),
  oP 17 (.load 3 (.tmp 16)),
  oP 18 (.indexAddr 109 (.tmp 14) (.tmp 17)),
  oP 19 (.load 90 (.tmp 18)),
  oP 20 (.move (.tmp 0)),
  oP 21 (.move (.tmp 1)),
  oP 22 (.indexAddr 53 (.tmp 21) (.const (.int .i64 1))),
  oP 23 (.load 3 (.tmp 22)),
  oP 24 (.indexAddr 109 (.tmp 20) (.tmp 23)),
  oP 25 (.load 90 (.tmp 24)),
  oP 26 (.binOp Go.BinOp.add 90 (.tmp 19) (.tmp 25) 90),
  oP 27 (.move (.tmp 2)),
  oP 28 (.binOp Go.BinOp.add 90 (.tmp 26) (.tmp 27) 90),
  oP 29 (.indexAddr 109 (.tmp 10) (.tmp 13)),
  oN (.store 90 (.tmp 29) (.tmp 28))]
def Xkt:List Oper:=Xys
theorem Yqq:Xhh.toList.map bare=Xys:=by kernel_rfl
theorem Yne:Xhh.toList.map bare=Xkt:=Yqq
def Qzj:List Nat := [0,0,2,6,0,0,32,96,240,496,0,0,2048,6144,15360,31744,65520,0,262128,524287,1048575]
theorem Yrh:Xul Xhh.toList []=some Qzj:=by kernel_rfl
theorem Ynb:Qlj Xhh.toList Xhh.toList Qzj []=true:=by kernel_rfl
theorem Ysk(b:Nat)(L:List KE)(s:St):Ab.runT (E b) L Xkt Qzj Xkt 0 s=Ab.runT (E b) L Xkt Qzj Xys 0 s:=rfl
theorem Ysy(b:Nat):Qno (E b) 20 ((nth Qzj 20).getD 0) Xkt Qzj 0=true:=by kernel_rfl
noncomputable def Xh9:Array Oper:=Xr7 (Xr6 1 (Qas 75))
def Yre:Code := .region 1 Xh9 true
abbrev X0h:List Oper := [oP 30 (.move (.tmp 0)),
  oP 31 (.move (.tmp 1)),
  oP 32 (.indexAddr 53 (.tmp 31) (.const (.int .i64 3))),
  oP 33 (.load 3 (.tmp 32)),
  oP 34 (.move (.tmp 0)),
  oP 35 (.move (.tmp 1)),
  oP 36 (.indexAddr 53 (.tmp 35) (.const (.int .i64 3))),
  oP 37 (.load 3 (.tmp 36)),
  oP 38 (.indexAddr 109 (.tmp 34) (.tmp 37)),
  oP 39 (.load 90 (.tmp 38)),
  oP 40 (.move (.tmp 0)),
  oP 41 (.move (.tmp 1)),
  oP 42 (.indexAddr 53 (.tmp 41) (.const (.int .i64 0))),
  oP 43 (.load 3 (.tmp 42)),
  oP 44 (.indexAddr 109 (.tmp 40) (.tmp 43)),
  oP 45 (.load 90 (.tmp 44)),
  oP 46 (.binOp Go.BinOp.xor 90 (.tmp 39) (.tmp 45) 90),
  oP 47 (.move (.tmp 3)),
  oP 48 (.call {callee := .value (.func 77),args := #[(.tmp 46),(.tmp 47)],argTypes := #[90,87]}),
  oP 49 (.indexAddr 109 (.tmp 30) (.tmp 33)),
  oN (.store 90 (.tmp 49) (.tmp 48))]
def Xc2:List Oper:=X0h
theorem Yp2:Xh9.toList.map bare=X0h:=by kernel_rfl
theorem Ynt:Xh9.toList.map bare=Xc2:=Yp2
def Qu4:List Nat := [0,0,2,6,0,0,32,96,240,496,0,0,2048,6144,15360,31744,65520,0,262128,524287,1048575]
theorem Yqj:Xul Xh9.toList []=some Qu4:=by kernel_rfl
theorem Ync:Qlj Xh9.toList Xh9.toList Qu4 []=true:=by kernel_rfl
theorem Yrt(b:Nat)(L:List KE)(s:St):Ab.runT (E b) L Xc2 Qu4 Xc2 0 s=Ab.runT (E b) L Xc2 Qu4 X0h 0 s:=rfl
theorem Ysx(b:Nat):Qno (E b) 18 ((nth Qu4 18).getD 0) Xc2 Qu4 0=true:=by kernel_rfl
theorem Yt5(b:Nat):Qno (E b) 20 ((nth Qu4 20).getD 0) Xc2 Qu4 0=true:=by kernel_rfl
noncomputable def Xhf:Array Oper:=Xr7 (Xr6 2 (Qas 75))
def Yp1:Code := .region 2 Xhf true
abbrev X0r:List Oper := [oP 50 (.move (.tmp 0)),
  oP 51 (.move (.tmp 1)),
  oP 52 (.indexAddr 53 (.tmp 51) (.const (.int .i64 2))),
  oP 53 (.load 3 (.tmp 52)),
  oP 54 (.move (.tmp 0)),
  oP 55 (.move (.tmp 1)),
  oP 56 (.indexAddr 53 (.tmp 55) (.const (.int .i64 2))),
  oP 57 (.load 3 (.tmp 56)),
  oP 58 (.indexAddr 109 (.tmp 54) (.tmp 57)),
  oP 59 (.load 90 (.tmp 58)),
  oP 60 (.move (.tmp 0)),
  oP 61 (.move (.tmp 1)),
  oP 62 (.indexAddr 53 (.tmp 61) (.const (.int .i64 3))),
  oP 63 (.load 3 (.tmp 62)),
  oP 64 (.indexAddr 109 (.tmp 60) (.tmp 63)),
  oP 65 (.load 90 (.tmp 64)),
  oP 66 (.binOp Go.BinOp.add 90 (.tmp 59) (.tmp 65) 90),
  oP 67 (.indexAddr 109 (.tmp 50) (.tmp 53)),
  oN (.store 90 (.tmp 67) (.tmp 66))]
def Xm4:List Oper:=X0r
theorem Yr6:Xhf.toList.map bare=X0r:=by kernel_rfl
theorem Yni:Xhf.toList.map bare=Xm4:=Yr6
def Qzy:List Nat := [0,0,2,6,0,0,32,96,240,496,0,0,2048,6144,15360,31744,65520,131071,262143]
theorem Yp6:Xul Xhf.toList []=some Qzy:=by kernel_rfl
theorem Yo4:Qlj Xhf.toList Xhf.toList Qzy []=true:=by kernel_rfl
theorem Ysr(b:Nat)(L:List KE)(s:St):Ab.runT (E b) L Xm4 Qzy Xm4 0 s=Ab.runT (E b) L Xm4 Qzy X0r 0 s:=rfl
theorem Ys0(b:Nat):Qno (E b) 18 ((nth Qzy 18).getD 0) Xm4 Qzy 0=true:=by kernel_rfl
noncomputable def Xhk:Array Oper:=Xr7 (Xr6 3 (Qas 75))
def Yr1:Code := .region 3 Xhk true
abbrev X33:List Oper := [oP 68 (.move (.tmp 0)),
  oP 69 (.move (.tmp 1)),
  oP 70 (.indexAddr 53 (.tmp 69) (.const (.int .i64 1))),
  oP 71 (.load 3 (.tmp 70)),
  oP 72 (.move (.tmp 0)),
  oP 73 (.move (.tmp 1)),
  oP 74 (.indexAddr 53 (.tmp 73) (.const (.int .i64 1))),
  oP 75 (.load 3 (.tmp 74)),
  oP 76 (.indexAddr 109 (.tmp 72) (.tmp 75)),
  oP 77 (.load 90 (.tmp 76)),
  oP 78 (.move (.tmp 0)),
  oP 79 (.move (.tmp 1)),
  oP 80 (.indexAddr 53 (.tmp 79) (.const (.int .i64 2))),
  oP 81 (.load 3 (.tmp 80)),
  oP 82 (.indexAddr 109 (.tmp 78) (.tmp 81)),
  oP 83 (.load 90 (.tmp 82)),
  oP 84 (.binOp Go.BinOp.xor 90 (.tmp 77) (.tmp 83) 90),
  oP 85 (.move (.tmp 4)),
  oP 86 (.call {callee := .value (.func 77),args := #[(.tmp 84),(.tmp 85)],argTypes := #[90,87]}),
  oP 87 (.indexAddr 109 (.tmp 68) (.tmp 71)),
  oN (.store 90 (.tmp 87) (.tmp 86))]
def Xc0:List Oper:=X33
theorem Yp8:Xhk.toList.map bare=X33:=by kernel_rfl
theorem Yn9:Xhk.toList.map bare=Xc0:=Yp8
def Qtz:List Nat := [0,0,2,6,0,0,32,96,240,496,0,0,2048,6144,15360,31744,65520,0,262128,524287,1048575]
theorem Yqk:Xul Xhk.toList []=some Qtz:=by kernel_rfl
theorem Yol:Qlj Xhk.toList Xhk.toList Qtz []=true:=by kernel_rfl
theorem Yse(b:Nat)(L:List KE)(s:St):Ab.runT (E b) L Xc0 Qtz Xc0 0 s=Ab.runT (E b) L Xc0 Qtz X33 0 s:=rfl
theorem Ys7(b:Nat):Qno (E b) 18 ((nth Qtz 18).getD 0) Xc0 Qtz 0=true:=by kernel_rfl
theorem Yrk(b:Nat):Qno (E b) 20 ((nth Qtz 20).getD 0) Xc0 Qtz 0=true:=by kernel_rfl
def Ya3:Code := .seq Yp1 Yr1
theorem Qn7:Q0 (E b) C D0 rd Ya3 s K=Q0 (E b) C D0 rd Yp1 s (Yg (Vr (E b) C D0 rd Yr1 K) K):=rfl
def Yat:Code := .seq Yre Ya3
theorem Qni:Q0 (E b) C D0 rd Yat s K=Q0 (E b) C D0 rd Yre s (Yg (Vr (E b) C D0 rd Ya3 K) K):=rfl
def Yqe:Code := .seq Ypf Yat
theorem Qng:Q0 (E b) C D0 rd Yqe s K=Q0 (E b) C D0 rd Ypf s (Yg (Vr (E b) C D0 rd Yat K) K):=rfl
def Qm0:Code:=Yqe
theorem Y0p:Quc (Qas 75)=Qm0:=by kernel_rfl
theorem Yxq:X66.body=some (Qas 75):=by kernel_rfl
theorem Y3n:X66.ntmps=88:=by kernel_rfl
theorem Qq9:X66.results.toList = []:=by kernel_rfl
abbrev Yis:List Oper := [oP 8 (.assign (.const (.slice none 0 0)))]
def Ymx:List Oper:=Yis
def X74:Code := .region 0 Ymx.toArray false
theorem Wv:Q0 (E b) C D0 rd X74 s K=Qac (E b) C rd Ymx K Yis s:=rfl
abbrev Yeq:List Oper := [oP 9 (.assign (.const (.slice none 0 0)))]
def Yly:List Oper:=Yeq
def X87:Code := .region 0 Yly.toArray false
theorem Qa2:Q0 (E b) C D0 rd X87 s K=Qac (E b) C rd Yly K Yeq s:=rfl
abbrev Yjr:List Oper := [oP 10 (.assign (.const (.int .i64 0)))]
def Yn6:List Oper:=Yjr
def X7r:Code := .region 0 Yn6.toArray false
theorem Qa0:Q0 (E b) C D0 rd X7r s K=Qac (E b) C rd Yn6 K Yjr s:=rfl
abbrev Yhu:List Oper := [oP 18 (.move (.tmp 10)),
  oP 19 (.binOp Go.BinOp.lss 3 (.tmp 18) (.const (.int .i64 64)) 3)]
def Yn2:List Oper:=Yhu
def X7t:Code := .region 0 Yn2.toArray false
theorem Wt:Q0 (E b) C D0 rd X7t s K=Qac (E b) C rd Yn2 K Yhu s:=rfl
def Xtu:Code := .cond (.tmp 19) .skip (.exit 0)
theorem Wy(h:aev (E b).G s.t (.tmp 19)=some (.bool true)):Q0 (E b) C D0 rd Xtu s K=Q0 (E b) C D0 rd .skip s K:=Qit h
theorem Wx(h:aev (E b).G s.t (.tmp 19)=some (.bool false)):Q0 (E b) C D0 rd Xtu s K=Q0 (E b) C D0 rd (.exit 0) s K:=Qiv h
def X6u:Code := .seq X7t Xtu
theorem Qa1:Q0 (E b) C D0 rd X6u s K=Q0 (E b) C D0 rd X7t s (Yg (Vr (E b) C D0 rd Xtu K) K):=rfl
noncomputable def Xbn:Array Oper:=Xr7 (Xr6 5 (Qas 69))
def Ymi:Code := .region 5 Xbn true
abbrev Xw6:List Oper := [oP 22 (.move (.tmp 9)),
  oP 23 (.move (.tmp 1)),
  oP 24 (.move (.tmp 10)),
  oP 25 (.indexAddr 51 (.tmp 23) (.tmp 24)),
  oP 26 (.load 5 (.tmp 25)),
  oP 27 (.convert 5 90 (.tmp 26)),
  oP 28 (.move (.tmp 1)),
  oP 29 (.move (.tmp 10)),
  oP 30 (.binOp Go.BinOp.add 3 (.tmp 29) (.const (.int .i64 1)) 3),
  oP 31 (.indexAddr 51 (.tmp 28) (.tmp 30)),
  oP 32 (.load 5 (.tmp 31)),
  oP 33 (.convert 5 90 (.tmp 32)),
  oP 34 (.binOp Go.BinOp.mul 90 (.tmp 33) (.const (.int .u32 256)) 90),
  oP 35 (.binOp Go.BinOp.add 90 (.tmp 27) (.tmp 34) 90),
  oP 36 (.move (.tmp 1)),
  oP 37 (.move (.tmp 10)),
  oP 38 (.binOp Go.BinOp.add 3 (.tmp 37) (.const (.int .i64 2)) 3),
  oP 39 (.indexAddr 51 (.tmp 36) (.tmp 38)),
  oP 40 (.load 5 (.tmp 39)),
  oP 41 (.convert 5 90 (.tmp 40)),
  oP 42 (.binOp Go.BinOp.mul 90 (.tmp 41) (.const (.int .u32 65536)) 90),
  oP 43 (.binOp Go.BinOp.add 90 (.tmp 35) (.tmp 42) 90),
  oP 44 (.move (.tmp 1)),
  oP 45 (.move (.tmp 10)),
  oP 46 (.binOp Go.BinOp.add 3 (.tmp 45) (.const (.int .i64 3)) 3),
  oP 47 (.indexAddr 51 (.tmp 44) (.tmp 46)),
  oP 48 (.load 5 (.tmp 47)),
  oP 49 (.convert 5 90 (.tmp 48)),
  oP 50 (.binOp Go.BinOp.mul 90 (.tmp 49) (.const (.int .u32 16777216)) 90),
  oP 51 (.binOp Go.BinOp.add 90 (.tmp 43) (.tmp 50) 90),
  oP 52 (.buildSlice 109 1 #[(0,(.tmp 51))]),
  oP 53 (.call {callee := .builtin Go.Builtin.append,args := #[(.tmp 22),(.tmp 52)],argTypes := #[109,109]}),
  oP 9 (.assign (.tmp 53))]
def Xeb:List Oper:=Xw6
theorem Ynn:Xbn.toList.map bare=Xw6:=by kernel_rfl
theorem Yl7:Xbn.toList.map bare=Xeb:=Ynn
def Qxa:List Nat := [0,0,0,6,14,30,0,0,128,448,960,1984,4032,8190,0,0,32768,114688,245760,507904,1032192,2097150,0,0,8388608,29360128,62914560,130023424,264241152,536870910,1073741822,2147483647,4294967295]
theorem Yo2:Xul Xbn.toList []=some Qxa:=by kernel_rfl
theorem Yl2:Qlj Xbn.toList Xbn.toList Qxa []=true:=by kernel_rfl
theorem Yow(b:Nat)(L:List KE)(s:St):Ab.runT (E b) L Xeb Qxa Xeb 0 s=Ab.runT (E b) L Xeb Qxa Xw6 0 s:=rfl
theorem Yqc(b:Nat):Qno (E b) 31 ((nth Qxa 31).getD 0) Xeb Qxa 0=true:=by kernel_rfl
def Xyj:Code := .block 1 Ymi
theorem U6:Q0 (E b) C D0 rd Xyj s K=Q0 (E b) C D0 rd Ymi s (Ql8 1 K):=rfl
abbrev Ybj:List Oper := [oP 20 (.move (.tmp 10)),
  oP 21 (.binOp Go.BinOp.add 3 (.tmp 20) (.const (.int .i64 4)) 3),
  oP 10 (.assign (.tmp 21))]
def Yfp:List Oper:=Ybj
def X07:Code := .region 0 Yfp.toArray false
theorem Wg:Q0 (E b) C D0 rd X07 s K=Qac (E b) C rd Yfp K Ybj s:=rfl
def X51:Code := .seq Xyj X07
theorem Vu:Q0 (E b) C D0 rd X51 s K=Q0 (E b) C D0 rd Xyj s (Yg (Vr (E b) C D0 rd X07 K) K):=rfl
def Yli:Code := .seq X6u X51
theorem Ww:Q0 (E b) C D0 rd Yli s K=Q0 (E b) C D0 rd X6u s (Yg (Vr (E b) C D0 rd X51 K) K):=rfl
def Yfw:Code := .loop Yli
def Xz9:Code := .block 0 Yfw
theorem Uf:Q0 (E b) C D0 rd Xz9 s K=Q0 (E b) C D0 rd Yfw s (Ql8 0 K):=rfl
def X8i:Code := .seq X7r Xz9
theorem Ws:Q0 (E b) C D0 rd X8i s K=Q0 (E b) C D0 rd X7r s (Yg (Vr (E b) C D0 rd Xz9 K) K):=rfl
abbrev Ycs:List Oper := [oP 11 (.assign (.const (.slice none 0 0)))]
def Yip:List Oper:=Ycs
def X23:Code := .region 0 Yip.toArray false
theorem Uy:Q0 (E b) C D0 rd X23 s K=Qac (E b) C rd Yip K Ycs s:=rfl
abbrev Yb9:List Oper := [oP 54 (.move (.tmp 11)),
  oP 55 (.move (.tmp 0)),
  oP 56 (.call {callee := .builtin Go.Builtin.append,args := #[(.tmp 54),(.tmp 55)],argTypes := #[109,109]}),
  oP 11 (.assign (.tmp 56))]
def Yka:List Oper:=Yb9
def X1x:Code := .region 0 Yka.toArray false
theorem Ux:Q0 (E b) C D0 rd X1x s K=Qac (E b) C rd Yka K Yb9 s:=rfl
abbrev Ycg:List Oper := [oP 57 (.move (.tmp 11)),
  oP 58 (.call {callee := .value (.func 68),args := #[],argTypes := #[]}),
  oP 59 (.call {callee := .builtin Go.Builtin.append,args := #[(.tmp 57),(.tmp 58)],argTypes := #[109,109]}),
  oP 11 (.assign (.tmp 59))]
def Yeg:List Oper:=Ycg
def X0p:Code := .region 0 Yeg.toArray false
theorem U4:Q0 (E b) C D0 rd X0p s K=Qac (E b) C rd Yeg K Ycg s:=rfl
abbrev Yb4:List Oper := [oP 60 (.move (.tmp 11)),
  oP 61 (.move (.tmp 11)),
  oP 62 (.indexAddr 109 (.tmp 61) (.const (.int .i64 12))),
  oP 63 (.load 90 (.tmp 62)),
  oP 64 (.move (.tmp 2)),
  oP 65 (.binOp Go.BinOp.rem 93 (.tmp 64) (.const (.int .u64 4294967296)) 93),
  oP 66 (.convert 93 90 (.tmp 65)),
  oP 67 (.binOp Go.BinOp.xor 90 (.tmp 63) (.tmp 66) 90),
  oP 68 (.indexAddr 109 (.tmp 60) (.const (.int .i64 12))),
  oN (.store 90 (.tmp 68) (.tmp 67))]
def Yht:List Oper:=Yb4
def Xyv:Code := .region 0 Yht.toArray false
theorem Ut:Q0 (E b) C D0 rd Xyv s K=Qac (E b) C rd Yht K Yb4 s:=rfl
abbrev Ybc:List Oper := [oP 69 (.move (.tmp 11)),
  oP 70 (.move (.tmp 11)),
  oP 71 (.indexAddr 109 (.tmp 70) (.const (.int .i64 13))),
  oP 72 (.load 90 (.tmp 71)),
  oP 73 (.move (.tmp 2)),
  oP 74 (.binOp Go.BinOp.quo 93 (.tmp 73) (.const (.int .u64 4294967296)) 93),
  oP 75 (.convert 93 90 (.tmp 74)),
  oP 76 (.binOp Go.BinOp.xor 90 (.tmp 72) (.tmp 75) 90),
  oP 77 (.indexAddr 109 (.tmp 69) (.const (.int .i64 13))),
  oN (.store 90 (.tmp 77) (.tmp 76))]
def Yfx:List Oper:=Ybc
def X2e:Code := .region 0 Yfx.toArray false
theorem Up:Q0 (E b) C D0 rd X2e s K=Qac (E b) C rd Yfx K Ybc s:=rfl
abbrev Yby:List Oper := [oP 78 (.move (.tmp 3))]
def Yjt:List Oper:=Yby
def X2m:Code := .region 0 Yjt.toArray false
theorem U3:Q0 (E b) C D0 rd X2m s K=Qac (E b) C rd Yjt K Yby s:=rfl
abbrev Yd0:List Oper := [oP 79 (.move (.tmp 11)),
  oP 80 (.move (.tmp 11)),
  oP 81 (.indexAddr 109 (.tmp 80) (.const (.int .i64 14))),
  oP 82 (.load 90 (.tmp 81)),
  oP 83 (.unOp Go.UnOp.xor 90 (.tmp 82)),
  oP 84 (.indexAddr 109 (.tmp 79) (.const (.int .i64 14))),
  oN (.store 90 (.tmp 84) (.tmp 83))]
def Yim:List Oper:=Yd0
def X29:Code := .region 0 Yim.toArray false
theorem Vt:Q0 (E b) C D0 rd X29 s K=Qac (E b) C rd Yim K Yd0 s:=rfl
def Xos:Code := .cond (.tmp 78) X29 .skip
theorem We(h:aev (E b).G s.t (.tmp 78)=some (.bool true)):Q0 (E b) C D0 rd Xos s K=Q0 (E b) C D0 rd X29 s K:=Qit h
theorem Ud(h:aev (E b).G s.t (.tmp 78)=some (.bool false)):Q0 (E b) C D0 rd Xos s K=Q0 (E b) C D0 rd .skip s K:=Qiv h
def X0u:Code := .seq X2m Xos
theorem U1:Q0 (E b) C D0 rd X0u s K=Q0 (E b) C D0 rd X2m s (Yg (Vr (E b) C D0 rd Xos K) K):=rfl
abbrev Yc7:List Oper := [oP 85 (.call {callee := .value (.func 73),args := #[],argTypes := #[]}),
  oP 12 (.assign (.tmp 85))]
def Yjm:List Oper:=Yc7
def X2a:Code := .region 0 Yjm.toArray false
theorem Vw:Q0 (E b) C D0 rd X2a s K=Qac (E b) C rd Yjm K Yc7 s:=rfl
abbrev Yd9:List Oper := [oP 86 (.call {callee := .value (.func 74),args := #[],argTypes := #[]}),
  oP 13 (.assign (.tmp 86))]
def Yfq:List Oper:=Yd9
def X0o:Code := .region 0 Yfq.toArray false
theorem Vv:Q0 (E b) C D0 rd X0o s K=Qac (E b) C rd Yfq K Yd9 s:=rfl
abbrev Xma:List Oper := [oP 14 (.assign (.const (.int .i64 0)))]
def Yek:List Oper:=Xma
def X17:Code := .region 0 Yek.toArray false
theorem Ug:Q0 (E b) C D0 rd X17 s K=Qac (E b) C rd Yek K Xma s:=rfl
abbrev Ych:List Oper := [oP 87 (.move (.tmp 14)),
  oP 88 (.binOp Go.BinOp.lss 3 (.tmp 87) (.const (.int .i64 10)) 3)]
def Yfb:List Oper:=Ych
def X0v:Code := .region 0 Yfb.toArray false
theorem Uj:Q0 (E b) C D0 rd X0v s K=Qac (E b) C rd Yfb K Ych s:=rfl
def Xoj:Code := .cond (.tmp 88) .skip (.exit 2)
theorem Wm(h:aev (E b).G s.t (.tmp 88)=some (.bool true)):Q0 (E b) C D0 rd Xoj s K=Q0 (E b) C D0 rd .skip s K:=Qit h
theorem U5(h:aev (E b).G s.t (.tmp 88)=some (.bool false)):Q0 (E b) C D0 rd Xoj s K=Q0 (E b) C D0 rd (.exit 2) s K:=Qiv h
def X47:Code := .seq X0v Xoj
theorem W6:Q0 (E b) C D0 rd X47 s K=Q0 (E b) C D0 rd X0v s (Yg (Vr (E b) C D0 rd Xoj K) K):=rfl
abbrev Ycv:List Oper := [oP 15 (.assign (.const (.int .i64 0)))]
def Yhh:List Oper:=Ycv
def X50:Code := .region 0 Yhh.toArray false
theorem Wi:Q0 (E b) C D0 rd X50 s K=Qac (E b) C rd Yhh K Ycv s:=rfl
abbrev Yca:List Oper := [oP 91 (.move (.tmp 15)),
  oP 92 (.binOp Go.BinOp.lss 3 (.tmp 91) (.const (.int .i64 8)) 3)]
def Yk0:List Oper:=Yca
def X1l:Code := .region 0 Yk0.toArray false
theorem Vx:Q0 (E b) C D0 rd X1l s K=Qac (E b) C rd Yk0 K Yca s:=rfl
def Xp0:Code := .cond (.tmp 92) .skip (.exit 4)
theorem Wk(h:aev (E b).G s.t (.tmp 92)=some (.bool true)):Q0 (E b) C D0 rd Xp0 s K=Q0 (E b) C D0 rd .skip s K:=Qit h
theorem U8(h:aev (E b).G s.t (.tmp 92)=some (.bool false)):Q0 (E b) C D0 rd Xp0 s K=Q0 (E b) C D0 rd (.exit 4) s K:=Qiv h
def X3u:Code := .seq X1l Xp0
theorem Wd:Q0 (E b) C D0 rd X3u s K=Q0 (E b) C D0 rd X1l s (Yg (Vr (E b) C D0 rd Xp0 K) K):=rfl
noncomputable def Q79:Array Oper:=Xr7 (Xr6 21 (Qas 69))
def Yg7:Code := .region 21 Q79 true
abbrev Xsq:List Oper := [oP 95 (.move (.tmp 11)),
  oP 96 (.move (.tmp 13)),
  oP 97 (.move (.tmp 15)),
  oP 98 (.indexAddr 128 (.tmp 96) (.tmp 97)),
  oP 99 (.load 53 (.tmp 98)),
  oP 100 (.move (.tmp 9)),
  oP 101 (.move (.tmp 12)),
  oP 102 (.move (.tmp 14)),
  oP 103 (.indexAddr 128 (.tmp 101) (.tmp 102)),
  oP 104 (.load 53 (.tmp 103)),
  oP 105 (.move (.tmp 15)),
  oP 106 (.binOp Go.BinOp.mul 3 (.const (.int .i64 2)) (.tmp 105) 3),
  oP 107 (.indexAddr 53 (.tmp 104) (.tmp 106)),
  oP 108 (.load 3 (.tmp 107)),
  oP 109 (.indexAddr 109 (.tmp 100) (.tmp 108)),
  oP 110 (.load 90 (.tmp 109)),
  oP 111 (.call {callee := .value (.func 75),args := #[(.tmp 95),(.tmp 99),(.tmp 110),(.const (.int .u64 16)),(.const (.int .u64 12))],argTypes := #[109,53,90,87,87]})]
def Xb2:List Oper:=Xsq
theorem Yle:Q79.toList.map bare=Xsq:=by kernel_rfl
theorem Yit:Q79.toList.map bare=Xb2:=Yle
def Qv7:List Nat := [0,0,0,6,14,0,0,0,192,448,0,1024,4032,8128,16352,32736,65535]
theorem Yl3:Xul Q79.toList []=some Qv7:=by kernel_rfl
theorem Yed:Qlj Q79.toList Q79.toList Qv7 []=true:=by kernel_rfl
theorem Yoj(b:Nat)(L:List KE)(s:St):Ab.runT (E b) L Xb2 Qv7 Xb2 0 s=Ab.runT (E b) L Xb2 Qv7 Xsq 0 s:=rfl
theorem Yok(b:Nat):Qno (E b) 16 ((nth Qv7 16).getD 0) Xb2 Qv7 0=true:=by kernel_rfl
noncomputable def Q7x:Array Oper:=Xr7 (Xr6 22 (Qas 69))
def Ykb:Code := .region 22 Q7x true
abbrev Xso:List Oper := [oP 112 (.move (.tmp 11)),
  oP 113 (.move (.tmp 13)),
  oP 114 (.move (.tmp 15)),
  oP 115 (.indexAddr 128 (.tmp 113) (.tmp 114)),
  oP 116 (.load 53 (.tmp 115)),
  oP 117 (.move (.tmp 9)),
  oP 118 (.move (.tmp 12)),
  oP 119 (.move (.tmp 14)),
  oP 120 (.indexAddr 128 (.tmp 118) (.tmp 119)),
  oP 121 (.load 53 (.tmp 120)),
  oP 122 (.move (.tmp 15)),
  oP 123 (.binOp Go.BinOp.mul 3 (.const (.int .i64 2)) (.tmp 122) 3),
  oP 124 (.binOp Go.BinOp.add 3 (.tmp 123) (.const (.int .i64 1)) 3),
  oP 125 (.indexAddr 53 (.tmp 121) (.tmp 124)),
  oP 126 (.load 3 (.tmp 125)),
  oP 127 (.indexAddr 109 (.tmp 117) (.tmp 126)),
  oP 128 (.load 90 (.tmp 127)),
  oP 129 (.call {callee := .value (.func 75),args := #[(.tmp 112),(.tmp 116),(.tmp 128),(.const (.int .u64 8)),(.const (.int .u64 7))],argTypes := #[109,53,90,87,87]})]
def Xb7:List Oper:=Xso
theorem Yl0:Q7x.toList.map bare=Xso:=by kernel_rfl
theorem Yeo:Q7x.toList.map bare=Xb7:=Yl0
def Qva:List Nat := [0,0,0,6,14,0,0,0,192,448,0,1024,3072,8128,16320,32736,65504,131071]
theorem Yky:Xul Q7x.toList []=some Qva:=by kernel_rfl
theorem Yeh:Qlj Q7x.toList Q7x.toList Qva []=true:=by kernel_rfl
theorem Ynv(b:Nat)(L:List KE)(s:St):Ab.runT (E b) L Xb7 Qva Xb7 0 s=Ab.runT (E b) L Xb7 Qva Xso 0 s:=rfl
theorem Yoh(b:Nat):Qno (E b) 17 ((nth Qva 17).getD 0) Xb7 Qva 0=true:=by kernel_rfl
def X13:Code := .seq Yg7 Ykb
theorem Uc:Q0 (E b) C D0 rd X13 s K=Q0 (E b) C D0 rd Yg7 s (Yg (Vr (E b) C D0 rd Ykb K) K):=rfl
def X22:Code := .block 5 X13
theorem Ue:Q0 (E b) C D0 rd X22 s K=Q0 (E b) C D0 rd X13 s (Ql8 5 K):=rfl
abbrev Ydk:List Oper := [oP 93 (.move (.tmp 15)),
  oP 94 (.binOp Go.BinOp.add 3 (.tmp 93) (.const (.int .i64 1)) 3),
  oP 15 (.assign (.tmp 94))]
def Yfh:List Oper:=Ydk
def Xze:Code := .region 0 Yfh.toArray false
theorem W8:Q0 (E b) C D0 rd Xze s K=Qac (E b) C rd Yfh K Ydk s:=rfl
def Xyi:Code := .seq X22 Xze
theorem W5:Q0 (E b) C D0 rd Xyi s K=Q0 (E b) C D0 rd X22 s (Yg (Vr (E b) C D0 rd Xze K) K):=rfl
def Yej:Code := .seq X3u Xyi
theorem W7:Q0 (E b) C D0 rd Yej s K=Q0 (E b) C D0 rd X3u s (Yg (Vr (E b) C D0 rd Xyi K) K):=rfl
def Ygf:Code := .loop Yej
def X5g:Code := .block 4 Ygf
theorem Ul:Q0 (E b) C D0 rd X5g s K=Q0 (E b) C D0 rd Ygf s (Ql8 4 K):=rfl
def X1e:Code := .seq X50 X5g
theorem Ua:Q0 (E b) C D0 rd X1e s K=Q0 (E b) C D0 rd X50 s (Yg (Vr (E b) C D0 rd X5g K) K):=rfl
def Xyp:Code := .block 3 X1e
theorem Uq:Q0 (E b) C D0 rd Xyp s K=Q0 (E b) C D0 rd X1e s (Ql8 3 K):=rfl
abbrev Yck:List Oper := [oP 89 (.move (.tmp 14)),
  oP 90 (.binOp Go.BinOp.add 3 (.tmp 89) (.const (.int .i64 1)) 3),
  oP 14 (.assign (.tmp 90))]
def Yij:List Oper:=Yck
def X3v:Code := .region 0 Yij.toArray false
theorem Uo:Q0 (E b) C D0 rd X3v s K=Qac (E b) C rd Yij K Yck s:=rfl
def X1i:Code := .seq Xyp X3v
theorem Wh:Q0 (E b) C D0 rd X1i s K=Q0 (E b) C D0 rd Xyp s (Yg (Vr (E b) C D0 rd X3v K) K):=rfl
def Yf4:Code := .seq X47 X1i
theorem Wj:Q0 (E b) C D0 rd Yf4 s K=Q0 (E b) C D0 rd X47 s (Yg (Vr (E b) C D0 rd X1i K) K):=rfl
def Yjb:Code := .loop Yf4
def X2u:Code := .block 2 Yjb
theorem U0:Q0 (E b) C D0 rd X2u s K=Q0 (E b) C D0 rd Yjb s (Ql8 2 K):=rfl
def Xye:Code := .seq X17 X2u
theorem Uz:Q0 (E b) C D0 rd Xye s K=Q0 (E b) C D0 rd X17 s (Yg (Vr (E b) C D0 rd X2u K) K):=rfl
abbrev Ycf:List Oper := [oP 16 (.assign (.const (.slice none 0 0)))]
def Ygs:List Oper:=Ycf
def X1g:Code := .region 0 Ygs.toArray false
theorem Ur:Q0 (E b) C D0 rd X1g s K=Qac (E b) C rd Ygs K Ycf s:=rfl
abbrev Yb7:List Oper := [oP 17 (.assign (.const (.int .i64 0)))]
def Yhy:List Oper:=Yb7
def X1n:Code := .region 0 Yhy.toArray false
theorem Wa:Q0 (E b) C D0 rd X1n s K=Qac (E b) C rd Yhy K Yb7 s:=rfl
abbrev Ybt:List Oper := [oP 130 (.move (.tmp 17)),
  oP 131 (.binOp Go.BinOp.lss 3 (.tmp 130) (.const (.int .i64 8)) 3)]
def Yjs:List Oper:=Ybt
def Xz4:Code := .region 0 Yjs.toArray false
theorem U7:Q0 (E b) C D0 rd Xz4 s K=Qac (E b) C rd Yjs K Ybt s:=rfl
def Xp9:Code := .cond (.tmp 131) .skip (.exit 6)
theorem Wc(h:aev (E b).G s.t (.tmp 131)=some (.bool true)):Q0 (E b) C D0 rd Xp9 s K=Q0 (E b) C D0 rd .skip s K:=Qit h
theorem U2(h:aev (E b).G s.t (.tmp 131)=some (.bool false)):Q0 (E b) C D0 rd Xp9 s K=Q0 (E b) C D0 rd (.exit 6) s K:=Qiv h
def X20:Code := .seq Xz4 Xp9
theorem Wb:Q0 (E b) C D0 rd X20 s K=Q0 (E b) C D0 rd Xz4 s (Yg (Vr (E b) C D0 rd Xp9 K) K):=rfl
noncomputable def Q7q:Array Oper:=Xr7 (Xr6 27 (Qas 69))
def Yef:Code := .region 27 Q7q true
abbrev Xss:List Oper := [oP 134 (.move (.tmp 16)),
  oP 135 (.move (.tmp 0)),
  oP 136 (.move (.tmp 17)),
  oP 137 (.indexAddr 109 (.tmp 135) (.tmp 136)),
  oP 138 (.load 90 (.tmp 137)),
  oP 139 (.move (.tmp 11)),
  oP 140 (.move (.tmp 17)),
  oP 141 (.indexAddr 109 (.tmp 139) (.tmp 140)),
  oP 142 (.load 90 (.tmp 141)),
  oP 143 (.binOp Go.BinOp.xor 90 (.tmp 138) (.tmp 142) 90),
  oP 144 (.move (.tmp 11)),
  oP 145 (.move (.tmp 17)),
  oP 146 (.binOp Go.BinOp.add 3 (.tmp 145) (.const (.int .i64 8)) 3),
  oP 147 (.indexAddr 109 (.tmp 144) (.tmp 146)),
  oP 148 (.load 90 (.tmp 147)),
  oP 149 (.binOp Go.BinOp.xor 90 (.tmp 143) (.tmp 148) 90),
  oP 150 (.buildSlice 109 1 #[(0,(.tmp 149))]),
  oP 151 (.call {callee := .builtin Go.Builtin.append,args := #[(.tmp 134),(.tmp 150)],argTypes := #[109,109]}),
  oP 16 (.assign (.tmp 151))]
def Xb0:List Oper:=Xss
theorem Ykz:Q7q.toList.map bare=Xss:=by kernel_rfl
theorem Yfg:Q7q.toList.map bare=Xb0:=Ykz
def Qvc:List Nat := [0,0,0,6,14,0,0,96,224,510,0,0,2048,7168,15360,32766,65534,131071,262143]
theorem Ykx:Xul Q7q.toList []=some Qvc:=by kernel_rfl
theorem Yfm:Qlj Q7q.toList Q7q.toList Qvc []=true:=by kernel_rfl
theorem Yoo(b:Nat)(L:List KE)(s:St):Ab.runT (E b) L Xb0 Qvc Xb0 0 s=Ab.runT (E b) L Xb0 Qvc Xss 0 s:=rfl
theorem Ynj(b:Nat):Qno (E b) 17 ((nth Qvc 17).getD 0) Xb0 Qvc 0=true:=by kernel_rfl
def X4s:Code := .block 7 Yef
theorem Uk:Q0 (E b) C D0 rd X4s s K=Q0 (E b) C D0 rd Yef s (Ql8 7 K):=rfl
abbrev Ybq:List Oper := [oP 132 (.move (.tmp 17)),
  oP 133 (.binOp Go.BinOp.add 3 (.tmp 132) (.const (.int .i64 1)) 3),
  oP 17 (.assign (.tmp 133))]
def Yhg:List Oper:=Ybq
def X34:Code := .region 0 Yhg.toArray false
theorem Wl:Q0 (E b) C D0 rd X34 s K=Qac (E b) C rd Yhg K Ybq s:=rfl
def X37:Code := .seq X4s X34
theorem Uu:Q0 (E b) C D0 rd X37 s K=Q0 (E b) C D0 rd X4s s (Yg (Vr (E b) C D0 rd X34 K) K):=rfl
def Yei:Code := .seq X20 X37
theorem Vs:Q0 (E b) C D0 rd Yei s K=Q0 (E b) C D0 rd X20 s (Yg (Vr (E b) C D0 rd X37 K) K):=rfl
def Yfs:Code := .loop Yei
def Xyg:Code := .block 6 Yfs
theorem Un:Q0 (E b) C D0 rd Xyg s K=Q0 (E b) C D0 rd Yfs s (Ql8 6 K):=rfl
def X08:Code := .seq X1n Xyg
theorem Vz:Q0 (E b) C D0 rd X08 s K=Q0 (E b) C D0 rd X1n s (Yg (Vr (E b) C D0 rd Xyg K) K):=rfl
abbrev Ybv:List Oper := [oP 152 (.move (.tmp 16)),
  oP 8 (.assign (.tmp 152))]
def Ygg:List Oper:=Ybv
def X3m:Code := .region 0 Ygg.toArray false
theorem Ui:Q0 (E b) C D0 rd X3m s K=Qac (E b) C rd Ygg K Ybv s:=rfl
def X0z:Code := .seq X3m .ret
theorem Uv:Q0 (E b) C D0 rd X0z s K=Q0 (E b) C D0 rd X3m s (Yg (Vr (E b) C D0 rd .ret K) K):=rfl
def Xzj:Code := .seq X08 X0z
theorem Wf:Q0 (E b) C D0 rd Xzj s K=Q0 (E b) C D0 rd X08 s (Yg (Vr (E b) C D0 rd X0z K) K):=rfl
def Xoi:Code := .seq X1g Xzj
theorem Vi:Q0 (E b) C D0 rd Xoi s K=Q0 (E b) C D0 rd X1g s (Yg (Vr (E b) C D0 rd Xzj K) K):=rfl
def Xqc:Code := .seq Xye Xoi
theorem Vn:Q0 (E b) C D0 rd Xqc s K=Q0 (E b) C D0 rd Xye s (Yg (Vr (E b) C D0 rd Xoi K) K):=rfl
def X3a:Code := .seq X0o Xqc
theorem Um:Q0 (E b) C D0 rd X3a s K=Q0 (E b) C D0 rd X0o s (Yg (Vr (E b) C D0 rd Xqc K) K):=rfl
def Xpe:Code := .seq X2a X3a
theorem Vk:Q0 (E b) C D0 rd Xpe s K=Q0 (E b) C D0 rd X2a s (Yg (Vr (E b) C D0 rd X3a K) K):=rfl
def X2h:Code := .seq X0u Xpe
theorem Vy:Q0 (E b) C D0 rd X2h s K=Q0 (E b) C D0 rd X0u s (Yg (Vr (E b) C D0 rd Xpe K) K):=rfl
def X0l:Code := .seq X2e X2h
theorem Ub:Q0 (E b) C D0 rd X0l s K=Q0 (E b) C D0 rd X2e s (Yg (Vr (E b) C D0 rd X2h K) K):=rfl
def X4y:Code := .seq Xyv X0l
theorem U9:Q0 (E b) C D0 rd X4y s K=Q0 (E b) C D0 rd Xyv s (Yg (Vr (E b) C D0 rd X0l K) K):=rfl
def X3n:Code := .seq X0p X4y
theorem W9:Q0 (E b) C D0 rd X3n s K=Q0 (E b) C D0 rd X0p s (Yg (Vr (E b) C D0 rd X4y K) K):=rfl
def Xzy:Code := .seq X1x X3n
theorem Us:Q0 (E b) C D0 rd Xzy s K=Q0 (E b) C D0 rd X1x s (Yg (Vr (E b) C D0 rd X3n K) K):=rfl
def X3s:Code := .seq X23 Xzy
theorem Uh:Q0 (E b) C D0 rd X3s s K=Q0 (E b) C D0 rd X23 s (Yg (Vr (E b) C D0 rd Xzy K) K):=rfl
def X09:Code := .seq X8i X3s
theorem Uw:Q0 (E b) C D0 rd X09 s K=Q0 (E b) C D0 rd X8i s (Yg (Vr (E b) C D0 rd X3s K) K):=rfl
def X8f:Code := .seq X87 X09
theorem Wz:Q0 (E b) C D0 rd X8f s K=Q0 (E b) C D0 rd X87 s (Yg (Vr (E b) C D0 rd X09 K) K):=rfl
def Ylz:Code := .seq X74 X8f
theorem Wu:Q0 (E b) C D0 rd Ylz s K=Q0 (E b) C D0 rd X74 s (Yg (Vr (E b) C D0 rd X8f K) K):=rfl
def Wq:Code:=Ylz
theorem Yyo:Quc (Qas 69)=Wq:=by kernel_rfl
theorem Yux:Q95.body=some (Qas 69):=by kernel_rfl
theorem Y1k:Q95.ntmps=153:=by kernel_rfl
theorem Qcm:Q95.results.toList = [.tmp 8]:=by kernel_rfl
abbrev Ygv:List Oper := [oP 4 (.alloc 30)]
def Ylk:List Oper:=Ygv
def X7n:Code := .region 0 Ylk.toArray false
theorem Qgn:Q0 (E b) C D0 rd X7n s K=Qac (E b) C rd Ylk K Ygv s:=rfl
abbrev Yg4:List Oper := [oP 15 (.move (.tmp 0)),
  oP 16 (.call {callee := .builtin Go.Builtin.len,args := #[(.tmp 15)],argTypes := #[51]}),
  oP 17 (.binOp Go.BinOp.gtr 3 (.tmp 16) (.const (.int .i64 32)) 3)]
def Ymp:List Oper:=Yg4
def X7p:Code := .region 0 Ymp.toArray false
theorem Qgs:Q0 (E b) C D0 rd X7p s K=Qac (E b) C rd Ymp K Yg4 s:=rfl
abbrev Yep:List Oper := [oP 18 (.move (.tmp 0)),
  oP 19 (.call {callee := .value (.func 61),args := #[(.const (.slice none 0 0)),(.tmp 18)],argTypes := #[51,51]}),
  oP 5 (.alloc 30),
  oN (.store 30 (.tmp 5) (.tmp 19))]
def Ymo:List Oper:=Yep
def X7s:Code := .region 0 Ymo.toArray false
theorem Qgp:Q0 (E b) C D0 rd X7s s K=Qac (E b) C rd Ymo K Yep s:=rfl
abbrev Yeb:List Oper := [oP 20 (.slice 30 (.tmp 5) none none none),
  oP 21 (.move (.tmp 1)),
  oP 22 (.call {callee := .value (.func 61),args := #[(.tmp 20),(.tmp 21)],argTypes := #[51,51]}),
  oN (.store 30 (.tmp 4) (.tmp 22))]
def Yls:List Oper:=Yeb
def X78:Code := .region 0 Yls.toArray false
theorem Qgr:Q0 (E b) C D0 rd X78 s K=Qac (E b) C rd Yls K Yeb s:=rfl
def X6t:Code := .seq X78 .ret
theorem Qgk:Q0 (E b) C D0 rd X6t s K=Q0 (E b) C D0 rd X78 s (Yg (Vr (E b) C D0 rd .ret K) K):=rfl
def X7d:Code := .seq X7s X6t
theorem Qgt:Q0 (E b) C D0 rd X7d s K=Q0 (E b) C D0 rd X7s s (Yg (Vr (E b) C D0 rd X6t K) K):=rfl
def Xtx:Code := .cond (.tmp 17) X7d .skip
theorem Qgq(h:aev (E b).G s.t (.tmp 17)=some (.bool true)):Q0 (E b) C D0 rd Xtx s K=Q0 (E b) C D0 rd X7d s K:=Qit h
theorem Qgm(h:aev (E b).G s.t (.tmp 17)=some (.bool false)):Q0 (E b) C D0 rd Xtx s K=Q0 (E b) C D0 rd .skip s K:=Qiv h
def X6g:Code := .seq X7p Xtx
theorem Qgl:Q0 (E b) C D0 rd X6g s K=Q0 (E b) C D0 rd X7p s (Yg (Vr (E b) C D0 rd Xtx K) K):=rfl
abbrev Yct:List Oper := [oP 6 (.assign (.const (.slice none 0 0)))]
def Ygp:List Oper:=Yct
def X4i:Code := .region 0 Ygp.toArray false
theorem Qdh:Q0 (E b) C D0 rd X4i s K=Qac (E b) C rd Ygp K Yct s:=rfl
abbrev Ydc:List Oper := [oP 23 (.move (.tmp 0)),
  oP 24 (.call {callee := .builtin Go.Builtin.len,args := #[(.tmp 23)],argTypes := #[51]}),
  oP 25 (.binOp Go.BinOp.gtr 3 (.tmp 24) (.const (.int .i64 0)) 3)]
def Yhd:List Oper:=Ydc
def Xyu:Code := .region 0 Yhd.toArray false
theorem Qdw:Q0 (E b) C D0 rd Xyu s K=Qac (E b) C rd Yhd K Ydc s:=rfl
abbrev Ycd:List Oper := [oP 26 (.move (.tmp 6)),
  oP 27 (.move (.tmp 0)),
  oP 28 (.call {callee := .builtin Go.Builtin.append,args := #[(.tmp 26),(.tmp 27)],argTypes := #[51,51]}),
  oP 6 (.assign (.tmp 28))]
def Yh3:List Oper:=Ycd
def Xzp:Code := .region 0 Yh3.toArray false
theorem Qdu:Q0 (E b) C D0 rd Xzp s K=Qac (E b) C rd Yh3 K Ycd s:=rfl
abbrev Ydn:List Oper := [oP 29 (.move (.tmp 6)),
  oP 30 (.call {callee := .builtin Go.Builtin.len,args := #[(.tmp 29)],argTypes := #[51]}),
  oP 31 (.binOp Go.BinOp.lss 3 (.tmp 30) (.const (.int .i64 64)) 3)]
def Yhl:List Oper:=Ydn
def Xzl:Code := .region 0 Yhl.toArray false
theorem Qde:Q0 (E b) C D0 rd Xzl s K=Qac (E b) C rd Yhl K Ydn s:=rfl
def Xqs:Code := .cond (.tmp 31) .skip (.exit 0)
theorem Qcy(h:aev (E b).G s.t (.tmp 31)=some (.bool true)):Q0 (E b) C D0 rd Xqs s K=Q0 (E b) C D0 rd .skip s K:=Qit h
theorem Qcz(h:aev (E b).G s.t (.tmp 31)=some (.bool false)):Q0 (E b) C D0 rd Xqs s K=Q0 (E b) C D0 rd (.exit 0) s K:=Qiv h
def X2b:Code := .seq Xzl Xqs
theorem Qdd:Q0 (E b) C D0 rd X2b s K=Q0 (E b) C D0 rd Xzl s (Yg (Vr (E b) C D0 rd Xqs K) K):=rfl
abbrev Yd5:List Oper := [oP 32 (.move (.tmp 6)),
  oP 33 (.buildSlice 51 1 #[(0,(.const (.int .u8 0)))]),
  oP 34 (.call {callee := .builtin Go.Builtin.append,args := #[(.tmp 32),(.tmp 33)],argTypes := #[51,51]}),
  oP 6 (.assign (.tmp 34))]
def Yfj:List Oper:=Yd5
def X2l:Code := .region 0 Yfj.toArray false
theorem Qex:Q0 (E b) C D0 rd X2l s K=Qac (E b) C rd Yfj K Yd5 s:=rfl
def X0k:Code := .block 1 X2l
theorem Qcu:Q0 (E b) C D0 rd X0k s K=Q0 (E b) C D0 rd X2l s (Ql8 1 K):=rfl
def Ygm:Code := .seq X2b X0k
theorem Qdr:Q0 (E b) C D0 rd Ygm s K=Q0 (E b) C D0 rd X2b s (Yg (Vr (E b) C D0 rd X0k K) K):=rfl
def Ygo:Code := .loop Ygm
def X0g:Code := .block 0 Ygo
theorem Qey:Q0 (E b) C D0 rd X0g s K=Q0 (E b) C D0 rd Ygo s (Ql8 0 K):=rfl
def X28:Code := .seq Xzp X0g
theorem Qeq:Q0 (E b) C D0 rd X28 s K=Q0 (E b) C D0 rd Xzp s (Yg (Vr (E b) C D0 rd X0g K) K):=rfl
def Xqk:Code := .cond (.tmp 25) X28 .skip
theorem Qdb(h:aev (E b).G s.t (.tmp 25)=some (.bool true)):Q0 (E b) C D0 rd Xqk s K=Q0 (E b) C D0 rd X28 s K:=Qit h
theorem Qe6(h:aev (E b).G s.t (.tmp 25)=some (.bool false)):Q0 (E b) C D0 rd Xqk s K=Q0 (E b) C D0 rd .skip s K:=Qiv h
def X24:Code := .seq Xyu Xqk
theorem Qdl:Q0 (E b) C D0 rd X24 s K=Q0 (E b) C D0 rd Xyu s (Yg (Vr (E b) C D0 rd Xqk K) K):=rfl
abbrev Yc5:List Oper := [oP 35 (.move (.tmp 6)),
  oP 36 (.move (.tmp 1)),
  oP 37 (.call {callee := .builtin Go.Builtin.append,args := #[(.tmp 35),(.tmp 36)],argTypes := #[51,51]}),
  oP 6 (.assign (.tmp 37))]
def Ygc:List Oper:=Yc5
def X26:Code := .region 0 Ygc.toArray false
theorem Qdx:Q0 (E b) C D0 rd X26 s K=Qac (E b) C rd Ygc K Yc5 s:=rfl
abbrev Ycn:List Oper := [oP 38 (.call {callee := .value (.func 68),args := #[],argTypes := #[]}),
  oP 7 (.assign (.tmp 38))]
def Yjp:List Oper:=Ycn
def X3o:Code := .region 0 Yjp.toArray false
theorem Qe0:Q0 (E b) C D0 rd X3o s K=Qac (E b) C rd Yjp K Ycn s:=rfl
abbrev Ydl:List Oper := [oP 39 (.move (.tmp 7)),
  oP 40 (.move (.tmp 7)),
  oP 41 (.indexAddr 109 (.tmp 40) (.const (.int .i64 0))),
  oP 42 (.load 90 (.tmp 41)),
  oP 43 (.binOp Go.BinOp.xor 90 (.tmp 42) (.const (.int .u32 16842784)) 90),
  oP 44 (.move (.tmp 0)),
  oP 45 (.call {callee := .builtin Go.Builtin.len,args := #[(.tmp 44)],argTypes := #[51]}),
  oP 46 (.binOp Go.BinOp.mul 3 (.const (.int .i64 256)) (.tmp 45) 3),
  oP 47 (.convert 3 90 (.tmp 46)),
  oP 48 (.binOp Go.BinOp.xor 90 (.tmp 43) (.tmp 47) 90),
  oP 49 (.indexAddr 109 (.tmp 39) (.const (.int .i64 0))),
  oN (.store 90 (.tmp 49) (.tmp 48))]
def Yhf:List Oper:=Ydl
def X1t:Code := .region 0 Yhf.toArray false
theorem Qeo:Q0 (E b) C D0 rd X1t s K=Qac (E b) C rd Yhf K Ydl s:=rfl
abbrev Yb6:List Oper := [oP 8 (.assign (.const (.int .i64 0)))]
def Yi2:List Oper:=Yb6
def X3w:Code := .region 0 Yi2.toArray false
theorem Qe2:Q0 (E b) C D0 rd X3w s K=Qac (E b) C rd Yi2 K Yb6 s:=rfl
abbrev Ycr:List Oper := [oP 50 (.move (.tmp 8)),
  oP 51 (.move (.tmp 6)),
  oP 52 (.call {callee := .builtin Go.Builtin.len,args := #[(.tmp 51)],argTypes := #[51]}),
  oP 53 (.binOp Go.BinOp.lss 3 (.tmp 50) (.tmp 52) 3),
  oP 54 (.move (.tmp 53)),
  oG 4 false 55 (.move (.tmp 8)),
  oG 4 false 56 (.binOp Go.BinOp.eql 3 (.tmp 55) (.const (.int .i64 0)) 3),
  oP 57 (.pick (.tmp 54) (.const (.bool true)) (.tmp 56))]
def X43:List Oper:=Ycr
def X3l:Code := .region 0 X43.toArray false
theorem Qd9:Q0 (E b) C D0 rd X3l s K=Qac (E b) C rd X43 K Ycr s:=rfl
theorem Qaw:nth X43 4=some ⟨(some 54), .move (.tmp 53),0,"",#[],none⟩:=rfl
def Xpx:Code := .cond (.tmp 57) .skip (.exit 2)
theorem Qet(h:aev (E b).G s.t (.tmp 57)=some (.bool true)):Q0 (E b) C D0 rd Xpx s K=Q0 (E b) C D0 rd .skip s K:=Qit h
theorem Qeb(h:aev (E b).G s.t (.tmp 57)=some (.bool false)):Q0 (E b) C D0 rd Xpx s K=Q0 (E b) C D0 rd (.exit 2) s K:=Qiv h
def X1j:Code := .seq X3l Xpx
theorem Qee:Q0 (E b) C D0 rd X1j s K=Q0 (E b) C D0 rd X3l s (Yg (Vr (E b) C D0 rd Xpx K) K):=rfl
abbrev Ybp:List Oper := [oP 60 (.move (.tmp 8)),
  oP 61 (.binOp Go.BinOp.add 3 (.tmp 60) (.const (.int .i64 64)) 3),
  oP 62 (.move (.tmp 6)),
  oP 63 (.call {callee := .builtin Go.Builtin.len,args := #[(.tmp 62)],argTypes := #[51]}),
  oP 64 (.call {callee := .builtin Go.Builtin.min,args := #[(.tmp 61),(.tmp 63)],argTypes := #[3,3]}),
  oP 9 (.assign (.tmp 64))]
def Yk8:List Oper:=Ybp
def X4c:Code := .region 0 Yk8.toArray false
theorem Qew:Q0 (E b) C D0 rd X4c s K=Qac (E b) C rd Yk8 K Ybp s:=rfl
abbrev Ybe:List Oper := [oP 10 (.assign (.const (.slice none 0 0)))]
def Yg2:List Oper:=Ybe
def Xz2:Code := .region 0 Yg2.toArray false
theorem Qcv:Q0 (E b) C D0 rd Xz2 s K=Qac (E b) C rd Yg2 K Ybe s:=rfl
abbrev Ybb:List Oper := [oP 65 (.move (.tmp 10)),
  oP 66 (.move (.tmp 6)),
  oP 67 (.move (.tmp 8)),
  oP 68 (.move (.tmp 9)),
  oP 69 (.slice 51 (.tmp 66) (some (.tmp 67)) (some (.tmp 68)) none),
  oP 70 (.call {callee := .builtin Go.Builtin.append,args := #[(.tmp 65),(.tmp 69)],argTypes := #[51,51]}),
  oP 10 (.assign (.tmp 70))]
def Yjg:List Oper:=Ybb
def X1r:Code := .region 0 Yjg.toArray false
theorem Qdn:Q0 (E b) C D0 rd X1r s K=Qac (E b) C rd Yjg K Ybb s:=rfl
abbrev Yb5:List Oper := [oP 71 (.move (.tmp 10)),
  oP 72 (.call {callee := .builtin Go.Builtin.len,args := #[(.tmp 71)],argTypes := #[51]}),
  oP 73 (.binOp Go.BinOp.lss 3 (.tmp 72) (.const (.int .i64 64)) 3)]
def Yf8:List Oper:=Yb5
def Xzv:Code := .region 0 Yf8.toArray false
theorem Qcx:Q0 (E b) C D0 rd Xzv s K=Qac (E b) C rd Yf8 K Yb5 s:=rfl
def Xpv:Code := .cond (.tmp 73) .skip (.exit 4)
theorem Qer(h:aev (E b).G s.t (.tmp 73)=some (.bool true)):Q0 (E b) C D0 rd Xpv s K=Q0 (E b) C D0 rd .skip s K:=Qit h
theorem Qem(h:aev (E b).G s.t (.tmp 73)=some (.bool false)):Q0 (E b) C D0 rd Xpv s K=Q0 (E b) C D0 rd (.exit 4) s K:=Qiv h
def X1o:Code := .seq Xzv Xpv
theorem Qdp:Q0 (E b) C D0 rd X1o s K=Q0 (E b) C D0 rd Xzv s (Yg (Vr (E b) C D0 rd Xpv K) K):=rfl
abbrev Ydd:List Oper := [oP 74 (.move (.tmp 10)),
  oP 75 (.buildSlice 51 1 #[(0,(.const (.int .u8 0)))]),
  oP 76 (.call {callee := .builtin Go.Builtin.append,args := #[(.tmp 74),(.tmp 75)],argTypes := #[51,51]}),
  oP 10 (.assign (.tmp 76))]
def Yfe:List Oper:=Ydd
def Xym:Code := .region 0 Yfe.toArray false
theorem Qek:Q0 (E b) C D0 rd Xym s K=Qac (E b) C rd Yfe K Ydd s:=rfl
def Xz3:Code := .block 5 Xym
theorem Qdj:Q0 (E b) C D0 rd Xz3 s K=Q0 (E b) C D0 rd Xym s (Ql8 5 K):=rfl
def Ygx:Code := .seq X1o Xz3
theorem Qes:Q0 (E b) C D0 rd Ygx s K=Q0 (E b) C D0 rd X1o s (Yg (Vr (E b) C D0 rd Xz3 K) K):=rfl
def Yin:Code := .loop Ygx
def Xz1:Code := .block 4 Yin
theorem Qcs:Q0 (E b) C D0 rd Xz1 s K=Q0 (E b) C D0 rd Yin s (Ql8 4 K):=rfl
abbrev Ydj:List Oper := [oP 77 (.move (.tmp 7)),
  oP 78 (.move (.tmp 10)),
  oP 79 (.move (.tmp 9)),
  oP 80 (.convert 3 93 (.tmp 79)),
  oP 81 (.move (.tmp 9)),
  oP 82 (.move (.tmp 6)),
  oP 83 (.call {callee := .builtin Go.Builtin.len,args := #[(.tmp 82)],argTypes := #[51]}),
  oP 84 (.binOp Go.BinOp.eql 3 (.tmp 81) (.tmp 83) 3),
  oP 85 (.call {callee := .value (.func 69),args := #[(.tmp 77),(.tmp 78),(.tmp 80),(.tmp 84)],argTypes := #[109,51,93,4]}),
  oP 7 (.assign (.tmp 85))]
def Yj3:List Oper:=Ydj
def X1v:Code := .region 0 Yj3.toArray false
theorem Qe1:Q0 (E b) C D0 rd X1v s K=Qac (E b) C rd Yj3 K Ydj s:=rfl
def X0y:Code := .seq Xz1 X1v
theorem Qe9:Q0 (E b) C D0 rd X0y s K=Q0 (E b) C D0 rd Xz1 s (Yg (Vr (E b) C D0 rd X1v K) K):=rfl
def X10:Code := .seq X1r X0y
theorem Qdf:Q0 (E b) C D0 rd X10 s K=Q0 (E b) C D0 rd X1r s (Yg (Vr (E b) C D0 rd X0y K) K):=rfl
def X0w:Code := .seq Xz2 X10
theorem Qel:Q0 (E b) C D0 rd X0w s K=Q0 (E b) C D0 rd Xz2 s (Yg (Vr (E b) C D0 rd X10 K) K):=rfl
def Xzd:Code := .seq X4c X0w
theorem Qe7:Q0 (E b) C D0 rd Xzd s K=Q0 (E b) C D0 rd X4c s (Yg (Vr (E b) C D0 rd X0w K) K):=rfl
def Xql:Code := .block 3 Xzd
theorem Wo:Q0 (E b) C D0 rd Xql s K=Q0 (E b) C D0 rd Xzd s (Ql8 3 K):=rfl
abbrev Ybw:List Oper := [oP 58 (.move (.tmp 8)),
  oP 59 (.binOp Go.BinOp.add 3 (.tmp 58) (.const (.int .i64 64)) 3),
  oP 8 (.assign (.tmp 59))]
def Yjj:List Oper:=Ybw
def Xzn:Code := .region 0 Yjj.toArray false
theorem Qdv:Q0 (E b) C D0 rd Xzn s K=Qac (E b) C rd Yjj K Ybw s:=rfl
def Xz5:Code := .seq Xql Xzn
theorem Qez:Q0 (E b) C D0 rd Xz5 s K=Q0 (E b) C D0 rd Xql s (Yg (Vr (E b) C D0 rd Xzn K) K):=rfl
def Yii:Code := .seq X1j Xz5
theorem Qd8:Q0 (E b) C D0 rd Yii s K=Q0 (E b) C D0 rd X1j s (Yg (Vr (E b) C D0 rd Xz5 K) K):=rfl
def Yh9:Code := .loop Yii
def X3i:Code := .block 2 Yh9
theorem Qdc:Q0 (E b) C D0 rd X3i s K=Q0 (E b) C D0 rd Yh9 s (Ql8 2 K):=rfl
def X03:Code := .seq X3w X3i
theorem Qd2:Q0 (E b) C D0 rd X03 s K=Q0 (E b) C D0 rd X3w s (Yg (Vr (E b) C D0 rd X3i K) K):=rfl
abbrev Yc6:List Oper := [oP 11 (.alloc 30)]
def Yg3:List Oper:=Yc6
def X0t:Code := .region 0 Yg3.toArray false
theorem Qeh:Q0 (E b) C D0 rd X0t s K=Qac (E b) C rd Yg3 K Yc6 s:=rfl
abbrev Yba:List Oper := [oP 12 (.assign (.const (.int .i64 0)))]
def Yj8:List Oper:=Yba
def X54:Code := .region 0 Yj8.toArray false
theorem Qej:Q0 (E b) C D0 rd X54 s K=Qac (E b) C rd Yj8 K Yba s:=rfl
abbrev Yd1:List Oper := [oP 86 (.move (.tmp 12)),
  oP 87 (.binOp Go.BinOp.lss 3 (.tmp 86) (.const (.int .i64 32)) 3)]
def Yf6:List Oper:=Yd1
def X0e:Code := .region 0 Yf6.toArray false
theorem Qcw:Q0 (E b) C D0 rd X0e s K=Qac (E b) C rd Yf6 K Yd1 s:=rfl
def Xp7:Code := .cond (.tmp 87) .skip (.exit 6)
theorem Qef(h:aev (E b).G s.t (.tmp 87)=some (.bool true)):Q0 (E b) C D0 rd Xp7 s K=Q0 (E b) C D0 rd .skip s K:=Qit h
theorem Qd3(h:aev (E b).G s.t (.tmp 87)=some (.bool false)):Q0 (E b) C D0 rd Xp7 s K=Q0 (E b) C D0 rd (.exit 6) s K:=Qiv h
def X42:Code := .seq X0e Xp7
theorem Qdz:Q0 (E b) C D0 rd X42 s K=Q0 (E b) C D0 rd X0e s (Yg (Vr (E b) C D0 rd Xp7 K) K):=rfl
abbrev Yc3:List Oper := [oP 90 (.move (.tmp 7)),
  oP 91 (.move (.tmp 12)),
  oP 92 (.binOp Go.BinOp.quo 3 (.tmp 91) (.const (.int .i64 4)) 3),
  oP 93 (.indexAddr 109 (.tmp 90) (.tmp 92)),
  oP 94 (.load 90 (.tmp 93)),
  oP 13 (.assign (.tmp 94))]
def Yfd:List Oper:=Yc3
def X1k:Code := .region 0 Yfd.toArray false
theorem Qep:Q0 (E b) C D0 rd X1k s K=Qac (E b) C rd Yfd K Yc3 s:=rfl
def Yhz:List Oper:=Xma
def Xyo:Code := .region 0 Yhz.toArray false
theorem Qds:Q0 (E b) C D0 rd Xyo s K=Qac (E b) C rd Yhz K Xma s:=rfl
abbrev Ycl:List Oper := [oP 95 (.move (.tmp 14)),
  oP 96 (.move (.tmp 12)),
  oP 97 (.binOp Go.BinOp.rem 3 (.tmp 96) (.const (.int .i64 4)) 3),
  oP 98 (.binOp Go.BinOp.lss 3 (.tmp 95) (.tmp 97) 3)]
def Yji:List Oper:=Ycl
def X1b:Code := .region 0 Yji.toArray false
theorem Qct:Q0 (E b) C D0 rd X1b s K=Qac (E b) C rd Yji K Ycl s:=rfl
def Xqr:Code := .cond (.tmp 98) .skip (.exit 8)
theorem Qd1(h:aev (E b).G s.t (.tmp 98)=some (.bool true)):Q0 (E b) C D0 rd Xqr s K=Q0 (E b) C D0 rd .skip s K:=Qit h
theorem Qdk(h:aev (E b).G s.t (.tmp 98)=some (.bool false)):Q0 (E b) C D0 rd Xqr s K=Q0 (E b) C D0 rd (.exit 8) s K:=Qiv h
def X1s:Code := .seq X1b Xqr
theorem Qdi:Q0 (E b) C D0 rd X1s s K=Q0 (E b) C D0 rd X1b s (Yg (Vr (E b) C D0 rd Xqr K) K):=rfl
abbrev Ycz:List Oper := [oP 101 (.move (.tmp 13)),
  oP 102 (.binOp Go.BinOp.quo 90 (.tmp 101) (.const (.int .u32 256)) 90),
  oP 13 (.assign (.tmp 102))]
def Yfn:List Oper:=Ycz
def X3y:Code := .region 0 Yfn.toArray false
theorem Qev:Q0 (E b) C D0 rd X3y s K=Qac (E b) C rd Yfn K Ycz s:=rfl
def Xzz:Code := .block 9 X3y
theorem Qdm:Q0 (E b) C D0 rd Xzz s K=Q0 (E b) C D0 rd X3y s (Ql8 9 K):=rfl
abbrev Ycc:List Oper := [oP 99 (.move (.tmp 14)),
  oP 100 (.binOp Go.BinOp.add 3 (.tmp 99) (.const (.int .i64 1)) 3),
  oP 14 (.assign (.tmp 100))]
def Yj6:List Oper:=Ycc
def X40:Code := .region 0 Yj6.toArray false
theorem Qe5:Q0 (E b) C D0 rd X40 s K=Qac (E b) C rd Yj6 K Ycc s:=rfl
def Xzs:Code := .seq Xzz X40
theorem Qeu:Q0 (E b) C D0 rd Xzs s K=Q0 (E b) C D0 rd Xzz s (Yg (Vr (E b) C D0 rd X40 K) K):=rfl
def Ye6:Code := .seq X1s Xzs
theorem Qec:Q0 (E b) C D0 rd Ye6 s K=Q0 (E b) C D0 rd X1s s (Yg (Vr (E b) C D0 rd Xzs K) K):=rfl
def Ygq:Code := .loop Ye6
def X4p:Code := .block 8 Ygq
theorem Qea:Q0 (E b) C D0 rd X4p s K=Q0 (E b) C D0 rd Ygq s (Ql8 8 K):=rfl
def X0i:Code := .seq Xyo X4p
theorem Qdo:Q0 (E b) C D0 rd X0i s K=Q0 (E b) C D0 rd Xyo s (Yg (Vr (E b) C D0 rd X4p K) K):=rfl
abbrev Yd6:List Oper := [oP 103 (.move (.tmp 12)),
  oP 104 (.move (.tmp 13)),
  oP 105 (.binOp Go.BinOp.rem 90 (.tmp 104) (.const (.int .u32 256)) 90),
  oP 106 (.convert 90 5 (.tmp 105)),
  oP 107 (.indexAddr 30 (.tmp 11) (.tmp 103)),
  oN (.store 5 (.tmp 107) (.tmp 106))]
def Yk9:List Oper:=Yd6
def X3d:Code := .region 0 Yk9.toArray false
theorem Qd5:Q0 (E b) C D0 rd X3d s K=Qac (E b) C rd Yk9 K Yd6 s:=rfl
def X1f:Code := .seq X0i X3d
theorem Qd6:Q0 (E b) C D0 rd X1f s K=Q0 (E b) C D0 rd X0i s (Yg (Vr (E b) C D0 rd X3d K) K):=rfl
def X3t:Code := .seq X1k X1f
theorem Qdt:Q0 (E b) C D0 rd X3t s K=Q0 (E b) C D0 rd X1k s (Yg (Vr (E b) C D0 rd X1f K) K):=rfl
def Xz7:Code := .block 7 X3t
theorem Qd0:Q0 (E b) C D0 rd Xz7 s K=Q0 (E b) C D0 rd X3t s (Ql8 7 K):=rfl
abbrev Yda:List Oper := [oP 88 (.move (.tmp 12)),
  oP 89 (.binOp Go.BinOp.add 3 (.tmp 88) (.const (.int .i64 1)) 3),
  oP 12 (.assign (.tmp 89))]
def Yie:List Oper:=Yda
def Xzw:Code := .region 0 Yie.toArray false
theorem Qei:Q0 (E b) C D0 rd Xzw s K=Qac (E b) C rd Yie K Yda s:=rfl
def X1h:Code := .seq Xz7 Xzw
theorem Qeg:Q0 (E b) C D0 rd X1h s K=Q0 (E b) C D0 rd Xz7 s (Yg (Vr (E b) C D0 rd Xzw K) K):=rfl
def Yiy:Code := .seq X42 X1h
theorem Qed:Q0 (E b) C D0 rd Yiy s K=Q0 (E b) C D0 rd X42 s (Yg (Vr (E b) C D0 rd X1h K) K):=rfl
def Yj5:Code := .loop Yiy
def X21:Code := .block 6 Yj5
theorem Qe4:Q0 (E b) C D0 rd X21 s K=Q0 (E b) C D0 rd Yj5 s (Ql8 6 K):=rfl
def Xyx:Code := .seq X54 X21
theorem Qe8:Q0 (E b) C D0 rd Xyx s K=Q0 (E b) C D0 rd X54 s (Yg (Vr (E b) C D0 rd X21 K) K):=rfl
abbrev Yci:List Oper := [oP 108 (.load 30 (.tmp 11)),
  oN (.store 30 (.tmp 4) (.tmp 108))]
def Yio:List Oper:=Yci
def X5d:Code := .region 0 Yio.toArray false
theorem Qd7:Q0 (E b) C D0 rd X5d s K=Qac (E b) C rd Yio K Yci s:=rfl
def X4u:Code := .seq X5d .ret
theorem Qe3:Q0 (E b) C D0 rd X4u s K=Q0 (E b) C D0 rd X5d s (Yg (Vr (E b) C D0 rd .ret K) K):=rfl
def Xzu:Code := .seq Xyx X4u
theorem Qdg:Q0 (E b) C D0 rd Xzu s K=Q0 (E b) C D0 rd Xyx s (Yg (Vr (E b) C D0 rd X4u K) K):=rfl
def Xpb:Code := .seq X0t Xzu
theorem Wp:Q0 (E b) C D0 rd Xpb s K=Q0 (E b) C D0 rd X0t s (Yg (Vr (E b) C D0 rd Xzu K) K):=rfl
def Xor:Code := .seq X03 Xpb
theorem Qcd:Q0 (E b) C D0 rd Xor s K=Q0 (E b) C D0 rd X03 s (Yg (Vr (E b) C D0 rd Xpb K) K):=rfl
def X0d:Code := .seq X1t Xor
theorem Qd4:Q0 (E b) C D0 rd X0d s K=Q0 (E b) C D0 rd X1t s (Yg (Vr (E b) C D0 rd Xor K) K):=rfl
def X1w:Code := .seq X3o X0d
theorem Qen:Q0 (E b) C D0 rd X1w s K=Q0 (E b) C D0 rd X3o s (Yg (Vr (E b) C D0 rd X0d K) K):=rfl
def Xqn:Code := .seq X26 X1w
theorem Qa9:Q0 (E b) C D0 rd Xqn s K=Q0 (E b) C D0 rd X26 s (Yg (Vr (E b) C D0 rd X1w K) K):=rfl
def X4m:Code := .seq X24 Xqn
theorem Qdy:Q0 (E b) C D0 rd X4m s K=Q0 (E b) C D0 rd X24 s (Yg (Vr (E b) C D0 rd Xqn K) K):=rfl
def X3c:Code := .seq X4i X4m
theorem Qda:Q0 (E b) C D0 rd X3c s K=Q0 (E b) C D0 rd X4i s (Yg (Vr (E b) C D0 rd X4m K) K):=rfl
def X8k:Code := .seq X6g X3c
theorem Qgj:Q0 (E b) C D0 rd X8k s K=Q0 (E b) C D0 rd X6g s (Yg (Vr (E b) C D0 rd X3c K) K):=rfl
def Ymc:Code := .seq X7n X8k
theorem Qgo:Q0 (E b) C D0 rd Ymc s K=Q0 (E b) C D0 rd X7n s (Yg (Vr (E b) C D0 rd X8k K) K):=rfl
def Qg4:Code:=Ymc
theorem Yyc:Quc (Qas 61)=Qg4:=by kernel_rfl
theorem Yuq:Q9i.body=some (Qas 61):=by kernel_rfl
theorem Y0n:Q9i.ntmps=109:=by kernel_rfl
theorem Qix:Q9i.results.toList = [.cell 4 30]:=by kernel_rfl
abbrev Ypy:List Oper := [oP 2 (.alloc 30)]
def Ytr:List Oper:=Ypy
def Yhs:Code := .region 0 Ytr.toArray false
theorem Ymw:Q0 (E b) C D0 rd Yhs s K=Qac (E b) C rd Ytr K Ypy s:=rfl
abbrev Yos:List Oper := [oP 3 (.move (.tmp 0)),
  oP 4 (.call {callee := .value (.func 61),args := #[(.const (.slice none 0 0)),(.tmp 3)],argTypes := #[51,51]}),
  oN (.store 30 (.tmp 2) (.tmp 4))]
def Yty:List Oper:=Yos
def Yhr:Code := .region 0 Yty.toArray false
theorem Ymb:Q0 (E b) C D0 rd Yhr s K=Qac (E b) C rd Yty K Yos s:=rfl
def Yju:Code := .seq Yhr .ret
theorem Ym7:Q0 (E b) C D0 rd Yju s K=Q0 (E b) C D0 rd Yhr s (Yg (Vr (E b) C D0 rd .ret K) K):=rfl
def Ytt:Code := .seq Yhs Yju
theorem Ym2:Q0 (E b) C D0 rd Ytt s K=Q0 (E b) C D0 rd Yhs s (Yg (Vr (E b) C D0 rd Yju K) K):=rfl
def X6j:Code:=Ytt
theorem Y2x:Quc (Qas 48)=X6j:=by kernel_rfl
theorem Yyj:Yar.body=some (Qas 48):=by kernel_rfl
theorem Y5b:Yar.ntmps=5:=by kernel_rfl
theorem Ytw:Yar.results.toList = [.cell 2 30]:=by kernel_rfl
end Go.Proofs.YtcokebbiblnonaaDoor
