/-
  Facts of the functions' code and of the types, printed by a program (ShD).
-/
import Derived.Test.YtcokebbiblnonaaDoorBlA
set_option linter.all false
noncomputable section
namespace Go.Proofs.YtcokebbiblnonaaDoor
open Go Go.Ab
set_option maxRecDepth 100000
variable{b:Nat}{C:CallP}{D0:CallF}{rd:Option Nat}(s:St)(K:Exit→St→Prop)
abbrev oP(d:Nat)(i:Op):Oper:=⟨some d,i,0,"",#[],none⟩
abbrev oG(j:Nat)(w:Bool)(d:Nat)(i:Op):Oper:=⟨some d,i,0,"",#[],some (j,w)⟩
abbrev oN(i:Op):Oper:=⟨none,i,0,"",#[],none⟩
noncomputable def X9y:Func:=(Tryd.prog.funcs[20]?).getD default
theorem Ql6(b:Nat):(mkE Tryd.prog nv b).fn.get 20=some X9y:=by kernel_rfl
noncomputable def R30:TyRec:=((mkE Tryd.prog nv 0).ty.get 30).getD ⟨.invalid,0,0, .bool false,[]⟩
theorem Zjz(b:Nat):(E b).toEnv.ty.get 30=some R30:=by kernel_rfl
theorem Zmp:Q2w R30.desc=true:=by kernel_rfl
theorem Y7e:R30.size=32:=by kernel_rfl
noncomputable def R5:TyRec:=((mkE Tryd.prog nv 0).ty.get 5).getD ⟨.invalid,0,0, .bool false,[]⟩
theorem Zkv(b:Nat):(E b).toEnv.ty.get 5=some R5:=by kernel_rfl
theorem Zon:Q2w R5.desc=false:=by kernel_rfl
theorem Q09:R5.size=1:=by kernel_rfl
theorem Xxv:R5.bytes=1:=by kernel_rfl
theorem Zbe:R5.zero=(.int .u8 0):=by kernel_rfl
theorem T30(b:Nat):ArTy (E b).toEnv 32 5 30 R5 R30:=⟨Zkv b,Zjz b,by kernel_rfl⟩
theorem Qn1(b:Nat)(h:Heap):Q10 (E b).toEnv 30 h=some (.pointer (some ⟨h.next,0,none⟩),h.push (.cells true 1 [(.int .u8 0),(.int .u8 0),(.int .u8 0),(.int .u8 0),(.int .u8 0),(.int .u8 0),(.int .u8 0),(.int .u8 0),(.int .u8 0),(.int .u8 0),(.int .u8 0),(.int .u8 0),(.int .u8 0),(.int .u8 0),(.int .u8 0),(.int .u8 0),(.int .u8 0),(.int .u8 0),(.int .u8 0),(.int .u8 0),(.int .u8 0),(.int .u8 0),(.int .u8 0),(.int .u8 0),(.int .u8 0),(.int .u8 0),(.int .u8 0),(.int .u8 0),(.int .u8 0),(.int .u8 0),(.int .u8 0),(.int .u8 0)])):=by kernel_rfl
noncomputable def Q99:Func:=(Tryd.prog.funcs[41]?).getD default
theorem Qom(b:Nat):(mkE Tryd.prog nv b).fn.get 41=some Q99:=by kernel_rfl
theorem Qn0(b:Nat)(h:Heap)(bk o:Nat)(l:List Value)(hl:l.length=32):Q8p (E b).toEnv 30 (.pointer (some ⟨bk,o,none⟩)) (.agg ⟨l⟩) h=Qtd h bk o l:=Y3k (Zjz b) (by rw[Y7e];exact hl)
theorem Xod(b:Nat)(a:Option Addr)(n c:Nat)(h:Heap):Yl8 (E b).toEnv 51 (.slice a n c) h=some (.int .i64 n):=by kernel_rfl
theorem Vc(x y:Int):Qsp (binOp .gtr 3 (.int .i64 x) (.int .i64 y))=some (.bool (decide (x > y))):=by kernel_rfl
noncomputable def R92:TyRec:=((mkE Tryd.prog nv 0).ty.get 92).getD ⟨.invalid,0,0, .bool false,[]⟩
theorem Zlz(b:Nat):(E b).toEnv.ty.get 92=some R92:=by kernel_rfl
theorem Zld:Q2w R92.desc=true:=by kernel_rfl
theorem Y80:R92.size=8:=by kernel_rfl
noncomputable def R90:TyRec:=((mkE Tryd.prog nv 0).ty.get 90).getD ⟨.invalid,0,0, .bool false,[]⟩
theorem Zic(b:Nat):(E b).toEnv.ty.get 90=some R90:=by kernel_rfl
theorem Zmc:Q2w R90.desc=false:=by kernel_rfl
theorem Q9x:R90.size=1:=by kernel_rfl
theorem T92(b:Nat):ArTy (E b).toEnv 8 90 92 R90 R92:=⟨Zic b,Zlz b,by kernel_rfl⟩
theorem Y1w(b:Nat)(h:Heap)(bk o:Nat):Xhb (E b).toEnv 92 (.pointer (some ⟨bk,o,none⟩)) h=Qte h bk o 8:=Y02 (Zlz b) Zld Y80
theorem Yw5(b:Nat)(h:Heap):Q10 (E b).toEnv 92 h=some (.pointer (some ⟨h.next,0,none⟩),h.push (.cells true 1 [(.int .u32 0),(.int .u32 0),(.int .u32 0),(.int .u32 0),(.int .u32 0),(.int .u32 0),(.int .u32 0),(.int .u32 0)])):=by kernel_rfl
theorem Yvx(b:Nat)(h:Heap)(bk o:Nat)(l:List Value)(hl:l.length=8):Q8p (E b).toEnv 92 (.pointer (some ⟨bk,o,none⟩)) (.agg ⟨l⟩) h=Qtd h bk o l:=Y3k (Zlz b) (by rw[Y80];exact hl)
theorem Yxh(b:Nat){bk o:Nat}{k:IntKind}{i:Int}(h:0≤i∧i < 8):Vo (E b).toEnv 92 (.pointer (some ⟨bk,o,none⟩)) (.int k i)=some (.pointer (some ⟨bk,o+i.toNat*1,none⟩)):=Y0k (T92 b) Q9x h
theorem Qok(b:Nat)(h:Heap)(bk o:Nat):Xhb (E b).toEnv 90 (.pointer (some ⟨bk,o,none⟩)) h=Qhe h bk o:=Yw4 (Zic b) Zmc
theorem Qtb(b:Nat):Xy2 (E b).toEnv 3 90=true:=by kernel_rfl
theorem Qp0(b:Nat)(k:IntKind)(n:Int):Xpd (E b).toEnv 3 90 (.int k n)=some (.int .u32 (IntKind.wrap .u32 n)):=by kernel_rfl
theorem Qgi(b:Nat)(h:Heap)(bk o:Nat)(k:IntKind)(z:Int):Q8p (E b).toEnv 90 (.pointer (some ⟨bk,o,none⟩)) (.int k z) h=Qtd h bk o [(.int k z)]:=Yzv (Zic b) Q9x rfl
theorem Yk(x y:Int):Qsp (binOp .add 3 (.int .i64 x) (.int .i64 y))=some (.int .i64 (IntKind.wrap .i64 (x+y))):=by kernel_rfl
noncomputable def R51:TyRec:=((mkE Tryd.prog nv 0).ty.get 51).getD ⟨.invalid,0,0, .bool false,[]⟩
theorem Zgl(b:Nat):(E b).toEnv.ty.get 51=some R51:=by kernel_rfl
theorem T51(b:Nat):SlTy (E b).toEnv 5 51 R5 R51:=⟨Zkv b,Zgl b,by kernel_rfl⟩
theorem Qh9(x y:Int):Qsp (binOp .sub 3 (.int .i64 x) (.int .i64 y))=some (.int .i64 (IntKind.wrap .i64 (x-y))):=by kernel_rfl
noncomputable def R3:TyRec:=((mkE Tryd.prog nv 0).ty.get 3).getD ⟨.invalid,0,0, .bool false,[]⟩
theorem Zij(b:Nat):(E b).toEnv.ty.get 3=some R3:=by kernel_rfl
theorem Zoa:Q2w R3.desc=false:=by kernel_rfl
theorem Xwt:R3.size=1:=by kernel_rfl
theorem Yxd(b:Nat)(h:Heap):Q10 (E b).toEnv 94 h=some (.pointer (some ⟨h.next,0,none⟩),h.push (.cells true 1 (List.replicate 64 (.int .u8 0)))):=by kernel_rfl
theorem Qt7(b:Nat):Xy2 (E b).toEnv 3 93=true:=by kernel_rfl
theorem Qtc(b:Nat)(k:IntKind)(n:Int):Xpd (E b).toEnv 3 93 (.int k n)=some (.int .u64 (IntKind.wrap .u64 n)):=by kernel_rfl
theorem Yah(x y:Int):Qsp (binOp .add 93 (.int .u64 x) (.int .u64 y))=some (.int .u64 (IntKind.wrap .u64 (x+y))):=by kernel_rfl
theorem Qf1(x y:Int):Qsp (binOp .eql 3 (.int .i64 x) (.int .i64 y))=some (.bool (decide (x=y))):=by kernel_rfl
noncomputable def Ypc:Func:=(Tryd.prog.funcs[50]?).getD default
theorem Qnw(b:Nat):(mkE Tryd.prog nv b).fn.get 50=some Ypc:=by kernel_rfl
theorem Yi(x y:Int):Qsp (binOp .lss 3 (.int .i64 x) (.int .i64 y))=some (.bool (decide (x < y))):=by kernel_rfl
theorem Qnz(x:Int):Qsp (binOp .quo 3 (.int .i64 x) (.int .i64 4))=some (.int .i64 (IntKind.wrap .i64 (Int.tdiv x 4))):=by kernel_rfl
theorem Qo0(x:Int):Qsp (binOp .rem 3 (.int .i64 x) (.int .i64 4))=some (.int .i64 (Int.tmod x 4)):=by kernel_rfl
theorem Qly(x y:Int):Qsp (binOp .mul 3 (.int .i64 x) (.int .i64 y))=some (.int .i64 (IntKind.wrap .i64 (x*y))):=by kernel_rfl
theorem Qt9(b:Nat):Xy2 (E b).toEnv 90 5=true:=by kernel_rfl
theorem Qta(b:Nat)(k:IntKind)(n:Int):Xpd (E b).toEnv 90 5 (.int k n)=some (.int .u8 (IntKind.wrap .u8 n)):=by kernel_rfl
theorem Xms(b:Nat){bk o:Nat}{k:IntKind}{i:Int}(h:0≤i∧i < 32):Vo (E b).toEnv 30 (.pointer (some ⟨bk,o,none⟩)) (.int k i)=some (.pointer (some ⟨bk,o+i.toNat*1,none⟩)):=Y0k (T30 b) Q09 h
theorem Q11(b:Nat)(h:Heap)(bk o:Nat)(k:IntKind)(z:Int):Q8p (E b).toEnv 5 (.pointer (some ⟨bk,o,none⟩)) (.int k z) h=Qtd h bk o [(.int k z)]:=Yzv (Zkv b) Q09 rfl
theorem Qjw(b:Nat)(h:Heap)(bk o:Nat):Xhb (E b).toEnv 30 (.pointer (some ⟨bk,o,none⟩)) h=Qte h bk o 32:=Y02 (Zjz b) Zmp Y7e
noncomputable def Xxt:Func:=(Tryd.prog.funcs[8]?).getD default
theorem Qje(b:Nat):(mkE Tryd.prog nv b).fn.get 8=some Xxt:=by kernel_rfl
noncomputable def R54:TyRec:=((mkE Tryd.prog nv 0).ty.get 54).getD ⟨.invalid,0,0, .bool false,[]⟩
theorem Zpd(b:Nat):(E b).toEnv.ty.get 54=some R54:=by kernel_rfl
theorem T54(b:Nat):ArTy (E b).toEnv 3 3 54 R3 R54:=⟨Zij b,Zpd b,by kernel_rfl⟩
noncomputable def Qwe:Func:=(Tryd.prog.funcs[23]?).getD default
theorem Qg(b:Nat):(mkE Tryd.prog nv b).fn.get 23=some Qwe:=by kernel_rfl
theorem Qdq(b bk o:Nat):Qjg (E b).toEnv 59 (.pointer (some ⟨bk,o,none⟩)) 1=some (.pointer (some ⟨bk,o+3,none⟩)):=by kernel_rfl
noncomputable def R57:TyRec:=((mkE Tryd.prog nv 0).ty.get 57).getD ⟨.invalid,0,0, .bool false,[]⟩
theorem Zbh(b:Nat):(E b).toEnv.ty.get 57=some R57:=by kernel_rfl
theorem Zk9:Q2w R57.desc=false:=by kernel_rfl
theorem Qo1(b:Nat)(h:Heap)(bk o:Nat):Xhb (E b).toEnv 57 (.pointer (some ⟨bk,o,none⟩)) h=Qhe h bk o:=Yw4 (Zbh b) Zk9
theorem Qb9(b bk o:Nat):Qjg (E b).toEnv 32 (.pointer (some ⟨bk,o,none⟩)) 1=some (.pointer (some ⟨bk,o+1,none⟩)):=by kernel_rfl
theorem Qis(b:Nat)(h:Heap)(bk o:Nat):Xhb (E b).toEnv 3 (.pointer (some ⟨bk,o,none⟩)) h=Qhe h bk o:=Yw4 (Zij b) Zoa
theorem Qh4(b bk o:Nat):Qjg (E b).toEnv 32 (.pointer (some ⟨bk,o,none⟩)) 0=some (.pointer (some ⟨bk,o+0,none⟩)):=by kernel_rfl
theorem Qad(x y:Int):Qsp (binOp .neq 3 (.int .i64 x) (.int .i64 y))=some (.bool (!(decide (x=y)))):=by kernel_rfl
theorem Qhd(b bk o:Nat):Qjg (E b).toEnv 32 (.pointer (some ⟨bk,o,none⟩)) 3=some (.pointer (some ⟨bk,o+3,none⟩)):=by kernel_rfl
theorem Qa3(b bk o:Nat):Qjg (E b).toEnv 32 (.pointer (some ⟨bk,o,none⟩)) 2=some (.pointer (some ⟨bk,o+2,none⟩)):=by kernel_rfl
theorem Qh8(b bk o:Nat):Qjg (E b).toEnv 59 (.pointer (some ⟨bk,o,none⟩)) 3=some (.pointer (some ⟨bk,o+5,none⟩)):=by kernel_rfl
theorem Qge(x y:Int):Qsp (binOp .geq 3 (.int .i64 x) (.int .i64 y))=some (.bool (decide (x ≥ y))):=by kernel_rfl
theorem Qgf(b bk o:Nat):Qjg (E b).toEnv 59 (.pointer (some ⟨bk,o,none⟩)) 0=some (.pointer (some ⟨bk,o+0,none⟩)):=by kernel_rfl
theorem Qn2(b:Nat){bk o:Nat}{k:IntKind}{i:Int}(h:0≤i∧i < 3):Vo (E b).toEnv 54 (.pointer (some ⟨bk,o,none⟩)) (.int k i)=some (.pointer (some ⟨bk,o+i.toNat*1,none⟩)):=Y0k (T54 b) Xwt h
noncomputable def R32:TyRec:=((mkE Tryd.prog nv 0).ty.get 32).getD ⟨.invalid,0,0, .bool false,[]⟩
theorem Zma(b:Nat):(E b).toEnv.ty.get 32=some R32:=by kernel_rfl
theorem Zls:Q2w R32.desc=true:=by kernel_rfl
theorem Ya1:R32.size=36:=by kernel_rfl
theorem Zc7:R32.bytes=64:=by kernel_rfl
theorem Qjb(b:Nat)(h:Heap)(bk o:Nat):Xhb (E b).toEnv 32 (.pointer (some ⟨bk,o,none⟩)) h=Qte h bk o 36:=Y02 (Zma b) Zls Ya1
theorem Qaa(b:Nat)(h:Heap)(bk o:Nat)(k:IntKind)(z:Int):Q8p (E b).toEnv 3 (.pointer (some ⟨bk,o,none⟩)) (.int k z) h=Qtd h bk o [(.int k z)]:=Yzv (Zij b) Xwt rfl
theorem Qh5(b bk o:Nat):Qjg (E b).toEnv 59 (.pointer (some ⟨bk,o,none⟩)) 2=some (.pointer (some ⟨bk,o+4,none⟩)):=by kernel_rfl
noncomputable def Qt0:Func:=(Tryd.prog.funcs[43]?).getD default
theorem Jz(b:Nat):(mkE Tryd.prog nv b).fn.get 43=some Qt0:=by kernel_rfl
theorem Qv8(b bk o:Nat):Qjg (E b).toEnv 66 (.pointer (some ⟨bk,o,none⟩)) 1=some (.pointer (some ⟨bk,o+36,none⟩)):=by kernel_rfl
noncomputable def R64:TyRec:=((mkE Tryd.prog nv 0).ty.get 64).getD ⟨.invalid,0,0, .bool false,[]⟩
theorem Zna(b:Nat):(E b).toEnv.ty.get 64=some R64:=by kernel_rfl
theorem Zm1:Q2w R64.desc=false:=by kernel_rfl
theorem Zgt:R64.size=1:=by kernel_rfl
theorem X6w(b:Nat)(h:Heap)(bk o:Nat)(k:IntKind)(z:Int):Q8p (E b).toEnv 64 (.pointer (some ⟨bk,o,none⟩)) (.int k z) h=Qtd h bk o [(.int k z)]:=Yzv (Zna b) Zgt rfl
theorem Qt8(b bk o:Nat):Qjg (E b).toEnv 66 (.pointer (some ⟨bk,o,none⟩)) 0=some (.pointer (some ⟨bk,o+0,none⟩)):=by kernel_rfl
theorem Q1c(x y:Int):Qsp (binOp .eql 64 (.int .i64 x) (.int .i64 y))=some (.bool (decide (x=y))):=by kernel_rfl
noncomputable def Qvy:Func:=(Tryd.prog.funcs[42]?).getD default
theorem Vf(b:Nat):(mkE Tryd.prog nv b).fn.get 42=some Qvy:=by kernel_rfl
theorem Xon(b:Nat)(q:Bool)(a:Option Addr):Qa5 (E b).toEnv .neq 63 q (.pointer a) (.pointer none)=some (.bool (!a.isNone)):=by cases a <;> kernel_rfl
theorem Yi4(b:Nat)(h:Heap)(bk o:Nat):Xhb (E b).toEnv 64 (.pointer (some ⟨bk,o,none⟩)) h=Qhe h bk o:=Yw4 (Zna b) Zm1
noncomputable def Qx2:Func:=(Tryd.prog.funcs[24]?).getD default
theorem Jh(b:Nat):(mkE Tryd.prog nv b).fn.get 24=some Qx2:=by kernel_rfl
theorem Xdn(b:Nat)(q:Bool)(a:Option Addr):Qa5 (E b).toEnv .eql 63 q (.pointer a) (.pointer none)=some (.bool (a.isNone)):=by cases a <;> kernel_rfl
theorem X6p(b bk o:Nat):Qjg (E b).toEnv 32 (.pointer (some ⟨bk,o,none⟩)) 4=some (.pointer (some ⟨bk,o+4,none⟩)):=by kernel_rfl
def L30:List Nat:=R30.leaf
theorem Qzp(b:Nat)(q:Bool)(x y:List Value):Qa5 (E b).toEnv .neq 30 q (.agg ⟨x⟩) (.agg ⟨y⟩)=(Ql7 L30 x y).map (fun z => .bool (!z)):=by kernel_rfl
theorem Xw7(b bk o:Nat):Qjg (E b).toEnv 66 (.pointer (some ⟨bk,o,none⟩)) 2=some (.pointer (some ⟨bk,o+37,none⟩)):=by kernel_rfl
noncomputable def Q0u:Func:=(Tryd.prog.funcs[25]?).getD default
theorem Jw(b:Nat):(mkE Tryd.prog nv b).fn.get 25=some Q0u:=by kernel_rfl
noncomputable def Qwq:Func:=(Tryd.prog.funcs[22]?).getD default
theorem V0(b:Nat):(mkE Tryd.prog nv b).fn.get 22=some Qwq:=by kernel_rfl
noncomputable def Qvk:Func:=(Tryd.prog.funcs[11]?).getD default
theorem Yh(b:Nat):(mkE Tryd.prog nv b).fn.get 11=some Qvk:=by kernel_rfl
theorem Xr5(b:Nat)(a:Option Addr)(n c:Nat)(h:Heap):Yl8 (E b).toEnv 35 (.slice a n c) h=some (.int .i64 n):=by kernel_rfl
noncomputable def R35:TyRec:=((mkE Tryd.prog nv 0).ty.get 35).getD ⟨.invalid,0,0, .bool false,[]⟩
theorem Zpn(b:Nat):(E b).toEnv.ty.get 35=some R35:=by kernel_rfl
theorem T35(b:Nat):SlTy (E b).toEnv 32 35 R32 R35:=⟨Zma b,Zpn b,by kernel_rfl⟩
theorem Xp1(b:Nat){bk o n c:Nat}{k:IntKind}{i:Int}(h:0≤i∧i < n):Vo (E b).toEnv 35 (.slice (some ⟨bk,o,none⟩) n c) (.int k i)=some (.pointer (some ⟨bk,o+i.toNat*36,none⟩)):=Qyu (T35 b) Ya1 h
theorem Q0y(b:Nat)(h:Heap):Q10 (E b).toEnv 32 h=some (.pointer (some ⟨h.next,0,none⟩),h.push (.cells true 1 [(.int .i64 0),(.int .i64 0),(.int .i64 0),(.int .i64 0),(.int .u8 0),(.int .u8 0),(.int .u8 0),(.int .u8 0),(.int .u8 0),(.int .u8 0),(.int .u8 0),(.int .u8 0),(.int .u8 0),(.int .u8 0),(.int .u8 0),(.int .u8 0),(.int .u8 0),(.int .u8 0),(.int .u8 0),(.int .u8 0),(.int .u8 0),(.int .u8 0),(.int .u8 0),(.int .u8 0),(.int .u8 0),(.int .u8 0),(.int .u8 0),(.int .u8 0),(.int .u8 0),(.int .u8 0),(.int .u8 0),(.int .u8 0),(.int .u8 0),(.int .u8 0),(.int .u8 0),(.int .u8 0)])):=by kernel_rfl
theorem Xk5(b:Nat)(h:Heap)(bk o:Nat)(l:List Value)(hl:l.length=36):Q8p (E b).toEnv 32 (.pointer (some ⟨bk,o,none⟩)) (.agg ⟨l⟩) h=Qtd h bk o l:=Y3k (Zma b) (by rw[Ya1];exact hl)
theorem X67(x y:Int):Qsp (binOp .leq 3 (.int .i64 x) (.int .i64 y))=some (.bool (decide (x≤y))):=by kernel_rfl
noncomputable def R53:TyRec:=((mkE Tryd.prog nv 0).ty.get 53).getD ⟨.invalid,0,0, .bool false,[]⟩
theorem Zme(b:Nat):(E b).toEnv.ty.get 53=some R53:=by kernel_rfl
theorem Zk7:Q2w R53.desc=false:=by kernel_rfl
theorem Y8l:R53.size=1:=by kernel_rfl
theorem T53(b:Nat):SlTy (E b).toEnv 3 53 R3 R53:=⟨Zij b,Zme b,by kernel_rfl⟩
noncomputable def Qvr:Func:=(Tryd.prog.funcs[13]?).getD default
theorem Jv(b:Nat):(mkE Tryd.prog nv b).fn.get 13=some Qvr:=by kernel_rfl
noncomputable def Q0j:Func:=(Tryd.prog.funcs[12]?).getD default
theorem Va(b:Nat):(mkE Tryd.prog nv b).fn.get 12=some Q0j:=by kernel_rfl
noncomputable def Xb6:Func:=(Tryd.prog.funcs[26]?).getD default
theorem Qh7(b:Nat):(mkE Tryd.prog nv b).fn.get 26=some Xb6:=by kernel_rfl
noncomputable def Q44:Func:=(Tryd.prog.funcs[18]?).getD default
theorem V5(b:Nat):(mkE Tryd.prog nv b).fn.get 18=some Q44:=by kernel_rfl
noncomputable def Qx1:Func:=(Tryd.prog.funcs[19]?).getD default
theorem Jy(b:Nat):(mkE Tryd.prog nv b).fn.get 19=some Qx1:=by kernel_rfl
abbrev Ypj:List Oper := [oP 2 (.alloc 30)]
def Yu9:List Oper:=Ypj
def Yg8:Code := .region 0 Yu9.toArray false
theorem Ym6:Q0 (E b) C D0 rd Yg8 s K=Qac (E b) C rd Yu9 K Ypj s:=rfl
abbrev Yq7:List Oper := [oP 3 (.move (.tmp 0)),
  oP 4 (.call {callee := .value (.func 41),args := #[(.const (.slice none 0 0)),(.tmp 3)],argTypes := #[51,51]}),
  oN (.store 30 (.tmp 2) (.tmp 4))]
def Ytq:List Oper:=Yq7
def Yje:Code := .region 0 Ytq.toArray false
theorem Ymt:Q0 (E b) C D0 rd Yje s K=Qac (E b) C rd Ytq K Yq7 s:=rfl
def Yia:Code := .seq Yje .ret
theorem Ymj:Q0 (E b) C D0 rd Yia s K=Q0 (E b) C D0 rd Yje s (Yg (Vr (E b) C D0 rd .ret K) K):=rfl
def Ytz:Code := .seq Yg8 Yia
theorem Yn7:Q0 (E b) C D0 rd Ytz s K=Q0 (E b) C D0 rd Yg8 s (Yg (Vr (E b) C D0 rd Yia K) K):=rfl
def X7i:Code:=Ytz
theorem Y41:Quc (Qas 20)=X7i:=by kernel_rfl
theorem Yya:X9y.body=some (Qas 20):=by kernel_rfl
theorem Y4q:X9y.ntmps=5:=by kernel_rfl
theorem Yu2:X9y.results.toList = [.cell 2 30]:=by kernel_rfl
abbrev Yig:List Oper := [oP 4 (.alloc 30)]
def Ylt:List Oper:=Yig
def X7b:Code := .region 0 Ylt.toArray false
theorem Qse:Q0 (E b) C D0 rd X7b s K=Qac (E b) C rd Ylt K Yig s:=rfl
abbrev Yi5:List Oper := [oP 13 (.move (.tmp 0)),
  oP 14 (.call {callee := .builtin Go.Builtin.len,args := #[(.tmp 13)],argTypes := #[51]}),
  oP 15 (.binOp Go.BinOp.gtr 3 (.tmp 14) (.const (.int .i64 32)) 3)]
def Ylx:List Oper:=Yi5
def X7e:Code := .region 0 Ylx.toArray false
theorem Qsd:Q0 (E b) C D0 rd X7e s K=Qac (E b) C rd Ylx K Yi5 s:=rfl
abbrev Yjd:List Oper := [oP 16 (.move (.tmp 0)),
  oP 17 (.call {callee := .value (.func 20),args := #[(.tmp 16)],argTypes := #[51]}),
  oP 5 (.alloc 30),
  oN (.store 30 (.tmp 5) (.tmp 17))]
def Ym8:List Oper:=Yjd
def X6v:Code := .region 0 Ym8.toArray false
theorem Qs8:Q0 (E b) C D0 rd X6v s K=Qac (E b) C rd Ym8 K Yjd s:=rfl
abbrev Yiu:List Oper := [oP 18 (.slice 30 (.tmp 5) none none none),
  oP 0 (.assign (.tmp 18))]
def Yma:List Oper:=Yiu
def X7k:Code := .region 0 Yma.toArray false
theorem Qsc:Q0 (E b) C D0 rd X7k s K=Qac (E b) C rd Yma K Yiu s:=rfl
def X8h:Code := .seq X6v X7k
theorem Qs6:Q0 (E b) C D0 rd X8h s K=Q0 (E b) C D0 rd X6v s (Yg (Vr (E b) C D0 rd X7k K) K):=rfl
def Xtl:Code := .cond (.tmp 15) X8h .skip
theorem Qsg(h:aev (E b).G s.t (.tmp 15)=some (.bool true)):Q0 (E b) C D0 rd Xtl s K=Q0 (E b) C D0 rd X8h s K:=Qit h
theorem Qsb(h:aev (E b).G s.t (.tmp 15)=some (.bool false)):Q0 (E b) C D0 rd Xtl s K=Q0 (E b) C D0 rd .skip s K:=Qiv h
def X80:Code := .seq X7e Xtl
theorem Qs9:Q0 (E b) C D0 rd X80 s K=Q0 (E b) C D0 rd X7e s (Yg (Vr (E b) C D0 rd Xtl K) K):=rfl
abbrev Yic:List Oper := [oP 19 (.load 92 (.global 0)),
  oP 6 (.alloc 92),
  oN (.store 92 (.tmp 6) (.tmp 19))]
def Yln:List Oper:=Yic
def X6h:Code := .region 0 Yln.toArray false
theorem Qsa:Q0 (E b) C D0 rd X6h s K=Qac (E b) C rd Yln K Yic s:=rfl
abbrev Yd7:List Oper := [oP 20 (.indexAddr 92 (.tmp 6) (.const (.int .i64 0))),
  oP 21 (.load 90 (.tmp 20)),
  oP 22 (.move (.tmp 0)),
  oP 23 (.call {callee := .builtin Go.Builtin.len,args := #[(.tmp 22)],argTypes := #[51]}),
  oP 24 (.convert 3 90 (.tmp 23)),
  oP 25 (.binOp Go.BinOp.shl 90 (.tmp 24) (.const (.int .u64 8)) 87),
  oP 26 (.binOp Go.BinOp.xor 90 (.const (.int .u32 16842752)) (.tmp 25) 90),
  oP 27 (.binOp Go.BinOp.xor 90 (.tmp 26) (.const (.int .u32 32)) 90),
  oP 28 (.binOp Go.BinOp.xor 90 (.tmp 21) (.tmp 27) 90),
  oP 29 (.indexAddr 92 (.tmp 6) (.const (.int .i64 0))),
  oN (.store 90 (.tmp 29) (.tmp 28))]
def Yi1:List Oper:=Yd7
def X30:Code := .region 0 Yi1.toArray false
theorem Qpk:Q0 (E b) C D0 rd X30 s K=Qac (E b) C rd Yi1 K Yd7 s:=rfl
abbrev Ybl:List Oper := [oP 30 (.move (.tmp 1)),
  oP 7 (.assign (.tmp 30))]
def Yf2:List Oper:=Ybl
def X0m:Code := .region 0 Yf2.toArray false
theorem Qop:Q0 (E b) C D0 rd X0m s K=Qac (E b) C rd Yf2 K Ybl s:=rfl
abbrev Ybm:List Oper := [oP 31 (.move (.tmp 0)),
  oP 32 (.call {callee := .builtin Go.Builtin.len,args := #[(.tmp 31)],argTypes := #[51]}),
  oP 33 (.binOp Go.BinOp.gtr 3 (.tmp 32) (.const (.int .i64 0)) 3)]
def Ygu:List Oper:=Ybm
def X1c:Code := .region 0 Ygu.toArray false
theorem Qq7:Q0 (E b) C D0 rd X1c s K=Qac (E b) C rd Ygu K Ybm s:=rfl
abbrev Ycu:List Oper := [oP 34 (.move (.tmp 1)),
  oP 35 (.call {callee := .builtin Go.Builtin.len,args := #[(.tmp 34)],argTypes := #[51]}),
  oP 36 (.binOp Go.BinOp.add 3 (.const (.int .i64 64)) (.tmp 35) 3),
  oP 37 (.makeSlice 51 (.const (.int .i64 0)) (.tmp 36)),
  oP 38 (.move (.tmp 0)),
  oP 39 (.call {callee := .builtin Go.Builtin.append,args := #[(.tmp 37),(.tmp 38)],argTypes := #[51,51]}),
  oP 40 (.move (.tmp 0)),
  oP 41 (.call {callee := .builtin Go.Builtin.len,args := #[(.tmp 40)],argTypes := #[51]}),
  oP 42 (.binOp Go.BinOp.sub 3 (.const (.int .i64 64)) (.tmp 41) 3),
  oP 43 (.call {callee := .builtin Go.Builtin.append,args := #[(.tmp 39),(.tmp 42)],argTypes := #[51,3]}),
  oP 44 (.move (.tmp 1)),
  oP 45 (.call {callee := .builtin Go.Builtin.append,args := #[(.tmp 43),(.tmp 44)],argTypes := #[51,51]}),
  oP 7 (.assign (.tmp 45))]
def Yjk:List Oper:=Ycu
def X1q:Code := .region 0 Yjk.toArray false
theorem Qpt:Q0 (E b) C D0 rd X1q s K=Qac (E b) C rd Yjk K Ycu s:=rfl
def Xqx:Code := .cond (.tmp 33) X1q .skip
theorem Qpg(h:aev (E b).G s.t (.tmp 33)=some (.bool true)):Q0 (E b) C D0 rd Xqx s K=Q0 (E b) C D0 rd X1q s K:=Qit h
theorem Qp4(h:aev (E b).G s.t (.tmp 33)=some (.bool false)):Q0 (E b) C D0 rd Xqx s K=Q0 (E b) C D0 rd .skip s K:=Qiv h
def X0x:Code := .seq X1c Xqx
theorem Qp6:Q0 (E b) C D0 rd X0x s K=Q0 (E b) C D0 rd X1c s (Yg (Vr (E b) C D0 rd Xqx K) K):=rfl
abbrev Yde:List Oper := [oP 8 (.assign (.const (.int .u64 0)))]
def Yjf:List Oper:=Yde
def X14:Code := .region 0 Yjf.toArray false
theorem Qq4:Q0 (E b) C D0 rd X14 s K=Qac (E b) C rd Yjf K Yde s:=rfl
abbrev Ycp:List Oper := [oP 9 (.alloc 94)]
def Yez:List Oper:=Ycp
def Xzx:Code := .region 0 Yez.toArray false
theorem Qqa:Q0 (E b) C D0 rd Xzx s K=Qac (E b) C rd Yez K Ycp s:=rfl
abbrev Ybd:List Oper := [oP 46 (.slice 94 (.tmp 9) none none none),
  oP 47 (.move (.tmp 7)),
  oP 48 (.call {callee := .builtin Go.Builtin.copy,args := #[(.tmp 46),(.tmp 47)],argTypes := #[51,51]}),
  oP 10 (.assign (.tmp 48))]
def Ygt:List Oper:=Ybd
def X2s:Code := .region 0 Ygt.toArray false
theorem Qpj:Q0 (E b) C D0 rd X2s s K=Qac (E b) C rd Ygt K Ybd s:=rfl
abbrev Yd8:List Oper := [oP 49 (.move (.tmp 7)),
  oP 50 (.move (.tmp 10)),
  oP 51 (.slice 51 (.tmp 49) (some (.tmp 50)) none none),
  oP 7 (.assign (.tmp 51))]
def Yiq:List Oper:=Yd8
def Xyh:Code := .region 0 Yiq.toArray false
theorem Qp1:Q0 (E b) C D0 rd Xyh s K=Qac (E b) C rd Yiq K Yd8 s:=rfl
abbrev Ybr:List Oper := [oP 52 (.move (.tmp 8)),
  oP 53 (.move (.tmp 10)),
  oP 54 (.convert 3 93 (.tmp 53)),
  oP 55 (.binOp Go.BinOp.add 93 (.tmp 52) (.tmp 54) 93),
  oP 8 (.assign (.tmp 55))]
def Yhp:List Oper:=Ybr
def X52:Code := .region 0 Yhp.toArray false
theorem Qpq:Q0 (E b) C D0 rd X52 s K=Qac (E b) C rd Yhp K Ybr s:=rfl
abbrev Yc0:List Oper := [oP 56 (.load 92 (.tmp 6)),
  oP 57 (.move (.tmp 8)),
  oP 58 (.move (.tmp 7)),
  oP 59 (.call {callee := .builtin Go.Builtin.len,args := #[(.tmp 58)],argTypes := #[51]}),
  oP 60 (.binOp Go.BinOp.eql 3 (.tmp 59) (.const (.int .i64 0)) 3),
  oP 61 (.call {callee := .value (.func 50),args := #[(.tmp 56),(.tmp 9),(.tmp 57),(.tmp 60)],argTypes := #[92,96,93,4]}),
  oN (.store 92 (.tmp 6) (.tmp 61))]
def Yg1:List Oper:=Yc0
def X04:Code := .region 0 Yg1.toArray false
theorem Qpw:Q0 (E b) C D0 rd X04 s K=Qac (E b) C rd Yg1 K Yc0 s:=rfl
abbrev Ybh:List Oper := [oP 62 (.move (.tmp 7)),
  oP 63 (.call {callee := .builtin Go.Builtin.len,args := #[(.tmp 62)],argTypes := #[51]}),
  oP 64 (.binOp Go.BinOp.eql 3 (.tmp 63) (.const (.int .i64 0)) 3)]
def Yfz:List Oper:=Ybh
def X3x:Code := .region 0 Yfz.toArray false
theorem Qpc:Q0 (E b) C D0 rd X3x s K=Qac (E b) C rd Yfz K Ybh s:=rfl
def Xqq:Code := .cond (.tmp 64) (.exit 0) .skip
theorem Qpv(h:aev (E b).G s.t (.tmp 64)=some (.bool true)):Q0 (E b) C D0 rd Xqq s K=Q0 (E b) C D0 rd (.exit 0) s K:=Qit h
theorem Qp5(h:aev (E b).G s.t (.tmp 64)=some (.bool false)):Q0 (E b) C D0 rd Xqq s K=Q0 (E b) C D0 rd .skip s K:=Qiv h
def X0f:Code := .seq X3x Xqq
theorem Qps:Q0 (E b) C D0 rd X0f s K=Q0 (E b) C D0 rd X3x s (Yg (Vr (E b) C D0 rd Xqq K) K):=rfl
def X3h:Code := .seq X04 X0f
theorem Qpo:Q0 (E b) C D0 rd X3h s K=Q0 (E b) C D0 rd X04 s (Yg (Vr (E b) C D0 rd X0f K) K):=rfl
def X2o:Code := .seq X52 X3h
theorem Qp9:Q0 (E b) C D0 rd X2o s K=Q0 (E b) C D0 rd X52 s (Yg (Vr (E b) C D0 rd X3h K) K):=rfl
def X5e:Code := .seq Xyh X2o
theorem Qq3:Q0 (E b) C D0 rd X5e s K=Q0 (E b) C D0 rd Xyh s (Yg (Vr (E b) C D0 rd X2o K) K):=rfl
def X19:Code := .seq X2s X5e
theorem Qpz:Q0 (E b) C D0 rd X19 s K=Q0 (E b) C D0 rd X2s s (Yg (Vr (E b) C D0 rd X5e K) K):=rfl
def X00:Code := .seq Xzx X19
theorem Qph:Q0 (E b) C D0 rd X00 s K=Q0 (E b) C D0 rd Xzx s (Yg (Vr (E b) C D0 rd X19 K) K):=rfl
def Yex:Code := .block 1 X00
theorem Qov:Q0 (E b) C D0 rd Yex s K=Q0 (E b) C D0 rd X00 s (Ql8 1 K):=rfl
def Yk5:Code := .loop Yex
def Xyq:Code := .block 0 Yk5
theorem Qo2:Q0 (E b) C D0 rd Xyq s K=Q0 (E b) C D0 rd Yk5 s (Ql8 0 K):=rfl
abbrev Yco:List Oper := [oP 11 (.alloc 30)]
def Ygd:List Oper:=Yco
def X1z:Code := .region 0 Ygd.toArray false
theorem Qpa:Q0 (E b) C D0 rd X1z s K=Qac (E b) C rd Ygd K Yco s:=rfl
abbrev Yd2:List Oper := [oP 65 (.move (.const (.int .i64 0)))]
def Yj2:List Oper:=Yd2
def X3k:Code := .region 0 Yj2.toArray false
theorem Qpx:Q0 (E b) C D0 rd X3k s K=Qac (E b) C rd Yj2 K Yd2 s:=rfl
abbrev Yc9:List Oper := [oP 66 (.binOp Go.BinOp.lss 3 (.tmp 65) (.const (.int .i64 32)) 3)]
def Ygw:List Oper:=Yc9
def X01:Code := .region 0 Ygw.toArray false
theorem Qpi:Q0 (E b) C D0 rd X01 s K=Qac (E b) C rd Ygw K Yc9 s:=rfl
def Xof:Code := .cond (.tmp 66) .skip (.exit 2)
theorem Qq2(h:aev (E b).G s.t (.tmp 66)=some (.bool true)):Q0 (E b) C D0 rd Xof s K=Q0 (E b) C D0 rd .skip s K:=Qit h
theorem Qpf(h:aev (E b).G s.t (.tmp 66)=some (.bool false)):Q0 (E b) C D0 rd Xof s K=Q0 (E b) C D0 rd (.exit 2) s K:=Qiv h
abbrev Yc4:List Oper := [oP 67 (.move (.tmp 65)),
  oP 12 (.assign (.tmp 67))]
def Yh1:List Oper:=Yc4
def X5f:Code := .region 0 Yh1.toArray false
theorem Qpr:Q0 (E b) C D0 rd X5f s K=Qac (E b) C rd Yh1 K Yc4 s:=rfl
abbrev Yc2:List Oper := [oP 68 (.move (.tmp 12)),
  oP 69 (.move (.tmp 12)),
  oP 70 (.binOp Go.BinOp.quo 3 (.tmp 69) (.const (.int .i64 4)) 3),
  oP 71 (.indexAddr 92 (.tmp 6) (.tmp 70)),
  oP 72 (.load 90 (.tmp 71)),
  oP 73 (.move (.tmp 12)),
  oP 74 (.binOp Go.BinOp.rem 3 (.tmp 73) (.const (.int .i64 4)) 3),
  oP 75 (.binOp Go.BinOp.mul 3 (.const (.int .i64 8)) (.tmp 74) 3),
  oP 76 (.binOp Go.BinOp.shr 90 (.tmp 72) (.tmp 75) 3),
  oP 77 (.convert 90 5 (.tmp 76)),
  oP 78 (.indexAddr 30 (.tmp 11) (.tmp 68)),
  oN (.store 5 (.tmp 78) (.tmp 77))]
def Yf3:List Oper:=Yc2
def X2w:Code := .region 0 Yf3.toArray false
theorem Qpe:Q0 (E b) C D0 rd X2w s K=Qac (E b) C rd Yf3 K Yc2 s:=rfl
def X32:Code := .seq X5f X2w
theorem Qow:Q0 (E b) C D0 rd X32 s K=Q0 (E b) C D0 rd X5f s (Yg (Vr (E b) C D0 rd X2w K) K):=rfl
def X4v:Code := .block 3 X32
theorem Qq0:Q0 (E b) C D0 rd X4v s K=Q0 (E b) C D0 rd X32 s (Ql8 3 K):=rfl
abbrev Yb8:List Oper := [oP 79 (.binOp Go.BinOp.add 3 (.tmp 65) (.const (.int .i64 1)) 3),
  oP 65 (.move (.tmp 79))]
def Yi3:List Oper:=Yb8
def Xzm:Code := .region 0 Yi3.toArray false
theorem Qpu:Q0 (E b) C D0 rd Xzm s K=Qac (E b) C rd Yi3 K Yb8 s:=rfl
def X3b:Code := .seq X4v Xzm
theorem Qpb:Q0 (E b) C D0 rd X3b s K=Q0 (E b) C D0 rd X4v s (Yg (Vr (E b) C D0 rd Xzm K) K):=rfl
def X3p:Code := .seq Xof X3b
theorem Qot:Q0 (E b) C D0 rd X3p s K=Q0 (E b) C D0 rd Xof s (Yg (Vr (E b) C D0 rd X3b K) K):=rfl
def Yew:Code := .seq X01 X3p
theorem Qpy:Q0 (E b) C D0 rd Yew s K=Q0 (E b) C D0 rd X01 s (Yg (Vr (E b) C D0 rd X3p K) K):=rfl
def Ygj:Code := .loop Yew
def X46:Code := .block 2 Ygj
theorem Qpp:Q0 (E b) C D0 rd X46 s K=Q0 (E b) C D0 rd Ygj s (Ql8 2 K):=rfl
def Xyw:Code := .seq X3k X46
theorem Qos:Q0 (E b) C D0 rd Xyw s K=Q0 (E b) C D0 rd X3k s (Yg (Vr (E b) C D0 rd X46 K) K):=rfl
abbrev Ybo:List Oper := [oP 80 (.load 30 (.tmp 11)),
  oN (.store 30 (.tmp 4) (.tmp 80))]
def Yel:List Oper:=Ybo
def X5b:Code := .region 0 Yel.toArray false
theorem Qq6:Q0 (E b) C D0 rd X5b s K=Qac (E b) C rd Yel K Ybo s:=rfl
def X15:Code := .seq X5b .ret
theorem Qq1:Q0 (E b) C D0 rd X15 s K=Q0 (E b) C D0 rd X5b s (Yg (Vr (E b) C D0 rd .ret K) K):=rfl
def X4o:Code := .seq Xyw X15
theorem Qox:Q0 (E b) C D0 rd X4o s K=Q0 (E b) C D0 rd Xyw s (Yg (Vr (E b) C D0 rd X15 K) K):=rfl
def Xq2:Code := .seq X1z X4o
theorem Qor:Q0 (E b) C D0 rd Xq2 s K=Q0 (E b) C D0 rd X1z s (Yg (Vr (E b) C D0 rd X4o K) K):=rfl
def Xee:Code := .seq Xyq Xq2
theorem Qlm:Q0 (E b) C D0 rd Xee s K=Q0 (E b) C D0 rd Xyq s (Yg (Vr (E b) C D0 rd Xq2 K) K):=rfl
def Xzh:Code := .seq X14 Xee
theorem Qou:Q0 (E b) C D0 rd Xzh s K=Q0 (E b) C D0 rd X14 s (Yg (Vr (E b) C D0 rd Xee K) K):=rfl
def X1m:Code := .seq X0x Xzh
theorem Qoz:Q0 (E b) C D0 rd X1m s K=Q0 (E b) C D0 rd X0x s (Yg (Vr (E b) C D0 rd Xzh K) K):=rfl
def X3e:Code := .seq X0m X1m
theorem Qoq:Q0 (E b) C D0 rd X3e s K=Q0 (E b) C D0 rd X0m s (Yg (Vr (E b) C D0 rd X1m K) K):=rfl
def X48:Code := .seq X30 X3e
theorem Qp2:Q0 (E b) C D0 rd X48 s K=Q0 (E b) C D0 rd X30 s (Yg (Vr (E b) C D0 rd X3e K) K):=rfl
def X2d:Code := .seq X6h X48
theorem Qp3:Q0 (E b) C D0 rd X2d s K=Q0 (E b) C D0 rd X6h s (Yg (Vr (E b) C D0 rd X48 K) K):=rfl
def X84:Code := .seq X80 X2d
theorem Qsh:Q0 (E b) C D0 rd X84 s K=Q0 (E b) C D0 rd X80 s (Yg (Vr (E b) C D0 rd X2d K) K):=rfl
def Ylo:Code := .seq X7b X84
theorem Qs7:Q0 (E b) C D0 rd Ylo s K=Q0 (E b) C D0 rd X7b s (Yg (Vr (E b) C D0 rd X84 K) K):=rfl
def Qon:Code:=Ylo
theorem Yyu:Quc (Qas 41)=Qon:=by kernel_rfl
theorem Yuk:Q99.body=some (Qas 41):=by kernel_rfl
theorem Y0z:Q99.ntmps=81:=by kernel_rfl
theorem Qvi:Q99.results.toList = [.cell 4 30]:=by kernel_rfl
abbrev Yg9:List Oper := [oP 4 (.assign (.const (.pointer none))),
  oP 5 (.assign (.const (.int .i64 0)))]
def Ylu:List Oper:=Yg9
def X6l:Code := .region 0 Ylu.toArray false
theorem Xbg:Q0 (E b) C D0 rd X6l s K=Qac (E b) C rd Ylu K Yg9 s:=rfl
abbrev Yjz:List Oper := [oP 6 (.move (.tmp 0)),
  oP 7 (.binOp Go.BinOp.lss 3 (.tmp 6) (.const (.int .i64 0)) 3),
  oP 8 (.move (.tmp 7)),
  oG 2 false 9 (.move (.tmp 1)),
  oG 2 false 10 (.binOp Go.BinOp.lss 3 (.tmp 9) (.const (.int .i64 0)) 3),
  oP 11 (.pick (.tmp 8) (.const (.bool true)) (.tmp 10)),
  oP 12 (.move (.tmp 11)),
  oG 6 false 13 (.move (.tmp 0)),
  oG 6 false 14 (.binOp Go.BinOp.gtr 3 (.tmp 13) (.const (.int .i64 1125899906842624)) 3),
  oP 15 (.pick (.tmp 12) (.const (.bool true)) (.tmp 14)),
  oP 16 (.move (.tmp 15)),
  oG 10 false 17 (.move (.tmp 1)),
  oG 10 false 18 (.move (.tmp 0)),
  oG 10 false 19 (.binOp Go.BinOp.sub 3 (.const (.int .i64 1125899906842624)) (.tmp 18) 3),
  oG 10 false 20 (.binOp Go.BinOp.gtr 3 (.tmp 17) (.tmp 19) 3),
  oP 21 (.pick (.tmp 16) (.const (.bool true)) (.tmp 20))]
def Xl3:List Oper:=Yjz
def X86:Code := .region 0 Xl3.toArray false
theorem Xbe:Q0 (E b) C D0 rd X86 s K=Qac (E b) C rd Xl3 K Yjz s:=rfl
theorem Q7o:nth Xl3 2=some ⟨(some 8), .move (.tmp 7),0,"",#[],none⟩:=rfl
theorem Q77:nth Xl3 6=some ⟨(some 12), .move (.tmp 11),0,"",#[],none⟩:=rfl
theorem Q37:nth Xl3 10=some ⟨(some 16), .move (.tmp 15),0,"",#[],none⟩:=rfl
abbrev Yja:List Oper := [oP 4 (.assign (.const (.pointer none))),
  oP 5 (.assign (.const (.int .i64 15)))]
def Ylh:List Oper:=Yja
def X7h:Code := .region 0 Ylh.toArray false
theorem Xbc:Q0 (E b) C D0 rd X7h s K=Qac (E b) C rd Ylh K Yja s:=rfl
def X7a:Code := .seq X7h .ret
theorem Xbf:Q0 (E b) C D0 rd X7a s K=Q0 (E b) C D0 rd X7h s (Yg (Vr (E b) C D0 rd .ret K) K):=rfl
def Xtw:Code := .cond (.tmp 21) X7a .skip
theorem Xb4(h:aev (E b).G s.t (.tmp 21)=some (.bool true)):Q0 (E b) C D0 rd Xtw s K=Q0 (E b) C D0 rd X7a s K:=Qit h
theorem Xbj(h:aev (E b).G s.t (.tmp 21)=some (.bool false)):Q0 (E b) C D0 rd Xtw s K=Q0 (E b) C D0 rd .skip s K:=Qiv h
def X72:Code := .seq X86 Xtw
theorem Xaz:Q0 (E b) C D0 rd X72 s K=Q0 (E b) C D0 rd X86 s (Yg (Vr (E b) C D0 rd Xtw K) K):=rfl
abbrev Yjn:List Oper := [oP 22 (.move (.tmp 0)),
  oP 23 (.move (.tmp 1)),
  oP 24 (.build 54 #[(0,(.const (.int .i64 0))),(1,(.tmp 22)),(2,(.tmp 23))]),
  oP 25 (.makeMap 57 none),
  oP 26 (.build 59 #[(0,(.tmp 24)),(1,(.tmp 25))]),
  oP 27 (.box 59 (.tmp 26)),
  oP 4 (.assign (.tmp 27)),
  oP 5 (.assign (.const (.int .i64 0)))]
def Ym3:List Oper:=Yjn
def X6b:Code := .region 0 Ym3.toArray false
theorem Xb5:Q0 (E b) C D0 rd X6b s K=Qac (E b) C rd Ym3 K Yjn s:=rfl
def X7w:Code := .seq X6b .ret
theorem Xbd:Q0 (E b) C D0 rd X7w s K=Q0 (E b) C D0 rd X6b s (Yg (Vr (E b) C D0 rd .ret K) K):=rfl
def X82:Code := .seq X72 X7w
theorem Xay:Q0 (E b) C D0 rd X82 s K=Q0 (E b) C D0 rd X72 s (Yg (Vr (E b) C D0 rd X7w K) K):=rfl
def Ym0:Code := .seq X6l X82
theorem Xbb:Q0 (E b) C D0 rd Ym0 s K=Q0 (E b) C D0 rd X6l s (Yg (Vr (E b) C D0 rd X82 K) K):=rfl
def Q2q:Code:=Ym0
theorem Yyl:Quc (Qas 8)=Q2q:=by kernel_rfl
theorem Yus:Xxt.body=some (Qas 8):=by kernel_rfl
theorem Y1s:Xxt.ntmps=28:=by kernel_rfl
theorem Xkh:Xxt.results.toList = [.tmp 4, .tmp 5]:=by kernel_rfl
abbrev Xpn:List Oper := [oP 3 (.box 32 (.tmp 1)),
  oP 4 (.assign (.const (.int .i64 0)))]
def Xsh:List Oper:=Xpn
def Xc7:Code := .region 0 Xsh.toArray false
theorem Xy:Q0 (E b) C D0 rd Xc7 s K=Qac (E b) C rd Xsh K Xpn s:=rfl
noncomputable def Qr1:Array Oper:=Xr7 (Xr6 1 (Qas 23))
def Xs3:Code := .region 1 Qr1 true
abbrev Q6p:List Oper := [oP 8 (.move (.tmp 0)),
  oP 9 (.nilCheck (.tmp 8)),
  oP 10 (.fieldAddr 59 (.tmp 9) 1),
  oP 11 (.load 57 (.tmp 10)),
  oP 12 (.fieldAddr 32 (.tmp 3) 1),
  oP 13 (.load 3 (.tmp 12)),
  oP 14 (.lookup 57 (.tmp 11) (.tmp 13) true),
  oP 7 (.move (.tmp 14)),
  oP 15 (.extract (.tmp 7) 0),
  oP 16 (.extract (.tmp 7) 1),
  oP 5 (.assign (.tmp 15)),
  oP 6 (.assign (.tmp 16))]
def Qyg:List Oper:=Q6p
theorem Xyz:Qr1.toList.map bare=Q6p:=by kernel_rfl
theorem Xds:Qr1.toList.map bare=Qyg:=Xyz
def Qod:List Nat := [0,1,3,7,0,16,63,127,255,255,511,2047]
theorem Xh7:Xul Qr1.toList []=some Qod:=by kernel_rfl
theorem Xdi:Qlj Qr1.toList Qr1.toList Qod []=true:=by kernel_rfl
theorem Xiq(b:Nat)(L:List KE)(s:St):Ab.runT (E b) L Qyg Qod Qyg 0 s=Ab.runT (E b) L Qyg Qod Q6p 0 s:=rfl
abbrev Xpo:List Oper := [oP 18 (.fieldAddr 32 (.tmp 3) 0),
  oP 19 (.load 3 (.tmp 18)),
  oP 20 (.binOp Go.BinOp.neq 3 (.tmp 19) (.const (.int .i64 1)) 3),
  oP 21 (.move (.tmp 20)),
  oG 3 true 22 (.fieldAddr 32 (.tmp 3) 0),
  oG 3 true 23 (.load 3 (.tmp 22)),
  oG 3 true 24 (.binOp Go.BinOp.neq 3 (.tmp 23) (.const (.int .i64 2)) 3),
  oP 25 (.pick (.tmp 21) (.tmp 24) (.const (.bool false))),
  oP 17 (.assign (.tmp 25))]
def Xc4:List Oper:=Xpo
def Xcv:Code := .region 0 Xc4.toArray false
theorem Y5:Q0 (E b) C D0 rd Xcv s K=Qac (E b) C rd Xc4 K Xpo s:=rfl
theorem Xu:nth Xc4 3=some ⟨(some 21), .move (.tmp 20),0,"",#[],none⟩:=rfl
abbrev Xqp:List Oper := [oP 26 (.fieldAddr 32 (.tmp 3) 1),
  oP 27 (.load 3 (.tmp 26)),
  oP 28 (.binOp Go.BinOp.lss 3 (.tmp 27) (.const (.int .i64 1)) 3),
  oP 29 (.move (.tmp 28)),
  oG 3 false 30 (.fieldAddr 32 (.tmp 3) 1),
  oG 3 false 31 (.load 3 (.tmp 30)),
  oG 3 false 32 (.binOp Go.BinOp.gtr 3 (.tmp 31) (.const (.int .i64 1073741824)) 3),
  oP 33 (.pick (.tmp 29) (.const (.bool true)) (.tmp 32)),
  oP 17 (.assign (.tmp 33))]
def Xca:List Oper:=Xqp
def Xcc:Code := .region 0 Xca.toArray false
theorem Y8:Q0 (E b) C D0 rd Xcc s K=Qac (E b) C rd Xca K Xqp s:=rfl
theorem Xt:nth Xca 3=some ⟨(some 29), .move (.tmp 28),0,"",#[],none⟩:=rfl
abbrev Xqa:List Oper := [oP 34 (.fieldAddr 32 (.tmp 3) 3),
  oP 35 (.load 3 (.tmp 34)),
  oP 36 (.binOp Go.BinOp.lss 3 (.tmp 35) (.const (.int .i64 0)) 3),
  oP 37 (.move (.tmp 36)),
  oG 3 false 38 (.fieldAddr 32 (.tmp 3) 3),
  oG 3 false 39 (.load 3 (.tmp 38)),
  oG 3 false 40 (.binOp Go.BinOp.gtr 3 (.tmp 39) (.const (.int .i64 1073741824)) 3),
  oP 41 (.pick (.tmp 37) (.const (.bool true)) (.tmp 40)),
  oP 17 (.assign (.tmp 41))]
def Xd2:List Oper:=Xqa
def Xcy:Code := .region 0 Xd2.toArray false
theorem Y7:Q0 (E b) C D0 rd Xcy s K=Qac (E b) C rd Xd2 K Xqa s:=rfl
theorem Xr:nth Xd2 3=some ⟨(some 37), .move (.tmp 36),0,"",#[],none⟩:=rfl
def Q0l:Code := .cond (.tmp 17) .skip Xcy
theorem Y2(h:aev (E b).G s.t (.tmp 17)=some (.bool true)):Q0 (E b) C D0 rd Q0l s K=Q0 (E b) C D0 rd .skip s K:=Qit h
theorem Y1(h:aev (E b).G s.t (.tmp 17)=some (.bool false)):Q0 (E b) C D0 rd Q0l s K=Q0 (E b) C D0 rd Xcy s K:=Qiv h
def Xct:Code := .seq Xcc Q0l
theorem Y3:Q0 (E b) C D0 rd Xct s K=Q0 (E b) C D0 rd Xcc s (Yg (Vr (E b) C D0 rd Q0l K) K):=rfl
def Q0o:Code := .cond (.tmp 17) .skip Xct
theorem Y9(h:aev (E b).G s.t (.tmp 17)=some (.bool true)):Q0 (E b) C D0 rd Q0o s K=Q0 (E b) C D0 rd .skip s K:=Qit h
theorem Y4(h:aev (E b).G s.t (.tmp 17)=some (.bool false)):Q0 (E b) C D0 rd Q0o s K=Q0 (E b) C D0 rd Xct s K:=Qiv h
def Xd5:Code := .seq Xcv Q0o
theorem Y0:Q0 (E b) C D0 rd Xd5 s K=Q0 (E b) C D0 rd Xcv s (Yg (Vr (E b) C D0 rd Q0o K) K):=rfl
abbrev Xmx:List Oper := [oP 4 (.assign (.const (.int .i64 1)))]
def Xps:List Oper:=Xmx
def Xar:Code := .region 0 Xps.toArray false
theorem X1:Q0 (E b) C D0 rd Xar s K=Qac (E b) C rd Xps K Xmx s:=rfl
def Xa4:Code := .seq Xar .ret
theorem Xm:Q0 (E b) C D0 rd Xa4 s K=Q0 (E b) C D0 rd Xar s (Yg (Vr (E b) C D0 rd .ret K) K):=rfl
abbrev Xnz:List Oper := [oP 43 (.fieldAddr 32 (.tmp 3) 2),
  oP 44 (.load 3 (.tmp 43)),
  oP 45 (.binOp Go.BinOp.lss 3 (.tmp 44) (.const (.int .i64 1)) 3),
  oP 46 (.move (.tmp 45)),
  oG 3 false 47 (.fieldAddr 32 (.tmp 3) 2),
  oG 3 false 48 (.load 3 (.tmp 47)),
  oG 3 false 49 (.binOp Go.BinOp.gtr 3 (.tmp 48) (.const (.int .i64 1125899906842624)) 3),
  oP 50 (.pick (.tmp 46) (.const (.bool true)) (.tmp 49)),
  oP 42 (.assign (.tmp 50))]
def Q9r:List Oper:=Xnz
def Xan:Code := .region 0 Q9r.toArray false
theorem X4:Q0 (E b) C D0 rd Xan s K=Qac (E b) C rd Q9r K Xnz s:=rfl
theorem Qq:nth Q9r 3=some ⟨(some 46), .move (.tmp 45),0,"",#[],none⟩:=rfl
abbrev Xnl:List Oper := [oP 4 (.assign (.const (.int .i64 15)))]
def Xp2:List Oper:=Xnl
def Xal:Code := .region 0 Xp2.toArray false
theorem X3:Q0 (E b) C D0 rd Xal s K=Qac (E b) C rd Xp2 K Xnl s:=rfl
def Xaa:Code := .seq Xal .ret
theorem X6:Q0 (E b) C D0 rd Xaa s K=Q0 (E b) C D0 rd Xal s (Yg (Vr (E b) C D0 rd .ret K) K):=rfl
abbrev Xmy:List Oper := [oP 52 (.move (.tmp 6)),
  oP 51 (.assign (.tmp 52))]
def Xqi:List Oper:=Xmy
def Q94:Code := .region 0 Xqi.toArray false
theorem Xq:Q0 (E b) C D0 rd Q94 s K=Qac (E b) C rd Xqi K Xmy s:=rfl
abbrev Xo3:List Oper := [oP 4 (.assign (.const (.int .i64 13)))]
def Xr1:List Oper:=Xo3
def Xa1:Code := .region 0 Xr1.toArray false
theorem X0:Q0 (E b) C D0 rd Xa1 s K=Qac (E b) C rd Xr1 K Xo3 s:=rfl
def Q9v:Code := .seq Xa1 .ret
theorem Xg:Q0 (E b) C D0 rd Q9v s K=Q0 (E b) C D0 rd Xa1 s (Yg (Vr (E b) C D0 rd .ret K) K):=rfl
abbrev Xo7:List Oper := [oP 54 (.move (.tmp 0)),
  oP 55 (.nilCheck (.tmp 54)),
  oP 56 (.fieldAddr 59 (.tmp 55) 3),
  oP 57 (.load 3 (.tmp 56)),
  oP 58 (.binOp Go.BinOp.geq 3 (.tmp 57) (.const (.int .i64 16)) 3),
  oP 53 (.assign (.tmp 58))]
def Xpu:List Oper:=Xo7
def Q9o:Code := .region 0 Xpu.toArray false
theorem Xw:Q0 (E b) C D0 rd Q9o s K=Qac (E b) C rd Xpu K Xo7 s:=rfl
abbrev Xoc:List Oper := [oP 4 (.assign (.const (.int .i64 3)))]
def Xq9:List Oper:=Xoc
def Q9h:Code := .region 0 Xq9.toArray false
theorem X7:Q0 (E b) C D0 rd Q9h s K=Qac (E b) C rd Xq9 K Xoc s:=rfl
def Q8q:Code := .seq Q9h .ret
theorem Xb:Q0 (E b) C D0 rd Q8q s K=Q0 (E b) C D0 rd Q9h s (Yg (Vr (E b) C D0 rd .ret K) K):=rfl
noncomputable def Qpl:Array Oper:=Xr7 (Xr6 12 (Qas 23))
def Xou:Code := .region 12 Qpl true
abbrev Q67:List Oper := [oP 60 (.move (.tmp 0)),
  oP 61 (.fieldAddr 32 (.tmp 3) 0),
  oP 62 (.load 3 (.tmp 61)),
  oP 63 (.nilCheck (.tmp 60)),
  oP 64 (.fieldAddr 59 (.tmp 63) 0),
  oP 65 (.indexAddr 54 (.tmp 64) (.tmp 62)),
  oP 66 (.load 3 (.tmp 65)),
  oP 67 (.fieldAddr 32 (.tmp 3) 2),
  oP 68 (.load 3 (.tmp 67)),
  oP 69 (.binOp Go.BinOp.lss 3 (.tmp 66) (.tmp 68) 3),
  oP 59 (.assign (.tmp 69))]
def Qwr:List Oper:=Q67
theorem Xy0:Qpl.toList.map bare=Q67:=by kernel_rfl
theorem Qsi:Qpl.toList.map bare=Qwr:=Xy0
def Ql3:List Nat := [0,0,2,1,9,31,63,0,128,511,1023]
theorem Qt6:Xul Qpl.toList []=some Ql3:=by kernel_rfl
theorem Qsf:Qlj Qpl.toList Qpl.toList Ql3 []=true:=by kernel_rfl
theorem Qtw(b:Nat)(L:List KE)(s:St):Ab.runT (E b) L Qwr Ql3 Qwr 0 s=Ab.runT (E b) L Qwr Ql3 Q67 0 s:=rfl
abbrev Xn4:List Oper := [oP 4 (.assign (.const (.int .i64 22)))]
def Xoh:List Oper:=Xn4
def Q97:Code := .region 0 Xoh.toArray false
theorem Xc:Q0 (E b) C D0 rd Q97 s K=Qac (E b) C rd Xoh K Xn4 s:=rfl
def Xak:Code := .seq Q97 .ret
theorem Xd:Q0 (E b) C D0 rd Xak s K=Q0 (E b) C D0 rd Q97 s (Yg (Vr (E b) C D0 rd .ret K) K):=rfl
def Qym:Code := .cond (.tmp 59) Xak .skip
theorem X8(h:aev (E b).G s.t (.tmp 59)=some (.bool true)):Q0 (E b) C D0 rd Qym s K=Q0 (E b) C D0 rd Xak s K:=Qit h
theorem Xe(h:aev (E b).G s.t (.tmp 59)=some (.bool false)):Q0 (E b) C D0 rd Qym s K=Q0 (E b) C D0 rd .skip s K:=Qiv h
def Xag:Code := .seq Xou Qym
theorem Xl:Q0 (E b) C D0 rd Xag s K=Q0 (E b) C D0 rd Xou s (Yg (Vr (E b) C D0 rd Qym K) K):=rfl
def Qyb:Code := .cond (.tmp 53) Q8q Xag
theorem Xv(h:aev (E b).G s.t (.tmp 53)=some (.bool true)):Q0 (E b) C D0 rd Qyb s K=Q0 (E b) C D0 rd Q8q s K:=Qit h
theorem Xh(h:aev (E b).G s.t (.tmp 53)=some (.bool false)):Q0 (E b) C D0 rd Qyb s K=Q0 (E b) C D0 rd Xag s K:=Qiv h
def Xai:Code := .seq Q9o Qyb
theorem Qz:Q0 (E b) C D0 rd Xai s K=Q0 (E b) C D0 rd Q9o s (Yg (Vr (E b) C D0 rd Qyb K) K):=rfl
def Qy6:Code := .cond (.tmp 51) Q9v Xai
theorem Qw(h:aev (E b).G s.t (.tmp 51)=some (.bool true)):Q0 (E b) C D0 rd Qy6 s K=Q0 (E b) C D0 rd Q9v s K:=Qit h
theorem Xi(h:aev (E b).G s.t (.tmp 51)=some (.bool false)):Q0 (E b) C D0 rd Qy6 s K=Q0 (E b) C D0 rd Xai s K:=Qiv h
def Xa2:Code := .seq Q94 Qy6
theorem Xk:Q0 (E b) C D0 rd Xa2 s K=Q0 (E b) C D0 rd Q94 s (Yg (Vr (E b) C D0 rd Qy6 K) K):=rfl
def Qz2:Code := .cond (.tmp 42) Xaa Xa2
theorem Xf(h:aev (E b).G s.t (.tmp 42)=some (.bool true)):Q0 (E b) C D0 rd Qz2 s K=Q0 (E b) C D0 rd Xaa s K:=Qit h
theorem Qv(h:aev (E b).G s.t (.tmp 42)=some (.bool false)):Q0 (E b) C D0 rd Qz2 s K=Q0 (E b) C D0 rd Xa2 s K:=Qiv h
def Q8w:Code := .seq Xan Qz2
theorem Xp:Q0 (E b) C D0 rd Q8w s K=Q0 (E b) C D0 rd Xan s (Yg (Vr (E b) C D0 rd Qz2 K) K):=rfl
def Qxz:Code := .cond (.tmp 17) Xa4 Q8w
theorem Xa(h:aev (E b).G s.t (.tmp 17)=some (.bool true)):Q0 (E b) C D0 rd Qxz s K=Q0 (E b) C D0 rd Xa4 s K:=Qit h
theorem Qy(h:aev (E b).G s.t (.tmp 17)=some (.bool false)):Q0 (E b) C D0 rd Qxz s K=Q0 (E b) C D0 rd Q8w s K:=Qiv h
def Q9n:Code := .seq Xd5 Qxz
theorem Xo:Q0 (E b) C D0 rd Q9n s K=Q0 (E b) C D0 rd Xd5 s (Yg (Vr (E b) C D0 rd Qxz K) K):=rfl
def Xae:Code := .block 0 Q9n
theorem Xn:Q0 (E b) C D0 rd Xae s K=Q0 (E b) C D0 rd Q9n s (Ql8 0 K):=rfl
noncomputable def Qq5:Array Oper:=Xr7 (Xr6 14 (Qas 23))
def Xpc:Code := .region 14 Qq5 true
abbrev Q63:List Oper := [oP 70 (.move (.tmp 0)),
  oP 71 (.nilCheck (.tmp 70)),
  oP 72 (.fieldAddr 59 (.tmp 71) 1),
  oP 73 (.load 57 (.tmp 72)),
  oP 74 (.fieldAddr 32 (.tmp 3) 1),
  oP 75 (.load 3 (.tmp 74)),
  oP 76 (.load 32 (.tmp 3)),
  oP 77 (.build 66 #[(0,(.tmp 76)),(1,(.const (.int .i64 1)))]),
  oP 78 (.box 66 (.tmp 77)),
  oN (.mapUpdate 57 (.tmp 73) (.tmp 75) (.tmp 78))]
def Qsy:List Oper:=Q63
theorem Xxk:Qq5.toList.map bare=Q63:=by kernel_rfl
theorem Xwi:Qq5.toList.map bare=Qsy:=Xxk
def Qm9:List Nat := [0,1,3,7,0,16,0,64,192,511]
theorem Xxo:Xul Qq5.toList []=some Qm9:=by kernel_rfl
theorem Xw4:Qlj Qq5.toList Qq5.toList Qm9 []=true:=by kernel_rfl
theorem Xyr(b:Nat)(L:List KE)(s:St):Ab.runT (E b) L Qsy Qm9 Qsy 0 s=Ab.runT (E b) L Qsy Qm9 Q63 0 s:=rfl
theorem X5o(b:Nat):Qno (E b) 9 ((nth Qm9 9).getD 0) Qsy Qm9 0=true:=by kernel_rfl
noncomputable def Qoy:Array Oper:=Xr7 (Xr6 15 (Qas 23))
def Xp3:Code := .region 15 Qoy true
abbrev Q5g:List Oper := [oP 79 (.move (.tmp 0)),
  oP 80 (.fieldAddr 32 (.tmp 3) 0),
  oP 81 (.load 3 (.tmp 80)),
  oP 82 (.nilCheck (.tmp 79)),
  oP 83 (.fieldAddr 59 (.tmp 82) 0),
  oP 84 (.indexAddr 54 (.tmp 83) (.tmp 81)),
  oP 85 (.load 3 (.tmp 84)),
  oP 86 (.fieldAddr 32 (.tmp 3) 2),
  oP 87 (.load 3 (.tmp 86)),
  oP 88 (.binOp Go.BinOp.sub 3 (.tmp 85) (.tmp 87) 3),
  oP 89 (.nilCheck (.tmp 79)),
  oP 90 (.fieldAddr 59 (.tmp 89) 0),
  oP 91 (.indexAddr 54 (.tmp 90) (.tmp 81)),
  oN (.store 3 (.tmp 91) (.tmp 88))]
def Qsw:List Oper:=Q5g
theorem Xxp:Qoy.toList.map bare=Q5g:=by kernel_rfl
theorem Xws:Qoy.toList.map bare=Qsw:=Xxp
def Qm6:List Nat := [0,0,2,1,9,31,63,0,128,511,1,1025,4095,8191]
theorem Xxz:Xul Qoy.toList []=some Qm6:=by kernel_rfl
theorem Xw2:Qlj Qoy.toList Qoy.toList Qm6 []=true:=by kernel_rfl
theorem X41(b:Nat)(L:List KE)(s:St):Ab.runT (E b) L Qsw Qm6 Qsw 0 s=Ab.runT (E b) L Qsw Qm6 Q5g 0 s:=rfl
theorem X27(b:Nat):Qno (E b) 13 ((nth Qm6 13).getD 0) Qsw Qm6 0=true:=by kernel_rfl
noncomputable def Qp7:Array Oper:=Xr7 (Xr6 16 (Qas 23))
def Xom:Code := .region 16 Qp7 true
abbrev Q4k:List Oper := [oP 92 (.move (.tmp 0)),
  oP 93 (.nilCheck (.tmp 92)),
  oP 94 (.fieldAddr 59 (.tmp 93) 2),
  oP 95 (.load 3 (.tmp 94)),
  oP 96 (.fieldAddr 32 (.tmp 3) 2),
  oP 97 (.load 3 (.tmp 96)),
  oP 98 (.binOp Go.BinOp.add 3 (.tmp 95) (.tmp 97) 3),
  oP 99 (.nilCheck (.tmp 92)),
  oP 100 (.fieldAddr 59 (.tmp 99) 2),
  oN (.store 3 (.tmp 100) (.tmp 98))]
def Qss:List Oper:=Q4k
theorem Xxn:Qp7.toList.map bare=Q4k:=by kernel_rfl
theorem Xvw:Qp7.toList.map bare=Qss:=Xxn
def Qm8:List Nat := [0,1,3,7,0,16,63,127,255,511]
theorem Xxs:Xul Qp7.toList []=some Qm8:=by kernel_rfl
theorem Xwk:Qlj Qp7.toList Qp7.toList Qm8 []=true:=by kernel_rfl
theorem X5c(b:Nat)(L:List KE)(s:St):Ab.runT (E b) L Qss Qm8 Qss 0 s=Ab.runT (E b) L Qss Qm8 Q4k 0 s:=rfl
theorem X5l(b:Nat):Qno (E b) 9 ((nth Qm8 9).getD 0) Qss Qm8 0=true:=by kernel_rfl
abbrev Xnd:List Oper := [oP 101 (.move (.tmp 0)),
  oP 102 (.nilCheck (.tmp 101)),
  oP 103 (.fieldAddr 59 (.tmp 102) 3),
  oP 104 (.load 3 (.tmp 103)),
  oP 105 (.binOp Go.BinOp.add 3 (.tmp 104) (.const (.int .i64 1)) 3),
  oP 106 (.nilCheck (.tmp 101)),
  oP 107 (.fieldAddr 59 (.tmp 106) 3),
  oN (.store 3 (.tmp 107) (.tmp 105))]
def Xq1:List Oper:=Xnd
def Q8s:Code := .region 0 Xq1.toArray false
theorem Xj:Q0 (E b) C D0 rd Q8s s K=Qac (E b) C rd Xq1 K Xnd s:=rfl
abbrev Qjf:List Oper := [oP 4 (.assign (.const (.int .i64 0)))]
def Xqg:List Oper:=Qjf
def Q9g:Code := .region 0 Xqg.toArray false
theorem Qu:Q0 (E b) C D0 rd Q9g s K=Qac (E b) C rd Xqg K Qjf s:=rfl
def Xav:Code := .seq Q9g .ret
theorem X2:Q0 (E b) C D0 rd Xav s K=Q0 (E b) C D0 rd Q9g s (Yg (Vr (E b) C D0 rd .ret K) K):=rfl
def Q9k:Code := .seq Q8s Xav
theorem X5:Q0 (E b) C D0 rd Q9k s K=Q0 (E b) C D0 rd Q8s s (Yg (Vr (E b) C D0 rd Xav K) K):=rfl
def Xam:Code := .seq Xom Q9k
theorem Xs:Q0 (E b) C D0 rd Xam s K=Q0 (E b) C D0 rd Xom s (Yg (Vr (E b) C D0 rd Q9k K) K):=rfl
def Xab:Code := .seq Xp3 Xam
theorem X9:Q0 (E b) C D0 rd Xab s K=Q0 (E b) C D0 rd Xp3 s (Yg (Vr (E b) C D0 rd Xam K) K):=rfl
def Qxx:Code := .seq Xpc Xab
theorem Qr:Q0 (E b) C D0 rd Qxx s K=Q0 (E b) C D0 rd Xpc s (Yg (Vr (E b) C D0 rd Xab K) K):=rfl
def Xa9:Code := .seq Xae Qxx
theorem Qx:Q0 (E b) C D0 rd Xa9 s K=Q0 (E b) C D0 rd Xae s (Yg (Vr (E b) C D0 rd Qxx K) K):=rfl
def Xc6:Code := .seq Xs3 Xa9
theorem Y6:Q0 (E b) C D0 rd Xc6 s K=Q0 (E b) C D0 rd Xs3 s (Yg (Vr (E b) C D0 rd Xa9 K) K):=rfl
def Xrg:Code := .seq Xc7 Xc6
theorem Xz:Q0 (E b) C D0 rd Xrg s K=Q0 (E b) C D0 rd Xc7 s (Yg (Vr (E b) C D0 rd Xc6 K) K):=rfl
def Xx:Code:=Xrg
theorem Ydy:Quc (Qas 23)=Xx:=by kernel_rfl
theorem X9i:Qwe.body=some (Qas 23):=by kernel_rfl
theorem Yfv:Qwe.ntmps=108:=by kernel_rfl
theorem Yb:Qwe.results.toList = [.tmp 4]:=by kernel_rfl
abbrev Xhx:List Oper := [oP 7 (.move (.tmp 1)),
  oP 8 (.move (.tmp 2)),
  oP 9 (.nilCheck (.tmp 7)),
  oP 10 (.fieldAddr 66 (.tmp 9) 1),
  oN (.store 64 (.tmp 10) (.tmp 8))]
def Xlr:List Oper:=Xhx
def Q4h:Code := .region 0 Xlr.toArray false
theorem Qhp:Q0 (E b) C D0 rd Q4h s K=Qac (E b) C rd Xlr K Xhx s:=rfl
abbrev Xj0:List Oper := [oP 11 (.move (.tmp 1)),
  oP 12 (.nilCheck (.tmp 11)),
  oP 13 (.fieldAddr 66 (.tmp 12) 0),
  oP 14 (.fieldAddr 32 (.tmp 13) 0),
  oP 15 (.load 3 (.tmp 14)),
  oP 6 (.assign (.tmp 15))]
def Xlt:List Oper:=Xj0
def Q4u:Code := .region 0 Xlt.toArray false
theorem Qhf:Q0 (E b) C D0 rd Q4u s K=Qac (E b) C rd Xlt K Xj0 s:=rfl
abbrev Xi6:List Oper := [oP 16 (.move (.tmp 2)),
  oP 17 (.binOp Go.BinOp.eql 64 (.tmp 16) (.const (.int .i64 2)) 64)]
def Xlw:List Oper:=Xi6
def Q49:Code := .region 0 Xlw.toArray false
theorem Qhg:Q0 (E b) C D0 rd Q49 s K=Qac (E b) C rd Xlw K Xi6 s:=rfl
abbrev Xix:List Oper := [oP 18 (.move (.tmp 1)),
  oP 19 (.nilCheck (.tmp 18)),
  oP 20 (.fieldAddr 66 (.tmp 19) 0),
  oP 21 (.fieldAddr 32 (.tmp 20) 0),
  oP 22 (.load 3 (.tmp 21)),
  oP 23 (.binOp Go.BinOp.sub 3 (.const (.int .i64 3)) (.tmp 22) 3),
  oP 6 (.assign (.tmp 23))]
def Xlc:List Oper:=Xix
def Q69:Code := .region 0 Xlc.toArray false
theorem Qho:Q0 (E b) C D0 rd Q69 s K=Qac (E b) C rd Xlc K Xix s:=rfl
def Qvj:Code := .cond (.tmp 17) Q69 .skip
theorem Qhl(h:aev (E b).G s.t (.tmp 17)=some (.bool true)):Q0 (E b) C D0 rd Qvj s K=Q0 (E b) C D0 rd Q69 s K:=Qit h
theorem Qhi(h:aev (E b).G s.t (.tmp 17)=some (.bool false)):Q0 (E b) C D0 rd Qvj s K=Q0 (E b) C D0 rd .skip s K:=Qiv h
def Q4e:Code := .seq Q49 Qvj
theorem Qhj:Q0 (E b) C D0 rd Q4e s K=Q0 (E b) C D0 rd Q49 s (Yg (Vr (E b) C D0 rd Qvj K) K):=rfl
noncomputable def Qo4:Array Oper:=Xr7 (Xr6 4 (Qas 43))
def Xl5:Code := .region 4 Qo4 true
abbrev Qzn:List Oper := [oP 24 (.move (.tmp 0)),
  oP 25 (.move (.tmp 6)),
  oP 26 (.nilCheck (.tmp 24)),
  oP 27 (.fieldAddr 59 (.tmp 26) 0),
  oP 28 (.indexAddr 54 (.tmp 27) (.tmp 25)),
  oP 29 (.load 3 (.tmp 28)),
  oP 30 (.move (.tmp 1)),
  oP 31 (.nilCheck (.tmp 30)),
  oP 32 (.fieldAddr 66 (.tmp 31) 0),
  oP 33 (.fieldAddr 32 (.tmp 32) 2),
  oP 34 (.load 3 (.tmp 33)),
  oP 35 (.binOp Go.BinOp.add 3 (.tmp 29) (.tmp 34) 3),
  oP 36 (.nilCheck (.tmp 24)),
  oP 37 (.fieldAddr 59 (.tmp 36) 0),
  oP 38 (.indexAddr 54 (.tmp 37) (.tmp 25)),
  oN (.store 3 (.tmp 38) (.tmp 35))]
def Qqo:List Oper:=Qzn
theorem Xur:Qo4.toList.map bare=Qzn:=by kernel_rfl
theorem Xt4:Qo4.toList.map bare=Qqo:=Xur
def Ql9:List Nat := [0,0,1,5,15,31,0,64,192,448,960,2047,1,4097,16383,32767]
theorem Xua:Xul Qo4.toList []=some Ql9:=by kernel_rfl
theorem Xt2:Qlj Qo4.toList Qo4.toList Ql9 []=true:=by kernel_rfl
theorem Xwd(b:Nat)(L:List KE)(s:St):Ab.runT (E b) L Qqo Ql9 Qqo 0 s=Ab.runT (E b) L Qqo Ql9 Qzn 0 s:=rfl
theorem Xwh(b:Nat):Qno (E b) 15 ((nth Ql9 15).getD 0) Qqo Ql9 0=true:=by kernel_rfl
noncomputable def Qo5:Array Oper:=Xr7 (Xr6 5 (Qas 43))
def Xku:Code := .region 5 Qo5 true
abbrev Q07:List Oper := [oP 39 (.move (.tmp 0)),
  oP 40 (.nilCheck (.tmp 39)),
  oP 41 (.fieldAddr 59 (.tmp 40) 2),
  oP 42 (.load 3 (.tmp 41)),
  oP 43 (.move (.tmp 1)),
  oP 44 (.nilCheck (.tmp 43)),
  oP 45 (.fieldAddr 66 (.tmp 44) 0),
  oP 46 (.fieldAddr 32 (.tmp 45) 2),
  oP 47 (.load 3 (.tmp 46)),
  oP 48 (.binOp Go.BinOp.sub 3 (.tmp 42) (.tmp 47) 3),
  oP 49 (.nilCheck (.tmp 39)),
  oP 50 (.fieldAddr 59 (.tmp 49) 2),
  oN (.store 3 (.tmp 50) (.tmp 48))]
def Qqc:List Oper:=Q07
theorem Xvo:Qo5.toList.map bare=Q07:=by kernel_rfl
theorem Xsu:Qo5.toList.map bare=Qqc:=Xvo
def Qlb:List Nat := [0,1,3,7,0,16,48,112,240,511,1023,2047,4095]
theorem Xvs:Xul Qo5.toList []=some Qlb:=by kernel_rfl
theorem Xsx:Qlj Qo5.toList Qo5.toList Qlb []=true:=by kernel_rfl
theorem Xvx(b:Nat)(L:List KE)(s:St):Ab.runT (E b) L Qqc Qlb Qqc 0 s=Ab.runT (E b) L Qqc Qlb Q07 0 s:=rfl
theorem Xw5(b:Nat):Qno (E b) 12 ((nth Qlb 12).getD 0) Qqc Qlb 0=true:=by kernel_rfl
abbrev Xgu:List Oper := [oP 51 (.move (.tmp 0)),
  oP 52 (.nilCheck (.tmp 51)),
  oP 53 (.fieldAddr 59 (.tmp 52) 3),
  oP 54 (.load 3 (.tmp 53)),
  oP 55 (.binOp Go.BinOp.sub 3 (.tmp 54) (.const (.int .i64 1)) 3),
  oP 56 (.nilCheck (.tmp 51)),
  oP 57 (.fieldAddr 59 (.tmp 56) 3),
  oN (.store 3 (.tmp 57) (.tmp 55))]
def Xj1:List Oper:=Xgu
def Q2p:Code := .region 0 Xj1.toArray false
theorem Qhb:Q0 (E b) C D0 rd Q2p s K=Qac (E b) C rd Xj1 K Xgu s:=rfl
def Q1r:Code := .seq Xku Q2p
theorem Qfp:Q0 (E b) C D0 rd Q1r s K=Q0 (E b) C D0 rd Xku s (Yg (Vr (E b) C D0 rd Q2p K) K):=rfl
def Qvl:Code := .seq Xl5 Q1r
theorem Qcq:Q0 (E b) C D0 rd Qvl s K=Q0 (E b) C D0 rd Xl5 s (Yg (Vr (E b) C D0 rd Q1r K) K):=rfl
def Q6a:Code := .seq Q4e Qvl
theorem Qhn:Q0 (E b) C D0 rd Q6a s K=Q0 (E b) C D0 rd Q4e s (Yg (Vr (E b) C D0 rd Qvl K) K):=rfl
def Q5s:Code := .seq Q4u Q6a
theorem Qhk:Q0 (E b) C D0 rd Q5s s K=Q0 (E b) C D0 rd Q4u s (Yg (Vr (E b) C D0 rd Q6a K) K):=rfl
def Xkk:Code := .seq Q4h Q5s
theorem Qhm:Q0 (E b) C D0 rd Xkk s K=Q0 (E b) C D0 rd Q4h s (Yg (Vr (E b) C D0 rd Q5s K) K):=rfl
def Qgh:Code:=Xkk
theorem X6o:Quc (Qas 43)=Qgh:=by kernel_rfl
theorem X4t:Qt0.body=some (Qas 43):=by kernel_rfl
theorem X8v:Qt0.ntmps=58:=by kernel_rfl
theorem Qiw:Qt0.results.toList = []:=by kernel_rfl
abbrev Qtq:List Oper := [oP 4 (.assign (.const (.pointer none)))]
def Xj2:List Oper:=Qtq
def Q24:Code := .region 0 Xj2.toArray false
theorem Qy0:Q0 (E b) C D0 rd Q24 s K=Qac (E b) C rd Xj2 K Qtq s:=rfl
abbrev Xeh:List Oper := [oP 6 (.move (.tmp 0)),
  oP 7 (.nilCheck (.tmp 6)),
  oP 8 (.fieldAddr 59 (.tmp 7) 1),
  oP 9 (.load 57 (.tmp 8)),
  oP 10 (.move (.tmp 1)),
  oP 11 (.lookup 57 (.tmp 9) (.tmp 10) false),
  oP 5 (.assign (.tmp 11))]
def Xiz:List Oper:=Xeh
def Q1z:Code := .region 0 Xiz.toArray false
theorem Qyk:Q0 (E b) C D0 rd Q1z s K=Qac (E b) C rd Xiz K Xeh s:=rfl
abbrev Xh4:List Oper := [oP 12 (.move (.tmp 5)),
  oP 13 (.binOp Go.BinOp.neq 63 (.tmp 12) (.const (.pointer none)) 63),
  oP 14 (.move (.tmp 13)),
  oG 2 true 15 (.move (.tmp 5)),
  oG 2 true 16 (.nilCheck (.tmp 15)),
  oG 2 true 17 (.fieldAddr 66 (.tmp 16) 1),
  oG 2 true 18 (.load 64 (.tmp 17)),
  oG 2 true 19 (.binOp Go.BinOp.eql 64 (.tmp 18) (.const (.int .i64 1)) 64),
  oP 20 (.pick (.tmp 14) (.tmp 19) (.const (.bool false)))]
def Q2c:List Oper:=Xh4
def Q2k:Code := .region 0 Q2c.toArray false
theorem Qyi:Q0 (E b) C D0 rd Q2k s K=Qac (E b) C rd Q2c K Xh4 s:=rfl
theorem Qx7:nth Q2c 2=some ⟨(some 14), .move (.tmp 13),0,"",#[],none⟩:=rfl
abbrev Xh8:List Oper := [oP 21 (.move (.tmp 5)),
  oP 4 (.assign (.tmp 21))]
def Xih:List Oper:=Xh8
def Q2o:Code := .region 0 Xih.toArray false
theorem Qz0:Q0 (E b) C D0 rd Q2o s K=Qac (E b) C rd Xih K Xh8 s:=rfl
def Q1p:Code := .seq Q2o .ret
theorem Qxk:Q0 (E b) C D0 rd Q1p s K=Q0 (E b) C D0 rd Q2o s (Yg (Vr (E b) C D0 rd .ret K) K):=rfl
def Qul:Code := .cond (.tmp 20) Q1p .skip
theorem Qyt(h:aev (E b).G s.t (.tmp 20)=some (.bool true)):Q0 (E b) C D0 rd Qul s K=Q0 (E b) C D0 rd Q1p s K:=Qit h
theorem Qxt(h:aev (E b).G s.t (.tmp 20)=some (.bool false)):Q0 (E b) C D0 rd Qul s K=Q0 (E b) C D0 rd .skip s K:=Qiv h
def Q1m:Code := .seq Q2k Qul
theorem Qxw:Q0 (E b) C D0 rd Q1m s K=Q0 (E b) C D0 rd Q2k s (Yg (Vr (E b) C D0 rd Qul K) K):=rfl
def Q23:Code := .seq Q1z Q1m
theorem Qy1:Q0 (E b) C D0 rd Q23 s K=Q0 (E b) C D0 rd Q1z s (Yg (Vr (E b) C D0 rd Q1m K) K):=rfl
def Xfa:List Oper:=Qtq
def Q0c:Code := .region 0 Xfa.toArray false
theorem Qx9:Q0 (E b) C D0 rd Q0c s K=Qac (E b) C rd Xfa K Qtq s:=rfl
def Q0b:Code := .seq Q0c .ret
theorem Qx6:Q0 (E b) C D0 rd Q0b s K=Q0 (E b) C D0 rd Q0c s (Yg (Vr (E b) C D0 rd .ret K) K):=rfl
def Q1v:Code := .seq Q23 Q0b
theorem Qy8:Q0 (E b) C D0 rd Q1v s K=Q0 (E b) C D0 rd Q23 s (Yg (Vr (E b) C D0 rd Q0b K) K):=rfl
def Xic:Code := .seq Q24 Q1v
theorem Qyn:Q0 (E b) C D0 rd Xic s K=Q0 (E b) C D0 rd Q24 s (Yg (Vr (E b) C D0 rd Q1v K) K):=rfl
def Qt4:Code:=Xic
theorem X5i:Quc (Qas 42)=Qt4:=by kernel_rfl
theorem Xxq:Qvy.body=some (Qas 42):=by kernel_rfl
theorem X7y:Qvy.ntmps=22:=by kernel_rfl
theorem Q15:Qvy.results.toList = [.tmp 4]:=by kernel_rfl
abbrev Xi1:List Oper := [oP 5 (.box 30 (.tmp 2)),
  oP 6 (.assign (.const (.int .i64 0)))]
def Xm7:List Oper:=Xi1
def Q4c:Code := .region 0 Xm7.toArray false
theorem Qj7:Q0 (E b) C D0 rd Q4c s K=Qac (E b) C rd Xm7 K Xi1 s:=rfl
abbrev Xhu:List Oper := [oP 8 (.move (.tmp 0)),
  oP 9 (.move (.tmp 1)),
  oP 10 (.call {callee := .value (.func 42),args := #[(.tmp 8),(.tmp 9)],argTypes := #[23,3]}),
  oP 7 (.assign (.tmp 10))]
def Xlg:List Oper:=Xhu
def Q4d:Code := .region 0 Xlg.toArray false
theorem Qj4:Q0 (E b) C D0 rd Q4d s K=Qac (E b) C rd Xlg K Xhu s:=rfl
abbrev Xhp:List Oper := [oP 12 (.move (.tmp 7)),
  oP 13 (.binOp Go.BinOp.eql 63 (.tmp 12) (.const (.pointer none)) 63),
  oP 11 (.assign (.tmp 13))]
def Xlh:List Oper:=Xhp
def Q4f:Code := .region 0 Xlh.toArray false
theorem Qja:Q0 (E b) C D0 rd Q4f s K=Qac (E b) C rd Xlh K Xhp s:=rfl
abbrev Xj8:List Oper := [oP 6 (.assign (.const (.int .i64 12)))]
def Xkj:List Oper:=Xj8
def Q57:Code := .region 0 Xkj.toArray false
theorem Qj5:Q0 (E b) C D0 rd Q57 s K=Qac (E b) C rd Xkj K Xj8 s:=rfl
def Q61:Code := .seq Q57 .ret
theorem Qiz:Q0 (E b) C D0 rd Q61 s K=Q0 (E b) C D0 rd Q57 s (Yg (Vr (E b) C D0 rd .ret K) K):=rfl
noncomputable def Qo6:Array Oper:=Xr7 (Xr6 4 (Qas 24))
def Xl8:Code := .region 4 Qo6 true
abbrev Q02:List Oper := [oP 15 (.slice 30 (.tmp 5) none none none),
  oP 16 (.call {callee := .value (.func 20),args := #[(.tmp 15)],argTypes := #[51]}),
  oP 17 (.move (.tmp 7)),
  oP 18 (.nilCheck (.tmp 17)),
  oP 19 (.fieldAddr 66 (.tmp 18) 0),
  oP 20 (.fieldAddr 32 (.tmp 19) 4),
  oP 21 (.load 30 (.tmp 20)),
  oP 22 (.binOp Go.BinOp.neq 30 (.tmp 16) (.tmp 21) 30),
  oP 14 (.assign (.tmp 22))]
def Qqs:List Oper:=Q02
theorem Xvb:Qo6.toList.map bare=Q02:=by kernel_rfl
theorem Xsz:Qo6.toList.map bare=Qqs:=Xvb
def Qlc:List Nat := [0,1,0,4,12,28,60,127,255]
theorem Xuc:Xul Qo6.toList []=some Qlc:=by kernel_rfl
theorem Xt3:Qlj Qo6.toList Qo6.toList Qlc []=true:=by kernel_rfl
theorem Xwg(b:Nat)(L:List KE)(s:St):Ab.runT (E b) L Qqs Qlc Qqs 0 s=Ab.runT (E b) L Qqs Qlc Q02 0 s:=rfl
theorem Xy6(b:Nat):Qno (E b) 1 ((nth Qlc 1).getD 0) Qqs Qlc 0=true:=by kernel_rfl
abbrev Xir:List Oper := [oP 6 (.assign (.const (.int .i64 16)))]
def Xlu:List Oper:=Xir
def Q5m:Code := .region 0 Xlu.toArray false
theorem Qj1:Q0 (E b) C D0 rd Q5m s K=Qac (E b) C rd Xlu K Xir s:=rfl
def Q20:Code := .seq Q5m .ret
theorem Qht:Q0 (E b) C D0 rd Q20 s K=Q0 (E b) C D0 rd Q5m s (Yg (Vr (E b) C D0 rd .ret K) K):=rfl
def Qur:Code := .cond (.tmp 14) Q20 .skip
theorem Qi4(h:aev (E b).G s.t (.tmp 14)=some (.bool true)):Q0 (E b) C D0 rd Qur s K=Q0 (E b) C D0 rd Q20 s K:=Qit h
theorem Qhv(h:aev (E b).G s.t (.tmp 14)=some (.bool false)):Q0 (E b) C D0 rd Qur s K=Q0 (E b) C D0 rd .skip s K:=Qiv h
def Q5w:Code := .seq Xl8 Qur
theorem Qiy:Q0 (E b) C D0 rd Q5w s K=Q0 (E b) C D0 rd Xl8 s (Yg (Vr (E b) C D0 rd Qur K) K):=rfl
def Qv1:Code := .cond (.tmp 11) Q61 Q5w
theorem Qi1(h:aev (E b).G s.t (.tmp 11)=some (.bool true)):Q0 (E b) C D0 rd Qv1 s K=Q0 (E b) C D0 rd Q61 s K:=Qit h
theorem Qhz(h:aev (E b).G s.t (.tmp 11)=some (.bool false)):Q0 (E b) C D0 rd Qv1 s K=Q0 (E b) C D0 rd Q5w s K:=Qiv h
def Q6b:Code := .seq Q4f Qv1
theorem Qj0:Q0 (E b) C D0 rd Q6b s K=Q0 (E b) C D0 rd Q4f s (Yg (Vr (E b) C D0 rd Qv1 K) K):=rfl
def Q1x:Code := .block 0 Q6b
theorem Qi2:Q0 (E b) C D0 rd Q1x s K=Q0 (E b) C D0 rd Q6b s (Ql8 0 K):=rfl
abbrev Xgq:List Oper := [oP 23 (.move (.tmp 7)),
  oP 24 (.load 30 (.tmp 5)),
  oP 25 (.nilCheck (.tmp 23)),
  oP 26 (.fieldAddr 66 (.tmp 25) 2),
  oN (.store 30 (.tmp 26) (.tmp 24))]
def Xho:List Oper:=Xgq
def Q2b:Code := .region 0 Xho.toArray false
theorem Qi5:Q0 (E b) C D0 rd Q2b s K=Qac (E b) C rd Xho K Xgq s:=rfl
abbrev Xff:List Oper := [oP 27 (.move (.tmp 0)),
  oP 28 (.move (.tmp 7)),
  oP 29 (.call {callee := .value (.func 43),args := #[(.tmp 27),(.tmp 28),(.const (.int .i64 2))],argTypes := #[23,63,64]})]
def Xi8:List Oper:=Xff
def Q12:Code := .region 0 Xi8.toArray false
theorem Qhx:Q0 (E b) C D0 rd Q12 s K=Qac (E b) C rd Xi8 K Xff s:=rfl
abbrev Xg7:List Oper := [oP 6 (.assign (.const (.int .i64 0)))]
def Xin:List Oper:=Xg7
def Q1l:Code := .region 0 Xin.toArray false
theorem Qhy:Q0 (E b) C D0 rd Q1l s K=Qac (E b) C rd Xin K Xg7 s:=rfl
def Q1u:Code := .seq Q1l .ret
theorem Qhu:Q0 (E b) C D0 rd Q1u s K=Q0 (E b) C D0 rd Q1l s (Yg (Vr (E b) C D0 rd .ret K) K):=rfl
def Q1j:Code := .seq Q12 Q1u
theorem Qhw:Q0 (E b) C D0 rd Q1j s K=Q0 (E b) C D0 rd Q12 s (Yg (Vr (E b) C D0 rd Q1u K) K):=rfl
def Q22:Code := .seq Q2b Q1j
theorem Qi0:Q0 (E b) C D0 rd Q22 s K=Q0 (E b) C D0 rd Q2b s (Yg (Vr (E b) C D0 rd Q1j K) K):=rfl
def Q1a:Code := .seq Q1x Q22
theorem Qi3:Q0 (E b) C D0 rd Q1a s K=Q0 (E b) C D0 rd Q1x s (Yg (Vr (E b) C D0 rd Q22 K) K):=rfl
def Q62:Code := .seq Q4d Q1a
theorem Qj6:Q0 (E b) C D0 rd Q62 s K=Q0 (E b) C D0 rd Q4d s (Yg (Vr (E b) C D0 rd Q1a K) K):=rfl
def Xla:Code := .seq Q4c Q62
theorem Qj3:Q0 (E b) C D0 rd Xla s K=Q0 (E b) C D0 rd Q4c s (Yg (Vr (E b) C D0 rd Q62 K) K):=rfl
def Qhh:Code:=Xla
theorem X7o:Quc (Qas 24)=Qhh:=by kernel_rfl
theorem X4b:Qx2.body=some (Qas 24):=by kernel_rfl
theorem X9w:Qx2.ntmps=30:=by kernel_rfl
theorem Qjv:Qx2.results.toList = [.tmp 6]:=by kernel_rfl
def Xqf:List Oper:=Qjf
def Q9w:Code := .region 0 Xqf.toArray false
theorem Qrk:Q0 (E b) C D0 rd Q9w s K=Qac (E b) C rd Xqf K Qjf s:=rfl
abbrev Xng:List Oper := [oP 6 (.move (.tmp 0)),
  oP 7 (.move (.tmp 1)),
  oP 8 (.call {callee := .value (.func 42),args := #[(.tmp 6),(.tmp 7)],argTypes := #[23,3]}),
  oP 5 (.assign (.tmp 8))]
def Xqb:List Oper:=Xng
def Q8z:Code := .region 0 Xqb.toArray false
theorem Qrg:Q0 (E b) C D0 rd Q8z s K=Qac (E b) C rd Xqb K Xng s:=rfl
abbrev Xo2:List Oper := [oP 9 (.move (.tmp 5)),
  oP 10 (.binOp Go.BinOp.eql 63 (.tmp 9) (.const (.pointer none)) 63)]
def Xqm:List Oper:=Xo2
def Xa7:Code := .region 0 Xqm.toArray false
theorem Qrx:Q0 (E b) C D0 rd Xa7 s K=Qac (E b) C rd Xqm K Xo2 s:=rfl
abbrev Xo8:List Oper := [oP 4 (.assign (.const (.int .i64 12)))]
def Xq6:List Oper:=Xo8
def Q91:Code := .region 0 Xq6.toArray false
theorem Qs4:Q0 (E b) C D0 rd Q91 s K=Qac (E b) C rd Xq6 K Xo8 s:=rfl
def Q9f:Code := .seq Q91 .ret
theorem Qrj:Q0 (E b) C D0 rd Q9f s K=Q0 (E b) C D0 rd Q91 s (Yg (Vr (E b) C D0 rd .ret K) K):=rfl
def Qxv:Code := .cond (.tmp 10) Q9f .skip
theorem Qrr(h:aev (E b).G s.t (.tmp 10)=some (.bool true)):Q0 (E b) C D0 rd Qxv s K=Q0 (E b) C D0 rd Q9f s K:=Qit h
theorem Qs0(h:aev (E b).G s.t (.tmp 10)=some (.bool false)):Q0 (E b) C D0 rd Qxv s K=Q0 (E b) C D0 rd .skip s K:=Qiv h
def Q9d:Code := .seq Xa7 Qxv
theorem Qrs:Q0 (E b) C D0 rd Q9d s K=Q0 (E b) C D0 rd Xa7 s (Yg (Vr (E b) C D0 rd Qxv K) K):=rfl
abbrev Xl6:List Oper := [oP 11 (.move (.tmp 0)),
  oP 12 (.move (.tmp 5)),
  oP 13 (.call {callee := .value (.func 43),args := #[(.tmp 11),(.tmp 12),(.const (.int .i64 3))],argTypes := #[23,63,64]})]
def Xnv:List Oper:=Xl6
def Q6o:Code := .region 0 Xnv.toArray false
theorem Qqn:Q0 (E b) C D0 rd Q6o s K=Qac (E b) C rd Xnv K Xl6 s:=rfl
def Xn0:List Oper:=Qjf
def Q7v:Code := .region 0 Xn0.toArray false
theorem Qql:Q0 (E b) C D0 rd Q7v s K=Qac (E b) C rd Xn0 K Qjf s:=rfl
def Q84:Code := .seq Q7v .ret
theorem Qqj:Q0 (E b) C D0 rd Q84 s K=Q0 (E b) C D0 rd Q7v s (Yg (Vr (E b) C D0 rd .ret K) K):=rfl
def Q6y:Code := .seq Q6o Q84
theorem Qqp:Q0 (E b) C D0 rd Q6y s K=Q0 (E b) C D0 rd Q6o s (Yg (Vr (E b) C D0 rd Q84 K) K):=rfl
def Q8t:Code := .seq Q9d Q6y
theorem Qrl:Q0 (E b) C D0 rd Q8t s K=Q0 (E b) C D0 rd Q9d s (Yg (Vr (E b) C D0 rd Q6y K) K):=rfl
def Q9y:Code := .seq Q8z Q8t
theorem Qrq:Q0 (E b) C D0 rd Q9y s K=Q0 (E b) C D0 rd Q8z s (Yg (Vr (E b) C D0 rd Q8t K) K):=rfl
def Xpg:Code := .seq Q9w Q9y
theorem Qs3:Q0 (E b) C D0 rd Xpg s K=Q0 (E b) C D0 rd Q9w s (Yg (Vr (E b) C D0 rd Q9y K) K):=rfl
def Qo8:Code:=Xpg
theorem Ya6:Quc (Qas 25)=Qo8:=by kernel_rfl
theorem X7z:Q0u.body=some (Qas 25):=by kernel_rfl
theorem Ydw:Q0u.ntmps=14:=by kernel_rfl
theorem Qu2:Q0u.results.toList = [.tmp 4]:=by kernel_rfl
abbrev Xi5:List Oper := [oP 4 (.assign (.const (.slice none 0 0)))]
def Xkg:List Oper:=Xi5
def Q5h:Code := .region 0 Xkg.toArray false
theorem Qnl:Q0 (E b) C D0 rd Q5h s K=Qac (E b) C rd Xkg K Xi5 s:=rfl
abbrev Xio:List Oper := [oP 7 (.move (.tmp 0)),
  oP 8 (.call {callee := .value (.func 11),args := #[(.tmp 7)],argTypes := #[23]}),
  oP 9 (.call {callee := .builtin Go.Builtin.len,args := #[(.tmp 8)],argTypes := #[35]}),
  oP 10 (.move (.const (.int .i64 0)))]
def Xln:List Oper:=Xio
def Q5n:Code := .region 0 Xln.toArray false
theorem Qnf:Q0 (E b) C D0 rd Q5n s K=Qac (E b) C rd Xln K Xio s:=rfl
abbrev Xib:List Oper := [oP 11 (.binOp Go.BinOp.lss 3 (.tmp 10) (.tmp 9) 3)]
def Xkm:List Oper:=Xib
def Q5y:Code := .region 0 Xkm.toArray false
theorem Qn8:Q0 (E b) C D0 rd Q5y s K=Qac (E b) C rd Xkm K Xib s:=rfl
def Qvm:Code := .cond (.tmp 11) .skip (.exit 0)
theorem Qn6(h:aev (E b).G s.t (.tmp 11)=some (.bool true)):Q0 (E b) C D0 rd Qvm s K=Q0 (E b) C D0 rd .skip s K:=Qit h
theorem Qnc(h:aev (E b).G s.t (.tmp 11)=some (.bool false)):Q0 (E b) C D0 rd Qvm s K=Q0 (E b) C D0 rd (.exit 0) s K:=Qiv h
abbrev Xj4:List Oper := [oP 12 (.indexAddr 35 (.tmp 8) (.tmp 10)),
  oP 13 (.load 32 (.tmp 12)),
  oP 6 (.alloc 32),
  oN (.store 32 (.tmp 6) (.tmp 13))]
def Xm0:List Oper:=Xj4
def Q5d:Code := .region 0 Xm0.toArray false
theorem Qnb:Q0 (E b) C D0 rd Q5d s K=Qac (E b) C rd Xm0 K Xj4 s:=rfl
abbrev Xh5:List Oper := [oP 14 (.fieldAddr 32 (.tmp 6) 3),
  oP 15 (.load 3 (.tmp 14)),
  oP 16 (.move (.tmp 1)),
  oP 17 (.binOp Go.BinOp.leq 3 (.tmp 15) (.tmp 16) 3)]
def Xis:List Oper:=Xh5
def Q28:Code := .region 0 Xis.toArray false
theorem Qms:Q0 (E b) C D0 rd Q28 s K=Qac (E b) C rd Xis K Xh5 s:=rfl
abbrev Xey:List Oper := [oP 18 (.move (.tmp 0)),
  oP 19 (.fieldAddr 32 (.tmp 6) 1),
  oP 20 (.load 3 (.tmp 19)),
  oP 21 (.call {callee := .value (.func 25),args := #[(.tmp 18),(.tmp 20)],argTypes := #[23,3]})]
def Xhs:List Oper:=Xey
def Q26:Code := .region 0 Xhs.toArray false
theorem Qmk:Q0 (E b) C D0 rd Q26 s K=Qac (E b) C rd Xhs K Xey s:=rfl
abbrev Xf2:List Oper := [oP 22 (.move (.tmp 4)),
  oP 23 (.fieldAddr 32 (.tmp 6) 1),
  oP 24 (.load 3 (.tmp 23)),
  oP 25 (.buildSlice 53 1 #[(0,(.tmp 24))]),
  oP 26 (.call {callee := .builtin Go.Builtin.append,args := #[(.tmp 22),(.tmp 25)],argTypes := #[53,53]}),
  oP 4 (.assign (.tmp 26))]
def Xie:List Oper:=Xf2
def Q1i:Code := .region 0 Xie.toArray false
theorem Qmx:Q0 (E b) C D0 rd Q1i s K=Qac (E b) C rd Xie K Xf2 s:=rfl
def Q1w:Code := .seq Q26 Q1i
theorem Qma:Q0 (E b) C D0 rd Q1w s K=Q0 (E b) C D0 rd Q26 s (Yg (Vr (E b) C D0 rd Q1i K) K):=rfl
def Quv:Code := .cond (.tmp 17) Q1w .skip
theorem Qmv(h:aev (E b).G s.t (.tmp 17)=some (.bool true)):Q0 (E b) C D0 rd Quv s K=Q0 (E b) C D0 rd Q1w s K:=Qit h
theorem Qmb(h:aev (E b).G s.t (.tmp 17)=some (.bool false)):Q0 (E b) C D0 rd Quv s K=Q0 (E b) C D0 rd .skip s K:=Qiv h
def Q2n:Code := .seq Q28 Quv
theorem Qml:Q0 (E b) C D0 rd Q2n s K=Q0 (E b) C D0 rd Q28 s (Yg (Vr (E b) C D0 rd Quv K) K):=rfl
def Q4v:Code := .seq Q5d Q2n
theorem Qna:Q0 (E b) C D0 rd Q4v s K=Q0 (E b) C D0 rd Q5d s (Yg (Vr (E b) C D0 rd Q2n K) K):=rfl
def Q1h:Code := .block 1 Q4v
theorem Qmj:Q0 (E b) C D0 rd Q1h s K=Q0 (E b) C D0 rd Q4v s (Ql8 1 K):=rfl
abbrev Xfg:List Oper := [oP 27 (.binOp Go.BinOp.add 3 (.tmp 10) (.const (.int .i64 1)) 3),
  oP 10 (.move (.tmp 27))]
def Xiv:List Oper:=Xfg
def Q21:Code := .region 0 Xiv.toArray false
theorem Qmu:Q0 (E b) C D0 rd Q21 s K=Qac (E b) C rd Xiv K Xfg s:=rfl
def Q2d:Code := .seq Q1h Q21
theorem Qmt:Q0 (E b) C D0 rd Q2d s K=Q0 (E b) C D0 rd Q1h s (Yg (Vr (E b) C D0 rd Q21 K) K):=rfl
def Q5x:Code := .seq Qvm Q2d
theorem Qnk:Q0 (E b) C D0 rd Q5x s K=Q0 (E b) C D0 rd Qvm s (Yg (Vr (E b) C D0 rd Q2d K) K):=rfl
def Xkc:Code := .seq Q5y Q5x
theorem Qne:Q0 (E b) C D0 rd Xkc s K=Q0 (E b) C D0 rd Q5y s (Yg (Vr (E b) C D0 rd Q5x K) K):=rfl
def Xig:Code := .loop Xkc
def Q2i:Code := .block 0 Xig
theorem Qmp:Q0 (E b) C D0 rd Q2i s K=Q0 (E b) C D0 rd Xig s (Ql8 0 K):=rfl
def Q5f:Code := .seq Q5n Q2i
theorem Qn9:Q0 (E b) C D0 rd Q5f s K=Q0 (E b) C D0 rd Q5n s (Yg (Vr (E b) C D0 rd Q2i K) K):=rfl
abbrev Xdz:List Oper := [oP 28 (.move (.tmp 4)),
  oP 4 (.assign (.tmp 28))]
def Xhv:List Oper:=Xdz
def Q13:Code := .region 0 Xhv.toArray false
theorem Qme:Q0 (E b) C D0 rd Q13 s K=Qac (E b) C rd Xhv K Xdz s:=rfl
def Q2f:Code := .seq Q13 .ret
theorem Qmd:Q0 (E b) C D0 rd Q2f s K=Q0 (E b) C D0 rd Q13 s (Yg (Vr (E b) C D0 rd .ret K) K):=rfl
def Q14:Code := .seq Q5f Q2f
theorem Qmn:Q0 (E b) C D0 rd Q14 s K=Q0 (E b) C D0 rd Q5f s (Yg (Vr (E b) C D0 rd Q2f K) K):=rfl
def Xl2:Code := .seq Q5h Q14
theorem Qnd:Q0 (E b) C D0 rd Xl2 s K=Q0 (E b) C D0 rd Q5h s (Yg (Vr (E b) C D0 rd Q14 K) K):=rfl
def Qla:Code:=Xl2
theorem X8o:Quc (Qas 22)=Qla:=by kernel_rfl
theorem Xyl:Qwq.body=some (Qas 22):=by kernel_rfl
theorem X8y:Qwq.ntmps=29:=by kernel_rfl
theorem Qo3:Qwq.results.toList = [.tmp 4]:=by kernel_rfl
def Xiy:List Oper:=Qjf
def Q1k:Code := .region 0 Xiy.toArray false
theorem Qxg:Q0 (E b) C D0 rd Q1k s K=Qac (E b) C rd Xiy K Qjf s:=rfl
abbrev Xeo:List Oper := [oP 5 (.move (.tmp 1)),
  oP 6 (.binOp Go.BinOp.lss 3 (.tmp 5) (.const (.int .i64 0)) 3),
  oP 7 (.move (.tmp 6)),
  oG 2 false 8 (.move (.tmp 1)),
  oG 2 false 9 (.binOp Go.BinOp.geq 3 (.tmp 8) (.const (.int .i64 3)) 3),
  oP 10 (.pick (.tmp 7) (.const (.bool true)) (.tmp 9))]
def Q17:List Oper:=Xeo
def Q1q:Code := .region 0 Q17.toArray false
theorem Qxl:Q0 (E b) C D0 rd Q1q s K=Qac (E b) C rd Q17 K Xeo s:=rfl
theorem Qx8:nth Q17 2=some ⟨(some 7), .move (.tmp 6),0,"",#[],none⟩:=rfl
def Xhq:List Oper:=Qjf
def Q18:Code := .region 0 Xhq.toArray false
theorem Qy9:Q0 (E b) C D0 rd Q18 s K=Qac (E b) C rd Xhq K Qjf s:=rfl
def Q27:Code := .seq Q18 .ret
theorem Qy5:Q0 (E b) C D0 rd Q27 s K=Q0 (E b) C D0 rd Q18 s (Yg (Vr (E b) C D0 rd .ret K) K):=rfl
def Quy:Code := .cond (.tmp 10) Q27 .skip
theorem Qxi(h:aev (E b).G s.t (.tmp 10)=some (.bool true)):Q0 (E b) C D0 rd Quy s K=Q0 (E b) C D0 rd Q27 s K:=Qit h
theorem Qxf(h:aev (E b).G s.t (.tmp 10)=some (.bool false)):Q0 (E b) C D0 rd Quy s K=Q0 (E b) C D0 rd .skip s K:=Qiv h
def Q1b:Code := .seq Q1q Quy
theorem Qxs:Q0 (E b) C D0 rd Q1b s K=Q0 (E b) C D0 rd Q1q s (Yg (Vr (E b) C D0 rd Quy K) K):=rfl
abbrev Xfv:List Oper := [oP 11 (.move (.tmp 0)),
  oP 12 (.move (.tmp 1)),
  oP 13 (.nilCheck (.tmp 11)),
  oP 14 (.fieldAddr 59 (.tmp 13) 0),
  oP 15 (.indexAddr 54 (.tmp 14) (.tmp 12)),
  oP 16 (.load 3 (.tmp 15)),
  oP 4 (.assign (.tmp 16))]
def Xip:List Oper:=Xfv
def Q2g:Code := .region 0 Xip.toArray false
theorem Qxo:Q0 (E b) C D0 rd Q2g s K=Qac (E b) C rd Xip K Xfv s:=rfl
def Q1o:Code := .seq Q2g .ret
theorem Qyo:Q0 (E b) C D0 rd Q1o s K=Q0 (E b) C D0 rd Q2g s (Yg (Vr (E b) C D0 rd .ret K) K):=rfl
def Q1n:Code := .seq Q1b Q1o
theorem Qys:Q0 (E b) C D0 rd Q1n s K=Q0 (E b) C D0 rd Q1b s (Yg (Vr (E b) C D0 rd Q1o K) K):=rfl
def Xii:Code := .seq Q1k Q1n
theorem Qy7:Q0 (E b) C D0 rd Xii s K=Q0 (E b) C D0 rd Q1k s (Yg (Vr (E b) C D0 rd Q1n K) K):=rfl
def Qt5:Code:=Xii
theorem X5n:Quc (Qas 13)=Qt5:=by kernel_rfl
theorem Xy4:Qvr.body=some (Qas 13):=by kernel_rfl
theorem X89:Qvr.ntmps=17:=by kernel_rfl
theorem Q2l:Qvr.results.toList = [.tmp 4]:=by kernel_rfl
abbrev Xn1:List Oper := [oP 2 (.assign (.const (.int .i64 0)))]
def Xq0:List Oper:=Xn1
def Q93:Code := .region 0 Xq0.toArray false
theorem X6z:Q0 (E b) C D0 rd Q93 s K=Qac (E b) C rd Xq0 K Xn1 s:=rfl
abbrev Xnu:List Oper := [oP 3 (.move (.tmp 0)),
  oP 4 (.nilCheck (.tmp 3)),
  oP 5 (.fieldAddr 59 (.tmp 4) 2),
  oP 6 (.load 3 (.tmp 5)),
  oP 2 (.assign (.tmp 6))]
def Xpk:List Oper:=Xnu
def Xad:Code := .region 0 Xpk.toArray false
theorem X81:Q0 (E b) C D0 rd Xad s K=Qac (E b) C rd Xpk K Xnu s:=rfl
def Xaf:Code := .seq Xad .ret
theorem X8n:Q0 (E b) C D0 rd Xaf s K=Q0 (E b) C D0 rd Xad s (Yg (Vr (E b) C D0 rd .ret K) K):=rfl
def Xqj:Code := .seq Q93 Xaf
theorem X8c:Q0 (E b) C D0 rd Xqj s K=Q0 (E b) C D0 rd Q93 s (Yg (Vr (E b) C D0 rd Xaf K) K):=rfl
def Xlm:Code:=Xqj
theorem Yag:Quc (Qas 12)=Xlm:=by kernel_rfl
theorem X79:Q0j.body=some (Qas 12):=by kernel_rfl
theorem Ye0:Q0j.ntmps=7:=by kernel_rfl
theorem Yb1:Q0j.results.toList = [.tmp 2]:=by kernel_rfl
abbrev Xfw:List Oper := [oP 2 (.assign (.const (.slice none 0 0)))]
def Xim:List Oper:=Xfw
def Q2m:Code := .region 0 Xim.toArray false
theorem Qmw:Q0 (E b) C D0 rd Q2m s K=Qac (E b) C rd Xim K Xfw s:=rfl
abbrev Xed:List Oper := [oP 5 (.move (.tmp 0)),
  oP 6 (.nilCheck (.tmp 5)),
  oP 7 (.fieldAddr 59 (.tmp 6) 1),
  oP 8 (.load 57 (.tmp 7)),
  oP 9 (.range 57 (.tmp 8))]
def Xiu:List Oper:=Xed
def Q16:Code := .region 0 Xiu.toArray false
theorem Qmi:Q0 (E b) C D0 rd Q16 s K=Qac (E b) C rd Xiu K Xed s:=rfl
abbrev Xfe:List Oper := [oP 10 (.next (.tmp 9) false),
  oP 11 (.extract (.tmp 10) 0)]
def Xj5:List Oper:=Xfe
def Q1t:Code := .region 0 Xj5.toArray false
theorem Qmg:Q0 (E b) C D0 rd Q1t s K=Qac (E b) C rd Xj5 K Xfe s:=rfl
def Qv0:Code := .cond (.tmp 11) .skip (.exit 0)
theorem Qmo(h:aev (E b).G s.t (.tmp 11)=some (.bool true)):Q0 (E b) C D0 rd Qv0 s K=Q0 (E b) C D0 rd .skip s K:=Qit h
theorem Qmh(h:aev (E b).G s.t (.tmp 11)=some (.bool false)):Q0 (E b) C D0 rd Qv0 s K=Q0 (E b) C D0 rd (.exit 0) s K:=Qiv h
abbrev Xfn:List Oper := [oP 12 (.entry (.tmp 9)),
  oP 13 (.extract (.tmp 12) 1),
  oP 4 (.assign (.tmp 13))]
def Xhw:List Oper:=Xfn
def Q1d:Code := .region 0 Xhw.toArray false
theorem Qmr:Q0 (E b) C D0 rd Q1d s K=Qac (E b) C rd Xhw K Xfn s:=rfl
abbrev Xdq:List Oper := [oP 14 (.move (.tmp 4)),
  oP 15 (.nilCheck (.tmp 14)),
  oP 16 (.fieldAddr 66 (.tmp 15) 1),
  oP 17 (.load 64 (.tmp 16)),
  oP 18 (.binOp Go.BinOp.eql 64 (.tmp 17) (.const (.int .i64 1)) 64)]
def Xex:List Oper:=Xdq
def Qzf:Code := .region 0 Xex.toArray false
theorem Qlu:Q0 (E b) C D0 rd Qzf s K=Qac (E b) C rd Xex K Xdq s:=rfl
abbrev Xdo:List Oper := [oP 19 (.move (.tmp 2)),
  oP 20 (.move (.tmp 4)),
  oP 21 (.nilCheck (.tmp 20)),
  oP 22 (.fieldAddr 66 (.tmp 21) 0),
  oP 23 (.load 32 (.tmp 22)),
  oP 24 (.buildSlice 35 1 #[(0,(.tmp 23))]),
  oP 25 (.call {callee := .builtin Go.Builtin.append,args := #[(.tmp 19),(.tmp 24)],argTypes := #[35,35]}),
  oP 2 (.assign (.tmp 25))]
def Xg1:List Oper:=Xdo
def Qzq:Code := .region 0 Xg1.toArray false
theorem Qls:Q0 (E b) C D0 rd Qzq s K=Qac (E b) C rd Xg1 K Xdo s:=rfl
def Qty:Code := .cond (.tmp 18) Qzq .skip
theorem Qlt(h:aev (E b).G s.t (.tmp 18)=some (.bool true)):Q0 (E b) C D0 rd Qty s K=Q0 (E b) C D0 rd Qzq s K:=Qit h
theorem Qlo(h:aev (E b).G s.t (.tmp 18)=some (.bool false)):Q0 (E b) C D0 rd Qty s K=Q0 (E b) C D0 rd .skip s K:=Qiv h
def Qzv:Code := .seq Qzf Qty
theorem Qlw:Q0 (E b) C D0 rd Qzv s K=Q0 (E b) C D0 rd Qzf s (Yg (Vr (E b) C D0 rd Qty K) K):=rfl
def Q2j:Code := .seq Q1d Qzv
theorem Qmc:Q0 (E b) C D0 rd Q2j s K=Q0 (E b) C D0 rd Q1d s (Yg (Vr (E b) C D0 rd Qzv K) K):=rfl
def Qzi:Code := .block 1 Q2j
theorem Qlv:Q0 (E b) C D0 rd Qzi s K=Q0 (E b) C D0 rd Q2j s (Ql8 1 K):=rfl
def Q2a:Code := .seq Qv0 Qzi
theorem Qmf:Q0 (E b) C D0 rd Q2a s K=Q0 (E b) C D0 rd Qv0 s (Yg (Vr (E b) C D0 rd Qzi K) K):=rfl
def Xhz:Code := .seq Q1t Q2a
theorem Qmm:Q0 (E b) C D0 rd Xhz s K=Q0 (E b) C D0 rd Q1t s (Yg (Vr (E b) C D0 rd Q2a K) K):=rfl
def Xe7:Code := .loop Xhz
def Qzc:Code := .block 0 Xe7
theorem Qlx:Q0 (E b) C D0 rd Qzc s K=Q0 (E b) C D0 rd Xe7 s (Ql8 0 K):=rfl
def Q19:Code := .seq Q16 Qzc
theorem Qmq:Q0 (E b) C D0 rd Q19 s K=Q0 (E b) C D0 rd Q16 s (Yg (Vr (E b) C D0 rd Qzc K) K):=rfl
abbrev Xdd:List Oper := [oP 26 (.move (.tmp 2)),
  oP 27 (.call {callee := .value (.func 26),args := #[(.tmp 26),(.func 27)],argTypes := #[35,68]})]
def Xf1:List Oper:=Xdd
def Qzs:Code := .region 0 Xf1.toArray false
theorem Qlq:Q0 (E b) C D0 rd Qzs s K=Qac (E b) C rd Xf1 K Xdd s:=rfl
abbrev Xd9:List Oper := [oP 28 (.move (.tmp 2)),
  oP 2 (.assign (.tmp 28))]
def Xfm:List Oper:=Xd9
def Qzu:Code := .region 0 Xfm.toArray false
theorem Qlr:Q0 (E b) C D0 rd Qzu s K=Qac (E b) C rd Xfm K Xd9 s:=rfl
def Qzk:Code := .seq Qzu .ret
theorem Qln:Q0 (E b) C D0 rd Qzk s K=Q0 (E b) C D0 rd Qzu s (Yg (Vr (E b) C D0 rd .ret K) K):=rfl
def Q04:Code := .seq Qzs Qzk
theorem Qlp:Q0 (E b) C D0 rd Q04 s K=Q0 (E b) C D0 rd Qzs s (Yg (Vr (E b) C D0 rd Qzk K) K):=rfl
def Q06:Code := .seq Q19 Q04
theorem Qll:Q0 (E b) C D0 rd Q06 s K=Q0 (E b) C D0 rd Q19 s (Yg (Vr (E b) C D0 rd Q04 K) K):=rfl
def Xif:Code := .seq Q2m Q06
theorem Qmy:Q0 (E b) C D0 rd Xif s K=Q0 (E b) C D0 rd Q2m s (Yg (Vr (E b) C D0 rd Q06 K) K):=rfl
def Ql2:Code:=Xif
theorem X5k:Quc (Qas 11)=Ql2:=by kernel_rfl
theorem Xxy:Qvk.body=some (Qas 11):=by kernel_rfl
theorem X7c:Qvk.ntmps=29:=by kernel_rfl
theorem Qnt:Qvk.results.toList = [.tmp 2]:=by kernel_rfl
abbrev Xpp:List Oper := [oP 4 (.alloc 32),
  oP 5 (.assign (.const (.int .i64 0)))]
def Xs4:List Oper:=Xpp
def Xc5:Code := .region 0 Xs4.toArray false
theorem Qsq:Q0 (E b) C D0 rd Xc5 s K=Qac (E b) C rd Xs4 K Xpp s:=rfl
abbrev Qxr:List Oper := [oP 7 (.move (.tmp 0)),
  oP 8 (.nilCheck (.tmp 7)),
  oP 9 (.fieldAddr 59 (.tmp 8) 1),
  oP 10 (.load 57 (.tmp 9)),
  oP 11 (.move (.tmp 1)),
  oP 12 (.lookup 57 (.tmp 10) (.tmp 11) false),
  oP 6 (.assign (.tmp 12))]
def Xs0:List Oper:=Qxr
def Xd6:Code := .region 0 Xs0.toArray false
theorem Qsm:Q0 (E b) C D0 rd Xd6 s K=Qac (E b) C rd Xs0 K Qxr s:=rfl
abbrev Xqd:List Oper := [oP 13 (.move (.tmp 6)),
  oP 14 (.binOp Go.BinOp.neq 63 (.tmp 13) (.const (.pointer none)) 63)]
def Xsj:List Oper:=Xqd
def Xc8:Code := .region 0 Xsj.toArray false
theorem Qt2:Q0 (E b) C D0 rd Xc8 s K=Qac (E b) C rd Xsj K Xqd s:=rfl
noncomputable def Qr2:Array Oper:=Xr7 (Xr6 3 (Qas 18))
def Xra:Code := .region 3 Qr2 true
abbrev Q7s:List Oper := [oP 15 (.move (.tmp 6)),
  oP 16 (.nilCheck (.tmp 15)),
  oP 17 (.fieldAddr 66 (.tmp 16) 0),
  oP 18 (.load 32 (.tmp 17)),
  oP 19 (.move (.tmp 6)),
  oP 20 (.nilCheck (.tmp 19)),
  oP 21 (.fieldAddr 66 (.tmp 20) 1),
  oP 22 (.load 64 (.tmp 21)),
  oN (.store 32 (.tmp 4) (.tmp 18)),
  oP 5 (.assign (.tmp 22))]
def Qtf:List Oper:=Q7s
theorem Xzb:Qr2.toList.map bare=Q7s:=by kernel_rfl
theorem Xxl:Qr2.toList.map bare=Qtf:=Xzb
def Qnh:List Nat := [0,1,3,7,0,16,48,112,15,511]
theorem X18:Xul Qr2.toList []=some Qnh:=by kernel_rfl
theorem Xxu:Qlj Qr2.toList Qr2.toList Qnh []=true:=by kernel_rfl
theorem X5r(b:Nat)(L:List KE)(s:St):Ab.runT (E b) L Qtf Qnh Qtf 0 s=Ab.runT (E b) L Qtf Qnh Q7s 0 s:=rfl
theorem X8m(b:Nat):Qno (E b) 8 ((nth Qnh 8).getD 0) Qtf Qnh 0=true:=by kernel_rfl
def Xck:Code := .seq Xra .ret
theorem Qsz:Q0 (E b) C D0 rd Xck s K=Q0 (E b) C D0 rd Xra s (Yg (Vr (E b) C D0 rd .ret K) K):=rfl
def Q0t:Code := .cond (.tmp 14) Xck .skip
theorem Qsu(h:aev (E b).G s.t (.tmp 14)=some (.bool true)):Q0 (E b) C D0 rd Q0t s K=Q0 (E b) C D0 rd Xck s K:=Qit h
theorem Qt3(h:aev (E b).G s.t (.tmp 14)=some (.bool false)):Q0 (E b) C D0 rd Q0t s K=Q0 (E b) C D0 rd .skip s K:=Qiv h
def Xcl:Code := .seq Xc8 Q0t
theorem Qsn:Q0 (E b) C D0 rd Xcl s K=Q0 (E b) C D0 rd Xc8 s (Yg (Vr (E b) C D0 rd Q0t K) K):=rfl
def Xcj:Code := .seq Xd6 Xcl
theorem Qsr:Q0 (E b) C D0 rd Xcj s K=Q0 (E b) C D0 rd Xd6 s (Yg (Vr (E b) C D0 rd Xcl K) K):=rfl
abbrev Xp8:List Oper := [oP 23 (.build 32 #[]),
  oN (.store 32 (.tmp 4) (.tmp 23)),
  oP 5 (.assign (.const (.int .i64 0)))]
def Xre:List Oper:=Xp8
def Xcp:Code := .region 0 Xre.toArray false
theorem Qt1:Q0 (E b) C D0 rd Xcp s K=Qac (E b) C rd Xre K Xp8 s:=rfl
def Q9s:Code := .seq Xcp .ret
theorem Qre:Q0 (E b) C D0 rd Q9s s K=Q0 (E b) C D0 rd Xcp s (Yg (Vr (E b) C D0 rd .ret K) K):=rfl
def Xcb:Code := .seq Xcj Q9s
theorem Qso:Q0 (E b) C D0 rd Xcb s K=Q0 (E b) C D0 rd Xcj s (Yg (Vr (E b) C D0 rd Q9s K) K):=rfl
def Xsg:Code := .seq Xc5 Xcb
theorem Qsx:Q0 (E b) C D0 rd Xsg s K=Q0 (E b) C D0 rd Xc5 s (Yg (Vr (E b) C D0 rd Xcb K) K):=rfl
def Qoe:Code:=Xsg
theorem Ye1:Quc (Qas 18)=Qoe:=by kernel_rfl
theorem X9q:Q44.body=some (Qas 18):=by kernel_rfl
theorem Yh0:Q44.ntmps=24:=by kernel_rfl
theorem Qv6:Q44.results.toList = [.cell 4 32, .tmp 5]:=by kernel_rfl
abbrev Xhr:List Oper := [oP 4 (.alloc 30),
  oP 5 (.assign (.const (.bool false)))]
def Xlv:List Oper:=Xhr
def Q4x:Code := .region 0 Xlv.toArray false
theorem Qzx:Q0 (E b) C D0 rd Q4x s K=Qac (E b) C rd Xlv K Xhr s:=rfl
def Xl7:List Oper:=Qxr
def Q5u:Code := .region 0 Xl7.toArray false
theorem Qzw:Q0 (E b) C D0 rd Q5u s K=Qac (E b) C rd Xl7 K Qxr s:=rfl
abbrev Xj7:List Oper := [oP 13 (.move (.tmp 6)),
  oP 14 (.binOp Go.BinOp.neq 63 (.tmp 13) (.const (.pointer none)) 63),
  oP 15 (.move (.tmp 14)),
  oG 2 true 16 (.move (.tmp 6)),
  oG 2 true 17 (.nilCheck (.tmp 16)),
  oG 2 true 18 (.fieldAddr 66 (.tmp 17) 1),
  oG 2 true 19 (.load 64 (.tmp 18)),
  oG 2 true 20 (.binOp Go.BinOp.eql 64 (.tmp 19) (.const (.int .i64 2)) 64),
  oP 21 (.pick (.tmp 15) (.tmp 20) (.const (.bool false)))]
def Q5v:List Oper:=Xj7
def Q65:Code := .region 0 Q5v.toArray false
theorem Qzg:Q0 (E b) C D0 rd Q65 s K=Qac (E b) C rd Q5v K Xj7 s:=rfl
theorem Qye:nth Q5v 2=some ⟨(some 15), .move (.tmp 14),0,"",#[],none⟩:=rfl
abbrev Xiw:List Oper := [oP 22 (.move (.tmp 6)),
  oP 23 (.nilCheck (.tmp 22)),
  oP 24 (.fieldAddr 66 (.tmp 23) 2),
  oP 25 (.load 30 (.tmp 24)),
  oN (.store 30 (.tmp 4) (.tmp 25)),
  oP 5 (.assign (.const (.bool true)))]
def Xl0:List Oper:=Xiw
def Q58:Code := .region 0 Xl0.toArray false
theorem Qzr:Q0 (E b) C D0 rd Q58 s K=Qac (E b) C rd Xl0 K Xiw s:=rfl
def Q5t:Code := .seq Q58 .ret
theorem Qze:Q0 (E b) C D0 rd Q5t s K=Q0 (E b) C D0 rd Q58 s (Yg (Vr (E b) C D0 rd .ret K) K):=rfl
def Qvt:Code := .cond (.tmp 21) Q5t .skip
theorem Q08(h:aev (E b).G s.t (.tmp 21)=some (.bool true)):Q0 (E b) C D0 rd Qvt s K=Q0 (E b) C D0 rd Q5t s K:=Qit h
theorem Q00(h:aev (E b).G s.t (.tmp 21)=some (.bool false)):Q0 (E b) C D0 rd Qvt s K=Q0 (E b) C D0 rd .skip s K:=Qiv h
def Q64:Code := .seq Q65 Qvt
theorem Qzl:Q0 (E b) C D0 rd Q64 s K=Q0 (E b) C D0 rd Q65 s (Yg (Vr (E b) C D0 rd Qvt K) K):=rfl
def Q5i:Code := .seq Q5u Q64
theorem Q05:Q0 (E b) C D0 rd Q5i s K=Q0 (E b) C D0 rd Q5u s (Yg (Vr (E b) C D0 rd Q64 K) K):=rfl
abbrev Xgt:List Oper := [oP 26 (.build 30 #[]),
  oN (.store 30 (.tmp 4) (.tmp 26)),
  oP 5 (.assign (.const (.bool false)))]
def Xi4:List Oper:=Xgt
def Q1e:Code := .region 0 Xi4.toArray false
theorem Qxp:Q0 (E b) C D0 rd Q1e s K=Qac (E b) C rd Xi4 K Xgt s:=rfl
def Q25:Code := .seq Q1e .ret
theorem Qyj:Q0 (E b) C D0 rd Q25 s K=Q0 (E b) C D0 rd Q1e s (Yg (Vr (E b) C D0 rd .ret K) K):=rfl
def Q4n:Code := .seq Q5i Q25
theorem Qzz:Q0 (E b) C D0 rd Q4n s K=Q0 (E b) C D0 rd Q5i s (Yg (Vr (E b) C D0 rd Q25 K) K):=rfl
def Xkl:Code := .seq Q4x Q4n
theorem Qzd:Q0 (E b) C D0 rd Xkl s K=Q0 (E b) C D0 rd Q4x s (Yg (Vr (E b) C D0 rd Q4n K) K):=rfl
def Qtt:Code:=Xkl
theorem X8b:Quc (Qas 19)=Qtt:=by kernel_rfl
theorem Xzo:Qx1.body=some (Qas 19):=by kernel_rfl
theorem X9f:Qx1.ntmps=27:=by kernel_rfl
theorem Q5l:Qx1.results.toList = [.cell 4 30, .tmp 5]:=by kernel_rfl
end Go.Proofs.YtcokebbiblnonaaDoor
