/-
  Facts of the functions' code and of the types, printed by a program (ShD).
-/
import Derived.Test.YtcokebbiblnonaaDoorBlA
set_option linter.all false
noncomputable section
namespace Go.Proofs.YtcokebbiblnonaaDoor
open Go Go.Ab
set_option maxRecDepth 100000
abbrev oP(d:Nat)(i:Op):Oper:=⟨some d,i,0,"",#[],none⟩
abbrev oG(j:Nat)(w:Bool)(d:Nat)(i:Op):Oper:=⟨some d,i,0,"",#[],some (j,w)⟩
abbrev oN(i:Op):Oper:=⟨none,i,0,"",#[],none⟩
abbrev oMv(n:Nat):Op:=.move (.tmp n)
abbrev oLd(y n:Nat):Op:=.load y (.tmp n)
abbrev oFa(y n f:Nat):Op:=.fieldAddr y (.tmp n) f
abbrev oIx(y n i:Nat):Op:=.indexAddr y (.tmp n) (.tmp i)
abbrev oCa(f:Nat)(a:Array Operand)(y:Array TypeId):Op:=.call {callee:=.value (.func f),args:=a,argTypes:=y}
abbrev oBu(f:Builtin)(a:Array Operand)(y:Array TypeId):Op:=.call {callee:=.builtin f,args:=a,argTypes:=y}
abbrev oAs(n:Nat):Op:=.assign (.tmp n)
abbrev oTt(n:Nat):Operand:=.tmp n
abbrev oCi(n:Int):Operand:=.const (.int .i64 n)
abbrev oRg(l:List Oper):Code:=.region 0 l.toArray false
abbrev oSQ(a x z:Code):Prop:=∀ {b:Nat} {D0:CallF} {C:CallP} {rd:Option Nat} (s:St) (K:Exit→St→Prop),Wt (E b) C D0 rd a s K=Wt (E b) C D0 rd x s (Xn7 (Y6y (E b) C D0 rd z K) K)
abbrev oBQ(n:Nat)(a x:Code):Prop:=∀ {b:Nat} {D0:CallF} {C:CallP} {rd:Option Nat} (s:St) (K:Exit→St→Prop),Wt (E b) C D0 rd a s K=Wt (E b) C D0 rd x s (Qya n K)
abbrev oTQ(n:Nat)(a x:Code):Prop:=∀ {b:Nat} {D0:CallF} {C:CallP} {rd:Option Nat} (s:St) (K:Exit→St→Prop) (h:aev (E b).G s.t (.tmp n)=some (.bool true)),Wt (E b) C D0 rd a s K=Wt (E b) C D0 rd x s K
abbrev oFQ(n:Nat)(a x:Code):Prop:=∀ {b:Nat} {D0:CallF} {C:CallP} {rd:Option Nat} (s:St) (K:Exit→St→Prop) (h:aev (E b).G s.t (.tmp n)=some (.bool false)),Wt (E b) C D0 rd a s K=Wt (E b) C D0 rd x s K
abbrev oRQ(a:Code)(o l:List Oper):Prop:=∀ {b:Nat} {D0:CallF} {C:CallP} {rd:Option Nat} (s:St) (K:Exit→St→Prop),Wt (E b) C D0 rd a s K=Xx4 (E b) C rd o K l s
@[simp] theorem oGs {b:Nat} {D0:CallF} {C:CallP} {rd:Option Nat} {x z:Code} (s:St) (K:Exit→St→Prop):Wt (E b) C D0 rd (.seq x z) s K=Wt (E b) C D0 rd x s (Xn7 (Y6y (E b) C D0 rd z K) K):=rfl
@[simp] theorem oGb {b:Nat} {D0:CallF} {C:CallP} {rd:Option Nat} {n:Nat} {x:Code} (s:St) (K:Exit→St→Prop):Wt (E b) C D0 rd (.block n x) s K=Wt (E b) C D0 rd x s (Qya n K):=rfl
@[simp] theorem oGt {b:Nat} {D0:CallF} {C:CallP} {rd:Option Nat} {c:Operand} {x z:Code} (s:St) (K:Exit→St→Prop) (h:aev (E b).G s.t c=some (.bool true)):Wt (E b) C D0 rd (.cond c x z) s K=Wt (E b) C D0 rd x s K:=Y3b h
@[simp] theorem oGf {b:Nat} {D0:CallF} {C:CallP} {rd:Option Nat} {c:Operand} {x z:Code} (s:St) (K:Exit→St→Prop) (h:aev (E b).G s.t c=some (.bool false)):Wt (E b) C D0 rd (.cond c x z) s K=Wt (E b) C D0 rd z s K:=Y3a h
@[simp] theorem oGr {b:Nat} {D0:CallF} {C:CallP} {rd:Option Nat} {o:List Oper} (s:St) (K:Exit→St→Prop):Wt (E b) C D0 rd (.region 0 o.toArray false) s K=Xx4 (E b) C rd o K o s:=rfl
noncomputable def Xda:Func:=(Tryd.prog.funcs[20]?).getD default
theorem Yg(b:Nat):(mkE Tryd.prog nv b).fn.get 20=some Xda:=by kernel_rfl
noncomputable def R30:TyRec:=((mkE Tryd.prog nv 0).ty.get 30).getD ⟨.invalid,0,0,.bool false,[]⟩
theorem Y3t(b:Nat):(E b).toEnv.ty.get 30=some R30:=by kernel_rfl
theorem Y4v:Qio R30.desc=true:=by kernel_rfl
theorem Yr2:R30.size=32:=by kernel_rfl
noncomputable def R5:TyRec:=((mkE Tryd.prog nv 0).ty.get 5).getD ⟨.invalid,0,0,.bool false,[]⟩
theorem Y55(b:Nat):(E b).toEnv.ty.get 5=some R5:=by kernel_rfl
theorem Y85:Qio R5.desc=false:=by kernel_rfl
theorem Qhd:R5.size=1:=by kernel_rfl
theorem Qwb:R5.bytes=1:=by kernel_rfl
theorem Yyu:R5.zero=(.int .u8 0):=by kernel_rfl
theorem T30(b:Nat):ArTy (E b).toEnv 32 5 30 R5 R30:=⟨Y55 b,Y3t b,by kernel_rfl⟩
theorem V3(b:Nat)(h:Heap):Qfm (E b).toEnv 30 h=some (.pointer (some ⟨h.next,0,none⟩),h.push (.cells true 1 [(.int .u8 0),(.int .u8 0),(.int .u8 0),(.int .u8 0),(.int .u8 0),(.int .u8 0),(.int .u8 0),(.int .u8 0),(.int .u8 0),(.int .u8 0),(.int .u8 0),(.int .u8 0),(.int .u8 0),(.int .u8 0),(.int .u8 0),(.int .u8 0),(.int .u8 0),(.int .u8 0),(.int .u8 0),(.int .u8 0),(.int .u8 0),(.int .u8 0),(.int .u8 0),(.int .u8 0),(.int .u8 0),(.int .u8 0),(.int .u8 0),(.int .u8 0),(.int .u8 0),(.int .u8 0),(.int .u8 0),(.int .u8 0)])):=by kernel_rfl
noncomputable def Qkq:Func:=(Tryd.prog.funcs[41]?).getD default
theorem Qch(b:Nat):(mkE Tryd.prog nv b).fn.get 41=some Qkq:=by kernel_rfl
theorem Va(b:Nat)(h:Heap)(bk o:Nat)(l:List Value)(hl:l.length=32):Qjf (E b).toEnv 30 (.pointer (some ⟨bk,o,none⟩)) (.agg ⟨l⟩) h=Qdq h bk o l:=Yg6 (Y3t b) (by rw[Yr2];exact hl)
theorem Qqj(b:Nat)(a:Option Addr)(n c:Nat)(h:Heap):Q2a (E b).toEnv 51 (.slice a n c) h=some (.int .i64 n):=by kernel_rfl
theorem Yo(x y:Int):Qdj (binOp .gtr 3 (.int .i64 x) (.int .i64 y))=some (.bool (decide (x > y))):=by kernel_rfl
noncomputable def R92:TyRec:=((mkE Tryd.prog nv 0).ty.get 92).getD ⟨.invalid,0,0,.bool false,[]⟩
theorem Y5l(b:Nat):(E b).toEnv.ty.get 92=some R92:=by kernel_rfl
theorem Y3p:Qio R92.desc=true:=by kernel_rfl
theorem Ysi:R92.size=8:=by kernel_rfl
noncomputable def R90:TyRec:=((mkE Tryd.prog nv 0).ty.get 90).getD ⟨.invalid,0,0,.bool false,[]⟩
theorem Y1g(b:Nat):(E b).toEnv.ty.get 90=some R90:=by kernel_rfl
theorem Y3k:Qio R90.desc=false:=by kernel_rfl
theorem Qke:R90.size=1:=by kernel_rfl
theorem T92(b:Nat):ArTy (E b).toEnv 8 90 92 R90 R92:=⟨Y1g b,Y5l b,by kernel_rfl⟩
theorem Ykl(b:Nat)(h:Heap)(bk o:Nat):Qnh (E b).toEnv 92 (.pointer (some ⟨bk,o,none⟩)) h=Qcd h bk o 8:=Ygu (Y5l b) Y3p Ysi
theorem X93(b:Nat)(h:Heap):Qfm (E b).toEnv 92 h=some (.pointer (some ⟨h.next,0,none⟩),h.push (.cells true 1 [(.int .u32 0),(.int .u32 0),(.int .u32 0),(.int .u32 0),(.int .u32 0),(.int .u32 0),(.int .u32 0),(.int .u32 0)])):=by kernel_rfl
theorem X5g(b:Nat)(h:Heap)(bk o:Nat)(l:List Value)(hl:l.length=8):Qjf (E b).toEnv 92 (.pointer (some ⟨bk,o,none⟩)) (.agg ⟨l⟩) h=Qdq h bk o l:=Yg6 (Y5l b) (by rw[Ysi];exact hl)
theorem Ybq(b:Nat){bk o:Nat}{k:IntKind}{i:Int}(h:0≤i∧i < 8):J2 (E b).toEnv 92 (.pointer (some ⟨bk,o,none⟩)) (.int k i)=some (.pointer (some ⟨bk,o+i.toNat*1,none⟩)):=Yi3 (T92 b) Qke h
theorem Qce(b:Nat)(h:Heap)(bk o:Nat):Qnh (E b).toEnv 90 (.pointer (some ⟨bk,o,none⟩)) h=Vs h bk o:=Yad (Y1g b) Y3k
theorem Qe2(b:Nat):Qww (E b).toEnv 3 90=true:=by kernel_rfl
theorem Qcj(b:Nat)(k:IntKind)(n:Int):Qrl (E b).toEnv 3 90 (.int k n)=some (.int .u32 (IntKind.wrap .u32 n)):=by kernel_rfl
theorem Up(b:Nat)(h:Heap)(bk o:Nat)(k:IntKind)(z:Int):Qjf (E b).toEnv 90 (.pointer (some ⟨bk,o,none⟩)) (.int k z) h=Qdq h bk o [(.int k z)]:=Yfz (Y1g b) Qke rfl
theorem Y0(x y:Int):Qdj (binOp .add 3 (.int .i64 x) (.int .i64 y))=some (.int .i64 (IntKind.wrap .i64 (x+y))):=by kernel_rfl
noncomputable def R51:TyRec:=((mkE Tryd.prog nv 0).ty.get 51).getD ⟨.invalid,0,0,.bool false,[]⟩
theorem Y14(b:Nat):(E b).toEnv.ty.get 51=some R51:=by kernel_rfl
theorem T51(b:Nat):SlTy (E b).toEnv 5 51 R5 R51:=⟨Y55 b,Y14 b,by kernel_rfl⟩
theorem Yr(x y:Int):Qdj (binOp .sub 3 (.int .i64 x) (.int .i64 y))=some (.int .i64 (IntKind.wrap .i64 (x-y))):=by kernel_rfl
noncomputable def R3:TyRec:=((mkE Tryd.prog nv 0).ty.get 3).getD ⟨.invalid,0,0,.bool false,[]⟩
theorem Y2q(b:Nat):(E b).toEnv.ty.get 3=some R3:=by kernel_rfl
theorem Y7e:Qio R3.desc=false:=by kernel_rfl
theorem Qt6:R3.size=1:=by kernel_rfl
theorem X5y(b:Nat)(h:Heap):Qfm (E b).toEnv 94 h=some (.pointer (some ⟨h.next,0,none⟩),h.push (.cells true 1 (List.replicate 64 (.int .u8 0)))):=by kernel_rfl
theorem Qe0(b:Nat):Qww (E b).toEnv 3 93=true:=by kernel_rfl
theorem Qdz(b:Nat)(k:IntKind)(n:Int):Qrl (E b).toEnv 3 93 (.int k n)=some (.int .u64 (IntKind.wrap .u64 n)):=by kernel_rfl
theorem Xe3(x y:Int):Qdj (binOp .add 93 (.int .u64 x) (.int .u64 y))=some (.int .u64 (IntKind.wrap .u64 (x+y))):=by kernel_rfl
theorem Z6(x y:Int):Qdj (binOp .eql 3 (.int .i64 x) (.int .i64 y))=some (.bool (decide (x=y))):=by kernel_rfl
noncomputable def Xux:Func:=(Tryd.prog.funcs[50]?).getD default
theorem Qbo(b:Nat):(mkE Tryd.prog nv b).fn.get 50=some Xux:=by kernel_rfl
theorem Xv(x y:Int):Qdj (binOp .lss 3 (.int .i64 x) (.int .i64 y))=some (.bool (decide (x < y))):=by kernel_rfl
theorem Qbr(x:Int):Qdj (binOp .quo 3 (.int .i64 x) (.int .i64 4))=some (.int .i64 (IntKind.wrap .i64 (Int.tdiv x 4))):=by kernel_rfl
theorem Qbq(x:Int):Qdj (binOp .rem 3 (.int .i64 x) (.int .i64 4))=some (.int .i64 (Int.tmod x 4)):=by kernel_rfl
theorem Qaq(x y:Int):Qdj (binOp .mul 3 (.int .i64 x) (.int .i64 y))=some (.int .i64 (IntKind.wrap .i64 (x*y))):=by kernel_rfl
theorem Qdy(b:Nat):Qww (E b).toEnv 90 5=true:=by kernel_rfl
theorem Qdx(b:Nat)(k:IntKind)(n:Int):Qrl (E b).toEnv 90 5 (.int k n)=some (.int .u8 (IntKind.wrap .u8 n)):=by kernel_rfl
theorem Qpf(b:Nat){bk o:Nat}{k:IntKind}{i:Int}(h:0≤i∧i < 32):J2 (E b).toEnv 30 (.pointer (some ⟨bk,o,none⟩)) (.int k i)=some (.pointer (some ⟨bk,o+i.toNat*1,none⟩)):=Yi3 (T30 b) Qhd h
theorem Qhy(b:Nat)(h:Heap)(bk o:Nat)(k:IntKind)(z:Int):Qjf (E b).toEnv 5 (.pointer (some ⟨bk,o,none⟩)) (.int k z) h=Qdq h bk o [(.int k z)]:=Yfz (Y55 b) Qhd rfl
theorem Jn(b:Nat)(h:Heap)(bk o:Nat):Qnh (E b).toEnv 30 (.pointer (some ⟨bk,o,none⟩)) h=Qcd h bk o 32:=Ygu (Y3t b) Y4v Yr2
noncomputable def Qwr:Func:=(Tryd.prog.funcs[8]?).getD default
theorem Xg(b:Nat):(mkE Tryd.prog nv b).fn.get 8=some Qwr:=by kernel_rfl
noncomputable def R54:TyRec:=((mkE Tryd.prog nv 0).ty.get 54).getD ⟨.invalid,0,0,.bool false,[]⟩
theorem Y7k(b:Nat):(E b).toEnv.ty.get 54=some R54:=by kernel_rfl
theorem Y0h:R54.size=3:=by kernel_rfl
theorem T54(b:Nat):ArTy (E b).toEnv 3 3 54 R3 R54:=⟨Y2q b,Y7k b,by kernel_rfl⟩
noncomputable def Qg0:Func:=(Tryd.prog.funcs[23]?).getD default
theorem Xe(b:Nat):(mkE Tryd.prog nv b).fn.get 23=some Qg0:=by kernel_rfl
theorem U8(b bk o:Nat):Wm (E b).toEnv 59 (.pointer (some ⟨bk,o,none⟩)) 1=some (.pointer (some ⟨bk,o+3,none⟩)):=by kernel_rfl
noncomputable def R57:TyRec:=((mkE Tryd.prog nv 0).ty.get 57).getD ⟨.invalid,0,0,.bool false,[]⟩
theorem Yy0(b:Nat):(E b).toEnv.ty.get 57=some R57:=by kernel_rfl
theorem Y5n:Qio R57.desc=false:=by kernel_rfl
theorem Qbt(b:Nat)(h:Heap)(bk o:Nat):Qnh (E b).toEnv 57 (.pointer (some ⟨bk,o,none⟩)) h=Vs h bk o:=Yad (Yy0 b) Y5n
theorem Yp(b bk o:Nat):Wm (E b).toEnv 32 (.pointer (some ⟨bk,o,none⟩)) 1=some (.pointer (some ⟨bk,o+1,none⟩)):=by kernel_rfl
theorem Jk(b:Nat)(h:Heap)(bk o:Nat):Qnh (E b).toEnv 3 (.pointer (some ⟨bk,o,none⟩)) h=Vs h bk o:=Yad (Y2q b) Y7e
theorem Zl(b bk o:Nat):Wm (E b).toEnv 32 (.pointer (some ⟨bk,o,none⟩)) 0=some (.pointer (some ⟨bk,o+0,none⟩)):=by kernel_rfl
theorem Yu(x y:Int):Qdj (binOp .neq 3 (.int .i64 x) (.int .i64 y))=some (.bool (!(decide (x=y)))):=by kernel_rfl
theorem Zp(b bk o:Nat):Wm (E b).toEnv 32 (.pointer (some ⟨bk,o,none⟩)) 3=some (.pointer (some ⟨bk,o+3,none⟩)):=by kernel_rfl
theorem Yt(b bk o:Nat):Wm (E b).toEnv 32 (.pointer (some ⟨bk,o,none⟩)) 2=some (.pointer (some ⟨bk,o+2,none⟩)):=by kernel_rfl
theorem Uz(b bk o:Nat):Wm (E b).toEnv 59 (.pointer (some ⟨bk,o,none⟩)) 3=some (.pointer (some ⟨bk,o+5,none⟩)):=by kernel_rfl
theorem Ul(x y:Int):Qdj (binOp .geq 3 (.int .i64 x) (.int .i64 y))=some (.bool (decide (x ≥ y))):=by kernel_rfl
theorem Un(b bk o:Nat):Wm (E b).toEnv 59 (.pointer (some ⟨bk,o,none⟩)) 0=some (.pointer (some ⟨bk,o+0,none⟩)):=by kernel_rfl
theorem Vo(b:Nat){bk o:Nat}{k:IntKind}{i:Int}(h:0≤i∧i < 3):J2 (E b).toEnv 54 (.pointer (some ⟨bk,o,none⟩)) (.int k i)=some (.pointer (some ⟨bk,o+i.toNat*1,none⟩)):=Yi3 (T54 b) Qt6 h
noncomputable def R32:TyRec:=((mkE Tryd.prog nv 0).ty.get 32).getD ⟨.invalid,0,0,.bool false,[]⟩
theorem Y5b(b:Nat):(E b).toEnv.ty.get 32=some R32:=by kernel_rfl
theorem Y3u:Qio R32.desc=true:=by kernel_rfl
theorem Q21:R32.size=36:=by kernel_rfl
theorem Yy5:R32.bytes=64:=by kernel_rfl
theorem U2(b:Nat)(h:Heap)(bk o:Nat):Qnh (E b).toEnv 32 (.pointer (some ⟨bk,o,none⟩)) h=Qcd h bk o 36:=Ygu (Y5b b) Y3u Q21
theorem Zn(b:Nat)(h:Heap)(bk o:Nat)(k:IntKind)(z:Int):Qjf (E b).toEnv 3 (.pointer (some ⟨bk,o,none⟩)) (.int k z) h=Qdq h bk o [(.int k z)]:=Yfz (Y2q b) Qt6 rfl
theorem Uv(b bk o:Nat):Wm (E b).toEnv 59 (.pointer (some ⟨bk,o,none⟩)) 2=some (.pointer (some ⟨bk,o+4,none⟩)):=by kernel_rfl
noncomputable def Qdn:Func:=(Tryd.prog.funcs[43]?).getD default
theorem Zs(b:Nat):(mkE Tryd.prog nv b).fn.get 43=some Qdn:=by kernel_rfl
theorem Qfj(b bk o:Nat):Wm (E b).toEnv 66 (.pointer (some ⟨bk,o,none⟩)) 1=some (.pointer (some ⟨bk,o+36,none⟩)):=by kernel_rfl
noncomputable def R64:TyRec:=((mkE Tryd.prog nv 0).ty.get 64).getD ⟨.invalid,0,0,.bool false,[]⟩
theorem Y8m(b:Nat):(E b).toEnv.ty.get 64=some R64:=by kernel_rfl
theorem Y42:Qio R64.desc=false:=by kernel_rfl
theorem Y27:R64.size=1:=by kernel_rfl
theorem Q50(b:Nat)(h:Heap)(bk o:Nat)(k:IntKind)(z:Int):Qjf (E b).toEnv 64 (.pointer (some ⟨bk,o,none⟩)) (.int k z) h=Qdq h bk o [(.int k z)]:=Yfz (Y8m b) Y27 rfl
theorem Qe1(b bk o:Nat):Wm (E b).toEnv 66 (.pointer (some ⟨bk,o,none⟩)) 0=some (.pointer (some ⟨bk,o+0,none⟩)):=by kernel_rfl
theorem Qi9(x y:Int):Qdj (binOp .eql 64 (.int .i64 x) (.int .i64 y))=some (.bool (decide (x=y))):=by kernel_rfl
noncomputable def Qfs:Func:=(Tryd.prog.funcs[42]?).getD default
theorem Jo(b:Nat):(mkE Tryd.prog nv b).fn.get 42=some Qfs:=by kernel_rfl
theorem Qrc(b:Nat)(q:Bool)(a:Option Addr):Zd (E b).toEnv .neq 63 q (.pointer a) (.pointer none)=some (.bool (!a.isNone)):=by cases a <;> kernel_rfl
theorem Xk8(b:Nat)(h:Heap)(bk o:Nat):Qnh (E b).toEnv 64 (.pointer (some ⟨bk,o,none⟩)) h=Vs h bk o:=Yad (Y8m b) Y42
noncomputable def Qgd:Func:=(Tryd.prog.funcs[24]?).getD default
theorem Yn(b:Nat):(mkE Tryd.prog nv b).fn.get 24=some Qgd:=by kernel_rfl
theorem Qm8(b:Nat)(q:Bool)(a:Option Addr):Zd (E b).toEnv .eql 63 q (.pointer a) (.pointer none)=some (.bool (a.isNone)):=by cases a <;> kernel_rfl
theorem Qbm(b bk o:Nat):Wm (E b).toEnv 32 (.pointer (some ⟨bk,o,none⟩)) 4=some (.pointer (some ⟨bk,o+4,none⟩)):=by kernel_rfl
def L30:List Nat:=R30.leaf
theorem Wz(b:Nat)(q:Bool)(x y:List Value):Zd (E b).toEnv .neq 30 q (.agg ⟨x⟩) (.agg ⟨y⟩)=(Qa7 L30 x y).map (fun z => .bool (!z)):=by kernel_rfl
theorem Qvc(b bk o:Nat):Wm (E b).toEnv 66 (.pointer (some ⟨bk,o,none⟩)) 2=some (.pointer (some ⟨bk,o+37,none⟩)):=by kernel_rfl
noncomputable def Qhv:Func:=(Tryd.prog.funcs[25]?).getD default
theorem Yq(b:Nat):(mkE Tryd.prog nv b).fn.get 25=some Qhv:=by kernel_rfl
noncomputable def Qgg:Func:=(Tryd.prog.funcs[22]?).getD default
theorem Qj(b:Nat):(mkE Tryd.prog nv b).fn.get 22=some Qgg:=by kernel_rfl
noncomputable def Qfo:Func:=(Tryd.prog.funcs[11]?).getD default
theorem Q6(b:Nat):(mkE Tryd.prog nv b).fn.get 11=some Qfo:=by kernel_rfl
theorem Wc(b:Nat)(a:Option Addr)(n c:Nat)(h:Heap):Q2a (E b).toEnv 35 (.slice a n c) h=some (.int .i64 n):=by kernel_rfl
noncomputable def R35:TyRec:=((mkE Tryd.prog nv 0).ty.get 35).getD ⟨.invalid,0,0,.bool false,[]⟩
theorem Zad(b:Nat):(E b).toEnv.ty.get 35=some R35:=by kernel_rfl
theorem T35(b:Nat):SlTy (E b).toEnv 32 35 R32 R35:=⟨Y5b b,Zad b,by kernel_rfl⟩
theorem Wb(b:Nat){bk o n c:Nat}{k:IntKind}{i:Int}(h:0≤i∧i < n):J2 (E b).toEnv 35 (.slice (some ⟨bk,o,none⟩) n c) (.int k i)=some (.pointer (some ⟨bk,o+i.toNat*36,none⟩)):=Qgs (T35 b) Q21 h
theorem Vt(b:Nat)(h:Heap):Qfm (E b).toEnv 32 h=some (.pointer (some ⟨h.next,0,none⟩),h.push (.cells true 1 [(.int .i64 0),(.int .i64 0),(.int .i64 0),(.int .i64 0),(.int .u8 0),(.int .u8 0),(.int .u8 0),(.int .u8 0),(.int .u8 0),(.int .u8 0),(.int .u8 0),(.int .u8 0),(.int .u8 0),(.int .u8 0),(.int .u8 0),(.int .u8 0),(.int .u8 0),(.int .u8 0),(.int .u8 0),(.int .u8 0),(.int .u8 0),(.int .u8 0),(.int .u8 0),(.int .u8 0),(.int .u8 0),(.int .u8 0),(.int .u8 0),(.int .u8 0),(.int .u8 0),(.int .u8 0),(.int .u8 0),(.int .u8 0),(.int .u8 0),(.int .u8 0),(.int .u8 0),(.int .u8 0)])):=by kernel_rfl
theorem Uw(b:Nat)(h:Heap)(bk o:Nat)(l:List Value)(hl:l.length=36):Qjf (E b).toEnv 32 (.pointer (some ⟨bk,o,none⟩)) (.agg ⟨l⟩) h=Qdq h bk o l:=Yg6 (Y5b b) (by rw[Q21];exact hl)
theorem Vi(x y:Int):Qdj (binOp .leq 3 (.int .i64 x) (.int .i64 y))=some (.bool (decide (x≤y))):=by kernel_rfl
noncomputable def R53:TyRec:=((mkE Tryd.prog nv 0).ty.get 53).getD ⟨.invalid,0,0,.bool false,[]⟩
theorem Y4l(b:Nat):(E b).toEnv.ty.get 53=some R53:=by kernel_rfl
theorem Y4o:Qio R53.desc=false:=by kernel_rfl
theorem Yrh:R53.size=1:=by kernel_rfl
theorem T53(b:Nat):SlTy (E b).toEnv 3 53 R3 R53:=⟨Y2q b,Y4l b,by kernel_rfl⟩
noncomputable def Qfq:Func:=(Tryd.prog.funcs[13]?).getD default
theorem Qg(b:Nat):(mkE Tryd.prog nv b).fn.get 13=some Qfq:=by kernel_rfl
noncomputable def Qhw:Func:=(Tryd.prog.funcs[12]?).getD default
theorem Yl(b:Nat):(mkE Tryd.prog nv b).fn.get 12=some Qhw:=by kernel_rfl
noncomputable def Qky:Func:=(Tryd.prog.funcs[26]?).getD default
theorem Uy(b:Nat):(mkE Tryd.prog nv b).fn.get 26=some Qky:=by kernel_rfl
noncomputable def Qip:Func:=(Tryd.prog.funcs[18]?).getD default
theorem Qi(b:Nat):(mkE Tryd.prog nv b).fn.get 18=some Qip:=by kernel_rfl
noncomputable def Qgb:Func:=(Tryd.prog.funcs[19]?).getD default
theorem Yc(b:Nat):(mkE Tryd.prog nv b).fn.get 19=some Qgb:=by kernel_rfl
abbrev Yjz:List Oper:=[oP 2 (.alloc 30)]
abbrev Ykq:Code:=oRg Yjz
abbrev Yjq:List Oper:=[oP 3 (oMv 0),oP 4 (oCa 41 #[(.const (.slice none 0 0)),(oTt 3)] #[51,51]),oN (.store 30 (oTt 2) (oTt 4))]
abbrev Ynj:Code:=oRg Yjq
abbrev Ymn:Code:=.seq Ynj .ret
abbrev Ymi:Code:=.seq Ykq Ymn
def Q39:Code:=Ymi
theorem Yli:Qdk (V7 20)=Q39:=by kernel_rfl
theorem Yej:Xda.body=some (V7 20):=by kernel_rfl
theorem Ypz:Xda.ntmps=5:=by kernel_rfl
theorem Xy7:Xda.results.toList=[.cell 2 30]:=by kernel_rfl
abbrev X6e:List Oper:=[oP 4 (.alloc 30)]
abbrev Yd4:Code:=oRg X6e
abbrev X9a:List Oper:=[oP 13 (oMv 0),oP 14 (oBu .len #[(oTt 13)] #[51]),oP 15 (.binOp .gtr 3 (oTt 14) (oCi 32) 3)]
abbrev Ydv:Code:=oRg X9a
abbrev X7s:List Oper:=[oP 16 (oMv 0),oP 17 (oCa 20 #[(oTt 16)] #[51]),oP 5 (.alloc 30),oN (.store 30 (oTt 5) (oTt 17))]
abbrev Yeq:Code:=oRg X7s
abbrev X41:List Oper:=[oP 18 (.slice 30 (oTt 5) none none none),oP 0 (oAs 18)]
abbrev Ycm:Code:=oRg X41
abbrev Ydb:Code:=.seq Yeq Ycm
abbrev Ydo:Code:=.cond (.tmp 15) Ydb .skip
abbrev Yfe:Code:=.seq Ydv Ydo
abbrev X99:List Oper:=[oP 19 (.load 92 (.global 0)),oP 6 (.alloc 92),oN (.store 92 (oTt 6) (oTt 19))]
abbrev Ydp:Code:=oRg X99
abbrev Xz5:List Oper:=[oP 20 (.indexAddr 92 (oTt 6) (oCi 0)),oP 21 (oLd 90 20),oP 22 (oMv 0),oP 23 (oBu .len #[(oTt 22)] #[51]),oP 24 (.convert 3 90 (oTt 23)),oP 25 (.binOp .shl 90 (oTt 24) (.const (.int .u64 8)) 87),oP 26 (.binOp .xor 90 (.const (.int .u32 16842752)) (oTt 25) 90),oP 27 (.binOp .xor 90 (oTt 26) (.const (.int .u32 32)) 90),oP 28 (.binOp .xor 90 (oTt 21) (oTt 27) 90),oP 29 (.indexAddr 92 (oTt 6) (oCi 0)),oN (.store 90 (oTt 29) (oTt 28))]
abbrev X9j:Code:=oRg Xz5
abbrev Xzl:List Oper:=[oP 30 (oMv 1),oP 7 (oAs 30)]
abbrev Yay:Code:=oRg Xzl
abbrev X0i:List Oper:=[oP 31 (oMv 0),oP 32 (oBu .len #[(oTt 31)] #[51]),oP 33 (.binOp .gtr 3 (oTt 32) (oCi 0) 3)]
abbrev X9i:Code:=oRg X0i
abbrev X02:List Oper:=[oP 34 (oMv 1),oP 35 (oBu .len #[(oTt 34)] #[51]),oP 36 (.binOp .add 3 (oCi 64) (oTt 35) 3),oP 37 (.makeSlice 51 (oCi 0) (oTt 36)),oP 38 (oMv 0),oP 39 (oBu .append #[(oTt 37),(oTt 38)] #[51,51]),oP 40 (oMv 0),oP 41 (oBu .len #[(oTt 40)] #[51]),oP 42 (.binOp .sub 3 (oCi 64) (oTt 41) 3),oP 43 (oBu .append #[(oTt 39),(oTt 42)] #[51,3]),oP 44 (oMv 1),oP 45 (oBu .append #[(oTt 43),(oTt 44)] #[51,51]),oP 7 (oAs 45)]
abbrev Ya8:Code:=oRg X02
abbrev X6d:Code:=.cond (.tmp 33) Ya8 .skip
abbrev X55:Code:=.seq X9i X6d
abbrev X17:List Oper:=[oP 8 (.assign (.const (.int .u64 0)))]
abbrev Ybr:Code:=oRg X17
abbrev X08:List Oper:=[oP 9 (.alloc 94)]
abbrev X2l:Code:=oRg X08
abbrev X1b:List Oper:=[oP 46 (.slice 94 (oTt 9) none none none),oP 47 (oMv 7),oP 48 (oBu .copy #[(oTt 46),(oTt 47)] #[51,51]),oP 10 (oAs 48)]
abbrev Yae:Code:=oRg X1b
abbrev X01:List Oper:=[oP 49 (oMv 7),oP 50 (oMv 10),oP 51 (.slice 51 (oTt 49) (some (oTt 50)) none none),oP 7 (oAs 51)]
abbrev X67:Code:=oRg X01
abbrev Xy9:List Oper:=[oP 52 (oMv 8),oP 53 (oMv 10),oP 54 (.convert 3 93 (oTt 53)),oP 55 (.binOp .add 93 (oTt 52) (oTt 54) 93),oP 8 (oAs 55)]
abbrev X81:Code:=oRg Xy9
abbrev Xzs:List Oper:=[oP 56 (oLd 92 6),oP 57 (oMv 8),oP 58 (oMv 7),oP 59 (oBu .len #[(oTt 58)] #[51]),oP 60 (.binOp .eql 3 (oTt 59) (oCi 0) 3),oP 61 (oCa 50 #[(oTt 56),(oTt 9),(oTt 57),(oTt 60)] #[92,96,93,4]),oN (.store 92 (oTt 6) (oTt 61))]
abbrev X84:Code:=oRg Xzs
abbrev X1j:List Oper:=[oP 62 (oMv 7),oP 63 (oBu .len #[(oTt 62)] #[51]),oP 64 (.binOp .eql 3 (oTt 63) (oCi 0) 3)]
abbrev Ya1:Code:=oRg X1j
abbrev X4z:Code:=.cond (.tmp 64) (.exit 0) .skip
abbrev X48:Code:=.seq Ya1 X4z
abbrev X6g:Code:=.seq X84 X48
abbrev Yac:Code:=.seq X81 X6g
abbrev Ybj:Code:=.seq X67 Yac
abbrev X9e:Code:=.seq Yae Ybj
abbrev X9b:Code:=.seq X2l X9e
abbrev X45:Code:=.block 1 X9b
def Xoo:Code:=.loop X45
def Qx4:Code:=.block 0 Xoo
theorem Qbz:oBQ 0 Qx4 Xoo:=fun _ _=>rfl
abbrev X19:List Oper:=[oP 11 (.alloc 30)]
abbrev X82:Code:=oRg X19
abbrev Xyh:List Oper:=[oP 65 (.move (oCi 0))]
abbrev Yab:Code:=oRg Xyh
abbrev Xza:List Oper:=[oP 66 (.binOp .lss 3 (oTt 65) (oCi 32) 3)]
abbrev X2g:Code:=oRg Xza
abbrev X2s:Code:=.cond (.tmp 66) .skip (.exit 2)
abbrev X0o:List Oper:=[oP 67 (oMv 65),oP 12 (oAs 67)]
abbrev X8l:Code:=oRg X0o
abbrev X03:List Oper:=[oP 68 (oMv 12),oP 69 (oMv 12),oP 70 (.binOp .quo 3 (oTt 69) (oCi 4) 3),oP 71 (oIx 92 6 70),oP 72 (oLd 90 71),oP 73 (oMv 12),oP 74 (.binOp .rem 3 (oTt 73) (oCi 4) 3),oP 75 (.binOp .mul 3 (oCi 8) (oTt 74) 3),oP 76 (.binOp .shr 90 (oTt 72) (oTt 75) 3),oP 77 (.convert 90 5 (oTt 76)),oP 78 (oIx 30 11 68),oN (.store 5 (oTt 78) (oTt 77))]
abbrev Ybu:Code:=oRg X03
abbrev X2w:Code:=.seq X8l Ybu
abbrev Ybn:Code:=.block 3 X2w
abbrev X0a:List Oper:=[oP 79 (.binOp .add 3 (oTt 65) (oCi 1) 3),oP 65 (oMv 79)]
abbrev X4h:Code:=oRg X0a
abbrev X8c:Code:=.seq Ybn X4h
abbrev X7a:Code:=.seq X2s X8c
abbrev X9s:Code:=.seq X2g X7a
def X88:Code:=.loop X9s
abbrev X26:Code:=.block 2 X88
abbrev X92:Code:=.seq Yab X26
abbrev Xyx:List Oper:=[oP 80 (oLd 30 11),oN (.store 30 (oTt 4) (oTt 80))]
abbrev X9r:Code:=oRg Xyx
abbrev X3l:Code:=.seq X9r .ret
abbrev X6k:Code:=.seq X92 X3l
abbrev Qyo:Code:=.seq X82 X6k
def Qqq:Code:=.seq Qx4 Qyo
theorem Qap:oSQ Qqq Qx4 Qyo:=fun _ _=>rfl
abbrev X59:Code:=.seq Ybr Qqq
abbrev X6a:Code:=.seq X55 X59
abbrev Yc0:Code:=.seq Yay X6a
abbrev X5j:Code:=.seq X9j Yc0
abbrev Ybx:Code:=.seq Ydp X5j
abbrev Yfh:Code:=.seq Yfe Ybx
abbrev Yer:Code:=.seq Yd4 Yfh
def Qcg:Code:=Yer
theorem Yfn:Qdk (V7 41)=Qcg:=by kernel_rfl
theorem Xzm:Qkq.body=some (V7 41):=by kernel_rfl
theorem Yie:Qkq.ntmps=81:=by kernel_rfl
theorem Qfp:Qkq.results.toList=[.cell 4 30]:=by kernel_rfl
abbrev X9h:List Oper:=[oP 4 (.assign (.const (.pointer none))),oP 5 (.assign (oCi 0))]
abbrev Yet:Code:=oRg X9h
abbrev Xml:List Oper:=[oP 6 (oMv 0),oP 7 (.binOp .lss 3 (oTt 6) (oCi 0) 3),oP 8 (oMv 7),oG 2 false 9 (oMv 1),oG 2 false 10 (.binOp .lss 3 (oTt 9) (oCi 0) 3),oP 11 (.pick (oTt 8) (.const (.bool true)) (oTt 10)),oP 12 (oMv 11),oG 6 false 13 (oMv 0),oG 6 false 14 (.binOp .gtr 3 (oTt 13) (oCi 1125899906842624) 3),oP 15 (.pick (oTt 12) (.const (.bool true)) (oTt 14)),oP 16 (oMv 15),oG 10 false 17 (oMv 1),oG 10 false 18 (oMv 0),oG 10 false 19 (.binOp .sub 3 (oCi 1125899906842624) (oTt 18) 3),oG 10 false 20 (.binOp .gtr 3 (oTt 17) (oTt 19) 3),oP 21 (.pick (oTt 16) (.const (.bool true)) (oTt 20))]
def Qop:List Oper:=Xml
def Xsa:Code:=oRg Qop
theorem Qla:oRQ Xsa Qop Xml:=fun _ _=>rfl
theorem Qjv:nth Qop 2=some ⟨(some 8),.move (.tmp 7),0,"",#[],none⟩:=rfl
theorem Qjp:nth Qop 6=some ⟨(some 12),.move (.tmp 11),0,"",#[],none⟩:=rfl
theorem Qil:nth Qop 10=some ⟨(some 16),.move (.tmp 15),0,"",#[],none⟩:=rfl
abbrev X9f:List Oper:=[oP 4 (.assign (.const (.pointer none))),oP 5 (.assign (oCi 15))]
abbrev Yf4:Code:=oRg X9f
abbrev Ycc:Code:=.seq Yf4 .ret
abbrev Ycu:Code:=.cond (.tmp 21) Ycc .skip
abbrev Yey:Code:=.seq Xsa Ycu
abbrev X6x:List Oper:=[oP 22 (oMv 0),oP 23 (oMv 1),oP 24 (.build 54 #[(0,(oCi 0)),(1,(oTt 22)),(2,(oTt 23))]),oP 25 (.makeMap 57 none),oP 26 (.build 59 #[(0,(oTt 24)),(1,(oTt 25))]),oP 27 (.box 59 (oTt 26)),oP 4 (oAs 27),oP 5 (.assign (oCi 0))]
abbrev Yf9:Code:=oRg X6x
abbrev Yfa:Code:=.seq Yf9 .ret
abbrev Yfk:Code:=.seq Yey Yfa
abbrev Yco:Code:=.seq Yet Yfk
def Qie:Code:=Yco
theorem Yei:Qdk (V7 8)=Qie:=by kernel_rfl
theorem X0k:Qwr.body=some (V7 8):=by kernel_rfl
theorem Yjr:Qwr.ntmps=28:=by kernel_rfl
theorem Qot:Qwr.results.toList=[.tmp 4,.tmp 5]:=by kernel_rfl
abbrev Xct:List Oper:=[oP 3 (.box 32 (oTt 1)),oP 4 (.assign (oCi 0))]
abbrev Xie:Code:=oRg Xct
noncomputable def Qd5:Array Oper:=Qmh (Qmr 1 (V7 23))
def Xgq:Code:=.region 1 Qd5 true
abbrev Qji:List Oper:=[oP 8 (oMv 0),oP 9 (.nilCheck (oTt 8)),oP 10 (oFa 59 9 1),oP 11 (oLd 57 10),oP 12 (oFa 32 3 1),oP 13 (oLd 3 12),oP 14 (.lookup 57 (oTt 11) (oTt 13) true),oP 7 (oMv 14),oP 15 (.extract (oTt 7) 0),oP 16 (.extract (oTt 7) 1),oP 5 (oAs 15),oP 6 (oAs 16)]
def Qgz:List Oper:=Qji
theorem Qys:Qd5.toList.map bare=Qji:=by kernel_rfl
theorem Qm5:Qd5.toList.map bare=Qgz:=Qys
def Qc6:List Nat:=[0,1,3,7,0,16,63,127,255,255,511,2047]
theorem Qmk:Qrx Qd5.toList []=some Qc6:=by kernel_rfl
theorem Qm2:Qa6 Qd5.toList Qd5.toList Qc6 []=true:=by kernel_rfl
theorem Qnn(b:Nat)(L:List KE)(s:St):Ab.runT (E b) L Qgz Qc6 Qgz 0 s=Ab.runT (E b) L Qgz Qc6 Qji 0 s:=rfl
abbrev Qr0:List Oper:=[oP 18 (oFa 32 3 0),oP 19 (oLd 3 18),oP 20 (.binOp .neq 3 (oTt 19) (oCi 1) 3),oP 21 (oMv 20),oG 3 true 22 (oFa 32 3 0),oG 3 true 23 (oLd 3 22),oG 3 true 24 (.binOp .neq 3 (oTt 23) (oCi 2) 3),oP 25 (.pick (oTt 21) (oTt 24) (.const (.bool false))),oP 17 (oAs 25)]
def Qlw:List Oper:=Qr0
def Qsj:Code:=oRg Qlw
theorem Y9:oRQ Qsj Qlw Qr0:=fun _ _=>rfl
theorem Y4:nth Qlw 3=some ⟨(some 21),.move (.tmp 20),0,"",#[],none⟩:=rfl
abbrev Qrm:List Oper:=[oP 26 (oFa 32 3 1),oP 27 (oLd 3 26),oP 28 (.binOp .lss 3 (oTt 27) (oCi 1) 3),oP 29 (oMv 28),oG 3 false 30 (oFa 32 3 1),oG 3 false 31 (oLd 3 30),oG 3 false 32 (.binOp .gtr 3 (oTt 31) (oCi 1073741824) 3),oP 33 (.pick (oTt 29) (.const (.bool true)) (oTt 32)),oP 17 (oAs 33)]
def Qlv:List Oper:=Qrm
def Qs4:Code:=oRg Qlv
theorem Y8:oRQ Qs4 Qlv Qrm:=fun _ _=>rfl
theorem Y3:nth Qlv 3=some ⟨(some 29),.move (.tmp 28),0,"",#[],none⟩:=rfl
abbrev Qrr:List Oper:=[oP 34 (oFa 32 3 3),oP 35 (oLd 3 34),oP 36 (.binOp .lss 3 (oTt 35) (oCi 0) 3),oP 37 (oMv 36),oG 3 false 38 (oFa 32 3 3),oG 3 false 39 (oLd 3 38),oG 3 false 40 (.binOp .gtr 3 (oTt 39) (oCi 1073741824) 3),oP 41 (.pick (oTt 37) (.const (.bool true)) (oTt 40)),oP 17 (oAs 41)]
def Qlt:List Oper:=Qrr
def Qsa:Code:=oRg Qlt
theorem Ya:oRQ Qsa Qlt Qrr:=fun _ _=>rfl
theorem Y2:nth Qlt 3=some ⟨(some 37),.move (.tmp 36),0,"",#[],none⟩:=rfl
abbrev Xgf:Code:=.cond (.tmp 17) .skip Qsa
abbrev Xel:Code:=.seq Qs4 Xgf
abbrev Xgs:Code:=.cond (.tmp 17) .skip Xel
abbrev Xfm:Code:=.seq Qsj Xgs
abbrev Q7z:List Oper:=[oP 4 (.assign (oCi 1))]
abbrev Xbi:Code:=oRg Q7z
abbrev Xdk:Code:=.seq Xbi .ret
abbrev Qpj:List Oper:=[oP 43 (oFa 32 3 2),oP 44 (oLd 3 43),oP 45 (.binOp .lss 3 (oTt 44) (oCi 1) 3),oP 46 (oMv 45),oG 3 false 47 (oFa 32 3 2),oG 3 false 48 (oLd 3 47),oG 3 false 49 (.binOp .gtr 3 (oTt 48) (oCi 1125899906842624) 3),oP 50 (.pick (oTt 46) (.const (.bool true)) (oTt 49)),oP 42 (oAs 50)]
def Qkk:List Oper:=Qpj
def Qqp:Code:=oRg Qkk
theorem Y5:oRQ Qqp Qkk Qpj:=fun _ _=>rfl
theorem Xw:nth Qkk 3=some ⟨(some 46),.move (.tmp 45),0,"",#[],none⟩:=rfl
abbrev Q9p:List Oper:=[oP 4 (.assign (oCi 15))]
abbrev Xdl:Code:=oRg Q9p
abbrev Xax:Code:=.seq Xdl .ret
abbrev Q9b:List Oper:=[oP 52 (oMv 6),oP 51 (oAs 52)]
abbrev Xaw:Code:=oRg Q9b
abbrev Q9w:List Oper:=[oP 4 (.assign (oCi 13))]
abbrev Xcz:Code:=oRg Q9w
abbrev Xc6:Code:=.seq Xcz .ret
abbrev Q66:List Oper:=[oP 54 (oMv 0),oP 55 (.nilCheck (oTt 54)),oP 56 (oFa 59 55 3),oP 57 (oLd 3 56),oP 58 (.binOp .geq 3 (oTt 57) (oCi 16) 3),oP 53 (oAs 58)]
abbrev Xan:Code:=oRg Q66
abbrev Q77:List Oper:=[oP 4 (.assign (oCi 3))]
abbrev Xd1:Code:=oRg Q77
abbrev Xdj:Code:=.seq Xd1 .ret
noncomputable def Qco:Array Oper:=Qmh (Qmr 12 (V7 23))
def Xe9:Code:=.region 12 Qco true
abbrev Qiu:List Oper:=[oP 60 (oMv 0),oP 61 (oFa 32 3 0),oP 62 (oLd 3 61),oP 63 (.nilCheck (oTt 60)),oP 64 (oFa 59 63 0),oP 65 (oIx 54 64 62),oP 66 (oLd 3 65),oP 67 (oFa 32 3 2),oP 68 (oLd 3 67),oP 69 (.binOp .lss 3 (oTt 66) (oTt 68) 3),oP 59 (oAs 69)]
def Qg7:List Oper:=Qiu
theorem Qwc:Qco.toList.map bare=Qiu:=by kernel_rfl
theorem Qdg:Qco.toList.map bare=Qg7:=Qwc
def Qac:List Nat:=[0,0,2,1,9,31,63,0,128,511,1023]
theorem Qdw:Qrx Qco.toList []=some Qac:=by kernel_rfl
theorem Qdf:Qa6 Qco.toList Qco.toList Qac []=true:=by kernel_rfl
theorem Qeb(b:Nat)(L:List KE)(s:St):Ab.runT (E b) L Qg7 Qac Qg7 0 s=Ab.runT (E b) L Qg7 Qac Qiu 0 s:=rfl
abbrev Q61:List Oper:=[oP 4 (.assign (oCi 22))]
abbrev Xah:Code:=oRg Q61
abbrev Xby:Code:=.seq Xah .ret
abbrev Xdw:Code:=.cond (.tmp 59) Xby .skip
abbrev Xd5:Code:=.seq Xe9 Xdw
abbrev Xb8:Code:=.cond (.tmp 53) Xdj Xd5
abbrev Xdr:Code:=.seq Xan Xb8
abbrev Xdv:Code:=.cond (.tmp 51) Xc6 Xdr
abbrev Xd3:Code:=.seq Xaw Xdv
abbrev Xdt:Code:=.cond (.tmp 42) Xax Xd3
abbrev Xdz:Code:=.seq Qqp Xdt
abbrev Xc2:Code:=.cond (.tmp 17) Xdk Xdz
abbrev Xce:Code:=.seq Xfm Xc2
abbrev Xcv:Code:=.block 0 Xce
noncomputable def Qci:Array Oper:=Qmh (Qmr 14 (V7 23))
def Qr4:Code:=.region 14 Qci true
abbrev Qiy:List Oper:=[oP 70 (oMv 0),oP 71 (.nilCheck (oTt 70)),oP 72 (oFa 59 71 1),oP 73 (oLd 57 72),oP 74 (oFa 32 3 1),oP 75 (oLd 3 74),oP 76 (oLd 32 3),oP 77 (.build 66 #[(0,(oTt 76)),(1,(oCi 1))]),oP 78 (.box 66 (oTt 77)),oN (.mapUpdate 57 (oTt 73) (oTt 75) (oTt 78))]
def Qdp:List Oper:=Qiy
theorem Qwh:Qci.toList.map bare=Qiy:=by kernel_rfl
theorem Qv8:Qci.toList.map bare=Qdp:=Qwh
def Qb0:List Nat:=[0,1,3,7,0,16,0,64,192,511]
theorem Qwg:Qrx Qci.toList []=some Qb0:=by kernel_rfl
theorem Qvq:Qa6 Qci.toList Qci.toList Qb0 []=true:=by kernel_rfl
theorem Qyb(b:Nat)(L:List KE)(s:St):Ab.runT (E b) L Qdp Qb0 Qdp 0 s=Ab.runT (E b) L Qdp Qb0 Qiy 0 s:=rfl
theorem Qzu(b:Nat):Qaz (E b) 9 ((nth Qb0 9).getD 0) Qdp Qb0 0=true:=by kernel_rfl
noncomputable def Qcp:Array Oper:=Qmh (Qmr 15 (V7 23))
def Xcj:Code:=.region 15 Qcp true
abbrev Qj4:List Oper:=[oP 79 (oMv 0),oP 80 (oFa 32 3 0),oP 81 (oLd 3 80),oP 82 (.nilCheck (oTt 79)),oP 83 (oFa 59 82 0),oP 84 (oIx 54 83 81),oP 85 (oLd 3 84),oP 86 (oFa 32 3 2),oP 87 (oLd 3 86),oP 88 (.binOp .sub 3 (oTt 85) (oTt 87) 3),oP 89 (.nilCheck (oTt 79)),oP 90 (oFa 59 89 0),oP 91 (oIx 54 90 81),oN (.store 3 (oTt 91) (oTt 88))]
def Qdo:List Oper:=Qj4
theorem Qw3:Qcp.toList.map bare=Qj4:=by kernel_rfl
theorem Qvf:Qcp.toList.map bare=Qdo:=Qw3
def Qav:List Nat:=[0,0,2,1,9,31,63,0,128,511,1,1025,4095,8191]
theorem Qwp:Qrx Qcp.toList []=some Qav:=by kernel_rfl
theorem Qvs:Qa6 Qcp.toList Qcp.toList Qav []=true:=by kernel_rfl
theorem Qxs(b:Nat)(L:List KE)(s:St):Ab.runT (E b) L Qdo Qav Qdo 0 s=Ab.runT (E b) L Qdo Qav Qj4 0 s:=rfl
theorem Qy4(b:Nat):Qaz (E b) 13 ((nth Qav 13).getD 0) Qdo Qav 0=true:=by kernel_rfl
noncomputable def Qcn:Array Oper:=Qmh (Qmr 16 (V7 23))
def Xae:Code:=.region 16 Qcn true
abbrev Qiw:List Oper:=[oP 92 (oMv 0),oP 93 (.nilCheck (oTt 92)),oP 94 (oFa 59 93 2),oP 95 (oLd 3 94),oP 96 (oFa 32 3 2),oP 97 (oLd 3 96),oP 98 (.binOp .add 3 (oTt 95) (oTt 97) 3),oP 99 (.nilCheck (oTt 92)),oP 100 (oFa 59 99 2),oN (.store 3 (oTt 100) (oTt 98))]
def Qds:List Oper:=Qiw
theorem Qwi:Qcn.toList.map bare=Qiw:=by kernel_rfl
theorem Qvb:Qcn.toList.map bare=Qds:=Qwi
def Qb2:List Nat:=[0,1,3,7,0,16,63,127,255,511]
theorem Qw8:Qrx Qcn.toList []=some Qb2:=by kernel_rfl
theorem Qvh:Qa6 Qcn.toList Qcn.toList Qb2 []=true:=by kernel_rfl
theorem Qyv(b:Nat)(L:List KE)(s:St):Ab.runT (E b) L Qds Qb2 Qds 0 s=Ab.runT (E b) L Qds Qb2 Qiw 0 s:=rfl
theorem Qzj(b:Nat):Qaz (E b) 9 ((nth Qb2 9).getD 0) Qds Qb2 0=true:=by kernel_rfl
abbrev Q69:List Oper:=[oP 101 (oMv 0),oP 102 (.nilCheck (oTt 101)),oP 103 (oFa 59 102 3),oP 104 (oLd 3 103),oP 105 (.binOp .add 3 (oTt 104) (oCi 1) 3),oP 106 (.nilCheck (oTt 101)),oP 107 (oFa 59 106 3),oN (.store 3 (oTt 107) (oTt 105))]
abbrev Xbd:Code:=oRg Q69
abbrev Qa0:List Oper:=[oP 4 (.assign (oCi 0))]
abbrev Xbz:Code:=oRg Qa0
abbrev Xe1:Code:=.seq Xbz .ret
abbrev Xea:Code:=.seq Xbd Xe1
abbrev Xbh:Code:=.seq Xae Xea
abbrev Qrp:Code:=.seq Xcj Xbh
def Qkd:Code:=.seq Qr4 Qrp
theorem Xx:oSQ Qkd Qr4 Qrp:=fun _ _=>rfl
abbrev Xbl:Code:=.seq Xcv Qkd
abbrev Xge:Code:=.seq Xgq Xbl
abbrev Xf4:Code:=.seq Xie Xge
def Y7:Code:=Xf4
theorem Xgp:Qdk (V7 23)=Y7:=by kernel_rfl
theorem Q9c:Qg0.body=some (V7 23):=by kernel_rfl
theorem Xl3:Qg0.ntmps=108:=by kernel_rfl
theorem Yf:Qg0.results.toList=[.tmp 4]:=by kernel_rfl
abbrev Q0b:List Oper:=[oP 7 (oMv 1),oP 8 (oMv 2),oP 9 (.nilCheck (oTt 7)),oP 10 (oFa 66 9 1),oN (.store 64 (oTt 10) (oTt 8))]
abbrev Q3f:Code:=oRg Q0b
abbrev Q0l:List Oper:=[oP 11 (oMv 1),oP 12 (.nilCheck (oTt 11)),oP 13 (oFa 66 12 0),oP 14 (oFa 32 13 0),oP 15 (oLd 3 14),oP 6 (oAs 15)]
abbrev Q41:Code:=oRg Q0l
abbrev Qzi:List Oper:=[oP 16 (oMv 2),oP 17 (.binOp .eql 64 (oTt 16) (oCi 2) 64)]
abbrev Q3x:Code:=oRg Qzi
abbrev Qzm:List Oper:=[oP 18 (oMv 1),oP 19 (.nilCheck (oTt 18)),oP 20 (oFa 66 19 0),oP 21 (oFa 32 20 0),oP 22 (oLd 3 21),oP 23 (.binOp .sub 3 (oCi 3) (oTt 22) 3),oP 6 (oAs 23)]
abbrev Q3z:Code:=oRg Qzm
abbrev Q4h:Code:=.cond (.tmp 17) Q3z .skip
abbrev Q5a:Code:=.seq Q3x Q4h
noncomputable def Qbx:Array Oper:=Qmh (Qmr 4 (V7 43))
def Qp1:Code:=.region 4 Qbx true
abbrev Qhi:List Oper:=[oP 24 (oMv 0),oP 25 (oMv 6),oP 26 (.nilCheck (oTt 24)),oP 27 (oFa 59 26 0),oP 28 (oIx 54 27 25),oP 29 (oLd 3 28),oP 30 (oMv 1),oP 31 (.nilCheck (oTt 30)),oP 32 (oFa 66 31 0),oP 33 (oFa 32 32 2),oP 34 (oLd 3 33),oP 35 (.binOp .add 3 (oTt 29) (oTt 34) 3),oP 36 (.nilCheck (oTt 24)),oP 37 (oFa 59 36 0),oP 38 (oIx 54 37 25),oN (.store 3 (oTt 38) (oTt 35))]
def Qcu:List Oper:=Qhi
theorem Qur:Qbx.toList.map bare=Qhi:=by kernel_rfl
theorem Qt9:Qbx.toList.map bare=Qcu:=Qur
def Qah:List Nat:=[0,0,1,5,15,31,0,64,192,448,960,2047,1,4097,16383,32767]
theorem Qu6:Qrx Qbx.toList []=some Qah:=by kernel_rfl
theorem Qsw:Qa6 Qbx.toList Qbx.toList Qah []=true:=by kernel_rfl
theorem Qvn(b:Nat)(L:List KE)(s:St):Ab.runT (E b) L Qcu Qah Qcu 0 s=Ab.runT (E b) L Qcu Qah Qhi 0 s:=rfl
theorem Qvd(b:Nat):Qaz (E b) 15 ((nth Qah 15).getD 0) Qcu Qah 0=true:=by kernel_rfl
noncomputable def Qbv:Array Oper:=Qmh (Qmr 5 (V7 43))
def Qok:Code:=.region 5 Qbv true
abbrev Qhq:List Oper:=[oP 39 (oMv 0),oP 40 (.nilCheck (oTt 39)),oP 41 (oFa 59 40 2),oP 42 (oLd 3 41),oP 43 (oMv 1),oP 44 (.nilCheck (oTt 43)),oP 45 (oFa 66 44 0),oP 46 (oFa 32 45 2),oP 47 (oLd 3 46),oP 48 (.binOp .sub 3 (oTt 42) (oTt 47) 3),oP 49 (.nilCheck (oTt 39)),oP 50 (oFa 59 49 2),oN (.store 3 (oTt 50) (oTt 48))]
def Qcv:List Oper:=Qhq
theorem Qut:Qbv.toList.map bare=Qhq:=by kernel_rfl
theorem Qt0:Qbv.toList.map bare=Qcv:=Qut
def Qag:List Nat:=[0,1,3,7,0,16,48,112,240,511,1023,2047,4095]
theorem Qv5:Qrx Qbv.toList []=some Qag:=by kernel_rfl
theorem Qsq:Qa6 Qbv.toList Qbv.toList Qag []=true:=by kernel_rfl
theorem Qve(b:Nat)(L:List KE)(s:St):Ab.runT (E b) L Qcv Qag Qcv 0 s=Ab.runT (E b) L Qcv Qag Qhq 0 s:=rfl
theorem Qvj(b:Nat):Qaz (E b) 12 ((nth Qag 12).getD 0) Qcv Qag 0=true:=by kernel_rfl
abbrev Qxc:List Oper:=[oP 51 (oMv 0),oP 52 (.nilCheck (oTt 51)),oP 53 (oFa 59 52 3),oP 54 (oLd 3 53),oP 55 (.binOp .sub 3 (oTt 54) (oCi 1) 3),oP 56 (.nilCheck (oTt 51)),oP 57 (oFa 59 56 3),oN (.store 3 (oTt 57) (oTt 55))]
abbrev Qnt:Code:=oRg Qxc
def Qia:Code:=.seq Qok Qnt
theorem Ui:oSQ Qia Qok Qnt:=fun _ _=>rfl
def Qir:Code:=.seq Qp1 Qia
theorem U7:oSQ Qir Qp1 Qia:=fun _ _=>rfl
abbrev Q2h:Code:=.seq Q5a Qir
abbrev Q42:Code:=.seq Q41 Q2h
abbrev Q2t:Code:=.seq Q3f Q42
def Ur:Code:=Q2t
theorem Q34:Qdk (V7 43)=Ur:=by kernel_rfl
theorem Qz6:Qdn.body=some (V7 43):=by kernel_rfl
theorem Q8c:Qdn.ntmps=58:=by kernel_rfl
theorem Wh:Qdn.results.toList=[]:=by kernel_rfl
abbrev Qhr:List Oper:=[oP 4 (.assign (.const (.pointer none)))]
abbrev Q0y:Code:=oRg Qhr
abbrev Qyl:List Oper:=[oP 6 (oMv 0),oP 7 (.nilCheck (oTt 6)),oP 8 (oFa 59 7 1),oP 9 (oLd 57 8),oP 10 (oMv 1),oP 11 (.lookup 57 (oTt 9) (oTt 10) false),oP 5 (oAs 11)]
abbrev Qzh:Code:=oRg Qyl
abbrev Qmq:List Oper:=[oP 12 (oMv 5),oP 13 (.binOp .neq 63 (oTt 12) (.const (.pointer none)) 63),oP 14 (oMv 13),oG 2 true 15 (oMv 5),oG 2 true 16 (.nilCheck (oTt 15)),oG 2 true 17 (oFa 66 16 1),oG 2 true 18 (oLd 64 17),oG 2 true 19 (.binOp .eql 64 (oTt 18) (oCi 1) 64),oP 20 (.pick (oTt 14) (oTt 19) (.const (.bool false)))]
def Qi6:List Oper:=Qmq
def Qo5:Code:=oRg Qi6
theorem Qgw:oRQ Qo5 Qi6 Qmq:=fun _ _=>rfl
theorem Qgi:nth Qi6 2=some ⟨(some 14),.move (.tmp 13),0,"",#[],none⟩:=rfl
abbrev Qz8:List Oper:=[oP 21 (oMv 5),oP 4 (oAs 21)]
abbrev Q1q:Code:=oRg Qz8
abbrev Q01:Code:=.seq Q1q .ret
abbrev Q1d:Code:=.cond (.tmp 20) Q01 .skip
abbrev Q0r:Code:=.seq Qo5 Q1d
abbrev Qze:Code:=.seq Qzh Q0r
def Qms:List Oper:=Qhr
def Qmy:Code:=oRg Qms
theorem Qgj:oRQ Qmy Qms Qhr:=fun _ _=>rfl
abbrev Qyq:Code:=.seq Qmy .ret
abbrev Q1s:Code:=.seq Qze Qyq
abbrev Q1l:Code:=.seq Q0y Q1s
def Qdv:Code:=Q1l
theorem Q0p:Qdk (V7 42)=Qdv:=by kernel_rfl
theorem Qw4:Qfs.body=some (V7 42):=by kernel_rfl
theorem Q2k:Qfs.ntmps=22:=by kernel_rfl
theorem Qi0:Qfs.results.toList=[.tmp 4]:=by kernel_rfl
abbrev Qzg:List Oper:=[oP 5 (.box 30 (oTt 2)),oP 6 (.assign (oCi 0))]
abbrev Q2o:Code:=oRg Qzg
abbrev Q03:List Oper:=[oP 8 (oMv 0),oP 9 (oMv 1),oP 10 (oCa 42 #[(oTt 8),(oTt 9)] #[23,3]),oP 7 (oAs 10)]
abbrev Q30:Code:=oRg Q03
abbrev Q0n:List Oper:=[oP 12 (oMv 7),oP 13 (.binOp .eql 63 (oTt 12) (.const (.pointer none)) 63),oP 11 (oAs 13)]
abbrev Q5h:Code:=oRg Q0n
abbrev Q0j:List Oper:=[oP 6 (.assign (oCi 12))]
abbrev Q53:Code:=oRg Q0j
abbrev Q4z:Code:=.seq Q53 .ret
noncomputable def Qbu:Array Oper:=Qmh (Qmr 4 (V7 24))
def Q2p:Code:=.region 4 Qbu true
abbrev Qhg:List Oper:=[oP 15 (.slice 30 (oTt 5) none none none),oP 16 (oCa 20 #[(oTt 15)] #[51]),oP 17 (oMv 7),oP 18 (.nilCheck (oTt 17)),oP 19 (oFa 66 18 0),oP 20 (oFa 32 19 4),oP 21 (oLd 30 20),oP 22 (.binOp .neq 30 (oTt 16) (oTt 21) 30),oP 14 (oAs 22)]
def Qct:List Oper:=Qhg
theorem Qu8:Qbu.toList.map bare=Qhg:=by kernel_rfl
theorem Qt8:Qbu.toList.map bare=Qct:=Qu8
def Qaj:List Nat:=[0,1,0,4,12,28,60,127,255]
theorem Qv7:Qrx Qbu.toList []=some Qaj:=by kernel_rfl
theorem Qt7:Qa6 Qbu.toList Qbu.toList Qaj []=true:=by kernel_rfl
theorem Qvm(b:Nat)(L:List KE)(s:St):Ab.runT (E b) L Qct Qaj Qct 0 s=Ab.runT (E b) L Qct Qaj Qhg 0 s:=rfl
theorem Qwl(b:Nat):Qaz (E b) 1 ((nth Qaj 1).getD 0) Qct Qaj 0=true:=by kernel_rfl
abbrev Q06:List Oper:=[oP 6 (.assign (oCi 16))]
abbrev Q4i:Code:=oRg Q06
abbrev Q0f:Code:=.seq Q4i .ret
abbrev Q0d:Code:=.cond (.tmp 14) Q0f .skip
abbrev Q3d:Code:=.seq Q2p Q0d
abbrev Qzk:Code:=.cond (.tmp 11) Q4z Q3d
abbrev Q4c:Code:=.seq Q5h Qzk
abbrev Q1o:Code:=.block 0 Q4c
abbrev Qyf:List Oper:=[oP 23 (oMv 7),oP 24 (oLd 30 5),oP 25 (.nilCheck (oTt 23)),oP 26 (oFa 66 25 2),oN (.store 30 (oTt 26) (oTt 24))]
abbrev Q08:Code:=oRg Qyf
abbrev Qxn:List Oper:=[oP 27 (oMv 0),oP 28 (oMv 7),oP 29 (oCa 43 #[(oTt 27),(oTt 28),(oCi 2)] #[23,63,64])]
abbrev Q0q:Code:=oRg Qxn
abbrev Qx8:List Oper:=[oP 6 (.assign (oCi 0))]
abbrev Qzw:Code:=oRg Qx8
abbrev Qzr:Code:=.seq Qzw .ret
abbrev Q09:Code:=.seq Q0q Qzr
abbrev Qzv:Code:=.seq Q08 Q09
abbrev Q1c:Code:=.seq Q1o Qzv
abbrev Q4k:Code:=.seq Q30 Q1c
abbrev Q2w:Code:=.seq Q2o Q4k
def Wa:Code:=Q2w
theorem Q5x:Qdk (V7 24)=Wa:=by kernel_rfl
theorem Qy2:Qgd.body=some (V7 24):=by kernel_rfl
theorem Q75:Qgd.ntmps=30:=by kernel_rfl
theorem Ws:Qgd.results.toList=[.tmp 6]:=by kernel_rfl
def Qr9:List Oper:=Qa0
def Qqm:Code:=oRg Qr9
theorem Qd8:oRQ Qqm Qr9 Qa0:=fun _ _=>rfl
abbrev Q6q:List Oper:=[oP 6 (oMv 0),oP 7 (oMv 1),oP 8 (oCa 42 #[(oTt 6),(oTt 7)] #[23,3]),oP 5 (oAs 8)]
abbrev Xad:Code:=oRg Q6q
abbrev Q9y:List Oper:=[oP 9 (oMv 5),oP 10 (.binOp .eql 63 (oTt 9) (.const (.pointer none)) 63)]
abbrev Xb1:Code:=oRg Q9y
abbrev Q80:List Oper:=[oP 4 (.assign (oCi 12))]
abbrev Xaq:Code:=oRg Q80
abbrev Xav:Code:=.seq Xaq .ret
abbrev Xak:Code:=.cond (.tmp 10) Xav .skip
abbrev Xcb:Code:=.seq Xb1 Xak
abbrev Q4l:List Oper:=[oP 11 (oMv 0),oP 12 (oMv 5),oP 13 (oCa 43 #[(oTt 11),(oTt 12),(oCi 3)] #[23,63,64])]
abbrev Q6d:Code:=oRg Q4l
def Qps:List Oper:=Qa0
def Qqb:Code:=oRg Qps
theorem Qcs:oRQ Qqb Qps Qa0:=fun _ _=>rfl
abbrev Q7n:Code:=.seq Qqb .ret
abbrev Q92:Code:=.seq Q6d Q7n
abbrev Xbw:Code:=.seq Xcb Q92
abbrev Xc3:Code:=.seq Xad Xbw
abbrev Xd7:Code:=.seq Qqm Xc3
def Qbs:Code:=Xd7
theorem Xe0:Qdk (V7 25)=Qbs:=by kernel_rfl
theorem Q44:Qhv.body=some (V7 25):=by kernel_rfl
theorem Xgi:Qhv.ntmps=14:=by kernel_rfl
theorem Qea:Qhv.results.toList=[.tmp 4]:=by kernel_rfl
abbrev Q1g:List Oper:=[oP 4 (.assign (.const (.slice none 0 0)))]
abbrev Q3s:Code:=oRg Q1g
abbrev Q15:List Oper:=[oP 7 (oMv 0),oP 8 (oCa 11 #[(oTt 7)] #[23]),oP 9 (oBu .len #[(oTt 8)] #[35]),oP 10 (.move (oCi 0))]
abbrev Q4g:Code:=oRg Q15
abbrev Q1v:List Oper:=[oP 11 (.binOp .lss 3 (oTt 10) (oTt 9) 3)]
abbrev Q4w:Code:=oRg Q1v
abbrev Q4d:Code:=.cond (.tmp 11) .skip (.exit 0)
abbrev Q0k:List Oper:=[oP 12 (oIx 35 8 10),oP 13 (oLd 32 12),oP 6 (.alloc 32),oN (.store 32 (oTt 6) (oTt 13))]
abbrev Q2x:Code:=oRg Q0k
abbrev Qxr:List Oper:=[oP 14 (oFa 32 6 3),oP 15 (oLd 3 14),oP 16 (oMv 1),oP 17 (.binOp .leq 3 (oTt 15) (oTt 16) 3)]
abbrev Q1j:Code:=oRg Qxr
abbrev Qx6:List Oper:=[oP 18 (oMv 0),oP 19 (oFa 32 6 1),oP 20 (oLd 3 19),oP 21 (oCa 25 #[(oTt 18),(oTt 20)] #[23,3])]
abbrev Q17:Code:=oRg Qx6
abbrev Qyt:List Oper:=[oP 22 (oMv 4),oP 23 (oFa 32 6 1),oP 24 (oLd 3 23),oP 25 (.buildSlice 53 1 #[(0,(oTt 24))]),oP 26 (oBu .append #[(oTt 22),(oTt 25)] #[53,53]),oP 4 (oAs 26)]
abbrev Q0x:Code:=oRg Qyt
abbrev Q1f:Code:=.seq Q17 Q0x
abbrev Qzy:Code:=.cond (.tmp 17) Q1f .skip
abbrev Q0m:Code:=.seq Q1j Qzy
abbrev Q3r:Code:=.seq Q2x Q0m
abbrev Q1k:Code:=.block 1 Q3r
abbrev Qy6:List Oper:=[oP 27 (.binOp .add 3 (oTt 10) (oCi 1) 3),oP 10 (oMv 27)]
abbrev Qzl:Code:=oRg Qy6
abbrev Q1i:Code:=.seq Q1k Qzl
abbrev Q3b:Code:=.seq Q4d Q1i
abbrev Q38:Code:=.seq Q4w Q3b
def Qzz:Code:=.loop Q38
abbrev Q1r:Code:=.block 0 Qzz
abbrev Q2s:Code:=.seq Q4g Q1r
abbrev Qy0:List Oper:=[oP 28 (oMv 4),oP 4 (oAs 28)]
abbrev Qzo:Code:=oRg Qy0
abbrev Q18:Code:=.seq Qzo .ret
abbrev Qzn:Code:=.seq Q2s Q18
abbrev Q5b:Code:=.seq Q3s Qzn
def Qaf:Code:=Q5b
theorem Q31:Qdk (V7 22)=Qaf:=by kernel_rfl
theorem Qy3:Qgg.body=some (V7 22):=by kernel_rfl
theorem Q6o:Qgg.ntmps=29:=by kernel_rfl
theorem Qby:Qgg.results.toList=[.tmp 4]:=by kernel_rfl
def Qo8:List Oper:=Qa0
def Qnq:Code:=oRg Qo8
theorem Qgv:oRQ Qnq Qo8 Qa0:=fun _ _=>rfl
abbrev Qn2:List Oper:=[oP 5 (oMv 1),oP 6 (.binOp .lss 3 (oTt 5) (oCi 0) 3),oP 7 (oMv 6),oG 2 false 8 (oMv 1),oG 2 false 9 (.binOp .geq 3 (oTt 8) (oCi 3) 3),oP 10 (.pick (oTt 7) (.const (.bool true)) (oTt 9))]
def Qib:List Oper:=Qn2
def Qns:Code:=oRg Qib
theorem Qh0:oRQ Qns Qib Qn2:=fun _ _=>rfl
theorem Qgh:nth Qib 2=some ⟨(some 7),.move (.tmp 6),0,"",#[],none⟩:=rfl
def Qnz:List Oper:=Qa0
def Qny:Code:=oRg Qnz
theorem Qh1:oRQ Qny Qnz Qa0:=fun _ _=>rfl
abbrev Q19:Code:=.seq Qny .ret
abbrev Q1w:Code:=.cond (.tmp 10) Q19 .skip
abbrev Qzt:Code:=.seq Qns Q1w
abbrev Qyr:List Oper:=[oP 11 (oMv 0),oP 12 (oMv 1),oP 13 (.nilCheck (oTt 11)),oP 14 (oFa 59 13 0),oP 15 (oIx 54 14 12),oP 16 (oLd 3 15),oP 4 (oAs 16)]
abbrev Q0h:Code:=oRg Qyr
abbrev Qzx:Code:=.seq Q0h .ret
abbrev Q02:Code:=.seq Qzt Qzx
abbrev Q0v:Code:=.seq Qnq Q02
def Qdu:Code:=Q0v
theorem Q1a:Qdk (V7 13)=Qdu:=by kernel_rfl
theorem Qwm:Qfq.body=some (V7 13):=by kernel_rfl
theorem Q2u:Qfq.ntmps=17:=by kernel_rfl
theorem Qhz:Qfq.results.toList=[.tmp 4]:=by kernel_rfl
abbrev Q9r:List Oper:=[oP 2 (.assign (oCi 0))]
abbrev Xb7:Code:=oRg Q9r
abbrev Q90:List Oper:=[oP 3 (oMv 0),oP 4 (.nilCheck (oTt 3)),oP 5 (oFa 59 4 2),oP 6 (oLd 3 5),oP 2 (oAs 6)]
abbrev Xdb:Code:=oRg Q90
abbrev Xai:Code:=.seq Xdb .ret
abbrev Xd2:Code:=.seq Xb7 Xai
def Qor:Code:=Xd2
theorem Xcc:Qdk (V7 12)=Qor:=by kernel_rfl
theorem Q5o:Qhw.body=some (V7 12):=by kernel_rfl
theorem Xfe:Qhw.ntmps=7:=by kernel_rfl
theorem Xca:Qhw.results.toList=[.tmp 2]:=by kernel_rfl
abbrev Qxk:List Oper:=[oP 2 (.assign (.const (.slice none 0 0)))]
abbrev Q13:Code:=oRg Qxk
abbrev Qyn:List Oper:=[oP 5 (oMv 0),oP 6 (.nilCheck (oTt 5)),oP 7 (oFa 59 6 1),oP 8 (oLd 57 7),oP 9 (.range 57 (oTt 8))]
abbrev Q11:Code:=oRg Qyn
abbrev Qxw:List Oper:=[oP 10 (.next (oTt 9) false),oP 11 (.extract (oTt 10) 0)]
abbrev Q04:Code:=oRg Qxw
abbrev Qzd:Code:=.cond (.tmp 11) .skip (.exit 0)
abbrev Qz9:List Oper:=[oP 12 (.entry (oTt 9)),oP 13 (.extract (oTt 12) 1),oP 4 (oAs 13)]
abbrev Q05:Code:=oRg Qz9
abbrev Qw9:List Oper:=[oP 14 (oMv 4),oP 15 (.nilCheck (oTt 14)),oP 16 (oFa 66 15 1),oP 17 (oLd 64 16),oP 18 (.binOp .eql 64 (oTt 17) (oCi 1) 64)]
abbrev Qz1:Code:=oRg Qw9
abbrev Qw7:List Oper:=[oP 19 (oMv 2),oP 20 (oMv 4),oP 21 (.nilCheck (oTt 20)),oP 22 (oFa 66 21 0),oP 23 (oLd 32 22),oP 24 (.buildSlice 35 1 #[(0,(oTt 23))]),oP 25 (oBu .append #[(oTt 19),(oTt 24)] #[35,35]),oP 2 (oAs 25)]
abbrev Qx3:Code:=oRg Qw7
abbrev Qx2:Code:=.cond (.tmp 18) Qx3 .skip
abbrev Qyy:Code:=.seq Qz1 Qx2
abbrev Q12:Code:=.seq Q05 Qyy
abbrev Qxm:Code:=.block 1 Q12
abbrev Q0a:Code:=.seq Qzd Qxm
abbrev Q0i:Code:=.seq Q04 Q0a
def Qy5:Code:=.loop Q0i
abbrev Qx7:Code:=.block 0 Qy5
abbrev Q00:Code:=.seq Q11 Qx7
abbrev Qwf:List Oper:=[oP 26 (oMv 2),oP 27 (oCa 26 #[(oTt 26),(.func 27)] #[35,68])]
abbrev Qxh:Code:=oRg Qwf
abbrev Qwe:List Oper:=[oP 28 (oMv 2),oP 2 (oAs 28)]
abbrev Qy7:Code:=oRg Qwe
abbrev Qz4:Code:=.seq Qy7 .ret
abbrev Qyw:Code:=.seq Qxh Qz4
abbrev Qyi:Code:=.seq Q00 Qyw
abbrev Q0e:Code:=.seq Q13 Qyi
def Qa8:Code:=Q0e
theorem Q0c:Qdk (V7 11)=Qa8:=by kernel_rfl
theorem Qw2:Qfo.body=some (V7 11):=by kernel_rfl
theorem Q3j:Qfo.ntmps=29:=by kernel_rfl
theorem Qbk:Qfo.results.toList=[.tmp 2]:=by kernel_rfl
abbrev Xcm:List Oper:=[oP 4 (.alloc 32),oP 5 (.assign (oCi 0))]
abbrev Xf6:Code:=oRg Xcm
abbrev Qkr:List Oper:=[oP 7 (oMv 0),oP 8 (.nilCheck (oTt 7)),oP 9 (oFa 59 8 1),oP 10 (oLd 57 9),oP 11 (oMv 1),oP 12 (.lookup 57 (oTt 10) (oTt 11) false),oP 6 (oAs 12)]
abbrev Xit:Code:=oRg Qkr
abbrev Xdc:List Oper:=[oP 13 (oMv 6),oP 14 (.binOp .neq 63 (oTt 13) (.const (.pointer none)) 63)]
abbrev Xf8:Code:=oRg Xdc
noncomputable def Qd4:Array Oper:=Qmh (Qmr 3 (V7 18))
def Xes:Code:=.region 3 Qd4 true
abbrev Qjl:List Oper:=[oP 15 (oMv 6),oP 16 (.nilCheck (oTt 15)),oP 17 (oFa 66 16 0),oP 18 (oLd 32 17),oP 19 (oMv 6),oP 20 (.nilCheck (oTt 19)),oP 21 (oFa 66 20 1),oP 22 (oLd 64 21),oN (.store 32 (oTt 4) (oTt 18)),oP 5 (oAs 22)]
def Qef:List Oper:=Qjl
theorem Qyz:Qd4.toList.map bare=Qjl:=by kernel_rfl
theorem Qwt:Qd4.toList.map bare=Qef:=Qyz
def Qbb:List Nat:=[0,1,3,7,0,16,48,112,15,511]
theorem Qy8:Qrx Qd4.toList []=some Qbb:=by kernel_rfl
theorem Qwu:Qa6 Qd4.toList Qd4.toList Qbb []=true:=by kernel_rfl
theorem Q1p(b:Nat)(L:List KE)(s:St):Ab.runT (E b) L Qef Qbb Qef 0 s=Ab.runT (E b) L Qef Qbb Qjl 0 s:=rfl
theorem Q2r(b:Nat):Qaz (E b) 8 ((nth Qbb 8).getD 0) Qef Qbb 0=true:=by kernel_rfl
abbrev Xh8:Code:=.seq Xes .ret
abbrev Xfv:Code:=.cond (.tmp 14) Xh8 .skip
abbrev Xfj:Code:=.seq Xf8 Xfv
abbrev Xhe:Code:=.seq Xit Xfj
abbrev Xb2:List Oper:=[oP 23 (.build 32 #[]),oN (.store 32 (oTt 4) (oTt 23)),oP 5 (.assign (oCi 0))]
abbrev Xet:Code:=oRg Xb2
abbrev Xbj:Code:=.seq Xet .ret
abbrev Xff:Code:=.seq Xhe Xbj
abbrev Xfi:Code:=.seq Xf6 Xff
def Qc8:Code:=Xfi
theorem Xg8:Qdk (V7 18)=Qc8:=by kernel_rfl
theorem Q9e:Qip.body=some (V7 18):=by kernel_rfl
theorem Xj9:Qip.ntmps=24:=by kernel_rfl
theorem Qf2:Qip.results.toList=[.cell 4 32,.tmp 5]:=by kernel_rfl
abbrev Qzq:List Oper:=[oP 4 (.alloc 30),oP 5 (.assign (.const (.bool false)))]
abbrev Q3i:Code:=oRg Qzq
def Qp3:List Oper:=Qkr
def Qoj:Code:=oRg Qp3
theorem Qhm:oRQ Qoj Qp3 Qkr:=fun _ _=>rfl
abbrev Qo3:List Oper:=[oP 13 (oMv 6),oP 14 (.binOp .neq 63 (oTt 13) (.const (.pointer none)) 63),oP 15 (oMv 14),oG 2 true 16 (oMv 6),oG 2 true 17 (.nilCheck (oTt 16)),oG 2 true 18 (oFa 66 17 1),oG 2 true 19 (oLd 64 18),oG 2 true 20 (.binOp .eql 64 (oTt 19) (oCi 2) 64),oP 21 (.pick (oTt 15) (oTt 20) (.const (.bool false)))]
def Qix:List Oper:=Qo3
def Qou:Code:=oRg Qix
theorem Qhh:oRQ Qou Qix Qo3:=fun _ _=>rfl
theorem Qgt:nth Qix 2=some ⟨(some 15),.move (.tmp 14),0,"",#[],none⟩:=rfl
abbrev Q07:List Oper:=[oP 22 (oMv 6),oP 23 (.nilCheck (oTt 22)),oP 24 (oFa 66 23 2),oP 25 (oLd 30 24),oN (.store 30 (oTt 4) (oTt 25)),oP 5 (.assign (.const (.bool true)))]
abbrev Q5m:Code:=oRg Q07
abbrev Q4o:Code:=.seq Q5m .ret
abbrev Q3o:Code:=.cond (.tmp 21) Q4o .skip
abbrev Q49:Code:=.seq Qou Q3o
abbrev Q58:Code:=.seq Qoj Q49
abbrev Qx9:List Oper:=[oP 26 (.build 30 #[]),oN (.store 30 (oTt 4) (oTt 26)),oP 5 (.assign (.const (.bool false)))]
abbrev Q0u:Code:=oRg Qx9
abbrev Q0s:Code:=.seq Q0u .ret
abbrev Q4p:Code:=.seq Q58 Q0s
abbrev Q4t:Code:=.seq Q3i Q4p
def Qee:Code:=Q4t
theorem Q59:Qdk (V7 19)=Qee:=by kernel_rfl
theorem Qxa:Qgb.body=some (V7 19):=by kernel_rfl
theorem Xa7:Qgb.ntmps=27:=by kernel_rfl
theorem Qj0:Qgb.results.toList=[.cell 4 30,.tmp 5]:=by kernel_rfl
end Go.Proofs.YtcokebbiblnonaaDoor
