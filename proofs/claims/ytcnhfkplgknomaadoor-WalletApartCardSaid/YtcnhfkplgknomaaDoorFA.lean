import Derived.Test.YtcnhfkplgknomaaDoorBlA
set_option linter.all false
noncomputable section
namespace Go.Proofs.YtcnhfkplgknomaaDoor
open Go Go.Ab
set_option maxRecDepth 100000
abbrev LO:=List Oper
noncomputable def FU(n:Nat):Func:=(Tryd.prog.funcs[n]?).getD default
noncomputable def TU(n:Nat):TyRec:=((mkE Tryd.prog nv 0).ty.get n).getD ⟨.invalid,0,0,.bool false,[]⟩
abbrev oP(d:Nat)(i:Op):Oper:=⟨some d,i,0,"",#[],none⟩
abbrev oG(j:Nat)(w:Bool)(d:Nat)(i:Op):Oper:=⟨some d,i,0,"",#[],some (j,w)⟩
abbrev oN(i:Op):Oper:=⟨none,i,0,"",#[],none⟩
abbrev oMv(n:Nat):Op:=.move (.tmp n)
abbrev oLd(y n:Nat):Op:=.load y (.tmp n)
abbrev oFa(y n f:Nat):Op:=.fieldAddr y (.tmp n) f
abbrev oIx(y n i:Nat):Op:=.indexAddr y (.tmp n) (.tmp i)
abbrev oCa(f:Nat)(a:Array Operand)(y:Array TypeId):Op:=.call {callee:=.value (.func f),args:=a,argTypes:=y}
abbrev oBu(f:Builtin)(a:Array Operand)(y:Array TypeId):Op:=.call {callee:=.builtin f,args:=a,argTypes:=y}
abbrev oAs(n:Nat):Op:=.assign (.tmp n)
abbrev oTt(n:Nat):Operand:=.tmp n
abbrev oCi(n:Int):Operand:=.const (.int .i64 n)
abbrev oRg(l:List Oper):Code:=.region 0 l.toArray false
abbrev oSQ(a x z:Code):Prop:=∀ {b:Nat} {D0:CallF} {C:CallP} {rd:Option Nat} (s:St) (K:Exit->St->Prop),Jr (E b) C D0 rd a s K=Jr (E b) C D0 rd x s (Xar (Ysg (E b) C D0 rd z K) K)
abbrev oBQ(n:Nat)(a x:Code):Prop:=∀ {b:Nat} {D0:CallF} {C:CallP} {rd:Option Nat} (s:St) (K:Exit->St->Prop),Jr (E b) C D0 rd a s K=Jr (E b) C D0 rd x s (Q0u n K)
abbrev oRQ(a:Code)(o l:List Oper):Prop:=∀ {b:Nat} {D0:CallF} {C:CallP} {rd:Option Nat} (s:St) (K:Exit->St->Prop),Jr (E b) C D0 rd a s K=Xre (E b) C rd o K l s
@[simp] theorem oGs {b:Nat} {D0:CallF} {C:CallP} {rd:Option Nat} {x z:Code} (s:St) (K:Exit->St->Prop):Jr (E b) C D0 rd (.seq x z) s K=Jr (E b) C D0 rd x s (Xar (Ysg (E b) C D0 rd z K) K):=rfl
@[simp] theorem oGb {b:Nat} {D0:CallF} {C:CallP} {rd:Option Nat} {n:Nat} {x:Code} (s:St) (K:Exit->St->Prop):Jr (E b) C D0 rd (.block n x) s K=Jr (E b) C D0 rd x s (Q0u n K):=rfl
@[simp] theorem oGt {b:Nat} {D0:CallF} {C:CallP} {rd:Option Nat} {c:Operand} {x z:Code} (s:St) (K:Exit->St->Prop) (h:aev (E b).G s.t c=some (.bool true)):Jr (E b) C D0 rd (.cond c x z) s K=Jr (E b) C D0 rd x s K:=Yw9 h
@[simp] theorem oGf {b:Nat} {D0:CallF} {C:CallP} {rd:Option Nat} {c:Operand} {x z:Code} (s:St) (K:Exit->St->Prop) (h:aev (E b).G s.t c=some (.bool false)):Jr (E b) C D0 rd (.cond c x z) s K=Jr (E b) C D0 rd z s K:=Yxc h
@[simp] theorem oGr {b:Nat} {D0:CallF} {C:CallP} {rd:Option Nat} {o:List Oper} (s:St) (K:Exit->St->Prop):Jr (E b) C D0 rd (.region 0 o.toArray false) s K=Xre (E b) C rd o K o s:=rfl
def Q5q:=FU 37
theorem Qau(b:Nat):(mkE Tryd.prog nv b).fn.get 37=some Q5q:=by kernel_rfl
theorem Yjw(b:Nat)(a:Option Addr)(n c:Nat)(h:Heap):Q43 (E b).toEnv 88 (.slice a n c) h=some (.int .i64 n):=by kernel_rfl
theorem Y3(x y:Int):Qfz (binOp .lss 3 (.int .i64 x) (.int .i64 y))=some (.bool (decide (x < y))):=by kernel_rfl
def R88:=TU 88
theorem Yzn(b:Nat):(E b).toEnv.ty.get 88=some R88:=by kernel_rfl
def R90:=TU 90
theorem Ysu(b:Nat):(E b).toEnv.ty.get 90=some R90:=by kernel_rfl
theorem Yua:Qeg R90.desc=true:=by kernel_rfl
theorem Xj4:R90.size=2:=by kernel_rfl
theorem Ylz:R90.bytes=32:=by kernel_rfl
theorem T88(b:Nat):SlTy (E b).toEnv 90 88 R90 R88:=⟨Ysu b,Yzn b,by kernel_rfl⟩
theorem Yk7(b:Nat){bk o n c:Nat}{k:IntKind}{i:Int}(h:0<=i/\i < n):Zm (E b).toEnv 88 (.slice (some ⟨bk,o,none⟩) n c) (.int k i)=some (.pointer (some ⟨bk,o+i.toNat*2,none⟩)):=Qn9 (T88 b) Xj4 h
theorem Yjf(b:Nat)(h:Heap)(bk o:Nat):Qk7 (E b).toEnv 90 (.pointer (some ⟨bk,o,none⟩)) h=Qll h bk o 2:=Xyg (Ysu b) Yua Xj4
theorem Yk6(b:Nat)(h:Heap):Qhn (E b).toEnv 90 h=some (.pointer (some ⟨h.next,0,none⟩),h.push (.cells true 1 [(.int .i64 0),(.slice none 0 0)])):=by kernel_rfl
theorem Yi5(b:Nat)(h:Heap)(bk o:Nat)(l:List Value)(hl:l.length=2):Qd1 (E b).toEnv 90 (.pointer (some ⟨bk,o,none⟩)) (.agg ⟨l⟩) h=Qbh h bk o l:=Qyv (Ysu b) (by rw[Xj4];exact hl)
theorem Xq3(b bk o:Nat):U1 (E b).toEnv 90 (.pointer (some ⟨bk,o,none⟩)) 0=some (.pointer (some ⟨bk,o+0,none⟩)):=by kernel_rfl
def R3:=TU 3
theorem Yp1(b:Nat):(E b).toEnv.ty.get 3=some R3:=by kernel_rfl
theorem Yvx:Qeg R3.desc=false:=by kernel_rfl
theorem Xiw:R3.size=1:=by kernel_rfl
theorem Yhx:R3.bytes=8:=by kernel_rfl
theorem Yu1:R3.zero=(.int .i64 0):=by kernel_rfl
theorem Qes(b:Nat)(h:Heap)(bk o:Nat):Qk7 (E b).toEnv 3 (.pointer (some ⟨bk,o,none⟩)) h=V2 h bk o:=Xbr (Yp1 b) Yvx
theorem Xp0(b:Nat):Qpa (E b).toEnv 3 5=true:=by kernel_rfl
theorem Xo3(b:Nat)(k:IntKind)(n:Int):Qvb (E b).toEnv 3 5 (.int k n)=some (.int .u8 (IntKind.wrap .u8 n)):=by kernel_rfl
def R43:=TU 43
theorem Xte(b:Nat):(E b).toEnv.ty.get 43=some R43:=by kernel_rfl
theorem Yuh:Qeg R43.desc=false:=by kernel_rfl
theorem Xo7:R43.size=1:=by kernel_rfl
def R5:=TU 5
theorem Yof(b:Nat):(E b).toEnv.ty.get 5=some R5:=by kernel_rfl
theorem Yvj:Qeg R5.desc=false:=by kernel_rfl
theorem Qfy:R5.size=1:=by kernel_rfl
theorem Q0y:R5.bytes=1:=by kernel_rfl
theorem Yex:R5.zero=(.int .u8 0):=by kernel_rfl
theorem T43(b:Nat):SlTy (E b).toEnv 5 43 R5 R43:=⟨Yof b,Xte b,by kernel_rfl⟩
theorem Xr6(b bk o:Nat):U1 (E b).toEnv 90 (.pointer (some ⟨bk,o,none⟩)) 1=some (.pointer (some ⟨bk,o+1,none⟩)):=by kernel_rfl
theorem Qzr(b:Nat)(h:Heap)(bk o:Nat):Qk7 (E b).toEnv 43 (.pointer (some ⟨bk,o,none⟩)) h=V2 h bk o:=Xbr (Xte b) Yuh
theorem Y6(x y:Int):Qfz (binOp .add 3 (.int .i64 x) (.int .i64 y))=some (.int .i64 (IntKind.wrap .i64 (x+y))):=by kernel_rfl
def Q2g:=FU 38
theorem Qm5(b:Nat):(mkE Tryd.prog nv b).fn.get 38=some Q2g:=by kernel_rfl
abbrev Qt3:LO:=[oP 2 (.assign (.const (.slice none 0 0)))]
abbrev Xzw:LO:=[oP 3 (.assign (.const (.slice none 0 0)))]
abbrev X0v:LO:=[oP 6 (oMv 0),oP 7 (oBu .len #[(oTt 6)] #[88]),oP 8 (.move (oCi 0))]
abbrev X0c:LO:=[oP 9 (.binOp .lss 3 (oTt 8) (oTt 7) 3)]
abbrev Xyk:LO:=[oP 10 (oIx 88 6 8),oP 11 (oLd 90 10),oP 5 (.alloc 90),oN (.store 90 (oTt 5) (oTt 11))]
noncomputable def Qor:Array Oper:=Xhr (Xfo 5 (Yg 37))
def X5v:Code:=.region 5 Qor true
abbrev Q3d:LO:=[oP 12 (oMv 3),oP 13 (oFa 90 5 0),oP 14 (oLd 3 13),oP 15 (.convert 3 5 (oTt 14)),oP 16 (.buildSlice 43 1 #[(0,(oTt 15))]),oP 17 (oBu .append #[(oTt 12),(oTt 16)] #[43,43]),oP 18 (oFa 90 5 1),oP 19 (oLd 43 18),oP 20 (oBu .append #[(oTt 17),(oTt 19)] #[43,43]),oP 3 (oAs 20)]
def Qm4:LO:=Q3d
theorem Xn9:Qor.toList.map bare=Q3d:=by kernel_rfl
theorem Xm6:Qor.toList.map bare=Qm4:=Xn9
def Qce:List Nat:=[0,0,2,6,14,31,0,64,255,511]
theorem Xob:Q9k Qor.toList []=some Qce:=by kernel_rfl
theorem Xmc:Qal Qor.toList Qor.toList Qce []=true:=by kernel_rfl
theorem Xpk(b:Nat)(L:List KE)(s:St):Ab.runT (E b) L Qm4 Qce Qm4 0 s=Ab.runT (E b) L Qm4 Qce Q3d 0 s:=rfl
theorem Xsp(b:Nat):Wk (E b) 5 ((nth Qce 5).getD 0) Qm4 Qce 0=true:=by kernel_rfl
theorem Xs4(b:Nat):Wk (E b) 8 ((nth Qce 8).getD 0) Qm4 Qce 0=true:=by kernel_rfl
abbrev Xxd:LO:=[oP 21 (.binOp .add 3 (oTt 8) (oCi 1) 3),oP 8 (oMv 21)]
def Xzu:Code:=.loop (.seq (oRg X0c) (.seq (.cond (.tmp 9) .skip (.exit 0)) (.seq (.block 1 (.seq (oRg Xyk) X5v)) (oRg Xxd))))
abbrev Xu5:LO:=[oP 22 (oMv 3),oP 2 (oAs 22)]
def Qfu:Code:=(.seq (oRg Qt3) (.seq (oRg Xzw) (.seq (.seq (oRg X0v) (.block 0 Xzu)) (.seq (oRg Xu5) .ret))))
theorem X3z:Uu (Yg 37)=Qfu:=by kernel_rfl
theorem Xvi:Q5q.body=some (Yg 37):=by kernel_rfl
theorem Yay:Q5q.ntmps=23:=by kernel_rfl
theorem Qp9:Q5q.results.toList=[.tmp 2]:=by kernel_rfl
def Xlo:LO:=Qt3
def Xln:Code:=oRg Xlo
theorem Xse:oRQ Xln Xlo Qt3:=fun _ _=>rfl
abbrev Xuv:LO:=[oP 3 (oMv 0),oP 4 (.binOp .eql 43 (oTt 3) (.const (.slice none 0 0)) 43)]
def Xld:LO:=Qt3
def Xlc:Code:=oRg Xld
theorem Xsa:oRQ Xlc Xld Qt3:=fun _ _=>rfl
abbrev Xu9:LO:=[oP 5 (.buildSlice 43 0 #[]),oP 6 (oMv 0),oP 7 (oBu .append #[(oTt 5),(oTt 6)] #[43,43]),oP 2 (oAs 7)]
def Xbn:Code:=(.seq Xln (.seq (.seq (oRg Xuv) (.cond (.tmp 4) (.seq Xlc .ret) .skip)) (.seq (oRg Xu9) .ret)))
theorem X04:Uu (Yg 38)=Xbn:=by kernel_rfl
theorem Xsi:Q2g.body=some (Yg 38):=by kernel_rfl
theorem X68:Q2g.ntmps=8:=by kernel_rfl
theorem Xzq:Q2g.results.toList=[.tmp 2]:=by kernel_rfl
def Q1s:=FU 48
theorem Qlz(b:Nat):(mkE Tryd.prog nv b).fn.get 48=some Q1s:=by kernel_rfl
def R9:=TU 9
theorem Y03(b:Nat):(E b).toEnv.ty.get 9=some R9:=by kernel_rfl
theorem Yuv(b:Nat):Qpa (E b).toEnv 43 9=false:=by kernel_rfl
def Q9n:=FU 39
theorem Wm(b:Nat):(mkE Tryd.prog nv b).fn.get 39=some Q9n:=by kernel_rfl
def R34:=TU 34
theorem Yr5(b:Nat):(E b).toEnv.ty.get 34=some R34:=by kernel_rfl
theorem Yt7:Qeg R34.desc=true:=by kernel_rfl
theorem X5b:R34.size=32:=by kernel_rfl
theorem T34(b:Nat):ArTy (E b).toEnv 32 5 34 R5 R34:=⟨Yof b,Yr5 b,by kernel_rfl⟩
theorem Q4p(b:Nat)(h:Heap):Qhn (E b).toEnv 34 h=some (.pointer (some ⟨h.next,0,none⟩),h.push (.cells true 1 [(.int .u8 0),(.int .u8 0),(.int .u8 0),(.int .u8 0),(.int .u8 0),(.int .u8 0),(.int .u8 0),(.int .u8 0),(.int .u8 0),(.int .u8 0),(.int .u8 0),(.int .u8 0),(.int .u8 0),(.int .u8 0),(.int .u8 0),(.int .u8 0),(.int .u8 0),(.int .u8 0),(.int .u8 0),(.int .u8 0),(.int .u8 0),(.int .u8 0),(.int .u8 0),(.int .u8 0),(.int .u8 0),(.int .u8 0),(.int .u8 0),(.int .u8 0),(.int .u8 0),(.int .u8 0),(.int .u8 0),(.int .u8 0)])):=by kernel_rfl
def Qgn:=FU 26
theorem J8(b:Nat):(mkE Tryd.prog nv b).fn.get 26=some Qgn:=by kernel_rfl
theorem Xbe(b:Nat)(h:Heap)(bk o:Nat)(l:List Value)(hl:l.length=32):Qd1 (E b).toEnv 34 (.pointer (some ⟨bk,o,none⟩)) (.agg ⟨l⟩) h=Qbh h bk o l:=Qyv (Yr5 b) (by rw[X5b];exact hl)
theorem Qww(b:Nat)(a:Option Addr)(n c:Nat)(h:Heap):Q43 (E b).toEnv 43 (.slice a n c) h=some (.int .i64 n):=by kernel_rfl
theorem Z6(x y:Int):Qfz (binOp .gtr 3 (.int .i64 x) (.int .i64 y))=some (.bool (decide (x > y))):=by kernel_rfl
def R96:=TU 96
theorem Yu9(b:Nat):(E b).toEnv.ty.get 96=some R96:=by kernel_rfl
theorem Ytj:Qeg R96.desc=true:=by kernel_rfl
theorem Yhw:R96.size=8:=by kernel_rfl
def R94:=TU 94
theorem Ytl(b:Nat):(E b).toEnv.ty.get 94=some R94:=by kernel_rfl
theorem Yt2:Qeg R94.desc=false:=by kernel_rfl
theorem Yhq:R94.size=1:=by kernel_rfl
theorem T96(b:Nat):ArTy (E b).toEnv 8 94 96 R94 R96:=⟨Ytl b,Yu9 b,by kernel_rfl⟩
theorem Xt9(b:Nat)(h:Heap)(bk o:Nat):Qk7 (E b).toEnv 96 (.pointer (some ⟨bk,o,none⟩)) h=Qll h bk o 8:=Xyg (Yu9 b) Ytj Yhw
theorem Xok(b:Nat)(h:Heap):Qhn (E b).toEnv 96 h=some (.pointer (some ⟨h.next,0,none⟩),h.push (.cells true 1 [(.int .u32 0),(.int .u32 0),(.int .u32 0),(.int .u32 0),(.int .u32 0),(.int .u32 0),(.int .u32 0),(.int .u32 0)])):=by kernel_rfl
theorem Xnk(b:Nat)(h:Heap)(bk o:Nat)(l:List Value)(hl:l.length=8):Qd1 (E b).toEnv 96 (.pointer (some ⟨bk,o,none⟩)) (.agg ⟨l⟩) h=Qbh h bk o l:=Qyv (Yu9 b) (by rw[Yhw];exact hl)
theorem Xop(b:Nat){bk o:Nat}{k:IntKind}{i:Int}(h:0<=i/\i < 8):Zm (E b).toEnv 96 (.pointer (some ⟨bk,o,none⟩)) (.int k i)=some (.pointer (some ⟨bk,o+i.toNat*1,none⟩)):=Xtv (T96 b) Yhq h
theorem Xso(b:Nat)(h:Heap)(bk o:Nat):Qk7 (E b).toEnv 94 (.pointer (some ⟨bk,o,none⟩)) h=V2 h bk o:=Xbr (Ytl b) Yt2
theorem Q0h(b:Nat):Qpa (E b).toEnv 3 94=true:=by kernel_rfl
theorem Qwt(b:Nat)(k:IntKind)(n:Int):Qvb (E b).toEnv 3 94 (.int k n)=some (.int .u32 (IntKind.wrap .u32 n)):=by kernel_rfl
theorem Q05(b:Nat)(h:Heap)(bk o:Nat)(k:IntKind)(z:Int):Qd1 (E b).toEnv 94 (.pointer (some ⟨bk,o,none⟩)) (.int k z) h=Qbh h bk o [(.int k z)]:=Xum (Ytl b) Yhq rfl
theorem J7(x y:Int):Qfz (binOp .sub 3 (.int .i64 x) (.int .i64 y))=some (.int .i64 (IntKind.wrap .i64 (x-y))):=by kernel_rfl
theorem Xnh(b:Nat)(h:Heap):Qhn (E b).toEnv 99 h=some (.pointer (some ⟨h.next,0,none⟩),h.push (.cells true 1 (List.replicate 64 (.int .u8 0)))):=by kernel_rfl
theorem Qx2(b:Nat):Qpa (E b).toEnv 3 98=true:=by kernel_rfl
theorem Qx0(b:Nat)(k:IntKind)(n:Int):Qvb (E b).toEnv 3 98 (.int k n)=some (.int .u64 (IntKind.wrap .u64 n)):=by kernel_rfl
theorem Qzx(x y:Int):Qfz (binOp .add 98 (.int .u64 x) (.int .u64 y))=some (.int .u64 (IntKind.wrap .u64 (x+y))):=by kernel_rfl
theorem V3(x y:Int):Qfz (binOp .eql 3 (.int .i64 x) (.int .i64 y))=some (.bool (decide (x=y))):=by kernel_rfl
def Xnd:=FU 40
theorem Jz(b:Nat):(mkE Tryd.prog nv b).fn.get 40=some Xnd:=by kernel_rfl
theorem Qv8(x:Int):Qfz (binOp .quo 3 (.int .i64 x) (.int .i64 4))=some (.int .i64 (IntKind.wrap .i64 (Int.tdiv x 4))):=by kernel_rfl
theorem Qva(x:Int):Qfz (binOp .rem 3 (.int .i64 x) (.int .i64 4))=some (.int .i64 (Int.tmod x 4)):=by kernel_rfl
theorem Qx7(x y:Int):Qfz (binOp .mul 3 (.int .i64 x) (.int .i64 y))=some (.int .i64 (IntKind.wrap .i64 (x*y))):=by kernel_rfl
theorem Q0d(b:Nat):Qpa (E b).toEnv 94 5=true:=by kernel_rfl
theorem Q0e(b:Nat)(k:IntKind)(n:Int):Qvb (E b).toEnv 94 5 (.int k n)=some (.int .u8 (IntKind.wrap .u8 n)):=by kernel_rfl
theorem Xr4(b:Nat){bk o:Nat}{k:IntKind}{i:Int}(h:0<=i/\i < 32):Zm (E b).toEnv 34 (.pointer (some ⟨bk,o,none⟩)) (.int k i)=some (.pointer (some ⟨bk,o+i.toNat*1,none⟩)):=Xtv (T34 b) Qfy h
theorem Xbo(b:Nat)(h:Heap)(bk o:Nat)(k:IntKind)(z:Int):Qd1 (E b).toEnv 5 (.pointer (some ⟨bk,o,none⟩)) (.int k z) h=Qbh h bk o [(.int k z)]:=Xum (Yof b) Qfy rfl
theorem Xr5(b:Nat)(h:Heap)(bk o:Nat):Qk7 (E b).toEnv 34 (.pointer (some ⟨bk,o,none⟩)) h=Qll h bk o 32:=Xyg (Yr5 b) Yt7 X5b
abbrev Xvb:LO:=[oP 4 (.assign (.const (.bool false)))]
abbrev Xxg:LO:=[oP 5 (oMv 0),oP 6 (.convert 43 9 (oTt 5)),oP 7 (oMv 1),oP 8 (.convert 43 9 (oTt 7)),oP 9 (.binOp .eql 9 (oTt 6) (oTt 8) 9),oP 4 (oAs 9)]
def Xbs:Code:=(.seq (oRg Xvb) (.seq (oRg Xxg) .ret))
theorem X0s:Uu (Yg 48)=Xbs:=by kernel_rfl
theorem Xt5:Q1s.body=some (Yg 48):=by kernel_rfl
theorem X3v:Q1s.ntmps=10:=by kernel_rfl
theorem X0y:Q1s.results.toList=[.tmp 4]:=by kernel_rfl
abbrev X4m:LO:=[oP 2 (.alloc 34)]
abbrev X62:LO:=[oP 3 (oMv 0),oP 4 (oCa 26 #[(.const (.slice none 0 0)),(oTt 3)] #[43,43]),oN (.store 34 (oTt 2) (oTt 4))]
def Q6k:Code:=(.seq (oRg X4m) (.seq (oRg X62) .ret))
theorem Ybx:Uu (Yg 39)=Q6k:=by kernel_rfl
theorem Xz4:Q9n.body=some (Yg 39):=by kernel_rfl
theorem Yel:Q9n.ntmps=5:=by kernel_rfl
theorem Xrr:Q9n.results.toList=[.cell 2 34]:=by kernel_rfl
abbrev Xw2:LO:=[oP 4 (.alloc 34)]
abbrev Xun:LO:=[oP 13 (oMv 0),oP 14 (oBu .len #[(oTt 13)] #[43]),oP 15 (.binOp .gtr 3 (oTt 14) (oCi 32) 3)]
abbrev Xvr:LO:=[oP 16 (oMv 0),oP 17 (oCa 39 #[(oTt 16)] #[43]),oP 5 (.alloc 34),oN (.store 34 (oTt 5) (oTt 17))]
abbrev Xv7:LO:=[oP 18 (.slice 34 (oTt 5) none none none),oP 0 (oAs 18)]
abbrev Xw4:LO:=[oP 19 (.load 96 (.global 0)),oP 6 (.alloc 96),oN (.store 96 (oTt 6) (oTt 19))]
abbrev Xli:Code:=oRg Xw4
abbrev Xsh:LO:=[oP 20 (.indexAddr 96 (oTt 6) (oCi 0)),oP 21 (oLd 94 20),oP 22 (oMv 0),oP 23 (oBu .len #[(oTt 22)] #[43]),oP 24 (.convert 3 94 (oTt 23)),oP 25 (.binOp .shl 94 (oTt 24) (.const (.int .u64 8)) 97),oP 26 (.binOp .xor 94 (.const (.int .u32 16842752)) (oTt 25) 94),oP 27 (.binOp .xor 94 (oTt 26) (.const (.int .u32 32)) 94),oP 28 (.binOp .xor 94 (oTt 21) (oTt 27) 94),oP 29 (.indexAddr 96 (oTt 6) (oCi 0)),oN (.store 94 (oTt 29) (oTt 28))]
abbrev Xsn:LO:=[oP 30 (oMv 1),oP 7 (oAs 30)]
abbrev Xsj:LO:=[oP 31 (oMv 0),oP 32 (oBu .len #[(oTt 31)] #[43]),oP 33 (.binOp .gtr 3 (oTt 32) (oCi 0) 3)]
abbrev Xrw:LO:=[oP 34 (oMv 1),oP 35 (oBu .len #[(oTt 34)] #[43]),oP 36 (.binOp .add 3 (oCi 64) (oTt 35) 3),oP 37 (.makeSlice 43 (oCi 0) (oTt 36)),oP 38 (oMv 0),oP 39 (oBu .append #[(oTt 37),(oTt 38)] #[43,43]),oP 40 (oMv 0),oP 41 (oBu .len #[(oTt 40)] #[43]),oP 42 (.binOp .sub 3 (oCi 64) (oTt 41) 3),oP 43 (oBu .append #[(oTt 39),(oTt 42)] #[43,3]),oP 44 (oMv 1),oP 45 (oBu .append #[(oTt 43),(oTt 44)] #[43,43]),oP 7 (oAs 45)]
abbrev Xs9:LO:=[oP 8 (.assign (.const (.int .u64 0)))]
abbrev Xt8:LO:=[oP 9 (.alloc 99)]
abbrev Xt6:LO:=[oP 46 (.slice 99 (oTt 9) none none none),oP 47 (oMv 7),oP 48 (oBu .copy #[(oTt 46),(oTt 47)] #[43,43]),oP 10 (oAs 48)]
abbrev Xss:LO:=[oP 49 (oMv 7),oP 50 (oMv 10),oP 51 (.slice 43 (oTt 49) (some (oTt 50)) none none),oP 7 (oAs 51)]
abbrev Xtd:LO:=[oP 52 (oMv 8),oP 53 (oMv 10),oP 54 (.convert 3 98 (oTt 53)),oP 55 (.binOp .add 98 (oTt 52) (oTt 54) 98),oP 8 (oAs 55)]
abbrev Xt1:LO:=[oP 56 (oLd 96 6),oP 57 (oMv 8),oP 58 (oMv 7),oP 59 (oBu .len #[(oTt 58)] #[43]),oP 60 (.binOp .eql 3 (oTt 59) (oCi 0) 3),oP 61 (oCa 40 #[(oTt 56),(oTt 9),(oTt 57),(oTt 60)] #[96,101,98,4]),oN (.store 96 (oTt 6) (oTt 61))]
abbrev Xs0:LO:=[oP 62 (oMv 7),oP 63 (oBu .len #[(oTt 62)] #[43]),oP 64 (.binOp .eql 3 (oTt 63) (oCi 0) 3)]
def Xev:Code:=.loop (.block 1 (.seq (oRg Xt8) (.seq (oRg Xt6) (.seq (oRg Xss) (.seq (oRg Xtd) (.seq (oRg Xt1) (.seq (oRg Xs0) (.cond (.tmp 64) (.exit 0) .skip))))))))
def Q2r:Code:=.block 0 Xev
theorem V6:oBQ 0 Q2r Xev:=fun _ _=>rfl
abbrev Xsx:LO:=[oP 11 (.alloc 34)]
abbrev Xrx:LO:=[oP 65 (.move (oCi 0))]
abbrev Xt0:LO:=[oP 66 (.binOp .lss 3 (oTt 65) (oCi 32) 3)]
abbrev Xsg:LO:=[oP 67 (oMv 65),oP 12 (oAs 67)]
abbrev Xtc:LO:=[oP 68 (oMv 12),oP 69 (oMv 12),oP 70 (.binOp .quo 3 (oTt 69) (oCi 4) 3),oP 71 (oIx 96 6 70),oP 72 (oLd 94 71),oP 73 (oMv 12),oP 74 (.binOp .rem 3 (oTt 73) (oCi 4) 3),oP 75 (.binOp .mul 3 (oCi 8) (oTt 74) 3),oP 76 (.binOp .shr 94 (oTt 72) (oTt 75) 3),oP 77 (.convert 94 5 (oTt 76)),oP 78 (oIx 34 11 68),oN (.store 5 (oTt 78) (oTt 77))]
abbrev Xsb:LO:=[oP 79 (.binOp .add 3 (oTt 65) (oCi 1) 3),oP 65 (oMv 79)]
def Xul:Code:=.loop (.seq (oRg Xt0) (.seq (.cond (.tmp 66) .skip (.exit 2)) (.seq (.block 3 (.seq (oRg Xsg) (oRg Xtc))) (oRg Xsb))))
abbrev Xst:LO:=[oP 80 (oLd 34 11),oN (.store 34 (oTt 4) (oTt 80))]
abbrev Q3j:Code:=.seq (oRg Xsx) (.seq (.seq (oRg Xrx) (.block 2 Xul)) (.seq (oRg Xst) .ret))
def Qwn:Code:=.seq Q2r Q3j
theorem Jl:oSQ Qwn Q2r Q3j:=fun _ _=>rfl
abbrev Xh7:Code:=.seq (oRg Xsh) (.seq (oRg Xsn) (.seq (.seq (oRg Xsj) (.cond (.tmp 33) (oRg Xrw) .skip)) (.seq (oRg Xs9) Qwn)))
def Q30:Code:=.seq Xli Xh7
theorem Jk:oSQ Q30 Xli Xh7:=fun _ _=>rfl
def Jw:Code:=(.seq (oRg Xw2) (.seq (.seq (oRg Xun) (.cond (.tmp 15) (.seq (oRg Xvr) (oRg Xv7)) .skip)) Q30))
theorem Xlh:Uu (Yg 26)=Jw:=by kernel_rfl
theorem Xbm:Qgn.body=some (Yg 26):=by kernel_rfl
theorem Xoy:Qgn.ntmps=81:=by kernel_rfl
theorem Wt:Qgn.results.toList=[.cell 4 34]:=by kernel_rfl
def Xjf:=FU 7
theorem Yy(b:Nat):(mkE Tryd.prog nv b).fn.get 7=some Xjf:=by kernel_rfl
abbrev Xgs:LO:=[oP 4 (.assign (oCi 0))]
abbrev Yaw:LO:=[oP 5 (oMv 1),oP 6 (.binOp .lss 3 (oTt 5) (oCi 1) 3)]
def Xyt:LO:=Xgs
def Xtz:Code:=oRg Xyt
theorem Xnv:oRQ Xtz Xyt Xgs:=fun _ _=>rfl
abbrev Yc3:LO:=[oP 7 (oMv 0),oP 8 (oMv 1),oP 9 (.binOp .rem 3 (oTt 7) (oTt 8) 3),oP 0 (oAs 9)]
abbrev X3g:LO:=[oP 10 (oMv 0),oP 11 (.binOp .lss 3 (oTt 10) (oCi 0) 3)]
abbrev X4b:LO:=[oP 12 (oMv 0),oP 13 (oMv 1),oP 14 (.binOp .add 3 (oTt 12) (oTt 13) 3),oP 0 (oAs 14)]
abbrev X5m:LO:=[oP 15 (oMv 0),oP 4 (oAs 15)]
def Xb6:Code:=(.seq (oRg Xgs) (.seq (.seq (oRg Yaw) (.cond (.tmp 6) (.seq Xtz .ret) .skip)) (.seq (oRg Yc3) (.seq (.seq (oRg X3g) (.cond (.tmp 11) (oRg X4b) .skip)) (.seq (oRg X5m) .ret)))))
theorem Ye6:Uu (Yg 7)=Xb6:=by kernel_rfl
theorem X4p:Xjf.body=some (Yg 7):=by kernel_rfl
theorem Yjo:Xjf.ntmps=16:=by kernel_rfl
theorem Xwg:Xjf.results.toList=[.tmp 4]:=by kernel_rfl
def Xjd:=FU 15
theorem Qa9(b:Nat):(mkE Tryd.prog nv b).fn.get 15=some Xjd:=by kernel_rfl
theorem Yep(b:Nat)(h:Heap):Qhn (E b).toEnv 74 h=some (.pointer (some ⟨h.next,0,none⟩),h.push (.cells true 1 (List.replicate 1024 (.int .u8 0)))):=by kernel_rfl
def Xj7:=FU 27
theorem Qo4(b:Nat):(mkE Tryd.prog nv b).fn.get 27=some Xj7:=by kernel_rfl
theorem Xv2(b bk o:Nat):U1 (E b).toEnv 74 (.pointer (some ⟨bk,o,none⟩)) 0=some (.pointer (some ⟨bk,o+0,none⟩)):=by kernel_rfl
def R72:=TU 72
theorem Yzd(b:Nat):(E b).toEnv.ty.get 72=some R72:=by kernel_rfl
theorem T72(b:Nat):ArTy (E b).toEnv 32 34 72 R34 R72:=⟨Yr5 b,Yzd b,by kernel_rfl⟩
theorem Yiz(b:Nat){bk o:Nat}{k:IntKind}{i:Int}(h:0<=i/\i < 32):Zm (E b).toEnv 72 (.pointer (some ⟨bk,o,none⟩)) (.int k i)=some (.pointer (some ⟨bk,o+i.toNat*32,none⟩)):=Xtv (T72 b) X5b h
def Yzz:=TU 104
theorem Yvy(b:Nat):(E b).toEnv.ty.get 104=some Yzz:=by kernel_rfl
def Yvn:=TU 103
theorem Ygt(b:Nat):(E b).toEnv.ty.get 103=some Yvn:=by kernel_rfl
theorem Ypv:Qeg Yvn.desc=true:=by kernel_rfl
theorem Xoq:Yvn.size=3:=by kernel_rfl
theorem Y0g(b:Nat):ArTy (E b).toEnv 3 103 104 Yvn Yzz:=⟨Ygt b,Yvy b,by kernel_rfl⟩
theorem Ynt(b:Nat){bk o:Nat}{k:IntKind}{i:Int}(h:0<=i/\i < 3):Zm (E b).toEnv 104 (.pointer (some ⟨bk,o,none⟩)) (.int k i)=some (.pointer (some ⟨bk,o+i.toNat*3,none⟩)):=Xtv (Y0g b) Xoq h
theorem Yi4(b bk o:Nat):U1 (E b).toEnv 103 (.pointer (some ⟨bk,o,none⟩)) 2=some (.pointer (some ⟨bk,o+2,none⟩)):=by kernel_rfl
def R98:=TU 98
theorem Yzr(b:Nat):(E b).toEnv.ty.get 98=some R98:=by kernel_rfl
theorem Ysh:Qeg R98.desc=false:=by kernel_rfl
theorem Yx3(b:Nat)(h:Heap)(bk o:Nat):Qk7 (E b).toEnv 98 (.pointer (some ⟨bk,o,none⟩)) h=V2 h bk o:=Xbr (Yzr b) Ysh
theorem Ykv(x y:Int):Qfz (binOp .lss 98 (.int .u64 x) (.int .u64 y))=some (.bool (decide (x < y))):=by kernel_rfl
def Q1l:=FU 41
theorem Qsq(b:Nat):(mkE Tryd.prog nv b).fn.get 41=some Q1l:=by kernel_rfl
theorem Yrr(b:Nat)(h:Heap)(bk o:Nat):Qk7 (E b).toEnv 103 (.pointer (some ⟨bk,o,none⟩)) h=Qll h bk o 3:=Xyg (Ygt b) Ypv Xoq
theorem Yry(b:Nat)(h:Heap):Qhn (E b).toEnv 103 h=some (.pointer (some ⟨h.next,0,none⟩),h.push (.cells true 1 [(.int .u8 0),(.int .i64 0),(.int .u64 0)])):=by kernel_rfl
theorem Ys2(b:Nat)(h:Heap)(bk o:Nat)(l:List Value)(hl:l.length=3):Qd1 (E b).toEnv 103 (.pointer (some ⟨bk,o,none⟩)) (.agg ⟨l⟩) h=Qbh h bk o l:=Qyv (Ygt b) (by rw[Xoq];exact hl)
theorem Ys4(b:Nat)(a:Option Addr)(n c:Nat)(h:Heap):Q43 (E b).toEnv 106 (.slice a n c) h=some (.int .i64 n):=by kernel_rfl
def Y02:=TU 106
theorem Yvo(b:Nat):(E b).toEnv.ty.get 106=some Y02:=by kernel_rfl
theorem Y0b(b:Nat):SlTy (E b).toEnv 103 106 Yvn Y02:=⟨Ygt b,Yvo b,by kernel_rfl⟩
theorem Ys6(b:Nat){bk o n c:Nat}{k:IntKind}{i:Int}(h:0<=i/\i < n):Zm (E b).toEnv 106 (.slice (some ⟨bk,o,none⟩) n c) (.int k i)=some (.pointer (some ⟨bk,o+i.toNat*3,none⟩)):=Qn9 (Y0b b) Xoq h
theorem Ym9(x y:Int):Qfz (binOp .geq 98 (.int .u64 x) (.int .u64 y))=some (.bool (decide (x ≥ y))):=by kernel_rfl
theorem Ygd(b bk o:Nat):U1 (E b).toEnv 103 (.pointer (some ⟨bk,o,none⟩)) 0=some (.pointer (some ⟨bk,o+0,none⟩)):=by kernel_rfl
theorem Yvg(b:Nat)(h:Heap)(bk o:Nat):Qk7 (E b).toEnv 5 (.pointer (some ⟨bk,o,none⟩)) h=V2 h bk o:=Xbr (Yof b) Yvj
theorem Yh0(b bk o:Nat):U1 (E b).toEnv 103 (.pointer (some ⟨bk,o,none⟩)) 1=some (.pointer (some ⟨bk,o+1,none⟩)):=by kernel_rfl
theorem Yml(b:Nat):Qpa (E b).toEnv 98 5=true:=by kernel_rfl
theorem Yne(b:Nat)(k:IntKind)(n:Int):Qvb (E b).toEnv 98 5 (.int k n)=some (.int .u8 (IntKind.wrap .u8 n)):=by kernel_rfl
def Yzy:=TU 134
theorem Ysf(b:Nat):(E b).toEnv.ty.get 134=some Yzy:=by kernel_rfl
theorem Yvm(b:Nat):SlTy (E b).toEnv 43 134 R43 Yzy:=⟨Xte b,Ysf b,by kernel_rfl⟩
def Qdc:=FU 54
theorem Ja(b:Nat):(mkE Tryd.prog nv b).fn.get 54=some Qdc:=by kernel_rfl
theorem X2q(b:Nat)(a:Option Addr)(n c:Nat)(h:Heap):Q43 (E b).toEnv 134 (.slice a n c) h=some (.int .i64 n):=by kernel_rfl
theorem X2c(b:Nat){bk o n c:Nat}{k:IntKind}{i:Int}(h:0<=i/\i < n):Zm (E b).toEnv 134 (.slice (some ⟨bk,o,none⟩) n c) (.int k i)=some (.pointer (some ⟨bk,o+i.toNat*1,none⟩)):=Qn9 (Yvm b) Xo7 h
theorem Yrv(b:Nat)(v:Value):Xa0 (E b).toEnv 9 v=some (.iface 9 v):=by kernel_rfl
def Qeq:=FU 63
theorem Jp(b:Nat):(mkE Tryd.prog nv b).fn.get 63=some Qeq:=by kernel_rfl
abbrev Ya6:LO:=[oP 2 (.assign (.const (.pointer none)))]
abbrev Ycj:LO:=[oP 3 (.alloc 74)]
abbrev X7z:LO:=[oP 5 (.move (oCi 0))]
abbrev Yao:LO:=[oP 6 (.binOp .lss 3 (oTt 5) (oCi 32) 3)]
abbrev X3s:LO:=[oP 7 (oMv 5),oP 4 (oAs 7)]
abbrev X5w:LO:=[oP 8 (oMv 4),oP 9 (oMv 0),oP 10 (oMv 4),oP 11 (.binOp .add 3 (oTt 10) (oCi 1) 3),oP 12 (oCa 27 #[(.const (.slice none 0 0)),(oTt 11)] #[43,3]),oP 13 (oCa 26 #[(oTt 9),(oTt 12)] #[43,43]),oP 14 (oFa 74 3 0),oP 15 (oIx 72 14 8),oN (.store 34 (oTt 15) (oTt 13))]
abbrev X3k:LO:=[oP 16 (.binOp .add 3 (oTt 5) (oCi 1) 3),oP 5 (oMv 16)]
def X7g:Code:=.loop (.seq (oRg Yao) (.seq (.cond (.tmp 6) .skip (.exit 0)) (.seq (.block 1 (.seq (oRg X3s) (oRg X5w))) (oRg X3k))))
abbrev X2u:LO:=[oP 2 (oAs 3)]
def Qov:Code:=(.seq (oRg Ya6) (.seq (oRg Ycj) (.seq (.seq (oRg X7z) (.block 0 X7g)) (.seq (oRg X2u) .ret))))
theorem Yfl:Uu (Yg 15)=Qov:=by kernel_rfl
theorem X6g:Xjd.body=some (Yg 15):=by kernel_rfl
theorem Yiw:Xjd.ntmps=17:=by kernel_rfl
theorem Q37:Xjd.results.toList=[.tmp 2]:=by kernel_rfl
abbrev Qzg:LO:=[oP 4 (.assign (.const (.slice none 0 0)))]
abbrev Ya2:LO:=[oP 11 (oMv 1),oP 12 (.convert 3 98 (oTt 11)),oP 5 (oAs 12)]
abbrev X7r:LO:=[oP 13 (oMv 5),oP 14 (.indexAddr 104 (.global 1) (oCi 0)),oP 15 (oFa 103 14 2),oP 16 (oLd 98 15),oP 17 (.binOp .lss 98 (oTt 13) (oTt 16) 98)]
abbrev X9c:LO:=[oP 18 (oMv 0),oP 19 (oMv 1),oP 20 (.convert 3 5 (oTt 19)),oP 21 (.buildSlice 43 1 #[(0,(oTt 20))]),oP 22 (oCa 41 #[(oTt 18),(oTt 21)] #[43,43]),oP 4 (oAs 22)]
abbrev X5p:LO:=[oP 23 (.indexAddr 104 (.global 1) (oCi 0)),oP 24 (oLd 103 23),oP 6 (.alloc 103),oN (.store 103 (oTt 6) (oTt 24))]
abbrev X5x:LO:=[oP 25 (.slice 104 (.global 1) (some (oCi 1)) none none),oP 26 (oBu .len #[(oTt 25)] #[106]),oP 27 (.move (oCi 0))]
abbrev Xa6:LO:=[oP 28 (.binOp .lss 3 (oTt 27) (oTt 26) 3)]
abbrev X2v:LO:=[oP 29 (oIx 106 25 27),oP 30 (oLd 103 29),oP 8 (.alloc 103),oN (.store 103 (oTt 8) (oTt 30))]
abbrev X3t:LO:=[oP 31 (oMv 5),oP 32 (oFa 103 8 2),oP 33 (oLd 98 32),oP 34 (.binOp .geq 98 (oTt 31) (oTt 33) 98)]
abbrev X43:LO:=[oP 35 (oLd 103 8),oN (.store 103 (oTt 6) (oTt 35))]
abbrev X3b:LO:=[oP 36 (.binOp .add 3 (oTt 27) (oCi 1) 3),oP 27 (oMv 36)]
def Yca:Code:=.loop (.seq (oRg Xa6) (.seq (.cond (.tmp 28) .skip (.exit 0)) (.seq (.block 1 (.seq (oRg X2v) (.seq (oRg X3t) (.cond (.tmp 34) (oRg X43) .skip)))) (oRg X3b))))
abbrev X34:LO:=[oP 37 (oMv 0),oP 38 (oFa 103 6 0),oP 39 (oLd 5 38),oP 40 (.buildSlice 43 1 #[(0,(oTt 39))]),oP 41 (oCa 41 #[(oTt 37),(oTt 40)] #[43,43]),oP 9 (oAs 41)]
abbrev X53:LO:=[oP 42 (oFa 103 6 1),oP 43 (oLd 3 42),oP 44 (.move (oCi 0))]
abbrev X5q:LO:=[oP 45 (.binOp .lss 3 (oTt 44) (oTt 43) 3)]
abbrev X40:LO:=[oP 46 (oMv 44),oP 10 (oAs 46)]
abbrev X4v:LO:=[oP 47 (oMv 9),oP 48 (oMv 5),oP 49 (oMv 10),oP 50 (.binOp .mul 3 (oCi 8) (oTt 49) 3),oP 51 (.binOp .shr 98 (oTt 48) (oTt 50) 3),oP 52 (.convert 98 5 (oTt 51)),oP 53 (.buildSlice 43 1 #[(0,(oTt 52))]),oP 54 (oBu .append #[(oTt 47),(oTt 53)] #[43,43]),oP 9 (oAs 54)]
abbrev X3y:LO:=[oP 55 (.binOp .add 3 (oTt 44) (oCi 1) 3),oP 44 (oMv 55)]
def X80:Code:=.loop (.seq (oRg X5q) (.seq (.cond (.tmp 45) .skip (.exit 2)) (.seq (.block 3 (.seq (oRg X40) (oRg X4v))) (oRg X3y))))
abbrev X4n:LO:=[oP 56 (oMv 9),oP 4 (oAs 56)]
def Xb9:Code:=(.seq (oRg Qzg) (.seq (oRg Ya2) (.seq (.seq (oRg X7r) (.cond (.tmp 17) (.seq (oRg X9c) .ret) .skip)) (.seq (oRg X5p) (.seq (.seq (oRg X5x) (.block 0 Yca)) (.seq (oRg X34) (.seq (.seq (oRg X53) (.block 2 X80)) (.seq (oRg X4n) .ret))))))))
theorem Yew:Uu (Yg 27)=Xb9:=by kernel_rfl
theorem X4u:Xj7.body=some (Yg 27):=by kernel_rfl
theorem Yif:Xj7.ntmps=57:=by kernel_rfl
theorem Xx4:Xj7.results.toList=[.tmp 4]:=by kernel_rfl
def Xlk:LO:=Qzg
def Xlp:Code:=oRg Xlk
theorem Xbq:oRQ Xlp Xlk Qzg:=fun _ _=>rfl
abbrev Xw6:LO:=[oP 5 (oMv 0),oP 6 (oMv 1),oP 7 (.buildSlice 134 2 #[(0,(oTt 5)),(1,(oTt 6))]),oP 8 (oCa 54 #[(oTt 7)] #[134]),oP 4 (oAs 8)]
def Q04:Code:=(.seq Xlp (.seq (oRg Xw6) .ret))
theorem X03:Uu (Yg 41)=Q04:=by kernel_rfl
theorem Xsv:Q1l.body=some (Yg 41):=by kernel_rfl
theorem X39:Q1l.ntmps=9:=by kernel_rfl
theorem Xlf:Q1l.results.toList=[.tmp 4]:=by kernel_rfl
abbrev Q19:LO:=[oP 2 (.assign (.const (.slice none 0 0)))]
abbrev Q12:LO:=[oP 3 (.assign (oCi 0))]
abbrev Q2j:LO:=[oP 9 (oMv 0),oP 10 (oBu .len #[(oTt 9)] #[134]),oP 11 (.move (oCi 0))]
abbrev Q1n:LO:=[oP 12 (.binOp .lss 3 (oTt 11) (oTt 10) 3)]
abbrev Qzt:LO:=[oP 13 (oIx 134 9 11),oP 14 (oLd 43 13),oP 5 (oAs 14)]
abbrev Qzz:LO:=[oP 15 (oMv 3),oP 16 (oMv 5),oP 17 (oBu .len #[(oTt 16)] #[43]),oP 18 (.binOp .add 3 (oTt 15) (oTt 17) 3),oP 3 (oAs 18)]
abbrev Q0b:LO:=[oP 19 (oMv 3),oP 20 (.binOp .lss 3 (oTt 19) (oCi 0) 3)]
abbrev Q09:LO:=[oP 21 (.makeInterface 9 (.const (.string ⟨⟨[108,101,110,32,111,117,116,32,111,102,32,114,97,110,103,101]⟩⟩))),oN (.panic (oTt 21))]
abbrev Qzu:LO:=[oP 22 (.binOp .add 3 (oTt 11) (oCi 1) 3),oP 11 (oMv 22)]
def Q1y:Code:=.loop (.seq (oRg Q1n) (.seq (.cond (.tmp 12) .skip (.exit 0)) (.seq (.block 1 (.seq (oRg Qzt) (.seq (oRg Qzz) (.seq (oRg Q0b) (.cond (.tmp 20) (oRg Q09) .skip))))) (oRg Qzu))))
abbrev Q08:LO:=[oP 23 (oMv 3),oP 24 (oCa 63 #[(.const (.slice none 0 0)),(oTt 23)] #[43,3]),oP 6 (oAs 24)]
abbrev Q02:LO:=[oP 25 (oMv 0),oP 26 (oBu .len #[(oTt 25)] #[134]),oP 27 (.move (oCi 0))]
def Qn5:LO:=Xa6
def Qn2:Code:=oRg Qn5
theorem Ve:oRQ Qn2 Qn5 Xa6:=fun _ _=>rfl
abbrev Qzv:LO:=[oP 29 (oIx 134 25 27),oP 30 (oLd 43 29),oP 8 (oAs 30)]
abbrev Qzs:LO:=[oP 31 (oMv 6),oP 32 (oMv 8),oP 33 (oBu .append #[(oTt 31),(oTt 32)] #[43,43]),oP 6 (oAs 33)]
abbrev Qzw:LO:=[oP 34 (.binOp .add 3 (oTt 27) (oCi 1) 3),oP 27 (oMv 34)]
def Q21:Code:=.loop (.seq Qn2 (.seq (.cond (.tmp 28) .skip (.exit 2)) (.seq (.block 3 (.seq (oRg Qzv) (oRg Qzs))) (oRg Qzw))))
abbrev Q0c:LO:=[oP 35 (oMv 6),oP 2 (oAs 35)]
def V0:Code:=(.seq (oRg Q19) (.seq (oRg Q12) (.seq (.seq (oRg Q2j) (.block 0 Q1y)) (.seq (oRg Q08) (.seq (.seq (oRg Q02) (.block 2 Q21)) (.seq (oRg Q0c) .ret))))))
theorem Q3e:Uu (Yg 54)=V0:=by kernel_rfl
theorem Q0g:Qdc.body=some (Yg 54):=by kernel_rfl
theorem Q4o:Qdc.ntmps=36:=by kernel_rfl
theorem U2:Qdc.results.toList=[.tmp 2]:=by kernel_rfl
def Qtz:LO:=Qzg
def Qtb:Code:=oRg Qtz
theorem Qo9:oRQ Qtb Qtz Qzg:=fun _ _=>rfl
abbrev Q4s:LO:=[oP 5 (oMv 1),oP 6 (.binOp .lss 3 (oTt 5) (oCi 0) 3)]
abbrev Q4f:LO:=[oP 7 (.makeInterface 9 (.const (.string ⟨⟨[99,97,110,110,111,116,32,98,101,32,110,101,103,97,116,105,118,101]⟩⟩))),oN (.panic (oTt 7))]
abbrev Q4m:LO:=[oP 8 (oMv 1),oP 9 (oMv 0),oP 10 (oBu .cap #[(oTt 9)] #[43]),oP 11 (oMv 0),oP 12 (oBu .len #[(oTt 11)] #[43]),oP 13 (.binOp .sub 3 (oTt 10) (oTt 12) 3),oP 14 (.binOp .sub 3 (oTt 8) (oTt 13) 3),oP 1 (oAs 14)]
abbrev Q4k:LO:=[oP 15 (oMv 1),oP 16 (.binOp .gtr 3 (oTt 15) (oCi 0) 3)]
abbrev Q3g:LO:=[oP 17 (oMv 0),oP 18 (oMv 0),oP 19 (oBu .cap #[(oTt 18)] #[43]),oP 20 (.slice 43 (oTt 17) none (some (oTt 19)) none),oP 21 (oMv 1),oP 22 (oBu .append #[(oTt 20),(oTt 21)] #[43,3]),oP 23 (oMv 0),oP 24 (oBu .len #[(oTt 23)] #[43]),oP 25 (.slice 43 (oTt 22) none (some (oTt 24)) none),oP 0 (oAs 25)]
abbrev Q39:LO:=[oP 26 (oMv 0),oP 4 (oAs 26)]
def Qfp:Code:=(.seq Qtb (.seq (.seq (oRg Q4s) (.cond (.tmp 6) (oRg Q4f) .skip)) (.seq (.seq (oRg Q4m) (.seq (oRg Q4k) (.cond (.tmp 16) (oRg Q3g) .skip))) (.seq (oRg Q39) .ret))))
theorem Q5x:Uu (Yg 63)=Qfp:=by kernel_rfl
theorem Q2s:Qeq.body=some (Yg 63):=by kernel_rfl
theorem Q8m:Qeq.ntmps=27:=by kernel_rfl
theorem Qtq:Qeq.results.toList=[.tmp 4]:=by kernel_rfl
variable{b:Nat}{C:CallP}{D0:CallF}{rd:Option Nat}(s:St)(K:Exit->St->Prop)
def Qn8:=FU 21
theorem Jx(b:Nat):(mkE Tryd.prog nv b).fn.get 21=some Qn8:=by kernel_rfl
def Qvd:=FU 36
theorem Qdu(b:Nat):(mkE Tryd.prog nv b).fn.get 36=some Qvd:=by kernel_rfl
theorem Uy(x y:Int):Qfz (binOp .neq 3 (.int .i64 x) (.int .i64 y))=some (.bool (!(decide (x=y)))):=by kernel_rfl
def Q26:=FU 45
theorem Qeb(b:Nat):(mkE Tryd.prog nv b).fn.get 45=some Q26:=by kernel_rfl
theorem Qeh(b:Nat)(a:Option Addr)(n c:Nat)(h:Heap):Q43 (E b).toEnv 22 (.slice a n c) h=some (.int .i64 n):=by kernel_rfl
def R22:=TU 22
theorem Ywi(b:Nat):(E b).toEnv.ty.get 22=some R22:=by kernel_rfl
theorem T22(b:Nat):SlTy (E b).toEnv 3 22 R3 R22:=⟨Yp1 b,Ywi b,by kernel_rfl⟩
theorem Qei(b:Nat){bk o n c:Nat}{k:IntKind}{i:Int}(h:0<=i/\i < n):Zm (E b).toEnv 22 (.slice (some ⟨bk,o,none⟩) n c) (.int k i)=some (.pointer (some ⟨bk,o+i.toNat*1,none⟩)):=Qn9 (T22 b) Xiw h
def Qwr:=FU 46
theorem Qgf(b:Nat):(mkE Tryd.prog nv b).fn.get 46=some Qwr:=by kernel_rfl
def Uj:=FU 59
theorem Yn(b:Nat):(mkE Tryd.prog nv b).fn.get 59=some Uj:=by kernel_rfl
theorem Qbo(b:Nat)(a:Option Addr)(n c:Nat)(h:Heap):Q43 (E b).toEnv 29 (.slice a n c) h=some (.int .i64 n):=by kernel_rfl
def R36:=TU 36
theorem X4e(b:Nat):(E b).toEnv.ty.get 36=some R36:=by kernel_rfl
theorem Ysq:Qeg R36.desc=true:=by kernel_rfl
theorem Qcc:R36.size=33:=by kernel_rfl
theorem Xvm:R36.bytes=40:=by kernel_rfl
theorem Uo(b:Nat)(h:Heap)(bk o:Nat):Qk7 (E b).toEnv 36 (.pointer (some ⟨bk,o,none⟩)) h=Qll h bk o 33:=Xyg (X4e b) Ysq Qcc
def R29:=TU 29
theorem Yk5(b:Nat):(E b).toEnv.ty.get 29=some R29:=by kernel_rfl
theorem Ytv:Qeg R29.desc=false:=by kernel_rfl
theorem Yp8:R29.size=1:=by kernel_rfl
theorem T29(b:Nat):SlTy (E b).toEnv 36 29 R36 R29:=⟨X4e b,Yk5 b,by kernel_rfl⟩
theorem W3(b:Nat){bk o n c:Nat}{k:IntKind}{i:Int}(h:0<=i/\i < n):Zm (E b).toEnv 29 (.slice (some ⟨bk,o,none⟩) n c) (.int k i)=some (.pointer (some ⟨bk,o+i.toNat*33,none⟩)):=Qn9 (T29 b) Qcc h
def L36:List Nat:=R36.leaf
theorem Qvg(b:Nat)(q:Bool)(x y:List Value):Zg (E b).toEnv .eql 36 q (.agg ⟨x⟩) (.agg ⟨y⟩)=(Vi L36 x y).map .bool:=by kernel_rfl
def Vs:=FU 50
theorem Yo(b:Nat):(mkE Tryd.prog nv b).fn.get 50=some Vs:=by kernel_rfl
theorem Ud(x y:Int):Qfz (binOp .geq 3 (.int .i64 x) (.int .i64 y))=some (.bool (decide (x ≥ y))):=by kernel_rfl
def Vp:=FU 32
theorem Zw(b:Nat):(mkE Tryd.prog nv b).fn.get 32=some Vp:=by kernel_rfl
def R53:=TU 53
theorem Yg5(b:Nat):(E b).toEnv.ty.get 53=some R53:=by kernel_rfl
theorem Ysp:Qeg R53.desc=false:=by kernel_rfl
theorem Yhv:R53.size=1:=by kernel_rfl
def R56:=TU 56
theorem X9e(b:Nat):(E b).toEnv.ty.get 56=some R56:=by kernel_rfl
theorem Yv0:Qeg R56.desc=true:=by kernel_rfl
theorem Qbg:R56.size=34:=by kernel_rfl
theorem X8m:R56.bytes=48:=by kernel_rfl
theorem T53(b:Nat):SlTy (E b).toEnv 56 53 R56 R53:=⟨X9e b,Yg5 b,by kernel_rfl⟩
def Uf:=FU 22
theorem Xf(b:Nat):(mkE Tryd.prog nv b).fn.get 22=some Uf:=by kernel_rfl
def V4:=FU 49
theorem Y5(b:Nat):(mkE Tryd.prog nv b).fn.get 49=some V4:=by kernel_rfl
theorem Qve(b:Nat)(a:Option Addr)(n c:Nat)(h:Heap):Q43 (E b).toEnv 53 (.slice a n c) h=some (.int .i64 n):=by kernel_rfl
theorem Qgw(b:Nat){bk o n c:Nat}{k:IntKind}{i:Int}(h:0<=i/\i < n):Zm (E b).toEnv 53 (.slice (some ⟨bk,o,none⟩) n c) (.int k i)=some (.pointer (some ⟨bk,o+i.toNat*34,none⟩)):=Qn9 (T53 b) Qbg h
theorem Qgr(b:Nat)(h:Heap)(bk o:Nat):Qk7 (E b).toEnv 56 (.pointer (some ⟨bk,o,none⟩)) h=Qll h bk o 34:=Xyg (X9e b) Yv0 Qbg
def V1:=FU 31
theorem Ya(b:Nat):(mkE Tryd.prog nv b).fn.get 31=some V1:=by kernel_rfl
theorem Qx1(b:Nat)(h:Heap):Qhn (E b).toEnv 56 h=some (.pointer (some ⟨h.next,0,none⟩),h.push (.cells true 1 [(.int .u8 0),(.int .u8 0),(.int .u8 0),(.int .u8 0),(.int .u8 0),(.int .u8 0),(.int .u8 0),(.int .u8 0),(.int .u8 0),(.int .u8 0),(.int .u8 0),(.int .u8 0),(.int .u8 0),(.int .u8 0),(.int .u8 0),(.int .u8 0),(.int .u8 0),(.int .u8 0),(.int .u8 0),(.int .u8 0),(.int .u8 0),(.int .u8 0),(.int .u8 0),(.int .u8 0),(.int .u8 0),(.int .u8 0),(.int .u8 0),(.int .u8 0),(.int .u8 0),(.int .u8 0),(.int .u8 0),(.int .u8 0),(.int .i64 0),(.int .i64 0)])):=by kernel_rfl
theorem Qkn(b:Nat)(h:Heap)(bk o:Nat)(l:List Value)(hl:l.length=34):Qd1 (E b).toEnv 56 (.pointer (some ⟨bk,o,none⟩)) (.agg ⟨l⟩) h=Qbh h bk o l:=Qyv (X9e b) (by rw[Qbg];exact hl)
def Qgj:=FU 34
theorem Vb(b:Nat):(mkE Tryd.prog nv b).fn.get 34=some Qgj:=by kernel_rfl
theorem Qev(b bk o:Nat):U1 (E b).toEnv 60 (.pointer (some ⟨bk,o,none⟩)) 2=some (.pointer (some ⟨bk,o+2,none⟩)):=by kernel_rfl
def R58:=TU 58
theorem Yei(b:Nat):(E b).toEnv.ty.get 58=some R58:=by kernel_rfl
theorem Yu4:Qeg R58.desc=false:=by kernel_rfl
theorem Qzy(b:Nat)(h:Heap)(bk o:Nat):Qk7 (E b).toEnv 58 (.pointer (some ⟨bk,o,none⟩)) h=V2 h bk o:=Xbr (Yei b) Yu4
def Qil:=FU 18
theorem Yj(b:Nat):(mkE Tryd.prog nv b).fn.get 18=some Qil:=by kernel_rfl
def R24:=TU 24
theorem Yyu(b:Nat):(E b).toEnv.ty.get 24=some R24:=by kernel_rfl
theorem Yug:Qeg R24.desc=false:=by kernel_rfl
theorem Ym1(b:Nat)(h:Heap)(bk o:Nat):Qk7 (E b).toEnv 24 (.pointer (some ⟨bk,o,none⟩)) h=V2 h bk o:=Xbr (Yyu b) Yug
theorem Q07(b bk o:Nat):U1 (E b).toEnv 60 (.pointer (some ⟨bk,o,none⟩)) 1=some (.pointer (some ⟨bk,o+1,none⟩)):=by kernel_rfl
theorem Xtg(b:Nat)(h:Heap)(bk o:Nat):Qk7 (E b).toEnv 53 (.pointer (some ⟨bk,o,none⟩)) h=V2 h bk o:=Xbr (Yg5 b) Ysp
def Qg2:=FU 33
theorem Qf8(b:Nat):(mkE Tryd.prog nv b).fn.get 33=some Qg2:=by kernel_rfl
theorem Qvj(b bk o:Nat):U1 (E b).toEnv 56 (.pointer (some ⟨bk,o,none⟩)) 0=some (.pointer (some ⟨bk,o+0,none⟩)):=by kernel_rfl
def Qin:=FU 6
theorem Xe(b:Nat):(mkE Tryd.prog nv b).fn.get 6=some Qin:=by kernel_rfl
theorem Qkp(b bk o:Nat):U1 (E b).toEnv 56 (.pointer (some ⟨bk,o,none⟩)) 1=some (.pointer (some ⟨bk,o+33,none⟩)):=by kernel_rfl
def Qf5:=FU 8
theorem Qw(b:Nat):(mkE Tryd.prog nv b).fn.get 8=some Qf5:=by kernel_rfl
def Qik:=FU 11
theorem Xd(b:Nat):(mkE Tryd.prog nv b).fn.get 11=some Qik:=by kernel_rfl
def Qe7:=FU 20
theorem Qde(b:Nat):(mkE Tryd.prog nv b).fn.get 20=some Qe7:=by kernel_rfl
def Wz:=FU 9
theorem Qp(b:Nat):(mkE Tryd.prog nv b).fn.get 9=some Wz:=by kernel_rfl
def Jj:=FU 19
theorem Qv(b:Nat):(mkE Tryd.prog nv b).fn.get 19=some Jj:=by kernel_rfl
def Uk:=FU 35
theorem Zu(b:Nat):(mkE Tryd.prog nv b).fn.get 35=some Uk:=by kernel_rfl
theorem Xo6(x y:Int):Qfz (binOp .leq 3 (.int .i64 x) (.int .i64 y))=some (.bool (decide (x<=y))):=by kernel_rfl
def V7:=FU 51
theorem Qr(b:Nat):(mkE Tryd.prog nv b).fn.get 51=some V7:=by kernel_rfl
def Qr4:=FU 52
theorem Vv(b:Nat):(mkE Tryd.prog nv b).fn.get 52=some Qr4:=by kernel_rfl
def Q5j:=FU 16
theorem Qat(b:Nat):(mkE Tryd.prog nv b).fn.get 16=some Q5j:=by kernel_rfl
def Qlc:=FU 17
theorem Yr(b:Nat):(mkE Tryd.prog nv b).fn.get 17=some Qlc:=by kernel_rfl
theorem Yzm(b:Nat)(h:Heap)(bk o:Nat)(v:Value)(hv:Yf2 v=true):Qd1 (E b).toEnv 53 (.pointer (some ⟨bk,o,none⟩)) v h=Qbh h bk o [v]:=Xum (Yg5 b) Yhv hv
theorem Xau(b:Nat)(h:Heap)(bk o:Nat)(a:Option Addr)(n c:Nat):Qd1 (E b).toEnv 53 (.pointer (some ⟨bk,o,none⟩)) (.slice a n c) h=Qbh h bk o [(.slice a n c)]:=Xum (Yg5 b) Yhv rfl
def Qg3:=FU 28
theorem Zi(b:Nat):(mkE Tryd.prog nv b).fn.get 28=some Qg3:=by kernel_rfl
theorem Xbd(b:Nat)(h:Heap):Qhn (E b).toEnv 36 h=some (.pointer (some ⟨h.next,0,none⟩),h.push (.cells true 1 [(.int .u8 0),(.int .u8 0),(.int .u8 0),(.int .u8 0),(.int .u8 0),(.int .u8 0),(.int .u8 0),(.int .u8 0),(.int .u8 0),(.int .u8 0),(.int .u8 0),(.int .u8 0),(.int .u8 0),(.int .u8 0),(.int .u8 0),(.int .u8 0),(.int .u8 0),(.int .u8 0),(.int .u8 0),(.int .u8 0),(.int .u8 0),(.int .u8 0),(.int .u8 0),(.int .u8 0),(.int .u8 0),(.int .u8 0),(.int .u8 0),(.int .u8 0),(.int .u8 0),(.int .u8 0),(.int .u8 0),(.int .u8 0),(.int .i64 0)])):=by kernel_rfl
theorem Qwd(b:Nat)(h:Heap)(bk o:Nat)(l:List Value)(hl:l.length=33):Qd1 (E b).toEnv 36 (.pointer (some ⟨bk,o,none⟩)) (.agg ⟨l⟩) h=Qbh h bk o l:=Qyv (X4e b) (by rw[Qcc];exact hl)
def Ql6:=FU 29
theorem Z3(b:Nat):(mkE Tryd.prog nv b).fn.get 29=some Ql6:=by kernel_rfl
def R46:=TU 46
theorem Yk4(b:Nat):(E b).toEnv.ty.get 46=some R46:=by kernel_rfl
theorem Ysj:Qeg R46.desc=true:=by kernel_rfl
theorem Q2f:R46.size=2:=by kernel_rfl
theorem Yno:R46.bytes=32:=by kernel_rfl
theorem Qvy(b:Nat)(h:Heap):Qhn (E b).toEnv 46 h=some (.pointer (some ⟨h.next,0,none⟩),h.push (.cells true 1 [(.int .i64 0),(.slice none 0 0)])):=by kernel_rfl
theorem Qzc(b:Nat)(h:Heap)(bk o:Nat)(l:List Value)(hl:l.length=2):Qd1 (E b).toEnv 46 (.pointer (some ⟨bk,o,none⟩)) (.agg ⟨l⟩) h=Qbh h bk o l:=Qyv (Yk4 b) (by rw[Q2f];exact hl)
theorem Qy5(b bk o:Nat):U1 (E b).toEnv 46 (.pointer (some ⟨bk,o,none⟩)) 1=some (.pointer (some ⟨bk,o+1,none⟩)):=by kernel_rfl
def Q5p:=FU 30
theorem W7(b:Nat):(mkE Tryd.prog nv b).fn.get 30=some Q5p:=by kernel_rfl
theorem Xa3(b bk o:Nat):U1 (E b).toEnv 60 (.pointer (some ⟨bk,o,none⟩)) 0=some (.pointer (some ⟨bk,o+0,none⟩)):=by kernel_rfl
theorem Qxv(b bk o:Nat):U1 (E b).toEnv 46 (.pointer (some ⟨bk,o,none⟩)) 0=some (.pointer (some ⟨bk,o+0,none⟩)):=by kernel_rfl
def Xj5:=FU 23
theorem Qlb(b:Nat):(mkE Tryd.prog nv b).fn.get 23=some Xj5:=by kernel_rfl
theorem Yku(b:Nat)(a:Option Addr)(n c:Nat)(h:Heap):Q43 (E b).toEnv 87 (.slice a n c) h=some (.int .i64 n):=by kernel_rfl
def R87:=TU 87
theorem Yzt(b:Nat):(E b).toEnv.ty.get 87=some R87:=by kernel_rfl
def R20:=TU 20
theorem Yxg(b:Nat):(E b).toEnv.ty.get 20=some R20:=by kernel_rfl
theorem Yu6:Qeg R20.desc=false:=by kernel_rfl
theorem Yh3:R20.size=1:=by kernel_rfl
theorem T87(b:Nat):SlTy (E b).toEnv 20 87 R20 R87:=⟨Yxg b,Yzt b,by kernel_rfl⟩
theorem Yn9(b:Nat){bk o n c:Nat}{k:IntKind}{i:Int}(h:0<=i/\i < n):Zm (E b).toEnv 87 (.slice (some ⟨bk,o,none⟩) n c) (.int k i)=some (.pointer (some ⟨bk,o+i.toNat*1,none⟩)):=Qn9 (T87 b) Yh3 h
theorem Yll(b:Nat)(h:Heap)(bk o:Nat):Qk7 (E b).toEnv 20 (.pointer (some ⟨bk,o,none⟩)) h=V2 h bk o:=Xbr (Yxg b) Yu6
def Xjc:=FU 24
theorem Q2w(b:Nat):(mkE Tryd.prog nv b).fn.get 24=some Xjc:=by kernel_rfl
def Q5n:=FU 47
theorem Ql3(b:Nat):(mkE Tryd.prog nv b).fn.get 47=some Q5n:=by kernel_rfl
def Xja:=FU 13
theorem W5(b:Nat):(mkE Tryd.prog nv b).fn.get 13=some Xja:=by kernel_rfl
theorem Yv8(b:Nat)(v:Value):Xa0 (E b).toEnv 43 v=some (.iface 43 v):=by kernel_rfl
theorem Yz5(b:Nat)(v:Value):Xa0 (E b).toEnv 3 v=some (.iface 3 v):=by kernel_rfl
theorem Yr9(b:Nat){bk o n c:Nat}{k:IntKind}{i:Int}(h:0<=i/\i < n):Zm (E b).toEnv 43 (.slice (some ⟨bk,o,none⟩) n c) (.int k i)=some (.pointer (some ⟨bk,o+i.toNat*1,none⟩)):=Qn9 (T43 b) Qfy h
theorem Yha(b:Nat):Qpa (E b).toEnv 5 3=true:=by kernel_rfl
theorem Yh2(b:Nat)(k:IntKind)(n:Int):Qvb (E b).toEnv 5 3 (.int k n)=some (.int .i64 (IntKind.wrap .i64 n)):=by kernel_rfl
def Q5i:=FU 14
theorem Vn(b:Nat):(mkE Tryd.prog nv b).fn.get 14=some Q5i:=by kernel_rfl
theorem Ykb(b:Nat)(a:Option Addr)(n c:Nat)(h:Heap):Q43 (E b).toEnv 42 (.slice a n c) h=some (.int .i64 n):=by kernel_rfl
def R42:=TU 42
theorem Yzu(b:Nat):(E b).toEnv.ty.get 42=some R42:=by kernel_rfl
theorem T42(b:Nat):SlTy (E b).toEnv 46 42 R46 R42:=⟨Yk4 b,Yzu b,by kernel_rfl⟩
theorem Yir(b:Nat){bk o n c:Nat}{k:IntKind}{i:Int}(h:0<=i/\i < n):Zm (E b).toEnv 42 (.slice (some ⟨bk,o,none⟩) n c) (.int k i)=some (.pointer (some ⟨bk,o+i.toNat*2,none⟩)):=Qn9 (T42 b) Q2f h
theorem Xmn(b:Nat)(h:Heap)(bk o:Nat):Qk7 (E b).toEnv 46 (.pointer (some ⟨bk,o,none⟩)) h=Qll h bk o 2:=Xyg (Yk4 b) Ysj Q2f
theorem Qrk(b bk o:Nat):U1 (E b).toEnv 68 (.pointer (some ⟨bk,o,none⟩)) 1=some (.pointer (some ⟨bk,o+1,none⟩)):=by kernel_rfl
def R65:=TU 65
theorem Yox(b:Nat):(E b).toEnv.ty.get 65=some R65:=by kernel_rfl
theorem Yuj:Qeg R65.desc=false:=by kernel_rfl
theorem Q6u(b:Nat)(h:Heap)(bk o:Nat):Qk7 (E b).toEnv 65 (.pointer (some ⟨bk,o,none⟩)) h=V2 h bk o:=Xbr (Yox b) Yuj
def Qyf:=FU 25
theorem Ji(b:Nat):(mkE Tryd.prog nv b).fn.get 25=some Qyf:=by kernel_rfl
def R71:=TU 71
theorem Yub(b:Nat):(E b).toEnv.ty.get 71=some R71:=by kernel_rfl
theorem Yh9:R71.size=3:=by kernel_rfl
def Zf:=FU 43
theorem Yu(b:Nat):(mkE Tryd.prog nv b).fn.get 43=some Zf:=by kernel_rfl
def Qag:=FU 42
theorem Jm(b:Nat):(mkE Tryd.prog nv b).fn.get 42=some Qag:=by kernel_rfl
def Qep:=FU 44
theorem Uv(b:Nat):(mkE Tryd.prog nv b).fn.get 44=some Qep:=by kernel_rfl
theorem X3d(b bk o:Nat):U1 (E b).toEnv 36 (.pointer (some ⟨bk,o,none⟩)) 0=some (.pointer (some ⟨bk,o+0,none⟩)):=by kernel_rfl
theorem W2(b bk o:Nat):U1 (E b).toEnv 36 (.pointer (some ⟨bk,o,none⟩)) 1=some (.pointer (some ⟨bk,o+32,none⟩)):=by kernel_rfl
theorem X3m(b:Nat)(h:Heap):Qhn (E b).toEnv 71 h=some (.pointer (some ⟨h.next,0,none⟩),h.push (.cells true 1 [(.int .i64 0),(.slice none 0 0),(.int .i64 0)])):=by kernel_rfl
theorem Ydw(b:Nat)(h:Heap)(bk o:Nat)(l:List Value)(hl:l.length=3):Qd1 (E b).toEnv 71 (.pointer (some ⟨bk,o,none⟩)) (.agg ⟨l⟩) h=Qbh h bk o l:=Qyv (Yub b) (by rw[Yh9];exact hl)
theorem Xn2(b bk o:Nat):U1 (E b).toEnv 71 (.pointer (some ⟨bk,o,none⟩)) 0=some (.pointer (some ⟨bk,o+0,none⟩)):=by kernel_rfl
theorem Xls(b bk o:Nat):U1 (E b).toEnv 71 (.pointer (some ⟨bk,o,none⟩)) 1=some (.pointer (some ⟨bk,o+2,none⟩)):=by kernel_rfl
def Qbx:=FU 55
theorem Vw(b:Nat):(mkE Tryd.prog nv b).fn.get 55=some Qbx:=by kernel_rfl
def Vu:=FU 56
theorem Za(b:Nat):(mkE Tryd.prog nv b).fn.get 56=some Vu:=by kernel_rfl
def Vr:=FU 64
theorem Jn(b:Nat):(mkE Tryd.prog nv b).fn.get 64=some Vr:=by kernel_rfl
theorem Yfo(b:Nat):Qpa (E b).toEnv 3 97=true:=by kernel_rfl
theorem Yfg(b:Nat)(k:IntKind)(n:Int):Qvb (E b).toEnv 3 97 (.int k n)=some (.int .u64 (IntKind.wrap .u64 n)):=by kernel_rfl
def Xxz:=FU 66
theorem Q00(b:Nat):(mkE Tryd.prog nv b).fn.get 66=some Xxz:=by kernel_rfl
def Us:=FU 65
theorem J1(b:Nat):(mkE Tryd.prog nv b).fn.get 65=some Us:=by kernel_rfl
theorem Yt6(b:Nat)(h:Heap)(bk o:Nat):Qk7 (E b).toEnv 29 (.pointer (some ⟨bk,o,none⟩)) h=V2 h bk o:=Xbr (Yk5 b) Ytv
theorem Yyn(b:Nat)(h:Heap)(bk o:Nat)(v:Value)(hv:Yf2 v=true):Qd1 (E b).toEnv 29 (.pointer (some ⟨bk,o,none⟩)) v h=Qbh h bk o [v]:=Xum (Yk5 b) Yp8 hv
def Vh:=FU 69
theorem Qx(b:Nat):(mkE Tryd.prog nv b).fn.get 69=some Vh:=by kernel_rfl
def Qvi:=FU 70
theorem Qar(b:Nat):(mkE Tryd.prog nv b).fn.get 70=some Qvi:=by kernel_rfl
def Qnk:=FU 71
theorem W4(b:Nat):(mkE Tryd.prog nv b).fn.get 71=some Qnk:=by kernel_rfl
def Qp7:=FU 72
theorem Wr(b:Nat):(mkE Tryd.prog nv b).fn.get 72=some Qp7:=by kernel_rfl
theorem X37(x y:Int):Qfz (binOp .eql 142 (.int .i64 x) (.int .i64 y))=some (.bool (decide (x=y))):=by kernel_rfl
def Qoe:=FU 73
theorem Wb(b:Nat):(mkE Tryd.prog nv b).fn.get 73=some Qoe:=by kernel_rfl
def Qhh:=FU 74
theorem Vo(b:Nat):(mkE Tryd.prog nv b).fn.get 74=some Qhh:=by kernel_rfl
def Qmu:=FU 75
theorem Up(b:Nat):(mkE Tryd.prog nv b).fn.get 75=some Qmu:=by kernel_rfl
def Qsb:=FU 76
theorem Qad(b:Nat):(mkE Tryd.prog nv b).fn.get 76=some Qsb:=by kernel_rfl
theorem X5o(x:Int):Qfz (binOp .quo 3 (.int .i64 x) (.int .i64 8))=some (.int .i64 (IntKind.wrap .i64 (Int.tdiv x 8))):=by kernel_rfl
def Z9:=FU 57
theorem Yd(b:Nat):(mkE Tryd.prog nv b).fn.get 57=some Z9:=by kernel_rfl
def Qv9:=FU 10
theorem Y1(b:Nat):(mkE Tryd.prog nv b).fn.get 10=some Qv9:=by kernel_rfl
def Qyk:=FU 4
theorem Yc(b:Nat):(mkE Tryd.prog nv b).fn.get 4=some Qyk:=by kernel_rfl
def Xj0:=FU 5
theorem Yp(b:Nat):(mkE Tryd.prog nv b).fn.get 5=some Xj0:=by kernel_rfl
theorem Qyc(b:Nat):Qpa (E b).toEnv 43 43=false:=by kernel_rfl
theorem Qyg(b:Nat)(q:Bool)(a:Option Addr):Zg (E b).toEnv .eql 47 q (.pointer a) (.pointer none)=some (.bool (a.isNone)):=by cases a <;> kernel_rfl
theorem Jo(b:Nat)(q:Bool)(a:Option Addr):Zg (E b).toEnv .eql 24 q (.pointer a) (.pointer none)=some (.bool (a.isNone)):=by cases a <;> kernel_rfl
def Qax:=FU 3
theorem Y2(b:Nat):(mkE Tryd.prog nv b).fn.get 3=some Qax:=by kernel_rfl
theorem Qez(b:Nat)(q x y:Bool):Zg (E b).toEnv .neq 4 q (.bool x) (.bool y)=some (.bool (!(x == y))):=by kernel_rfl
theorem Qey(b:Nat)(h:Heap)(bk o:Nat)(k:IntKind)(z:Int):Qd1 (E b).toEnv 3 (.pointer (some ⟨bk,o,none⟩)) (.int k z) h=Qbh h bk o [(.int k z)]:=Xum (Yp1 b) Xiw rfl
theorem Qab(x y:Int):Qfz (binOp .neq 30 (.int .i64 x) (.int .i64 y))=some (.bool (!(decide (x=y)))):=by kernel_rfl
def R39:=TU 39
theorem Ywa(b:Nat):(E b).toEnv.ty.get 39=some R39:=by kernel_rfl
def R4:=TU 4
theorem Yxy(b:Nat):(E b).toEnv.ty.get 4=some R4:=by kernel_rfl
theorem Yxh:Qeg R4.desc=false:=by kernel_rfl
theorem X3o:R4.size=1:=by kernel_rfl
theorem Ypn:R4.bytes=1:=by kernel_rfl
theorem Yv2:R4.zero=(.bool false):=by kernel_rfl
theorem T39(b:Nat):SlTy (E b).toEnv 4 39 R4 R39:=⟨Yxy b,Ywa b,by kernel_rfl⟩
theorem Qq6(b:Nat){bk o n c:Nat}{k:IntKind}{i:Int}(h:0<=i/\i < n):Zm (E b).toEnv 39 (.slice (some ⟨bk,o,none⟩) n c) (.int k i)=some (.pointer (some ⟨bk,o+i.toNat*1,none⟩)):=Qn9 (T39 b) X3o h
theorem Xjs(b:Nat)(h:Heap)(bk o:Nat):Qk7 (E b).toEnv 4 (.pointer (some ⟨bk,o,none⟩)) h=V2 h bk o:=Xbr (Yxy b) Yxh
theorem Qex(b:Nat)(h:Heap)(bk o:Nat)(x:Bool):Qd1 (E b).toEnv 4 (.pointer (some ⟨bk,o,none⟩)) (.bool x) h=Qbh h bk o [(.bool x)]:=Xum (Yxy b) X3o rfl
def X4q:=FU 12
theorem Ym(b:Nat):(mkE Tryd.prog nv b).fn.get 12=some X4q:=by kernel_rfl
abbrev Je:LO:=[oP 4 (.assign (oCi 0))]
abbrev Xkp:LO:=[oP 7 (oMv 0),oP 8 (oCa 36 #[(oTt 7)] #[3]),oP 5 (oAs 8)]
abbrev Xjh:LO:=[oP 9 (oMv 1),oP 10 (oCa 36 #[(oTt 9)] #[3]),oP 6 (oAs 10)]
abbrev Xl1:LO:=[oP 11 (oMv 5)]
abbrev Xl5:LO:=[oP 12 (oMv 6)]
def Q0s:LO:=Je
def Q0m:Code:=oRg Q0s
theorem Qdq:oRQ Q0m Q0s Je:=fun _ _=>rfl
abbrev Wg:LO:=[oP 4 (.assign (oCi (-1)))]
abbrev Xhu:LO:=[oP 13 (oMv 6)]
abbrev Qog:LO:=[oP 4 (.assign (oCi 1))]
abbrev Xf3:LO:=[oP 14 (oMv 0),oP 15 (oMv 1),oP 16 (.binOp .lss 3 (oTt 14) (oTt 15) 3)]
def Q0n:LO:=Wg
def Q0i:Code:=oRg Q0n
theorem Qds:oRQ Q0i Q0n Wg:=fun _ _=>rfl
abbrev Xh4:LO:=[oP 17 (oMv 0),oP 18 (oMv 1),oP 19 (.binOp .gtr 3 (oTt 17) (oTt 18) 3)]
def Q0r:LO:=Qog
def Q0w:Code:=oRg Q0r
theorem Qdi:oRQ Q0w Q0r Qog:=fun _ _=>rfl
def Q0o:LO:=Je
def Q0k:Code:=oRg Q0o
theorem Qdr:oRQ Q0k Q0o Je:=fun _ _=>rfl
def Qb8:Code:=(.seq (oRg Je) (.seq (oRg Xkp) (.seq (oRg Xjh) (.seq (.seq (oRg Xl1) (.cond (.tmp 11) (.seq (.seq (oRg Xl5) (.cond (.tmp 12) (.seq Q0m .ret) .skip)) (.seq (oRg Wg) .ret)) .skip)) (.seq (.seq (oRg Xhu) (.cond (.tmp 13) (.seq (oRg Qog) .ret) .skip)) (.seq (.seq (oRg Xf3) (.cond (.tmp 16) (.seq Q0i .ret) .skip)) (.seq (.seq (oRg Xh4) (.cond (.tmp 19) (.seq Q0w .ret) .skip)) (.seq Q0k .ret))))))))
theorem Xmk:Uu (Yg 21)=Qb8:=by kernel_rfl
theorem Xh2:Qn8.body=some (Yg 21):=by kernel_rfl
theorem Xno:Qn8.ntmps=20:=by kernel_rfl
theorem Qfx:Qn8.results.toList=[.tmp 4]:=by kernel_rfl
abbrev Qwo:LO:=[oP 2 (.assign (.const (.bool false)))]
abbrev Xp7:LO:=[oP 3 (oMv 0),oP 4 (oMv 0),oP 5 (.binOp .neq 3 (oTt 3) (oTt 4) 3),oP 2 (oAs 5)]
def Q3t:Code:=(.seq (oRg Qwo) (.seq (oRg Xp7) .ret))
theorem Xq4:Uu (Yg 36)=Q3t:=by kernel_rfl
theorem Xm1:Qvd.body=some (Yg 36):=by kernel_rfl
theorem Xs8:Qvd.ntmps=6:=by kernel_rfl
theorem Xqm:Qvd.results.toList=[.tmp 2]:=by kernel_rfl
abbrev Q3x:LO:=[oP 2 (.assign (oCi 0))]
abbrev Q2q:LO:=[oP 3 (.assign (oCi 0))]
abbrev Xyj:LO:=[oP 6 (oMv 0),oP 7 (oBu .len #[(oTt 6)] #[22]),oP 8 (.move (oCi 0))]
abbrev Qok:LO:=[oP 9 (.binOp .lss 3 (oTt 8) (oTt 7) 3)]
abbrev Xrz:LO:=[oP 10 (oIx 22 6 8),oP 11 (oLd 3 10),oP 5 (oAs 11)]
abbrev Xsw:LO:=[oP 12 (oMv 5),oP 13 (oMv 3),oP 14 (.binOp .neq 3 (oTt 12) (oTt 13) 3)]
abbrev Xsf:LO:=[oP 15 (oMv 5),oP 2 (oAs 15)]
abbrev Xs3:LO:=[oP 16 (.binOp .add 3 (oTt 8) (oCi 1) 3),oP 8 (oMv 16)]
def Xvq:Code:=.loop (.seq (oRg Qok) (.seq (.cond (.tmp 9) .skip (.exit 0)) (.seq (.block 1 (.seq (oRg Xrz) (.seq (oRg Xsw) (.cond (.tmp 14) (.seq (oRg Xsf) .ret) .skip)))) (oRg Xs3))))
abbrev Xsq:LO:=[oP 17 (oMv 3),oP 2 (oAs 17)]
def Qli:Code:=(.seq (oRg Q3x) (.seq (oRg Q2q) (.seq (.seq (oRg Xyj) (.block 0 Xvq)) (.seq (oRg Xsq) .ret))))
theorem X02:Uu (Yg 45)=Qli:=by kernel_rfl
theorem Xsy:Q26.body=some (Yg 45):=by kernel_rfl
theorem X3p:Q26.ntmps=18:=by kernel_rfl
theorem Qyd:Q26.results.toList=[.tmp 2]:=by kernel_rfl
def Xbk:LO:=Je
def Xbl:Code:=oRg Xbk
theorem Xns:oRQ Xbl Xbk Je:=fun _ _=>rfl
abbrev Xqf:LO:=[oP 5 (oMv 0),oP 6 (oMv 1),oP 7 (oCa 58 #[(oTt 5),(oTt 6)] #[43,43]),oP 4 (oAs 7)]
def Q5k:Code:=(.seq Xbl (.seq (oRg Xqf) .ret))
theorem Xs6:Uu (Yg 46)=Q5k:=by kernel_rfl
theorem Xoi:Qwr.body=some (Yg 46):=by kernel_rfl
theorem Xv9:Qwr.ntmps=8:=by kernel_rfl
theorem Xsd:Qwr.results.toList=[.tmp 4]:=by kernel_rfl
abbrev Qpq:LO:=[oP 3 (.box 36 (oTt 1)),oP 4 (.assign (oCi 0))]
abbrev Qqx:LO:=[oP 6 (oMv 0),oP 7 (oBu .len #[(oTt 6)] #[29]),oP 8 (.move (oCi 0))]
def Qfk:LO:=Qok
def Qfh:Code:=oRg Qfk
theorem Zk:oRQ Qfh Qfk Qok:=fun _ _=>rfl
abbrev Qac:LO:=[oP 10 (oMv 8),oP 5 (oAs 10)]
noncomputable def Jg:Array Oper:=Xhr (Xfo 4 (Yg 59))
def Qtd:Code:=.region 4 Jg true
abbrev Qa0:LO:=[oP 11 (oLd 36 3),oP 12 (oMv 0),oP 13 (oMv 5),oP 14 (oIx 29 12 13),oP 15 (oLd 36 14),oP 16 (.binOp .eql 36 (oTt 11) (oTt 15) 36)]
def U0:LO:=Qa0
theorem Qmc:Jg.toList.map bare=Qa0:=by kernel_rfl
theorem Qlt:Jg.toList.map bare=U0:=Qmc
def Js:List Nat:=[0,0,0,6,14,31]
theorem Qmk:Q9k Jg.toList []=some Js:=by kernel_rfl
theorem Qlv:Qal Jg.toList Jg.toList Js []=true:=by kernel_rfl
theorem Qnt(b:Nat)(L:List KE)(s:St):Ab.runT (E b) L U0 Js U0 0 s=Ab.runT (E b) L U0 Js Qa0 0 s:=rfl
abbrev Ww:LO:=[oP 17 (oMv 5),oP 4 (oAs 17)]
abbrev Wx:LO:=[oP 18 (.binOp .add 3 (oTt 8) (oCi 1) 3),oP 8 (oMv 18)]
def Qrq:Code:=.loop (.seq Qfh (.seq (.cond (.tmp 9) .skip (.exit 0)) (.seq (.block 1 (.seq (oRg Qac) (.seq Qtd (.cond (.tmp 16) (.seq (oRg Ww) .ret) .skip)))) (oRg Wx))))
def Qew:LO:=Wg
def Qf1:Code:=oRg Qew
theorem Zb:oRQ Qf1 Qew Wg:=fun _ _=>rfl
def Z1:Code:=(.seq (oRg Qpq) (.seq (.seq (oRg Qqx) (.block 0 Qrq)) (.seq Qf1 .ret)))
theorem Qsf:Uu (Yg 59)=Z1:=by kernel_rfl
theorem Qpg:Uj.body=some (Yg 59):=by kernel_rfl
theorem Qw0:Uj.ntmps=19:=by kernel_rfl
theorem Zr:Uj.results.toList=[.tmp 4]:=by kernel_rfl
abbrev Wa:LO:=[oP 3 (.box 36 (oTt 1)),oP 4 (.assign (.const (.bool false)))]
abbrev Qnp:LO:=[oP 5 (oMv 0),oP 6 (oLd 36 3),oP 7 (oCa 59 #[(oTt 5),(oTt 6)] #[29,36]),oP 8 (.binOp .geq 3 (oTt 7) (oCi 0) 3),oP 4 (oAs 8)]
def W1:Code:=(.seq (oRg Wa) (.seq (oRg Qnp) .ret))
theorem Qoh:Uu (Yg 50)=W1:=by kernel_rfl
theorem Qme:Vs.body=some (Yg 50):=by kernel_rfl
theorem Qp6:Vs.ntmps=9:=by kernel_rfl
theorem Qed:Vs.results.toList=[.tmp 4]:=by kernel_rfl
abbrev Qy:LO:=[oP 2 (.assign (.const (.slice none 0 0)))]
abbrev Qmn:LO:=[oP 3 (oMv 0),oP 4 (.binOp .eql 53 (oTt 3) (.const (.slice none 0 0)) 53)]
def Qe1:LO:=Qy
def Qdy:Code:=oRg Qe1
theorem Qcx:oRQ Qdy Qe1 Qy:=fun _ _=>rfl
abbrev Qmr:LO:=[oP 5 (.buildSlice 53 0 #[]),oP 6 (oMv 0),oP 7 (oBu .append #[(oTt 5),(oTt 6)] #[53,53]),oP 2 (oAs 7)]
def Ur:Code:=(.seq (oRg Qy) (.seq (.seq (oRg Qmn) (.cond (.tmp 4) (.seq Qdy .ret) .skip)) (.seq (oRg Qmr) .ret)))
theorem Qnn:Uu (Yg 32)=Ur:=by kernel_rfl
theorem Qlo:Vp.body=some (Yg 32):=by kernel_rfl
theorem Qof:Vp.ntmps=8:=by kernel_rfl
theorem Qe0:Vp.results.toList=[.tmp 2]:=by kernel_rfl
def Qfb:LO:=Qy
def Qfj:Code:=oRg Qfb
theorem Qen:oRQ Qfj Qfb Qy:=fun _ _=>rfl
abbrev Qqy:LO:=[oP 3 (oMv 0),oP 4 (.binOp .eql 29 (oTt 3) (.const (.slice none 0 0)) 29)]
def Qfe:LO:=Qy
def Qfd:Code:=oRg Qfe
theorem Qek:oRQ Qfd Qfe Qy:=fun _ _=>rfl
abbrev Qr6:LO:=[oP 5 (.buildSlice 29 0 #[]),oP 6 (oMv 0),oP 7 (oBu .append #[(oTt 5),(oTt 6)] #[29,29]),oP 2 (oAs 7)]
def Qa1:Code:=(.seq Qfj (.seq (.seq (oRg Qqy) (.cond (.tmp 4) (.seq Qfd .ret) .skip)) (.seq (oRg Qr6) .ret)))
theorem Qub:Uu (Yg 22)=Qa1:=by kernel_rfl
theorem Qpe:Uf.body=some (Yg 22):=by kernel_rfl
theorem Qvh:Uf.ntmps=8:=by kernel_rfl
theorem Qfg:Uf.results.toList=[.tmp 2]:=by kernel_rfl
def Qbj:LO:=Je
def Qbn:Code:=oRg Qbj
theorem J0:oRQ Qbn Qbj Je:=fun _ _=>rfl
abbrev Qjo:LO:=[oP 6 (oMv 0),oP 7 (oBu .len #[(oTt 6)] #[53]),oP 8 (.move (oCi 0))]
def Qbk:LO:=Qok
def Qbi:Code:=oRg Qbk
theorem Zx:oRQ Qbi Qbk Qok:=fun _ _=>rfl
def Qbl:LO:=Qac
def Qbm:Code:=oRg Qbl
theorem Zz:oRQ Qbm Qbl Qac:=fun _ _=>rfl
abbrev Qi7:LO:=[oP 11 (oMv 1),oP 12 (oMv 0),oP 13 (oMv 5),oP 14 (oIx 53 12 13),oP 15 (oLd 56 14),oP 16 (.call {callee:=.value (oTt 11),args:=#[(oTt 15)],argTypes:=#[56]})]
def Qbc:LO:=Ww
def Qbd:Code:=oRg Qbc
theorem Zv:oRQ Qbd Qbc Ww:=fun _ _=>rfl
def Qb1:LO:=Wx
def Qbf:Code:=oRg Qb1
theorem Zs:oRQ Qbf Qb1 Wx:=fun _ _=>rfl
def Qiq:Code:=.loop (.seq Qbi (.seq (.cond (.tmp 9) .skip (.exit 0)) (.seq (.block 1 (.seq Qbm (.seq (oRg Qi7) (.cond (.tmp 16) (.seq Qbd .ret) .skip)))) Qbf)))
def Qbb:LO:=Wg
def Qb7:Code:=oRg Qbb
theorem Zt:oRQ Qb7 Qbb Wg:=fun _ _=>rfl
def Z5:Code:=(.seq Qbn (.seq (.seq (oRg Qjo) (.block 0 Qiq)) (.seq Qb7 .ret)))
theorem Qk0:Uu (Yg 49)=Z5:=by kernel_rfl
theorem Qif:V4.body=some (Yg 49):=by kernel_rfl
theorem Qkx:V4.ntmps=19:=by kernel_rfl
theorem J4:V4.results.toList=[.tmp 4]:=by kernel_rfl
abbrev Zy:LO:=[oP 4 (.assign (.const (.slice none 0 0)))]
abbrev Qhs:LO:=[oP 8 (oMv 0),oP 9 (oMv 1),oP 10 (oCa 49 #[(oTt 8),(oTt 9)] #[53,85]),oP 5 (oAs 10)]
abbrev Qi6:LO:=[oP 11 (oMv 5),oP 12 (.binOp .eql 3 (oTt 11) (oCi (-1)) 3)]
abbrev Qig:LO:=[oP 13 (oMv 0),oP 4 (oAs 13)]
abbrev Qhc:LO:=[oP 14 (oMv 5),oP 15 (.binOp .add 3 (oTt 14) (oCi 1) 3),oP 6 (oAs 15)]
abbrev Qh9:LO:=[oP 16 (oMv 6),oP 17 (oMv 0),oP 18 (oBu .len #[(oTt 17)] #[53]),oP 19 (.binOp .lss 3 (oTt 16) (oTt 18) 3)]
abbrev Qh5:LO:=[oP 22 (oMv 0),oP 23 (oMv 6),oP 24 (oIx 53 22 23),oP 25 (oLd 56 24),oP 7 (.alloc 56),oN (.store 56 (oTt 7) (oTt 25))]
abbrev Qh4:LO:=[oP 26 (oMv 1),oP 27 (oLd 56 7),oP 28 (.call {callee:=.value (oTt 26),args:=#[(oTt 27)],argTypes:=#[56]}),oP 29 (.unOp .not 4 (oTt 28))]
abbrev Qha:LO:=[oP 30 (oMv 0),oP 31 (oMv 5),oP 32 (oLd 56 7),oP 33 (oIx 53 30 31),oN (.store 56 (oTt 33) (oTt 32))]
abbrev Qhi:LO:=[oP 34 (oMv 5),oP 35 (.binOp .add 3 (oTt 34) (oCi 1) 3),oP 5 (oAs 35)]
abbrev Qgz:LO:=[oP 20 (oMv 6),oP 21 (.binOp .add 3 (oTt 20) (oCi 1) 3),oP 6 (oAs 21)]
def Qib:Code:=.loop (.seq (.seq (oRg Qh9) (.cond (.tmp 19) .skip (.exit 0))) (.seq (.block 1 (.seq (oRg Qh5) (.seq (oRg Qh4) (.cond (.tmp 29) (.seq (oRg Qha) (oRg Qhi)) .skip)))) (oRg Qgz)))
abbrev Qhd:LO:=[oP 36 (oMv 0),oP 37 (oMv 5),oP 38 (.slice 53 (oTt 36) (some (oTt 37)) none none),oN (oBu .clear #[(oTt 38)] #[53])]
abbrev Qhe:LO:=[oP 39 (oMv 0),oP 40 (oMv 5),oP 41 (.slice 53 (oTt 39) none (some (oTt 40)) none),oP 4 (oAs 41)]
def Yi:Code:=(.seq (oRg Zy) (.seq (oRg Qhs) (.seq (.seq (oRg Qi6) (.cond (.tmp 12) (.seq (oRg Qig) .ret) .skip)) (.seq (.seq (oRg Qhc) (.block 0 Qib)) (.seq (oRg Qhd) (.seq (oRg Qhe) .ret))))))
theorem Qjq:Uu (Yg 31)=Yi:=by kernel_rfl
theorem Qhf:V1.body=some (Yg 31):=by kernel_rfl
theorem Qk4:V1.ntmps=42:=by kernel_rfl
theorem Yz:V1.results.toList=[.tmp 4]:=by kernel_rfl
def Qxg:LO:=Wa
def Qxd:Code:=oRg Qxg
theorem Wc:oRQ Qxd Qxg Wa:=fun _ _=>rfl
abbrev Xa8:LO:=[oP 7 (oMv 0),oP 8 (.nilCheck (oTt 7)),oP 9 (oFa 60 8 2),oP 10 (oLd 58 9),oP 11 (.range 58 (oTt 10))]
abbrev Q9t:LO:=[oP 12 (.next (oTt 11) false),oP 13 (.extract (oTt 12) 0)]
abbrev Xad:LO:=[oP 14 (.entry (oTt 11)),oP 15 (.extract (oTt 14) 1),oP 6 (oAs 15)]
abbrev Q8k:LO:=[oP 16 (oMv 6),oP 17 (oLd 36 3),oP 18 (oCa 50 #[(oTt 16),(oTt 17)] #[29,36])]
abbrev Qj0:LO:=[oP 4 (.assign (.const (.bool true)))]
def Xb3:Code:=.loop (.seq (oRg Q9t) (.seq (.cond (.tmp 13) .skip (.exit 0)) (.block 1 (.seq (oRg Xad) (.seq (oRg Q8k) (.cond (.tmp 18) (.seq (oRg Qj0) .ret) .skip))))))
abbrev Yb:LO:=[oP 4 (.assign (.const (.bool false)))]
def U7:Code:=(.seq Qxd (.seq (.seq (oRg Xa8) (.block 0 Xb3)) (.seq (oRg Yb) .ret)))
theorem Xcf:Uu (Yg 34)=U7:=by kernel_rfl
theorem Q8h:Qgj.body=some (Yg 34):=by kernel_rfl
theorem Xi1:Qgj.ntmps=19:=by kernel_rfl
theorem Qak:Qgj.results.toList=[.tmp 4]:=by kernel_rfl
abbrev Xdd:LO:=[oP 1 (.box 24 (oTt 0)),oP 2 (.assign (.const (.slice none 0 0)))]
abbrev Xc4:LO:=[oP 3 (oLd 24 1),oP 4 (.nilCheck (oTt 3)),oP 5 (oFa 60 4 1),oP 6 (oLd 53 5),oP 7 (oCa 32 #[(oTt 6)] #[53]),oP 8 (.makeFunc (.func 33) #[] #[(oTt 1)]),oP 9 (oCa 31 #[(oTt 7),(oTt 8)] #[53,85]),oP 2 (oAs 9)]
def Qf4:Code:=(.seq (oRg Xdd) (.seq (oRg Xc4) .ret))
theorem Xf8:Uu (Yg 18)=Qf4:=by kernel_rfl
theorem Xb0:Qil.body=some (Yg 18):=by kernel_rfl
theorem Xkh:Qil.ntmps=10:=by kernel_rfl
theorem Qo6:Qil.results.toList=[.tmp 2]:=by kernel_rfl
abbrev Q91:LO:=[oP 2 (.box 56 (oTt 0)),oP 3 (.assign (.const (.bool false)))]
abbrev Q8c:LO:=[oP 4 (oLd 24 1),oP 5 (oFa 56 2 0),oP 6 (oLd 36 5),oP 7 (oCa 34 #[(oTt 4),(oTt 6)] #[24,36]),oP 3 (oAs 7)]
def Qh2:Code:=(.seq (oRg Q91) (.seq (oRg Q8c) .ret))
theorem Xak:Uu (Yg 33)=Qh2:=by kernel_rfl
theorem Q7f:Qg2.body=some (Yg 33):=by kernel_rfl
theorem Xe8:Qg2.ntmps=8:=by kernel_rfl
theorem Qwx:Qg2.results.toList=[.tmp 3]:=by kernel_rfl
def Qzd:LO:=Q3x
def Qz8:Code:=oRg Qzd
theorem Qf9:oRQ Qz8 Qzd Q3x:=fun _ _=>rfl
def Qyz:LO:=Q2q
def Qzb:Code:=oRg Qyz
theorem Qfa:oRQ Qzb Qyz Q2q:=fun _ _=>rfl
abbrev Xdr:LO:=[oP 6 (oMv 0),oP 7 (oCa 18 #[(oTt 6)] #[24]),oP 8 (oBu .len #[(oTt 7)] #[53]),oP 9 (.move (oCi 0))]
abbrev Xe5:LO:=[oP 10 (.binOp .lss 3 (oTt 9) (oTt 8) 3)]
abbrev Xat:LO:=[oP 11 (oIx 53 7 9),oP 12 (oLd 56 11),oP 5 (.alloc 56),oN (.store 56 (oTt 5) (oTt 12))]
abbrev Xax:LO:=[oP 13 (oMv 3),oP 14 (oFa 56 5 1),oP 15 (oLd 3 14),oP 16 (.binOp .add 3 (oTt 13) (oTt 15) 3),oP 3 (oAs 16)]
abbrev Xan:LO:=[oP 17 (.binOp .add 3 (oTt 9) (oCi 1) 3),oP 9 (oMv 17)]
def Xda:Code:=.loop (.seq (oRg Xe5) (.seq (.cond (.tmp 10) .skip (.exit 0)) (.seq (.block 1 (.seq (oRg Xat) (oRg Xax))) (oRg Xan))))
abbrev Xa7:LO:=[oP 18 (oMv 3),oP 2 (oAs 18)]
def Qc7:Code:=(.seq Qz8 (.seq Qzb (.seq (.seq (oRg Xdr) (.block 0 Xda)) (.seq (oRg Xa7) .ret))))
theorem Xfq:Uu (Yg 6)=Qc7:=by kernel_rfl
theorem Q9y:Qin.body=some (Yg 6):=by kernel_rfl
theorem Xjk:Qin.ntmps=19:=by kernel_rfl
theorem Qgo:Qin.results.toList=[.tmp 2]:=by kernel_rfl
def Qwb:LO:=Yb
def Qw9:Code:=oRg Qwb
theorem Qpk:oRQ Qw9 Qwb Yb:=fun _ _=>rfl
abbrev Q7b:LO:=[oP 8 (oMv 0),oP 9 (.nilCheck (oTt 8)),oP 10 (oFa 60 9 2),oP 11 (oLd 58 10),oP 12 (oMv 1),oP 13 (.lookup 58 (oTt 11) (oTt 12) true),oP 7 (oMv 13),oP 14 (.extract (oTt 7) 0),oP 15 (.extract (oTt 7) 1),oP 5 (oAs 14),oP 6 (oAs 15)]
abbrev Q66:LO:=[oP 16 (oMv 0),oP 17 (.nilCheck (oTt 16)),oP 18 (oFa 60 17 2),oP 19 (oLd 58 18),oP 20 (oMv 1),oN (oBu .delete #[(oTt 19),(oTt 20)] #[58,3])]
abbrev Q68:LO:=[oP 21 (oMv 6),oP 4 (oAs 21)]
def Qga:Code:=(.seq Qw9 (.seq (oRg Q7b) (.seq (oRg Q66) (.seq (oRg Q68) .ret))))
theorem Q87:Uu (Yg 8)=Qga:=by kernel_rfl
theorem Q47:Qf5.body=some (Yg 8):=by kernel_rfl
theorem Xbg:Qf5.ntmps=22:=by kernel_rfl
theorem Qwa:Qf5.results.toList=[.tmp 4]:=by kernel_rfl
def Qzn:LO:=Zy
def Qyr:Code:=oRg Qzn
theorem Qf3:oRQ Qyr Qzn Zy:=fun _ _=>rfl
abbrev Xdp:LO:=[oP 5 (oMv 0),oP 6 (.nilCheck (oTt 5)),oP 7 (oFa 60 6 2),oP 8 (oLd 58 7),oP 9 (oMv 1),oP 10 (.lookup 58 (oTt 8) (oTt 9) false),oP 11 (oCa 22 #[(oTt 10)] #[29]),oP 4 (oAs 11)]
def Qc6:Code:=(.seq Qyr (.seq (oRg Xdp) .ret))
theorem Xez:Uu (Yg 11)=Qc6:=by kernel_rfl
theorem Xaz:Qik.body=some (Yg 11):=by kernel_rfl
theorem Xjw:Qik.ntmps=12:=by kernel_rfl
theorem Qgm:Qik.results.toList=[.tmp 4]:=by kernel_rfl
abbrev Q3s:LO:=[oP 2 (.box 56 (oTt 0)),oP 3 (.box 56 (oTt 1)),oP 4 (.assign (oCi 0))]
abbrev Q42:LO:=[oP 5 (oFa 56 3 1),oP 6 (oLd 3 5),oP 7 (oFa 56 2 1),oP 8 (oLd 3 7),oP 9 (oCa 21 #[(oTt 6),(oTt 8)] #[3,3]),oP 4 (oAs 9)]
def Qf6:Code:=(.seq (oRg Q3s) (.seq (oRg Q42) .ret))
theorem Q4h:Uu (Yg 20)=Qf6:=by kernel_rfl
theorem Q1u:Qe7.body=some (Yg 20):=by kernel_rfl
theorem Q7t:Qe7.ntmps=10:=by kernel_rfl
theorem Qpm:Qe7.results.toList=[.tmp 4]:=by kernel_rfl
abbrev Q81:LO:=[oP 6 (.assign (.const (.slice none 0 0))),oP 7 (.assign (oCi 0)),oP 8 (.assign (oCi 0))]
abbrev Q7s:LO:=[oP 17 (oMv 0),oP 18 (.nilCheck (oTt 17)),oP 19 (oFa 60 18 2),oP 20 (oLd 58 19),oP 21 (oMv 1),oP 22 (.lookup 58 (oTt 20) (oTt 21) true),oP 16 (oMv 22),oP 23 (.extract (oTt 16) 0),oP 24 (.extract (oTt 16) 1),oP 9 (oAs 23),oP 10 (oAs 24)]
abbrev Q7i:LO:=[oP 25 (oMv 10)]
abbrev Q67:LO:=[oP 6 (.assign (.const (.slice none 0 0))),oP 7 (.assign (oCi 0)),oP 8 (.assign (oCi 13))]
abbrev Qpl:LO:=[oP 26 (oMv 2),oP 27 (.binOp .lss 3 (oTt 26) (oCi 1) 3),oP 28 (oMv 27),oG 2 false 29 (oMv 2),oG 2 false 30 (.binOp .gtr 3 (oTt 29) (oCi 1125899906842624) 3),oP 31 (.pick (oTt 28) (.const (.bool true)) (oTt 30))]
def Qh6:LO:=Qpl
def Qu6:Code:=oRg Qh6
theorem Yx:oRQ Qu6 Qh6 Qpl:=fun _ _=>rfl
theorem Yt:nth Qh6 2=some ⟨(some 28),.move (.tmp 27),0,"",#[],none⟩:=rfl
abbrev Q4w:LO:=[oP 6 (.assign (.const (.slice none 0 0))),oP 7 (.assign (oCi 0)),oP 8 (.assign (oCi 15))]
abbrev Q4b:LO:=[oP 32 (oMv 0),oP 33 (oCa 18 #[(oTt 32)] #[24]),oP 11 (oAs 33)]
abbrev Q4a:LO:=[oP 34 (oMv 11),oP 35 (oCa 19 #[(oTt 34),(.func 20)] #[53,62])]
abbrev Q45:LO:=[oP 12 (.assign (.const (.slice none 0 0)))]
abbrev Q50:LO:=[oP 13 (.assign (oCi 0))]
abbrev Q57:LO:=[oP 36 (oMv 11),oP 37 (oMv 11),oP 38 (oBu .len #[(oTt 37)] #[53]),oP 39 (oBu .min #[(oCi 3),(oTt 38)] #[3,3]),oP 40 (.slice 53 (oTt 36) none (some (oTt 39)) none),oP 41 (oBu .len #[(oTt 40)] #[53]),oP 42 (.move (oCi 0))]
abbrev Q48:LO:=[oP 43 (.binOp .lss 3 (oTt 42) (oTt 41) 3)]
abbrev Q4v:LO:=[oP 44 (oIx 53 40 42),oP 45 (oLd 56 44),oP 15 (.alloc 56),oN (.store 56 (oTt 15) (oTt 45))]
abbrev Q4e:LO:=[oP 46 (oMv 13),oP 47 (oMv 2),oP 48 (.binOp .geq 3 (oTt 46) (oTt 47) 3)]
noncomputable def Uw:Array Oper:=Xhr (Xfo 14 (Yg 9))
def Q7h:Code:=.region 14 Uw true
abbrev Qft:LO:=[oP 49 (oMv 12),oP 50 (oFa 56 15 0),oP 51 (oLd 36 50),oP 52 (.buildSlice 29 1 #[(0,(oTt 51))]),oP 53 (oBu .append #[(oTt 49),(oTt 52)] #[29,29]),oP 54 (oMv 13),oP 55 (oFa 56 15 1),oP 56 (oLd 3 55),oP 57 (.binOp .add 3 (oTt 54) (oTt 56) 3),oP 12 (oAs 53),oP 13 (oAs 57)]
def Qa4:LO:=Qft
theorem Qyq:Uw.toList.map bare=Qft:=by kernel_rfl
theorem Qy8:Uw.toList.map bare=Qa4:=Qyq
def V9:List Nat:=[0,0,2,6,15,0,0,64,224,31,1023]
theorem Qzf:Q9k Uw.toList []=some V9:=by kernel_rfl
theorem Qxp:Qal Uw.toList Uw.toList V9 []=true:=by kernel_rfl
theorem Q0f(b:Nat)(L:List KE)(s:St):Ab.runT (E b) L Qa4 V9 Qa4 0 s=Ab.runT (E b) L Qa4 V9 Qft 0 s:=rfl
theorem Q10(b:Nat):Wk (E b) 4 ((nth V9 4).getD 0) Qa4 V9 0=true:=by kernel_rfl
abbrev Q4d:LO:=[oP 58 (.binOp .add 3 (oTt 42) (oCi 1) 3),oP 42 (oMv 58)]
def Q78:Code:=.loop (.seq (oRg Q48) (.seq (.cond (.tmp 43) .skip (.exit 0)) (.seq (.block 1 (.seq (oRg Q4v) (.seq (.seq (oRg Q4e) (.cond (.tmp 48) (.exit 0) .skip)) Q7h))) (oRg Q4d))))
abbrev Q4y:LO:=[oP 59 (oMv 13),oP 60 (oMv 2),oP 61 (.binOp .lss 3 (oTt 59) (oTt 60) 3)]
abbrev Q51:LO:=[oP 6 (.assign (.const (.slice none 0 0))),oP 7 (.assign (oCi 0)),oP 8 (.assign (oCi 22))]
noncomputable def Ut:Array Oper:=Xhr (Xfo 18 (Yg 9))
def Qt8:Code:=.region 18 Ut true
abbrev Qg0:LO:=[oP 62 (oMv 0),oP 63 (.nilCheck (oTt 62)),oP 64 (oFa 60 63 2),oP 65 (oLd 58 64),oP 66 (oMv 1),oP 67 (oMv 12),oP 68 (oCa 22 #[(oTt 67)] #[29]),oN (.mapUpdate 58 (oTt 65) (oTt 66) (oTt 68))]
def Ue:LO:=Qg0
theorem Qzi:Ut.toList.map bare=Qg0:=by kernel_rfl
theorem Qxz:Ut.toList.map bare=Ue:=Qzi
def J9:List Nat:=[0,1,3,7,0,0,32,127]
theorem Qzl:Q9k Ut.toList []=some J9:=by kernel_rfl
theorem Qxy:Qal Ut.toList Ut.toList J9 []=true:=by kernel_rfl
theorem Q03(b:Nat)(L:List KE)(s:St):Ab.runT (E b) L Ue J9 Ue 0 s=Ab.runT (E b) L Ue J9 Qg0 0 s:=rfl
theorem Q2a(b:Nat):Wk (E b) 6 ((nth J9 6).getD 0) Ue J9 0=true:=by kernel_rfl
theorem Q2e(b:Nat):Wk (E b) 7 ((nth J9 7).getD 0) Ue J9 0=true:=by kernel_rfl
abbrev Q4c:LO:=[oP 69 (oMv 12),oP 70 (oMv 13),oP 6 (oAs 69),oP 7 (oAs 70),oP 8 (.assign (oCi 0))]
abbrev Qun:Code:=.seq (oRg Q4c) .ret
def Yv:Code:=(.seq (oRg Q81) (.seq (.seq (oRg Q7s) (.seq (oRg Q7i) (.cond (.tmp 25) (.seq (oRg Q67) .ret) .skip))) (.seq (.seq Qu6 (.cond (.tmp 31) (.seq (oRg Q4w) .ret) .skip)) (.seq (oRg Q4b) (.seq (oRg Q4a) (.seq (oRg Q45) (.seq (oRg Q50) (.seq (.seq (oRg Q57) (.block 0 Q78)) (.seq (.seq (oRg Q4y) (.cond (.tmp 61) (.seq (oRg Q51) .ret) .skip)) (.seq Qt8 Qun))))))))))
theorem Q98:Uu (Yg 9)=Yv:=by kernel_rfl
theorem Q4z:Wz.body=some (Yg 9):=by kernel_rfl
theorem Xba:Wz.ntmps=71:=by kernel_rfl
theorem Z8:Wz.results.toList=[.tmp 6,.tmp 7,.tmp 8]:=by kernel_rfl
abbrev Qg6:LO:=[oP 4 (oMv 0),oP 5 (oMv 0),oP 6 (oBu .len #[(oTt 5)] #[53]),oP 7 (oMv 1),oP 8 (oCa 35 #[(oTt 4),(oTt 6),(oTt 7)] #[53,3,62])]
def V8:Code:=(oRg Qg6)
theorem Qg7:Uu (Yg 19)=V8:=by kernel_rfl
theorem Qfv:Jj.body=some (Yg 19):=by kernel_rfl
theorem Qgk:Jj.ntmps=9:=by kernel_rfl
theorem Qa8:Jj.results.toList=[]:=by kernel_rfl
abbrev Qqv:LO:=[oP 6 (.assign (oCi 20))]
abbrev Qr0:LO:=[oP 10 (oMv 6),oP 7 (.assign (oCi 0)),oP 8 (oAs 10)]
abbrev Qr5:LO:=[oP 11 (oMv 8),oP 12 (oMv 1),oP 13 (.binOp .leq 3 (oTt 11) (oTt 12) 3)]
abbrev Qrz:LO:=[oP 14 (oMv 0),oP 15 (oMv 7),oP 16 (oMv 8),oP 17 (oMv 2),oP 18 (oCa 51 #[(oTt 14),(oTt 15),(oTt 16),(oTt 17)] #[53,3,3,62])]
abbrev Qp2:LO:=[oP 19 (oMv 8),oP 7 (oAs 19)]
abbrev Qot:LO:=[oP 20 (oMv 8),oP 21 (oMv 6),oP 22 (.binOp .add 3 (oTt 20) (oTt 21) 3),oP 8 (oAs 22)]
def Qpt:Code:=.loop (.seq (.seq (oRg Qr5) (.cond (.tmp 13) .skip (.exit 0))) (.block 1 (.seq (oRg Qrz) (.seq (oRg Qp2) (oRg Qot)))))
abbrev Qph:LO:=[oP 23 (oMv 0),oP 24 (oMv 7),oP 25 (oMv 1),oP 26 (oMv 2),oP 27 (oCa 51 #[(oTt 23),(oTt 24),(oTt 25),(oTt 26)] #[53,3,3,62])]
abbrev Qp1:LO:=[oP 28 (oMv 6),oP 29 (oMv 1),oP 30 (.binOp .lss 3 (oTt 28) (oTt 29) 3)]
abbrev Qos:LO:=[oP 31 (oMv 6),oP 32 (.binOp .mul 3 (oCi 2) (oTt 31) 3),oP 7 (.assign (oCi 0)),oP 8 (oAs 32)]
abbrev Qox:LO:=[oP 33 (oMv 8),oP 34 (oMv 1),oP 35 (.binOp .leq 3 (oTt 33) (oTt 34) 3)]
abbrev Qpc:LO:=[oP 36 (oMv 0),oP 37 (oMv 7),oP 38 (oMv 7),oP 39 (oMv 6),oP 40 (.binOp .add 3 (oTt 38) (oTt 39) 3),oP 41 (oMv 8),oP 42 (oMv 2),oP 43 (oCa 52 #[(oTt 36),(oTt 37),(oTt 40),(oTt 41),(oTt 42)] #[53,3,3,3,62])]
abbrev Qp3:LO:=[oP 44 (oMv 8),oP 7 (oAs 44)]
abbrev Qpd:LO:=[oP 45 (oMv 8),oP 46 (oMv 6),oP 47 (.binOp .mul 3 (oCi 2) (oTt 46) 3),oP 48 (.binOp .add 3 (oTt 45) (oTt 47) 3),oP 8 (oAs 48)]
def Qqk:Code:=.loop (.seq (.seq (oRg Qox) (.cond (.tmp 35) .skip (.exit 4))) (.block 5 (.seq (oRg Qpc) (.seq (oRg Qp3) (oRg Qpd)))))
abbrev Qpb:LO:=[oP 49 (oMv 7),oP 50 (oMv 6),oP 51 (.binOp .add 3 (oTt 49) (oTt 50) 3),oP 9 (oAs 51)]
abbrev Qow:LO:=[oP 52 (oMv 9),oP 53 (oMv 1),oP 54 (.binOp .lss 3 (oTt 52) (oTt 53) 3)]
abbrev Qp8:LO:=[oP 55 (oMv 0),oP 56 (oMv 7),oP 57 (oMv 9),oP 58 (oMv 1),oP 59 (oMv 2),oP 60 (oCa 52 #[(oTt 55),(oTt 56),(oTt 57),(oTt 58),(oTt 59)] #[53,3,3,3,62])]
abbrev Qpj:LO:=[oP 61 (oMv 6),oP 62 (.binOp .mul 3 (oTt 61) (oCi 2) 3),oP 6 (oAs 62)]
def Qry:Code:=.loop (.seq (.seq (oRg Qp1) (.cond (.tmp 30) .skip (.exit 2))) (.block 3 (.seq (oRg Qos) (.seq (.block 4 Qqk) (.seq (.seq (oRg Qpb) (.seq (oRg Qow) (.cond (.tmp 54) (oRg Qp8) .skip))) (oRg Qpj))))))
def Jt:Code:=(.seq (oRg Qqv) (.seq (oRg Qr0) (.seq (.block 0 Qpt) (.seq (oRg Qph) (.block 2 Qry)))))
theorem Qu3:Uu (Yg 35)=Jt:=by kernel_rfl
theorem Qoy:Uk.body=some (Yg 35):=by kernel_rfl
theorem Qvu:Uk.ntmps=63:=by kernel_rfl
theorem U8:Uk.results.toList=[]:=by kernel_rfl
abbrev Ua:LO:=[oP 10 (oMv 1),oP 11 (.binOp .add 3 (oTt 10) (oCi 1) 3),oP 8 (oAs 11)]
abbrev Uc:LO:=[oP 12 (oMv 8),oP 13 (oMv 2),oP 14 (.binOp .lss 3 (oTt 12) (oTt 13) 3)]
abbrev Ub:LO:=[oP 17 (oMv 8),oP 9 (oAs 17)]
noncomputable def Zl:Array Oper:=Xhr (Xfo 4 (Yg 51))
def Qle:Code:=.region 4 Zl true
abbrev U5:LO:=[oP 18 (oMv 9),oP 19 (oMv 1),oP 20 (.binOp .gtr 3 (oTt 18) (oTt 19) 3),oP 21 (oMv 20),oG 3 true 22 (oMv 3),oG 3 true 23 (oMv 0),oG 3 true 24 (oMv 9),oG 3 true 25 (oIx 53 23 24),oG 3 true 26 (oLd 56 25),oG 3 true 27 (oMv 0),oG 3 true 28 (oMv 9),oG 3 true 29 (.binOp .sub 3 (oTt 28) (oCi 1) 3),oG 3 true 30 (oIx 53 27 29),oG 3 true 31 (oLd 56 30),oG 3 true 32 (.call {callee:=.value (oTt 22),args:=#[(oTt 26),(oTt 31)],argTypes:=#[56,56]}),oG 3 true 33 (.binOp .lss 3 (oTt 32) (oCi 0) 3),oP 34 (.pick (oTt 21) (oTt 33) (.const (.bool false)))]
def Ze:LO:=U5
theorem Qgp:Zl.toList.map bare=U5:=by kernel_rfl
theorem Qa7:Zl.toList.map bare=Ze:=Qgp
def Yk:List Nat:=[0,0,3,7,15,15,15,111,239,15,15,1039,3599,7695,16383,32767,65535]
theorem Qah:Q9k Zl.toList []=some Yk:=by kernel_rfl
theorem Qa6:Qal Zl.toList Zl.toList Yk []=true:=by kernel_rfl
theorem Qam(b:Nat)(L:List KE)(s:St):Ab.runT (E b) L Ze Yk Ze 0 s=Ab.runT (E b) L Ze Yk U5 0 s:=rfl
theorem Qaq:nth Ze 3=some ⟨(some 21),.move (.tmp 20),0,"",#[],none⟩:=rfl
theorem Qao(b:Nat):Wk (E b) 14 ((nth Yk 14).getD 0) Ze Yk 0=true:=by kernel_rfl
noncomputable def Zj:Array Oper:=Xhr (Xfo 6 (Yg 51))
def Qlf:Code:=.region 6 Zj true
abbrev U6:LO:=[oP 37 (oMv 0),oP 38 (oMv 9),oP 39 (oMv 0),oP 40 (oMv 9),oP 41 (.binOp .sub 3 (oTt 40) (oCi 1) 3),oP 42 (oMv 0),oP 43 (oMv 9),oP 44 (.binOp .sub 3 (oTt 43) (oCi 1) 3),oP 45 (oIx 53 42 44),oP 46 (oLd 56 45),oP 47 (oMv 0),oP 48 (oMv 9),oP 49 (oIx 53 47 48),oP 50 (oLd 56 49),oP 51 (oIx 53 37 38),oN (.store 56 (oTt 51) (oTt 46)),oP 52 (oIx 53 39 41),oN (.store 56 (oTt 52) (oTt 50))]
def Zd:LO:=U6
theorem Qgu:Zj.toList.map bare=U6:=by kernel_rfl
theorem Qg9:Zj.toList.map bare=Zd:=Qgu
def Yf:List Nat:=[0,0,0,0,8,0,0,64,224,480,0,0,3072,7168,16355,32739,65535,131071]
theorem Qgl:Q9k Zj.toList []=some Yf:=by kernel_rfl
theorem Qgb:Qal Zj.toList Zj.toList Yf []=true:=by kernel_rfl
theorem Qhj(b:Nat)(L:List KE)(s:St):Ab.runT (E b) L Zd Yf Zd 0 s=Ab.runT (E b) L Zd Yf U6 0 s:=rfl
theorem Qh7(b:Nat):Wk (E b) 15 ((nth Yf 15).getD 0) Zd Yf 0=true:=by kernel_rfl
theorem Qh1(b:Nat):Wk (E b) 17 ((nth Yf 17).getD 0) Zd Yf 0=true:=by kernel_rfl
abbrev U3:LO:=[oP 35 (oMv 9),oP 36 (.binOp .sub 3 (oTt 35) (oCi 1) 3),oP 9 (oAs 36)]
def Qk6:Code:=.loop (.seq (.seq Qle (.cond (.tmp 34) .skip (.exit 2))) (.seq (.block 3 Qlf) (oRg U3)))
abbrev U4:LO:=[oP 15 (oMv 8),oP 16 (.binOp .add 3 (oTt 15) (oCi 1) 3),oP 8 (oAs 16)]
def Qkf:Code:=.loop (.seq (.seq (oRg Uc) (.cond (.tmp 14) .skip (.exit 0))) (.seq (.block 1 (.seq (oRg Ub) (.block 2 Qk6))) (oRg U4)))
def Xb:Code:=(.seq (oRg Ua) (.block 0 Qkf))
theorem Ql2:Uu (Yg 51)=Xb:=by kernel_rfl
theorem Qj6:V7.body=some (Yg 51):=by kernel_rfl
theorem Qlh:V7.ntmps=53:=by kernel_rfl
theorem Xw:V7.results.toList=[]:=by kernel_rfl
abbrev Quq:LO:=[oP 2 (.assign (.const (.pointer none)))]
abbrev X06:LO:=[oP 3 (oMv 0),oP 4 (.makeMap 58 none),oP 5 (.build 60 #[(0,(oTt 3)),(2,(oTt 4))]),oP 6 (.box 60 (oTt 5)),oP 2 (oAs 6)]
def Xfu:Code:=(.seq (oRg Quq) (.seq (oRg X06) .ret))
theorem X6m:Uu (Yg 16)=Xfu:=by kernel_rfl
theorem Xuw:Q5j.body=some (Yg 16):=by kernel_rfl
theorem Ybl:Q5j.ntmps=7:=by kernel_rfl
theorem X5c:Q5j.results.toList=[.tmp 2]:=by kernel_rfl
abbrev Xgd:LO:=[oP 11 (oMv 0),oP 12 (.nilCheck (oTt 11)),oP 13 (oFa 60 12 1),oN (.store 53 (oTt 13) (.const (.slice none 0 0)))]
abbrev Xii:LO:=[oP 14 (oMv 1),oP 15 (oCa 28 #[(oTt 14)] #[47]),oP 16 (oBu .len #[(oTt 15)] #[29]),oP 17 (.move (oCi 0))]
abbrev Xhx:LO:=[oP 18 (.binOp .lss 3 (oTt 17) (oTt 16) 3)]
abbrev Xip:LO:=[oP 19 (oIx 29 15 17),oP 20 (oLd 36 19),oP 5 (.alloc 36),oN (.store 36 (oTt 5) (oTt 20))]
abbrev Xcy:LO:=[oP 22 (oMv 1),oP 23 (oLd 36 5),oP 24 (oCa 29 #[(oTt 22),(oTt 23)] #[47,36]),oP 21 (oMv 24),oP 25 (.extract (oTt 21) 0),oP 26 (.extract (oTt 21) 1),oP 27 (.extract (oTt 21) 2),oP 6 (.alloc 46),oN (.store 46 (oTt 6) (oTt 25)),oP 7 (oAs 26),oP 8 (oAs 27)]
abbrev Xdb:LO:=[oP 29 (oFa 46 6 1),oP 30 (oLd 43 29),oP 31 (oCa 30 #[(oTt 30)] #[43]),oP 28 (oMv 31),oP 32 (.extract (oTt 28) 0),oP 33 (.extract (oTt 28) 1),oP 9 (oAs 32),oP 10 (oAs 33)]
abbrev Qxa:LO:=[oP 34 (oMv 10),oP 35 (oMv 34),oG 1 true 36 (oMv 9),oG 1 true 37 (oMv 0),oG 1 true 38 (.nilCheck (oTt 37)),oG 1 true 39 (oFa 60 38 0),oG 1 true 40 (oLd 3 39),oG 1 true 41 (.binOp .eql 3 (oTt 36) (oTt 40) 3),oP 42 (.pick (oTt 35) (oTt 41) (.const (.bool false)))]
def Qo8:LO:=Qxa
def Qyl:Code:=oRg Qo8
theorem V5:oRQ Qyl Qo8 Qxa:=fun _ _=>rfl
theorem Ju:nth Qo8 1=some ⟨(some 35),.move (.tmp 34),0,"",#[],none⟩:=rfl
noncomputable def Qci:Array Oper:=Xhr (Xfo 7 (Yg 17))
def Xkn:Code:=.region 7 Qci true
abbrev Qmp:LO:=[oP 43 (oMv 0),oP 44 (oMv 0),oP 45 (.nilCheck (oTt 44)),oP 46 (oFa 60 45 1),oP 47 (oLd 53 46),oP 48 (oLd 36 5),oP 49 (oFa 46 6 0),oP 50 (oLd 3 49),oP 51 (.build 56 #[(0,(oTt 48)),(1,(oTt 50))]),oP 52 (.buildSlice 53 1 #[(0,(oTt 51))]),oP 53 (oBu .append #[(oTt 47),(oTt 52)] #[53,53]),oP 54 (.nilCheck (oTt 43)),oP 55 (oFa 60 54 1),oN (.store 53 (oTt 55) (oTt 53))]
def Qba:LO:=Qmp
theorem Q60:Qci.toList.map bare=Qmp:=by kernel_rfl
theorem Q4r:Qci.toList.map bare=Qba:=Q60
def Va:List Nat:=[0,0,2,6,14,0,0,64,224,480,1022,2047,4095,8191]
theorem Q7r:Q9k Qci.toList []=some Va:=by kernel_rfl
theorem Q49:Qal Qci.toList Qci.toList Va []=true:=by kernel_rfl
theorem Q89(b:Nat)(L:List KE)(s:St):Ab.runT (E b) L Qba Va Qba 0 s=Ab.runT (E b) L Qba Va Qmp 0 s:=rfl
theorem Q8s(b:Nat):Wk (E b) 10 ((nth Va 10).getD 0) Qba Va 0=true:=by kernel_rfl
theorem Q8g(b:Nat):Wk (E b) 13 ((nth Va 13).getD 0) Qba Va 0=true:=by kernel_rfl
abbrev Xcm:LO:=[oP 56 (.binOp .add 3 (oTt 17) (oCi 1) 3),oP 17 (oMv 56)]
def Xg8:Code:=.loop (.seq (oRg Xhx) (.seq (.cond (.tmp 18) .skip (.exit 0)) (.seq (.block 1 (.seq (oRg Xip) (.seq (oRg Xcy) (.seq (oRg Xdb) (.seq Qyl (.cond (.tmp 42) Xkn .skip)))))) (oRg Xcm))))
def Jv:Code:=(.seq (oRg Xgd) (.seq (oRg Xii) (.block 0 Xg8)))
theorem Xkr:Uu (Yg 17)=Jv:=by kernel_rfl
theorem Xef:Qlc.body=some (Yg 17):=by kernel_rfl
theorem Xlu:Qlc.ntmps=57:=by kernel_rfl
theorem Vz:Qlc.results.toList=[]:=by kernel_rfl
def Xve:LO:=Qy
def Xup:Code:=oRg Xve
theorem Qwp:oRQ Xup Xve Qy:=fun _ _=>rfl
abbrev Qz1:LO:=[oP 3 (.assign (.const (.slice none 0 0)))]
abbrev Ybc:LO:=[oP 8 (oMv 0),oP 9 (oBu .len #[(oTt 8)] #[87]),oP 10 (.move (oCi 0))]
abbrev X7c:LO:=[oP 11 (.binOp .lss 3 (oTt 10) (oTt 9) 3)]
abbrev X5i:LO:=[oP 12 (oIx 87 8 10),oP 13 (oLd 20 12),oP 5 (oAs 13)]
abbrev X51:LO:=[oP 14 (oMv 5)]
abbrev X45:LO:=[oP 15 (.typeAssert (oTt 14) 20 43 true),oP 16 (.extract (oTt 15) 1),oP 17 (.extract (oTt 15) 0)]
abbrev X4y:LO:=[oP 6 (oAs 17)]
abbrev X60:LO:=[oP 18 (oMv 3),oP 19 (oMv 6),oP 20 (oBu .len #[(oTt 19)] #[43]),oP 21 (oMv 6),oP 22 (.build 90 #[(0,(oTt 20)),(1,(oTt 21))]),oP 23 (.buildSlice 88 1 #[(0,(oTt 22))]),oP 24 (oBu .append #[(oTt 18),(oTt 23)] #[88,88]),oP 3 (oAs 24)]
abbrev X5f:LO:=[oP 25 (.typeAssert (oTt 14) 20 3 true),oP 26 (.extract (oTt 25) 1),oP 27 (.extract (oTt 25) 0)]
abbrev X3f:LO:=[oP 7 (oAs 27)]
abbrev X5z:LO:=[oP 28 (oMv 3),oP 29 (oMv 7),oP 30 (.build 90 #[(0,(oTt 29))]),oP 31 (.buildSlice 88 1 #[(0,(oTt 30))]),oP 32 (oBu .append #[(oTt 28),(oTt 31)] #[88,88]),oP 3 (oAs 32)]
abbrev X5y:LO:=[oP 33 (.binOp .add 3 (oTt 10) (oCi 1) 3),oP 10 (oMv 33)]
def Ybw:Code:=.loop (.seq (oRg X7c) (.seq (.cond (.tmp 11) .skip (.exit 0)) (.seq (.block 1 (.seq (oRg X5i) (.seq (oRg X51) (.block 2 (.seq (oRg X45) (.cond (.tmp 16) (.seq (oRg X4y) (oRg X60)) (.seq (oRg X5f) (.cond (.tmp 26) (.seq (oRg X3f) (oRg X5z)) .skip)))))))) (oRg X5y))))
abbrev X6l:LO:=[oP 34 (oMv 3),oP 35 (oCa 37 #[(oTt 34)] #[88]),oP 2 (oAs 35)]
def Qp5:Code:=(.seq Xup (.seq (oRg Qz1) (.seq (.seq (oRg Ybc) (.block 0 Ybw)) (.seq (oRg X6l) .ret))))
theorem Yds:Uu (Yg 23)=Qp5:=by kernel_rfl
theorem X38:Xj5.body=some (Yg 23):=by kernel_rfl
theorem Yid:Xj5.ntmps=36:=by kernel_rfl
theorem Q2x:Xj5.results.toList=[.tmp 2]:=by kernel_rfl
def Xy1:LO:=Qy
def Xxp:Code:=oRg Xy1
theorem X66:oRQ Xxp Xy1 Qy:=fun _ _=>rfl
abbrev X8n:LO:=[oP 3 (oMv 0),oP 4 (.convert 3 5 (oTt 3)),oP 5 (.buildSlice 43 1 #[(0,(oTt 4))]),oP 2 (oAs 5)]
def Xpa:Code:=(.seq Xxp (.seq (oRg X8n) .ret))
theorem Yeq:Uu (Yg 24)=Xpa:=by kernel_rfl
theorem X4x:Xjc.body=some (Yg 24):=by kernel_rfl
theorem Yj9:Xjc.ntmps=6:=by kernel_rfl
theorem Yes:Xjc.results.toList=[.tmp 2]:=by kernel_rfl
def Xoj:LO:=Qwo
def Xo8:Code:=oRg Xoj
theorem Xf0:oRQ Xo8 Xoj Qwo:=fun _ _=>rfl
abbrev Xll:LO:=[oP 3 (oMv 0),oP 4 (.binOp .geq 3 (oTt 3) (oCi 1) 3),oP 5 (oMv 4),oG 2 true 6 (oMv 0),oG 2 true 7 (.binOp .leq 3 (oTt 6) (oCi 32) 3),oP 8 (.pick (oTt 5) (oTt 7) (.const (.bool false))),oP 2 (oAs 8)]
def Xai:LO:=Xll
def Xng:Code:=oRg Xai
theorem Xfx:oRQ Xng Xai Xll:=fun _ _=>rfl
theorem Xbh:nth Xai 2=some ⟨(some 5),.move (.tmp 4),0,"",#[],none⟩:=rfl
def Q3v:Code:=(.seq Xo8 (.seq Xng .ret))
theorem X4w:Uu (Yg 47)=Q3v:=by kernel_rfl
theorem Xxm:Q5n.body=some (Yg 47):=by kernel_rfl
theorem Ycl:Q5n.ntmps=9:=by kernel_rfl
theorem Xnb:Q5n.results.toList=[.tmp 2]:=by kernel_rfl
def Xug:LO:=Qy
def Xwm:Code:=oRg Xug
theorem Xa1:oRQ Xwm Xug Qy:=fun _ _=>rfl
abbrev X8o:LO:=[oP 3 (oMv 0),oP 4 (oCa 24 #[(oTt 3)] #[3]),oP 5 (.makeInterface 43 (oTt 4)),oP 6 (.makeInterface 3 (oCi 134)),oP 7 (.buildSlice 87 2 #[(0,(oTt 5)),(1,(oTt 6))]),oP 8 (oCa 23 #[(oTt 7)] #[87]),oP 2 (oAs 8)]
def Q29:Code:=(.seq Xwm (.seq (oRg X8o) .ret))
theorem Yf5:Uu (Yg 13)=Q29:=by kernel_rfl
theorem X46:Xja.body=some (Yg 13):=by kernel_rfl
theorem Yjc:Xja.ntmps=9:=by kernel_rfl
theorem Xmj:Xja.results.toList=[.tmp 2]:=by kernel_rfl
abbrev Q6s:LO:=[oP 2 (.assign (oCi 0)),oP 3 (.assign (.const (.bool false)))]
abbrev Xlm:LO:=[oP 4 (oMv 0),oP 5 (oBu .len #[(oTt 4)] #[43]),oP 6 (.binOp .neq 3 (oTt 5) (oCi 3) 3),oP 7 (oMv 6),oG 3 false 8 (oMv 0),oG 3 false 9 (.indexAddr 43 (oTt 8) (oCi 1)),oG 3 false 10 (oLd 5 9),oG 3 false 11 (.convert 5 3 (oTt 10)),oG 3 false 12 (oCa 47 #[(oTt 11)] #[3]),oG 3 false 13 (.unOp .not 4 (oTt 12)),oP 14 (.pick (oTt 7) (.const (.bool true)) (oTt 13)),oP 15 (oMv 14),oG 11 false 16 (oMv 0),oG 11 false 17 (oMv 0),oG 11 false 18 (.indexAddr 43 (oTt 17) (oCi 1)),oG 11 false 19 (oLd 5 18),oG 11 false 20 (.convert 5 3 (oTt 19)),oG 11 false 21 (oCa 13 #[(oTt 20)] #[3]),oG 11 false 22 (oCa 48 #[(oTt 16),(oTt 21)] #[43,43]),oG 11 false 23 (.unOp .not 4 (oTt 22)),oP 24 (.pick (oTt 15) (.const (.bool true)) (oTt 23))]
def Q17:LO:=Xlm
def Xnq:Code:=oRg Q17
theorem Qwz:oRQ Xnq Q17 Xlm:=fun _ _=>rfl
theorem Qvc:nth Q17 3=some ⟨(some 7),.move (.tmp 6),0,"",#[],none⟩:=rfl
theorem Qou:nth Q17 11=some ⟨(some 15),.move (.tmp 14),0,"",#[],none⟩:=rfl
def Xpj:LO:=Q6s
def Xp5:Code:=oRg Xpj
theorem Qwv:oRQ Xp5 Xpj Q6s:=fun _ _=>rfl
abbrev Xzo:LO:=[oP 25 (oMv 0),oP 26 (.indexAddr 43 (oTt 25) (oCi 1)),oP 27 (oLd 5 26),oP 28 (.convert 5 3 (oTt 27)),oP 2 (oAs 28),oP 3 (.assign (.const (.bool true)))]
def Qoc:Code:=(.seq (oRg Q6s) (.seq (.seq Xnq (.cond (.tmp 24) (.seq Xp5 .ret) .skip)) (.seq (oRg Xzo) .ret)))
theorem X3h:Uu (Yg 30)=Qoc:=by kernel_rfl
theorem Xw5:Q5p.body=some (Yg 30):=by kernel_rfl
theorem X8f:Q5p.ntmps=29:=by kernel_rfl
theorem Q1q:Q5p.results.toList=[.tmp 2,.tmp 3]:=by kernel_rfl
abbrev Xyz:LO:=[oP 4 (.assign (.const (.pointer none)))]
abbrev X0b:LO:=[oP 8 (oMv 1),oP 9 (.makeMap 65 none),oP 10 (.build 68 #[(0,(oTt 8)),(1,(oTt 9))]),oP 11 (.box 68 (oTt 10)),oP 5 (oAs 11)]
abbrev Xzn:LO:=[oP 12 (oMv 0),oP 13 (oBu .len #[(oTt 12)] #[42]),oP 14 (.move (oCi 0))]
abbrev X13:LO:=[oP 15 (.binOp .lss 3 (oTt 14) (oTt 13) 3)]
abbrev Xxa:LO:=[oP 16 (oMv 14),oP 17 (oIx 42 12 14),oP 18 (oLd 46 17),oP 7 (.alloc 46),oP 6 (oAs 16),oN (.store 46 (oTt 7) (oTt 18))]
noncomputable def Qpi:Array Oper:=Xhr (Xfo 5 (Yg 14))
def X59:Code:=.region 5 Qpi true
abbrev Q3a:LO:=[oP 19 (oMv 5),oP 20 (.nilCheck (oTt 19)),oP 21 (oFa 68 20 1),oP 22 (oLd 65 21),oP 23 (oMv 6),oP 24 (.build 36 #[(1,(oTt 23))]),oP 25 (oLd 46 7),oP 26 (oCa 25 #[(oTt 25)] #[46]),oP 27 (.build 71 #[(0,(oTt 26))]),oN (.mapUpdate 65 (oTt 22) (oTt 24) (oTt 27))]
def Qm2:LO:=Q3a
theorem Xo0:Qpi.toList.map bare=Q3a:=by kernel_rfl
theorem Xm3:Qpi.toList.map bare=Qm2:=Xo0
def Qc1:List Nat:=[0,1,3,7,0,16,0,64,192,511]
theorem Xnw:Q9k Qpi.toList []=some Qc1:=by kernel_rfl
theorem Xme:Qal Qpi.toList Qpi.toList Qc1 []=true:=by kernel_rfl
theorem Xqk(b:Nat)(L:List KE)(s:St):Ab.runT (E b) L Qm2 Qc1 Qm2 0 s=Ab.runT (E b) L Qm2 Qc1 Q3a 0 s:=rfl
theorem Xs5(b:Nat):Wk (E b) 7 ((nth Qc1 7).getD 0) Qm2 Qc1 0=true:=by kernel_rfl
theorem Xry(b:Nat):Wk (E b) 9 ((nth Qc1 9).getD 0) Qm2 Qc1 0=true:=by kernel_rfl
abbrev Xw9:LO:=[oP 28 (.binOp .add 3 (oTt 14) (oCi 1) 3),oP 14 (oMv 28)]
def X18:Code:=.loop (.seq (oRg X13) (.seq (.cond (.tmp 15) .skip (.exit 0)) (.seq (.block 1 (.seq (oRg Xxa) X59)) (oRg Xw9))))
abbrev Xv5:LO:=[oP 29 (oMv 5),oP 4 (oAs 29)]
def Qg1:Code:=(.seq (oRg Xyz) (.seq (oRg X0b) (.seq (.seq (oRg Xzn) (.block 0 X18)) (.seq (oRg Xv5) .ret))))
theorem X4t:Uu (Yg 14)=Qg1:=by kernel_rfl
theorem Xye:Q5i.body=some (Yg 14):=by kernel_rfl
theorem X7p:Q5i.ntmps=30:=by kernel_rfl
theorem Qpf:Q5i.results.toList=[.tmp 4]:=by kernel_rfl
abbrev Xt3:LO:=[oP 1 (.box 46 (oTt 0)),oP 2 (.alloc 46)]
noncomputable def Qio:Array Oper:=Xhr (Xfo 1 (Yg 25))
def Xx2:Code:=.region 1 Qio true
abbrev Qxr:LO:=[oP 3 (oFa 46 1 0),oP 4 (oLd 3 3),oP 5 (oFa 46 1 1),oP 6 (oLd 43 5),oP 7 (oCa 38 #[(oTt 6)] #[43]),oP 8 (.build 46 #[(0,(oTt 4)),(1,(oTt 7))]),oN (.store 46 (oTt 2) (oTt 8))]
def Qge:LO:=Qxr
theorem Xji:Qio.toList.map bare=Qxr:=by kernel_rfl
theorem Xiy:Qio.toList.map bare=Qge:=Xji
def Wy:List Nat:=[0,1,0,4,12,31,63]
theorem Xjp:Q9k Qio.toList []=some Wy:=by kernel_rfl
theorem Xga:Qal Qio.toList Qio.toList Wy []=true:=by kernel_rfl
theorem Xmb(b:Nat)(L:List KE)(s:St):Ab.runT (E b) L Qge Wy Qge 0 s=Ab.runT (E b) L Qge Wy Qxr 0 s:=rfl
theorem Xny(b:Nat):Wk (E b) 4 ((nth Wy 4).getD 0) Qge Wy 0=true:=by kernel_rfl
theorem Xp8(b:Nat):Wk (E b) 6 ((nth Wy 6).getD 0) Qge Wy 0=true:=by kernel_rfl
def Qji:Code:=(.seq (oRg Xt3) (.seq Xx2 .ret))
theorem Xyu:Uu (Yg 25)=Qji:=by kernel_rfl
theorem Xpv:Qyf.body=some (Yg 25):=by kernel_rfl
theorem X10:Qyf.ntmps=9:=by kernel_rfl
theorem Qwf:Qyf.results.toList=[.cell 2 46]:=by kernel_rfl
def Qwh:LO:=Qy
def Qwj:Code:=oRg Qwh
theorem Qh0:oRQ Qwj Qwh Qy:=fun _ _=>rfl
abbrev Q90:LO:=[oP 3 (oMv 0),oP 4 (.nilCheck (oTt 3)),oP 5 (oFa 68 4 1),oP 6 (oLd 65 5),oP 7 (oCa 43 #[(oTt 6)] #[65]),oP 8 (oCa 42 #[(oTt 7),(.func 44)] #[109,113]),oP 2 (oAs 8)]
def Qe4:Code:=(.seq Qwj (.seq (oRg Q90) .ret))
theorem Xb5:Uu (Yg 28)=Qe4:=by kernel_rfl
theorem Q7k:Qg3.body=some (Yg 28):=by kernel_rfl
theorem Xcv:Qg3.ntmps=9:=by kernel_rfl
theorem Qlg:Qg3.results.toList=[.tmp 2]:=by kernel_rfl
abbrev Q4n:LO:=[oP 2 (.box 36 (oTt 0)),oP 3 (.box 36 (oTt 1)),oP 4 (.assign (oCi 0))]
noncomputable def Ux:Array Oper:=Xhr (Xfo 1 (Yg 44))
def Q79:Code:=.region 1 Ux true
abbrev Qfq:LO:=[oP 5 (oFa 36 2 0),oP 6 (.slice 34 (oTt 5) none none none),oP 7 (oFa 36 3 0),oP 8 (.slice 34 (oTt 7) none none none),oP 9 (oCa 46 #[(oTt 6),(oTt 8)] #[43,43]),oP 10 (oFa 36 2 1),oP 11 (oLd 3 10),oP 12 (oFa 36 3 1),oP 13 (oLd 3 12),oP 14 (oCa 21 #[(oTt 11),(oTt 13)] #[3,3]),oP 15 (.buildSlice 22 2 #[(0,(oTt 9)),(1,(oTt 14))]),oP 16 (oCa 45 #[(oTt 15)] #[22]),oP 4 (oAs 16)]
def Vj:LO:=Qfq
theorem Qyx:Ux.toList.map bare=Qfq:=by kernel_rfl
theorem Qxq:Ux.toList.map bare=Vj:=Qyx
def Zc:List Nat:=[0,1,0,4,15,0,32,0,128,511,1023,2047,4095]
theorem Qyn:Q9k Ux.toList []=some Zc:=by kernel_rfl
theorem Qy6:Qal Ux.toList Ux.toList Zc []=true:=by kernel_rfl
theorem Q01(b:Nat)(L:List KE)(s:St):Ab.runT (E b) L Vj Zc Vj 0 s=Ab.runT (E b) L Vj Zc Qfq 0 s:=rfl
theorem Q1i(b:Nat):Wk (E b) 4 ((nth Zc 4).getD 0) Vj Zc 0=true:=by kernel_rfl
theorem Q11(b:Nat):Wk (E b) 9 ((nth Zc 9).getD 0) Vj Zc 0=true:=by kernel_rfl
theorem Qzq(b:Nat):Wk (E b) 11 ((nth Zc 11).getD 0) Vj Zc 0=true:=by kernel_rfl
def Wi:Code:=(.seq (oRg Q4n) (.seq Q79 .ret))
theorem Q6q:Uu (Yg 44)=Wi:=by kernel_rfl
theorem Q3m:Qep.body=some (Yg 44):=by kernel_rfl
theorem Q8z:Qep.ntmps=17:=by kernel_rfl
theorem Qe2:Qep.results.toList=[.tmp 4]:=by kernel_rfl
abbrev Xgg:LO:=[oP 3 (.box 36 (oTt 1)),oP 4 (.alloc 46),oP 5 (.assign (oCi 0)),oP 6 (.assign (.const (.bool false)))]
noncomputable def Qcj:Array Oper:=Xhr (Xfo 1 (Yg 29))
def Xjg:Code:=.region 1 Qcj true
abbrev Qml:LO:=[oP 10 (oMv 0),oP 11 (.nilCheck (oTt 10)),oP 12 (oFa 68 11 1),oP 13 (oLd 65 12),oP 14 (oLd 36 3),oP 15 (.lookup 65 (oTt 13) (oTt 14) true),oP 9 (oMv 15),oP 16 (.extract (oTt 9) 0),oP 17 (.extract (oTt 9) 1),oP 7 (.alloc 71),oN (.store 71 (oTt 7) (oTt 16)),oP 8 (oAs 17)]
def Qef:LO:=Qml
theorem Q69:Qcj.toList.map bare=Qml:=by kernel_rfl
theorem Q53:Qcj.toList.map bare=Qef:=Q69
def W6:List Nat:=[0,1,3,7,0,31,63,127,127,0,767,2047]
theorem Q6m:Q9k Qcj.toList []=some W6:=by kernel_rfl
theorem Q55:Qal Qcj.toList Qcj.toList W6 []=true:=by kernel_rfl
theorem Q99(b:Nat)(L:List KE)(s:St):Ab.runT (E b) L Qef W6 Qef 0 s=Ab.runT (E b) L Qef W6 Qml 0 s:=rfl
theorem Q8b(b:Nat):Wk (E b) 10 ((nth W6 10).getD 0) Qef W6 0=true:=by kernel_rfl
noncomputable def Qcg:Array Oper:=Xhr (Xfo 2 (Yg 29))
def Xke:Code:=.region 2 Qcg true
abbrev Qmf:LO:=[oP 18 (oFa 71 7 0),oP 19 (oLd 46 18),oP 20 (oCa 25 #[(oTt 19)] #[46]),oP 21 (oFa 71 7 1),oP 22 (oLd 3 21),oP 23 (oMv 8),oN (.store 46 (oTt 4) (oTt 20)),oP 5 (oAs 22),oP 6 (oAs 23)]
def Qb4:LO:=Qmf
theorem Q6f:Qcg.toList.map bare=Qmf:=by kernel_rfl
theorem Q4x:Qcg.toList.map bare=Qb4:=Q6f
def Vd:List Nat:=[0,1,3,0,8,0,7,95,255]
theorem Q84:Q9k Qcg.toList []=some Vd:=by kernel_rfl
theorem Q4q:Qal Qcg.toList Qcg.toList Vd []=true:=by kernel_rfl
theorem Q8j(b:Nat)(L:List KE)(s:St):Ab.runT (E b) L Qb4 Vd Qb4 0 s=Ab.runT (E b) L Qb4 Vd Qmf 0 s:=rfl
theorem Xab(b:Nat):Wk (E b) 2 ((nth Vd 2).getD 0) Qb4 Vd 0=true:=by kernel_rfl
theorem Q9v(b:Nat):Wk (E b) 6 ((nth Vd 6).getD 0) Qb4 Vd 0=true:=by kernel_rfl
def Vx:Code:=(.seq (oRg Xgg) (.seq Xjg (.seq Xke .ret)))
theorem Xl8:Uu (Yg 29)=Vx:=by kernel_rfl
theorem Xee:Ql6.body=some (Yg 29):=by kernel_rfl
theorem Xlv:Ql6.ntmps=24:=by kernel_rfl
theorem Qae:Ql6.results.toList=[.cell 4 46,.tmp 5,.tmp 6]:=by kernel_rfl
def Qiv:LO:=Zy
def Qiz:Code:=oRg Qiv
theorem Qc8:oRQ Qiz Qiv Zy:=fun _ _=>rfl
abbrev Qx6:LO:=[oP 6 (oMv 0),oP 7 (oCa 55 #[(oTt 6)] #[109]),oP 5 (oAs 7)]
abbrev Qx4:LO:=[oP 8 (oMv 5),oP 9 (oMv 1),oP 10 (oCa 56 #[(oTt 8),(oTt 9)] #[29,113])]
abbrev Qx5:LO:=[oP 11 (oMv 5),oP 4 (oAs 11)]
def W9:Code:=(.seq Qiz (.seq (oRg Qx6) (.seq (oRg Qx4) (.seq (oRg Qx5) .ret))))
theorem Qya:Uu (Yg 42)=W9:=by kernel_rfl
theorem Qwl:Qag.body=some (Yg 42):=by kernel_rfl
theorem Qyp:Qag.ntmps=12:=by kernel_rfl
theorem Qdw:Qag.results.toList=[.tmp 4]:=by kernel_rfl
def Qn1:LO:=Qy
def Qmv:Code:=oRg Qn1
theorem Qki:oRQ Qmv Qn1 Qy:=fun _ _=>rfl
abbrev Q0a:LO:=[oP 3 (oMv 0),oP 4 (oCa 64 #[(.const (.slice none 0 0)),(oTt 3)] #[29,109]),oP 2 (oAs 4)]
def Qee:Code:=(.seq Qmv (.seq (oRg Q0a) .ret))
theorem Q1t:Uu (Yg 55)=Qee:=by kernel_rfl
theorem Qz6:Qbx.body=some (Yg 55):=by kernel_rfl
theorem Q3z:Qbx.ntmps=5:=by kernel_rfl
theorem Qmx:Qbx.results.toList=[.tmp 2]:=by kernel_rfl
abbrev Qnl:LO:=[oP 5 (oMv 0),oP 6 (oBu .len #[(oTt 5)] #[29]),oP 4 (oAs 6)]
abbrev Qnx:LO:=[oP 7 (oMv 0),oP 8 (oMv 4),oP 9 (oMv 4),oP 10 (.convert 3 97 (oTt 9)),oP 11 (oCa 66 #[(oTt 10)] #[97]),oP 12 (oMv 1),oP 13 (oCa 65 #[(oTt 7),(oCi 0),(oTt 8),(oTt 11),(oTt 12)] #[29,3,3,3,113])]
def Vc:Code:=(.seq (oRg Qnl) (oRg Qnx))
theorem Qom:Uu (Yg 56)=Vc:=by kernel_rfl
theorem Qmo:Vu.body=some (Yg 56):=by kernel_rfl
theorem Qp4:Vu.ntmps=14:=by kernel_rfl
theorem Wj:Vu.results.toList=[]:=by kernel_rfl
abbrev Qma:LO:=[oP 2 (.box 29 (oTt 0)),oP 4 (.assign (.const (.slice none 0 0)))]
abbrev Qms:LO:=[oP 6 (oMv 1)]
def Qdz:Code:=.block 0 (Yav (Yg 64))
theorem Qcy:Jr (E b) C D0 rd Qdz s K=Jr (E b) C D0 rd (Yav (Yg 64)) s (Q0u 0 K):=rfl
abbrev Qmt:LO:=[oP 12 (oLd 29 2),oP 4 (oAs 12)]
def Uq:Code:=(.seq (oRg Qma) (.seq (.seq (oRg Qms) Qdz) (.seq (oRg Qmt) .ret)))
theorem Qnd:Uu (Yg 64)=Uq:=by kernel_rfl
theorem Qls:Vr.body=some (Yg 64):=by kernel_rfl
theorem Qo3:Vr.ntmps=13:=by kernel_rfl
theorem Qdx:Vr.results.toList=[.tmp 4]:=by kernel_rfl
abbrev Qkg:LO:=[oP 5 (.alloc 36),oN (.store 36 (oTt 5) (oTt 7))]
def Qb5:Code:=(oRg Qkg)
abbrev Qjw:LO:=[oP 8 (oLd 29 2),oP 9 (oLd 36 5),oP 10 (.buildSlice 29 1 #[(0,(oTt 9))]),oP 11 (oBu .append #[(oTt 8),(oTt 10)] #[29,29]),oN (.store 29 (oTt 2) (oTt 11))]
def Qaz:Code:=(.block 1 (oRg Qjw))
abbrev Qty:LO:=[oP 10 (.assign (.const (.bool true)))]
abbrev Qv6:LO:=[oP 11 (.assign (.const (.bool true)))]
abbrev Qt0:LO:=[oP 21 (oMv 2),oP 22 (oMv 1),oP 23 (.binOp .sub 3 (oTt 21) (oTt 22) 3),oP 12 (oAs 23)]
abbrev Qu8:LO:=[oP 24 (oMv 12),oP 25 (.binOp .leq 3 (oTt 24) (oCi 12) 3)]
abbrev Qv7:LO:=[oP 26 (oMv 0),oP 27 (oMv 1),oP 28 (oMv 2),oP 29 (oMv 4),oP 30 (oCa 69 #[(oTt 26),(oTt 27),(oTt 28),(oTt 29)] #[29,3,3,113])]
abbrev Qq4:LO:=[oP 31 (oMv 3),oP 32 (.binOp .eql 3 (oTt 31) (oCi 0) 3)]
abbrev Qqt:LO:=[oP 33 (oMv 0),oP 34 (oMv 1),oP 35 (oMv 2),oP 36 (oMv 4),oP 37 (oCa 70 #[(oTt 33),(oTt 34),(oTt 35),(oTt 36)] #[29,3,3,113])]
abbrev Qr3:LO:=[oP 38 (oMv 10),oP 39 (.unOp .not 4 (oTt 38))]
abbrev Qqo:LO:=[oP 40 (oMv 0),oP 41 (oMv 1),oP 42 (oMv 2),oP 43 (oMv 4),oP 44 (oCa 71 #[(oTt 40),(oTt 41),(oTt 42),(oTt 43)] #[29,3,3,113])]
abbrev Qqh:LO:=[oP 45 (oMv 3),oP 46 (.binOp .sub 3 (oTt 45) (oCi 1) 3),oP 3 (oAs 46)]
abbrev Qqb:LO:=[oP 48 (oMv 0),oP 49 (oMv 1),oP 50 (oMv 2),oP 51 (oMv 4),oP 52 (oCa 72 #[(oTt 48),(oTt 49),(oTt 50),(oTt 51)] #[29,3,3,113]),oP 47 (oMv 52),oP 53 (.extract (oTt 47) 0),oP 54 (.extract (oTt 47) 1),oP 13 (oAs 53),oP 14 (oAs 54)]
abbrev Qqs:LO:=[oP 55 (oMv 14),oP 56 (.binOp .eql 142 (oTt 55) (oCi 2) 142)]
abbrev Qrd:LO:=[oP 57 (oMv 0),oP 58 (oMv 1),oP 59 (oMv 2),oP 60 (oMv 4),oP 61 (oCa 73 #[(oTt 57),(oTt 58),(oTt 59),(oTt 60)] #[29,3,3,113])]
abbrev Qpx:LO:=[oP 62 (oMv 2),oP 63 (.binOp .sub 3 (oTt 62) (oCi 1) 3),oP 64 (oMv 13),oP 65 (oMv 1),oP 66 (.binOp .sub 3 (oTt 64) (oTt 65) 3),oP 67 (.binOp .sub 3 (oTt 63) (oTt 66) 3),oP 13 (oAs 67)]
abbrev Qrv:LO:=[oP 14 (.assign (oCi 1))]
abbrev Qf2:LO:=[oP 68 (oMv 10),oP 69 (oMv 68),oG 1 true 70 (oMv 11),oP 71 (.pick (oTt 69) (oTt 70) (.const (.bool false))),oP 72 (oMv 71),oG 4 true 73 (oMv 14),oG 4 true 74 (.binOp .eql 142 (oTt 73) (oCi 1) 142),oP 75 (.pick (oTt 72) (oTt 74) (.const (.bool false)))]
def U9:LO:=Qf2
def Qfc:Code:=oRg U9
theorem Wv:oRQ Qfc U9 Qf2:=fun _ _=>rfl
theorem Wh:nth U9 1=some ⟨(some 69),.move (.tmp 68),0,"",#[],none⟩:=rfl
theorem Wl:nth U9 4=some ⟨(some 72),.move (.tmp 71),0,"",#[],none⟩:=rfl
abbrev Qqc:LO:=[oP 76 (oMv 0),oP 77 (oMv 1),oP 78 (oMv 2),oP 79 (oMv 4),oP 80 (oCa 74 #[(oTt 76),(oTt 77),(oTt 78),(oTt 79)] #[29,3,3,113])]
noncomputable def Quz:Array Oper:=Xhr (Xfo 17 (Yg 65))
def Qsg:Code:=.region 17 Quz true
abbrev Qqe:LO:=[oP 98 (oMv 0),oP 99 (oMv 1),oP 100 (oMv 2),oP 101 (oMv 13),oP 102 (oMv 4),oP 103 (oCa 75 #[(oTt 98),(oTt 99),(oTt 100),(oTt 101),(oTt 102)] #[29,3,3,3,113]),oP 15 (oAs 103)]
abbrev Qq0:LO:=[oP 104 (oMv 15),oP 1 (oAs 104)]
abbrev Qfl:Code:=oRg Qq0
def Qfi:Code:=.seq Qfl (.exit 1)
theorem Qa2:Jr (E b) C D0 rd Qfi s K=Jr (E b) C D0 rd Qfl s (Xar (Ysg (E b) C D0 rd (.exit 1) K) K):=rfl
abbrev Qrs:LO:=[oP 106 (oMv 0),oP 107 (oMv 1),oP 108 (oMv 2),oP 109 (oMv 13),oP 110 (oMv 4),oP 111 (oCa 76 #[(oTt 106),(oTt 107),(oTt 108),(oTt 109),(oTt 110)] #[29,3,3,3,113]),oP 105 (oMv 111),oP 112 (.extract (oTt 105) 0),oP 113 (.extract (oTt 105) 1),oP 16 (oAs 112),oP 17 (oAs 113)]
abbrev Qq9:LO:=[oP 114 (oMv 17),oP 11 (oAs 114)]
abbrev Qri:LO:=[oP 115 (oMv 16),oP 116 (oMv 1),oP 117 (.binOp .sub 3 (oTt 115) (oTt 116) 3),oP 118 (oMv 2),oP 119 (oMv 16),oP 120 (.binOp .sub 3 (oTt 118) (oTt 119) 3),oP 18 (oAs 117),oP 19 (oAs 120)]
abbrev Qqp:LO:=[oP 121 (oMv 12),oP 122 (.binOp .quo 3 (oTt 121) (oCi 8) 3),oP 20 (oAs 122)]
abbrev Qq5:LO:=[oP 123 (oMv 18),oP 124 (oMv 19),oP 125 (.binOp .lss 3 (oTt 123) (oTt 124) 3)]
abbrev Qqn:LO:=[oP 126 (oMv 18),oP 127 (oMv 20),oP 128 (.binOp .geq 3 (oTt 126) (oTt 127) 3),oP 10 (oAs 128)]
abbrev Qrx:LO:=[oP 129 (oMv 0),oP 130 (oMv 1),oP 131 (oMv 16),oP 132 (oMv 3),oP 133 (oMv 4),oP 134 (oCa 65 #[(oTt 129),(oTt 130),(oTt 131),(oTt 132),(oTt 133)] #[29,3,3,3,113])]
abbrev Qps:LO:=[oP 135 (oMv 16),oP 136 (.binOp .add 3 (oTt 135) (oCi 1) 3),oP 1 (oAs 136)]
abbrev Qqa:LO:=[oP 137 (oMv 19),oP 138 (oMv 20),oP 139 (.binOp .geq 3 (oTt 137) (oTt 138) 3),oP 10 (oAs 139)]
abbrev Qrp:LO:=[oP 140 (oMv 0),oP 141 (oMv 16),oP 142 (.binOp .add 3 (oTt 141) (oCi 1) 3),oP 143 (oMv 2),oP 144 (oMv 3),oP 145 (oMv 4),oP 146 (oCa 65 #[(oTt 140),(oTt 142),(oTt 143),(oTt 144),(oTt 145)] #[29,3,3,3,113])]
abbrev Qpy:LO:=[oP 147 (oMv 16),oP 2 (oAs 147)]
def Quh:Code:=.loop (.block 1 (.seq (oRg Qt0) (.seq (.seq (oRg Qu8) (.cond (.tmp 25) (.seq (oRg Qv7) .ret) .skip)) (.seq (.seq (oRg Qq4) (.cond (.tmp 32) (.seq (oRg Qqt) .ret) .skip)) (.seq (.seq (oRg Qr3) (.cond (.tmp 39) (.seq (oRg Qqo) (oRg Qqh)) .skip)) (.seq (oRg Qqb) (.seq (.seq (oRg Qqs) (.cond (.tmp 56) (.seq (oRg Qrd) (.seq (oRg Qpx) (oRg Qrv))) .skip)) (.seq (.seq Qfc (.cond (.tmp 75) (.seq (oRg Qqc) (.cond (.tmp 80) .ret .skip)) .skip)) (.seq (.seq Qsg (.cond (.tmp 97) (.seq (oRg Qqe) Qfi) .skip)) (.seq (oRg Qrs) (.seq (oRg Qq9) (.seq (oRg Qri) (.seq (oRg Qqp) (.seq (oRg Qq5) (.cond (.tmp 125) (.seq (oRg Qqn) (.seq (oRg Qrx) (oRg Qps))) (.seq (oRg Qqa) (.seq (oRg Qrp) (oRg Qpy))))))))))))))))))
def Vy:Code:=(.seq (oRg Qty) (.seq (oRg Qv6) (.block 0 Quh)))
theorem Qvv:Uu (Yg 65)=Vy:=by kernel_rfl
theorem Qpv:Us.body=some (Yg 65):=by kernel_rfl
theorem Qwc:Us.ntmps=148:=by kernel_rfl
theorem Qaw:Us.results.toList=[]:=by kernel_rfl
def Qdj:LO:=Ua
def Qdf:Code:=oRg Qdj
theorem Xz:oRQ Qdf Qdj Ua:=fun _ _=>rfl
def Qdk:LO:=Uc
def Qdm:Code:=oRg Qdk
theorem Xx:oRQ Qdm Qdk Uc:=fun _ _=>rfl
def Qdg:LO:=Ub
def Qdn:Code:=oRg Qdg
theorem Xy:oRQ Qdn Qdg Ub:=fun _ _=>rfl
noncomputable def Zp:Array Oper:=Xhr (Xfo 4 (Yg 69))
def Qmg:Code:=.region 4 Zp true
abbrev Ui:LO:=[oP 18 (oMv 9),oP 19 (oMv 1),oP 20 (.binOp .gtr 3 (oTt 18) (oTt 19) 3),oP 21 (oMv 20),oG 3 true 22 (oMv 3),oG 3 true 23 (oMv 0),oG 3 true 24 (oMv 9),oG 3 true 25 (oIx 29 23 24),oG 3 true 26 (oLd 36 25),oG 3 true 27 (oMv 0),oG 3 true 28 (oMv 9),oG 3 true 29 (.binOp .sub 3 (oTt 28) (oCi 1) 3),oG 3 true 30 (oIx 29 27 29),oG 3 true 31 (oLd 36 30),oG 3 true 32 (.call {callee:=.value (oTt 22),args:=#[(oTt 26),(oTt 31)],argTypes:=#[36,36]}),oG 3 true 33 (.binOp .lss 3 (oTt 32) (oCi 0) 3),oP 34 (.pick (oTt 21) (oTt 33) (.const (.bool false)))]
def Zo:LO:=Ui
theorem Qij:Zp.toList.map bare=Ui:=by kernel_rfl
theorem Qap:Zp.toList.map bare=Zo:=Qij
def Yq:List Nat:=[0,0,3,7,15,15,15,111,239,15,15,1039,3599,7695,16383,32767,65535]
theorem Qav:Q9k Zp.toList []=some Yq:=by kernel_rfl
theorem Qan:Qal Zp.toList Zp.toList Yq []=true:=by kernel_rfl
theorem Qb6(b:Nat)(L:List KE)(s:St):Ab.runT (E b) L Zo Yq Zo 0 s=Ab.runT (E b) L Zo Yq Ui 0 s:=rfl
theorem Qb9:nth Zo 3=some ⟨(some 21),.move (.tmp 20),0,"",#[],none⟩:=rfl
theorem Qb2(b:Nat):Wk (E b) 14 ((nth Yq 14).getD 0) Zo Yq 0=true:=by kernel_rfl
noncomputable def Zq:Array Oper:=Xhr (Xfo 6 (Yg 69))
def Qmd:Code:=.region 6 Zq true
abbrev Ug:LO:=[oP 37 (oMv 0),oP 38 (oMv 9),oP 39 (oMv 0),oP 40 (oMv 9),oP 41 (.binOp .sub 3 (oTt 40) (oCi 1) 3),oP 42 (oMv 0),oP 43 (oMv 9),oP 44 (.binOp .sub 3 (oTt 43) (oCi 1) 3),oP 45 (oIx 29 42 44),oP 46 (oLd 36 45),oP 47 (oMv 0),oP 48 (oMv 9),oP 49 (oIx 29 47 48),oP 50 (oLd 36 49),oP 51 (oIx 29 37 38),oN (.store 36 (oTt 51) (oTt 46)),oP 52 (oIx 29 39 41),oN (.store 36 (oTt 52) (oTt 50))]
def Zn:LO:=Ug
theorem Qho:Zq.toList.map bare=Ug:=by kernel_rfl
theorem Qh8:Zq.toList.map bare=Zn:=Qho
def Yh:List Nat:=[0,0,0,0,8,0,0,64,224,480,0,0,3072,7168,16355,32739,65535,131071]
theorem Qhy:Q9k Zq.toList []=some Yh:=by kernel_rfl
theorem Qh3:Qal Zq.toList Zq.toList Yh []=true:=by kernel_rfl
theorem Qjf(b:Nat)(L:List KE)(s:St):Ab.runT (E b) L Zn Yh Zn 0 s=Ab.runT (E b) L Zn Yh Ug 0 s:=rfl
theorem Qj2(b:Nat):Wk (E b) 15 ((nth Yh 15).getD 0) Zn Yh 0=true:=by kernel_rfl
theorem Qjl(b:Nat):Wk (E b) 17 ((nth Yh 17).getD 0) Zn Yh 0=true:=by kernel_rfl
def Qd2:LO:=U3
def Qd3:Code:=oRg Qd2
theorem Xs:oRQ Qd3 Qd2 U3:=fun _ _=>rfl
def Qlk:Code:=.loop (.seq (.seq Qmg (.cond (.tmp 34) .skip (.exit 2))) (.seq (.block 3 Qmd) Qd3))
def Qd0:LO:=U4
def Qcz:Code:=oRg Qd0
theorem Xt:oRQ Qcz Qd0 U4:=fun _ _=>rfl
def Qlp:Code:=.loop (.seq (.seq Qdm (.cond (.tmp 14) .skip (.exit 0))) (.seq (.block 1 (.seq Qdn (.block 2 Qlk))) Qcz))
def Xi:Code:=(.seq Qdf (.block 0 Qlp))
theorem Qmb:Uu (Yg 69)=Xi:=by kernel_rfl
theorem Qkz:Vh.body=some (Yg 69):=by kernel_rfl
theorem Qne:Vh.ntmps=53:=by kernel_rfl
theorem Y0:Vh.results.toList=[]:=by kernel_rfl
abbrev Qcp:LO:=[oP 1 (.box 65 (oTt 0)),oP 2 (.assign (.const .nilFunc))]
abbrev Qcl:LO:=[oP 3 (.makeFunc (.func 57) #[] #[(oTt 1)]),oP 2 (oAs 3)]
def Vm:Code:=(.seq (oRg Qcp) (.seq (oRg Qcl) .ret))
theorem Qda:Uu (Yg 43)=Vm:=by kernel_rfl
theorem Qbw:Zf.body=some (Yg 43):=by kernel_rfl
theorem Qdp:Zf.ntmps=4:=by kernel_rfl
theorem Qdb:Zf.results.toList=[.tmp 2]:=by kernel_rfl
abbrev Qc0:LO:=[oP 4 (oLd 65 1),oP 5 (.range 65 (oTt 4))]
abbrev Qc4:LO:=[oP 6 (.next (oTt 5) false),oP 7 (.extract (oTt 6) 0)]
abbrev Qc9:LO:=[oP 8 (.entry (oTt 5)),oP 9 (.extract (oTt 8) 0),oP 3 (.alloc 36),oN (.store 36 (oTt 3) (oTt 9))]
abbrev Qbz:LO:=[oP 10 (oMv 0),oP 11 (oLd 36 3),oP 12 (.call {callee:=.value (oTt 10),args:=#[(oTt 11)],argTypes:=#[36]}),oP 13 (.unOp .not 4 (oTt 12))]
def Qc2:Code:=.loop (.seq (oRg Qc4) (.seq (.cond (.tmp 7) .skip (.exit 0)) (.block 1 (.seq (oRg Qc9) (.seq (oRg Qbz) (.cond (.tmp 13) .ret .skip))))))
def Ye:Code:=(.seq (oRg Qc0) (.block 0 Qc2))
theorem Qcu:Uu (Yg 57)=Ye:=by kernel_rfl
theorem Qbp:Z9.body=some (Yg 57):=by kernel_rfl
theorem Qd6:Z9.ntmps=14:=by kernel_rfl
theorem Ys:Z9.results.toList=[]:=by kernel_rfl
def Q8p:LO:=Yb
def Q9b:Code:=oRg Q8p
theorem Wn:oRQ Q9b Q8p Yb:=fun _ _=>rfl
abbrev Xnf:LO:=[oP 6 (oMv 0),oP 7 (oBu .len #[(oTt 6)] #[29]),oP 8 (oMv 1),oP 9 (oBu .len #[(oTt 8)] #[29]),oP 10 (.binOp .neq 3 (oTt 7) (oTt 9) 3)]
def Q8x:LO:=Yb
def Q8q:Code:=oRg Q8x
theorem Ws:oRQ Q8q Q8x Yb:=fun _ _=>rfl
abbrev Xnp:LO:=[oP 5 (.assign (oCi 0))]
abbrev Xn4:LO:=[oP 11 (oMv 5),oP 12 (oMv 0),oP 13 (oBu .len #[(oTt 12)] #[29]),oP 14 (.binOp .lss 3 (oTt 11) (oTt 13) 3)]
noncomputable def Qfn:Array Oper:=Xhr (Xfo 6 (Yg 10))
def Xqu:Code:=.region 6 Qfn true
abbrev Qvq:LO:=[oP 17 (oMv 0),oP 18 (oMv 5),oP 19 (oIx 29 17 18),oP 20 (oLd 36 19),oP 21 (oMv 1),oP 22 (oMv 5),oP 23 (oIx 29 21 22),oP 24 (oLd 36 23),oP 25 (.binOp .eql 36 (oTt 20) (oTt 24) 36),oP 26 (.unOp .not 4 (oTt 25))]
def Qmz:LO:=Qvq
theorem Xcq:Qfn.toList.map bare=Qvq:=by kernel_rfl
theorem Q9r:Qfn.toList.map bare=Qmz:=Xcq
def Qfw:List Nat:=[0,0,3,7,0,0,48,112,255,511]
theorem Xdm:Q9k Qfn.toList []=some Qfw:=by kernel_rfl
theorem Xao:Qal Qfn.toList Qfn.toList Qfw []=true:=by kernel_rfl
theorem Xie(b:Nat)(L:List KE)(s:St):Ab.runT (E b) L Qmz Qfw Qmz 0 s=Ab.runT (E b) L Qmz Qfw Qvq 0 s:=rfl
def Q5v:LO:=Yb
def Q5u:Code:=oRg Q5v
theorem W0:oRQ Q5u Q5v Yb:=fun _ _=>rfl
abbrev Xmo:LO:=[oP 15 (oMv 5),oP 16 (.binOp .add 3 (oTt 15) (oCi 1) 3),oP 5 (oAs 16)]
def Xor:Code:=.loop (.seq (.seq (oRg Xn4) (.cond (.tmp 14) .skip (.exit 0))) (.seq (.block 1 (.seq Xqu (.cond (.tmp 26) (.seq Q5u .ret) .skip))) (oRg Xmo)))
def Q59:LO:=Qj0
def Q5m:Code:=oRg Q59
theorem Uz:oRQ Q5m Q59 Qj0:=fun _ _=>rfl
def Ul:Code:=(.seq Q9b (.seq (.seq (oRg Xnf) (.cond (.tmp 10) (.seq Q8q .ret) .skip)) (.seq (.seq (oRg Xnp) (.block 0 Xor)) (.seq Q5m .ret))))
theorem Xpt:Uu (Yg 10)=Ul:=by kernel_rfl
theorem Xml:Qv9.body=some (Yg 10):=by kernel_rfl
theorem Xsz:Qv9.ntmps=27:=by kernel_rfl
theorem Qb0:Qv9.results.toList=[.tmp 4]:=by kernel_rfl
def Xgz:LO:=Qy
def Xfw:Code:=oRg Xgz
theorem Qj1:oRQ Xfw Xgz Qy:=fun _ _=>rfl
def Xhc:LO:=Qz1
def Xg4:Code:=oRg Xhc
theorem Qjk:oRQ Xg4 Xhc Qz1:=fun _ _=>rfl
def Xhp:LO:=Je
def Xij:Code:=oRg Xhp
theorem Qja:oRQ Xij Xhp Je:=fun _ _=>rfl
abbrev Xbj:LO:=[oP 5 (oMv 4),oP 6 (oMv 0),oP 7 (oBu .len #[(oTt 6)] #[22]),oP 8 (.binOp .lss 3 (oTt 5) (oTt 7) 3),oP 9 (oMv 8),oG 4 true 10 (oMv 4),oG 4 true 11 (.binOp .lss 3 (oTt 10) (oCi 12) 3),oP 12 (.pick (oTt 9) (oTt 11) (.const (.bool false)))]
def Q3i:LO:=Xbj
def Xem:Code:=oRg Q3i
theorem Qjt:oRQ Xem Q3i Xbj:=fun _ _=>rfl
theorem Qgy:nth Q3i 4=some ⟨(some 9),.move (.tmp 8),0,"",#[],none⟩:=rfl
abbrev Xq2:LO:=[oP 15 (oMv 3),oP 16 (oMv 0),oP 17 (oMv 4),oP 18 (oIx 22 16 17),oP 19 (oLd 3 18),oP 20 (oCa 7 #[(oTt 19),(oCi 1000)] #[3,3]),oP 21 (.binOp .add 3 (oCi 1) (oTt 20) 3),oP 22 (.buildSlice 22 1 #[(0,(oTt 21))]),oP 23 (oBu .append #[(oTt 15),(oTt 22)] #[22,22]),oP 3 (oAs 23)]
abbrev Xq6:LO:=[oP 13 (oMv 4),oP 14 (.binOp .add 3 (oTt 13) (oCi 1) 3),oP 4 (oAs 14)]
def Xti:Code:=.loop (.seq (.seq Xem (.cond (.tmp 12) .skip (.exit 0))) (.seq (.block 1 (oRg Xq2)) (oRg Xq6)))
abbrev Xqx:LO:=[oP 24 (oMv 3),oP 2 (oAs 24)]
def Qfo:Code:=(.seq Xfw (.seq Xg4 (.seq (.seq Xij (.block 0 Xti)) (.seq (oRg Xqx) .ret))))
theorem Xxf:Uu (Yg 4)=Qfo:=by kernel_rfl
theorem Xqq:Qyk.body=some (Yg 4):=by kernel_rfl
theorem X05:Qyk.ntmps=25:=by kernel_rfl
theorem Qoo:Qyk.results.toList=[.tmp 2]:=by kernel_rfl
def Xxc:LO:=Quq
def Xwc:Code:=oRg Xxc
theorem Qe9:oRQ Xwc Xxc Quq:=fun _ _=>rfl
def Xx7:LO:=Qz1
def Xwf:Code:=oRg Xx7
theorem Qec:oRQ Xwf Xx7 Qz1:=fun _ _=>rfl
def Xxn:LO:=Je
def Xw7:Code:=oRg Xxn
theorem Qea:oRQ Xw7 Xxn Je:=fun _ _=>rfl
abbrev X7a:LO:=[oP 7 (oMv 4),oP 8 (oMv 0),oP 9 (oBu .len #[(oTt 8)] #[22]),oP 10 (.binOp .lss 3 (oTt 7) (oTt 9) 3)]
noncomputable def Qxo:Array Oper:=Xhr (Xfo 5 (Yg 5))
def Yfp:Code:=.region 5 Qxo true
abbrev Xaw:LO:=[oP 13 (oMv 3),oP 14 (oMv 0),oP 15 (oMv 4),oP 16 (oIx 22 14 15),oP 17 (oLd 3 16),oP 18 (oCa 13 #[(oCi 1)] #[3]),oP 19 (.build 46 #[(0,(oTt 17)),(1,(oTt 18))]),oP 20 (.buildSlice 42 1 #[(0,(oTt 19))]),oP 21 (oBu .append #[(oTt 13),(oTt 20)] #[42,42]),oP 3 (oAs 21)]
def Qw3:LO:=Xaw
theorem Xsu:Qxo.toList.map bare=Xaw:=by kernel_rfl
theorem Xr1:Qxo.toList.map bare=Qw3:=Xsu
def Qf7:List Nat:=[0,0,0,6,14,0,62,126,255,511]
theorem Xsr:Q9k Qxo.toList []=some Qf7:=by kernel_rfl
theorem Xq0:Qal Qxo.toList Qxo.toList Qf7 []=true:=by kernel_rfl
theorem Xwd(b:Nat)(L:List KE)(s:St):Ab.runT (E b) L Qw3 Qf7 Qw3 0 s=Ab.runT (E b) L Qw3 Qf7 Xaw 0 s:=rfl
theorem X1c(b:Nat):Wk (E b) 5 ((nth Qf7 5).getD 0) Qw3 Qf7 0=true:=by kernel_rfl
theorem Xzx(b:Nat):Wk (E b) 8 ((nth Qf7 8).getD 0) Qw3 Qf7 0=true:=by kernel_rfl
abbrev X6j:LO:=[oP 11 (oMv 4),oP 12 (.binOp .add 3 (oTt 11) (oCi 1) 3),oP 4 (oAs 12)]
def X6y:Code:=.loop (.seq (.seq (oRg X7a) (.cond (.tmp 10) .skip (.exit 0))) (.seq (.block 1 Yfp) (oRg X6j)))
abbrev X4f:LO:=[oP 22 (oMv 3),oP 23 (.buildSlice 43 4 #[(0,(.const (.int .u8 107))),(1,(.const (.int .u8 101))),(2,(.const (.int .u8 121))),(3,(.const (.int .u8 115)))]),oP 24 (.convert 43 43 (oTt 23)),oP 25 (oCa 15 #[(oTt 24)] #[43]),oP 26 (oCa 14 #[(oTt 22),(oTt 25)] #[42,49]),oP 5 (oAs 26)]
abbrev X3q:LO:=[oP 27 (oCa 16 #[(oCi 1)] #[3]),oP 6 (oAs 27)]
abbrev Xnl:LO:=[oP 28 (oMv 5),oP 29 (.binOp .eql 47 (oTt 28) (.const (.pointer none)) 47),oP 30 (oMv 29),oG 2 false 31 (oMv 6),oG 2 false 32 (.binOp .eql 24 (oTt 31) (.const (.pointer none)) 24),oP 33 (.pick (oTt 30) (.const (.bool true)) (oTt 32))]
def Xgp:LO:=Xnl
def Xrg:Code:=oRg Xgp
theorem Qbq:oRQ Xrg Xgp Xnl:=fun _ _=>rfl
theorem Qas:nth Xgp 2=some ⟨(some 30),.move (.tmp 29),0,"",#[],none⟩:=rfl
def Xri:LO:=Quq
def Xro:Code:=oRg Xri
theorem Qbr:oRQ Xro Xri Quq:=fun _ _=>rfl
abbrev X3c:LO:=[oP 34 (oMv 6),oP 35 (oMv 5),oP 36 (oCa 17 #[(oTt 34),(oTt 35)] #[24,47])]
abbrev X58:LO:=[oP 37 (oMv 6),oP 2 (oAs 37)]
def Qc3:Code:=(.seq Xwc (.seq Xwf (.seq (.seq Xw7 (.block 0 X6y)) (.seq (oRg X4f) (.seq (oRg X3q) (.seq (.seq Xrg (.cond (.tmp 33) (.seq Xro .ret) .skip)) (.seq (oRg X3c) (.seq (oRg X58) .ret))))))))
theorem Yco:Uu (Yg 5)=Qc3:=by kernel_rfl
theorem X6d:Xj0.body=some (Yg 5):=by kernel_rfl
theorem Yjx:Xj0.ntmps=38:=by kernel_rfl
theorem Qhg:Xj0.results.toList=[.tmp 2]:=by kernel_rfl
def Q0j:LO:=Yb
def Q0p:Code:=oRg Q0j
theorem Xv:oRQ Q0p Q0j Yb:=fun _ _=>rfl
abbrev Xhm:LO:=[oP 22 (oMv 0),oP 23 (oCa 4 #[(oTt 22)] #[22]),oP 5 (oAs 23)]
abbrev Xgx:LO:=[oP 24 (oMv 5),oP 25 (oCa 5 #[(oTt 24)] #[22]),oP 6 (oAs 25)]
abbrev Xhz:LO:=[oP 26 (oMv 6),oP 27 (.binOp .eql 24 (oTt 26) (.const (.pointer none)) 24)]
def Q0t:LO:=Yb
def Q0q:Code:=oRg Q0t
theorem Xu:oRQ Q0q Q0t Yb:=fun _ _=>rfl
abbrev Xd3:LO:=[oP 28 (oMv 6),oP 29 (oCa 6 #[(oTt 28)] #[24]),oP 7 (oAs 29)]
abbrev Xci:LO:=[oP 30 (oMv 7),oP 8 (oAs 30)]
abbrev Xde:LO:=[oP 31 (.makeSlice 22 (oCi 20) (oCi 20)),oP 9 (oAs 31)]
abbrev Xcs:LO:=[oP 10 (.assign (oCi 0))]
abbrev Qxl:LO:=[oP 32 (oMv 10),oP 33 (oMv 1),oP 34 (oBu .len #[(oTt 33)] #[22]),oP 35 (.binOp .lss 3 (oTt 32) (oTt 34) 3),oP 36 (oMv 35),oG 4 true 37 (oMv 10),oG 4 true 38 (.binOp .lss 3 (oTt 37) (oCi 20) 3),oP 39 (.pick (oTt 36) (oTt 38) (.const (.bool false)))]
def Qo0:LO:=Qxl
def Qzk:Code:=oRg Qo0
theorem Xn:oRQ Qzk Qo0 Qxl:=fun _ _=>rfl
theorem X5:nth Qo0 4=some ⟨(some 36),.move (.tmp 35),0,"",#[],none⟩:=rfl
abbrev Xcw:LO:=[oP 42 (oMv 1),oP 43 (oMv 10),oP 44 (oIx 22 42 43),oP 45 (oLd 3 44),oP 46 (oCa 7 #[(oTt 45),(oCi 3000)] #[3,3]),oP 11 (oAs 46)]
abbrev Xca:LO:=[oP 47 (oMv 11),oP 48 (.binOp .eql 3 (oTt 47) (oCi 0) 3)]
abbrev Qxe:LO:=[oP 49 (oMv 6),oP 50 (oMv 10),oP 51 (.binOp .sub 3 (oTt 50) (oCi 1) 3),oP 52 (oCa 8 #[(oTt 49),(oTt 51)] #[24,3]),oP 53 (oMv 10),oP 54 (.binOp .gtr 3 (oTt 53) (oCi 0) 3),oP 55 (oMv 54),oG 6 true 56 (oMv 9),oG 6 true 57 (oMv 10),oG 6 true 58 (.binOp .sub 3 (oTt 57) (oCi 1) 3),oG 6 true 59 (oIx 22 56 58),oG 6 true 60 (oLd 3 59),oG 6 true 61 (.binOp .gtr 3 (oTt 60) (oCi 0) 3),oP 62 (.pick (oTt 55) (oTt 61) (.const (.bool false))),oP 63 (.binOp .neq 4 (oTt 52) (oTt 62) 4)]
def Qop:LO:=Qxe
def Qzh:Code:=oRg Qop
theorem Xo:oRQ Qzh Qop Qxe:=fun _ _=>rfl
theorem Xa:nth Qop 6=some ⟨(some 55),.move (.tmp 54),0,"",#[],none⟩:=rfl
def Qyy:LO:=Yb
def Qze:Code:=oRg Qyy
theorem Xk:oRQ Qze Qyy Yb:=fun _ _=>rfl
abbrev Xdq:LO:=[oP 64 (oMv 10),oP 65 (.binOp .gtr 3 (oTt 64) (oCi 0) 3)]
abbrev Xcd:LO:=[oP 66 (oMv 8),oP 67 (oMv 9),oP 68 (oMv 10),oP 69 (.binOp .sub 3 (oTt 68) (oCi 1) 3),oP 70 (oIx 22 67 69),oP 71 (oLd 3 70),oP 72 (.binOp .add 3 (oTt 66) (oTt 71) 3),oP 8 (oAs 72)]
abbrev Xc7:LO:=[oP 73 (oMv 9),oP 74 (oMv 10),oP 75 (.binOp .sub 3 (oTt 74) (oCi 1) 3),oP 76 (oIx 22 73 75),oN (.store 3 (oTt 76) (oCi 0))]
abbrev Qzm:Code:=.seq (oRg Xdq) (.cond (.tmp 65) (.seq (oRg Xcd) (oRg Xc7)) .skip)
def Qyw:Code:=.seq Qzm (.exit 1)
theorem Xg:Jr (E b) C D0 rd Qyw s K=Jr (E b) C D0 rd Qzm s (Xar (Ysg (E b) C D0 rd (.exit 1) K) K):=rfl
abbrev Xd5:LO:=[oP 78 (oMv 6),oP 79 (oMv 10),oP 80 (oMv 11),oP 81 (oCa 9 #[(oTt 78),(oTt 79),(oTt 80)] #[24,3,3]),oP 77 (oMv 81),oP 82 (.extract (oTt 77) 0),oP 83 (.extract (oTt 77) 1),oP 84 (.extract (oTt 77) 2),oP 12 (oAs 82),oP 13 (oAs 83),oP 14 (oAs 84)]
abbrev Xea:LO:=[oP 85 (oMv 14),oP 86 (.binOp .neq 30 (oTt 85) (oCi 0) 30)]
abbrev Qx8:LO:=[oP 87 (oMv 14),oP 88 (.binOp .neq 30 (oTt 87) (oCi 22) 30),oP 89 (oMv 88),oG 2 false 90 (oMv 12),oG 2 false 91 (oBu .len #[(oTt 90)] #[29]),oG 2 false 92 (.binOp .gtr 3 (oTt 91) (oCi 0) 3),oP 93 (.pick (oTt 89) (.const (.bool true)) (oTt 92)),oP 94 (oMv 93),oG 7 false 95 (oMv 6),oG 7 false 96 (oCa 6 #[(oTt 95)] #[24]),oG 7 false 97 (oMv 8),oG 7 false 98 (.binOp .neq 3 (oTt 96) (oTt 97) 3),oP 99 (.pick (oTt 94) (.const (.bool true)) (oTt 98))]
def Qgi:LO:=Qx8
def Qz7:Code:=oRg Qgi
theorem Xq:oRQ Qz7 Qgi Qx8:=fun _ _=>rfl
theorem X9:nth Qgi 2=some ⟨(some 89),.move (.tmp 88),0,"",#[],none⟩:=rfl
theorem Xc:nth Qgi 7=some ⟨(some 94),.move (.tmp 93),0,"",#[],none⟩:=rfl
def Qz3:LO:=Yb
def Qyu:Code:=oRg Qz3
theorem Xl:oRQ Qyu Qz3 Yb:=fun _ _=>rfl
abbrev Qzo:Code:=.seq Qz7 (.cond (.tmp 99) (.seq Qyu .ret) .skip)
def Qzp:Code:=.seq Qzo (.exit 1)
theorem Xp:Jr (E b) C D0 rd Qzp s K=Jr (E b) C D0 rd Qzo s (Xar (Ysg (E b) C D0 rd (.exit 1) K) K):=rfl
abbrev Xd2:LO:=[oP 15 (.assign (oCi 0))]
abbrev Xe7:LO:=[oP 16 (.assign (oCi 0))]
abbrev Xch:LO:=[oP 100 (oMv 16),oP 101 (oMv 12),oP 102 (oBu .len #[(oTt 101)] #[29]),oP 103 (.binOp .lss 3 (oTt 100) (oTt 102) 3)]
abbrev Xeg:LO:=[oP 106 (oMv 15),oP 107 (oMv 5),oP 108 (oMv 12),oP 109 (oMv 16),oP 110 (oIx 29 108 109),oP 111 (oFa 36 110 1),oP 112 (oLd 3 111),oP 113 (oIx 22 107 112),oP 114 (oLd 3 113),oP 115 (.binOp .add 3 (oTt 106) (oTt 114) 3),oP 15 (oAs 115)]
abbrev Xeb:LO:=[oP 104 (oMv 16),oP 105 (.binOp .add 3 (oTt 104) (oCi 1) 3),oP 16 (oAs 105)]
def Xgl:Code:=.loop (.seq (.seq (oRg Xch) (.cond (.tmp 103) .skip (.exit 2))) (.seq (.block 3 (oRg Xeg)) (oRg Xeb)))
abbrev Qxi:LO:=[oP 116 (oMv 15),oP 117 (oMv 13),oP 118 (.binOp .neq 3 (oTt 116) (oTt 117) 3),oP 119 (oMv 118),oG 3 false 120 (oMv 13),oG 3 false 121 (oMv 11),oG 3 false 122 (.binOp .lss 3 (oTt 120) (oTt 121) 3),oP 123 (.pick (oTt 119) (.const (.bool true)) (oTt 122)),oP 124 (oMv 123),oG 8 false 125 (oMv 12),oG 8 false 126 (oBu .len #[(oTt 125)] #[29]),oG 8 false 127 (.binOp .lss 3 (oTt 126) (oCi 1) 3),oP 128 (.pick (oTt 124) (.const (.bool true)) (oTt 127)),oP 129 (oMv 128),oG 13 false 130 (oMv 12),oG 13 false 131 (oBu .len #[(oTt 130)] #[29]),oG 13 false 132 (.binOp .gtr 3 (oTt 131) (oCi 3) 3),oP 133 (.pick (oTt 129) (.const (.bool true)) (oTt 132)),oP 134 (oMv 133),oG 18 false 135 (oMv 13),oG 18 false 136 (oMv 5),oG 18 false 137 (oMv 12),oG 18 false 138 (oMv 12),oG 18 false 139 (oBu .len #[(oTt 138)] #[29]),oG 18 false 140 (.binOp .sub 3 (oTt 139) (oCi 1) 3),oG 18 false 141 (oIx 29 137 140),oG 18 false 142 (oFa 36 141 1),oG 18 false 143 (oLd 3 142),oG 18 false 144 (oIx 22 136 143),oG 18 false 145 (oLd 3 144),oG 18 false 146 (.binOp .sub 3 (oTt 135) (oTt 145) 3),oG 18 false 147 (oMv 11),oG 18 false 148 (.binOp .geq 3 (oTt 146) (oTt 147) 3),oP 149 (.pick (oTt 134) (.const (.bool true)) (oTt 148)),oP 150 (oMv 149),oG 34 false 151 (oMv 6),oG 34 false 152 (oMv 10),oG 34 false 153 (oCa 11 #[(oTt 151),(oTt 152)] #[24,3]),oG 34 false 154 (oMv 12),oG 34 false 155 (oCa 10 #[(oTt 153),(oTt 154)] #[29,29]),oG 34 false 156 (.unOp .not 4 (oTt 155)),oP 157 (.pick (oTt 150) (.const (.bool true)) (oTt 156))]
def Wf:LO:=Qxi
def Qz5:Code:=oRg Wf
theorem Xh:oRQ Qz5 Wf Qxi:=fun _ _=>rfl
theorem X7:nth Wf 3=some ⟨(some 119),.move (.tmp 118),0,"",#[],none⟩:=rfl
theorem X4:nth Wf 8=some ⟨(some 124),.move (.tmp 123),0,"",#[],none⟩:=rfl
theorem X2:nth Wf 13=some ⟨(some 129),.move (.tmp 128),0,"",#[],none⟩:=rfl
theorem X3:nth Wf 18=some ⟨(some 134),.move (.tmp 133),0,"",#[],none⟩:=rfl
theorem X1:nth Wf 34=some ⟨(some 150),.move (.tmp 149),0,"",#[],none⟩:=rfl
def Qz4:LO:=Yb
def Qzj:Code:=oRg Qz4
theorem Xm:oRQ Qzj Qz4 Yb:=fun _ _=>rfl
abbrev Xdh:LO:=[oP 158 (oMv 9),oP 159 (oMv 10),oP 160 (oMv 13),oP 161 (oIx 22 158 159),oN (.store 3 (oTt 161) (oTt 160))]
abbrev Xdn:LO:=[oP 162 (oMv 8),oP 163 (oMv 13),oP 164 (.binOp .sub 3 (oTt 162) (oTt 163) 3),oP 8 (oAs 164)]
abbrev Xe6:LO:=[oP 165 (oMv 6),oP 166 (oCa 6 #[(oTt 165)] #[24]),oP 167 (oMv 8),oP 168 (.binOp .neq 3 (oTt 166) (oTt 167) 3)]
def Qyt:LO:=Yb
def Qys:Code:=oRg Qyt
theorem Xj:oRQ Qys Qyt Yb:=fun _ _=>rfl
abbrev Xdi:LO:=[oP 40 (oMv 10),oP 41 (.binOp .add 3 (oTt 40) (oCi 1) 3),oP 10 (oAs 41)]
def Xfc:Code:=.loop (.seq (.seq Qzk (.cond (.tmp 39) .skip (.exit 0))) (.seq (.block 1 (.seq (oRg Xcw) (.seq (.seq (oRg Xca) (.cond (.tmp 48) (.seq (.seq Qzh (.cond (.tmp 63) (.seq Qze .ret) .skip)) Qyw) .skip)) (.seq (oRg Xd5) (.seq (.seq (oRg Xea) (.cond (.tmp 86) Qzp .skip)) (.seq (oRg Xd2) (.seq (.seq (oRg Xe7) (.block 2 Xgl)) (.seq (.seq Qz5 (.cond (.tmp 157) (.seq Qzj .ret) .skip)) (.seq (oRg Xdh) (.seq (oRg Xdn) (.seq (oRg Xe6) (.cond (.tmp 168) (.seq Qys .ret) .skip)))))))))))) (oRg Xdi)))
abbrev Xcz:LO:=[oP 169 (oMv 5),oP 170 (oBu .len #[(oTt 169)] #[22]),oP 171 (.makeSlice 39 (oTt 170) (oTt 170)),oP 17 (oAs 171)]
abbrev Qz9:Code:=oRg Xcz
abbrev Xc6:LO:=[oP 18 (.assign (oCi 0))]
abbrev Xdg:LO:=[oP 172 (oMv 18),oP 173 (.binOp .lss 3 (oTt 172) (oCi 20) 3)]
abbrev Xbx:LO:=[oP 176 (oMv 6),oP 177 (oMv 18),oP 178 (oCa 11 #[(oTt 176),(oTt 177)] #[24,3]),oP 19 (oAs 178)]
abbrev Xaf:LO:=[oP 20 (.assign (oCi 0))]
abbrev Xb1:LO:=[oP 179 (oMv 20),oP 180 (oMv 19),oP 181 (oBu .len #[(oTt 180)] #[29]),oP 182 (.binOp .lss 3 (oTt 179) (oTt 181) 3)]
abbrev Q9m:LO:=[oP 185 (oMv 17),oP 186 (oMv 19),oP 187 (oMv 20),oP 188 (oIx 29 186 187),oP 189 (oFa 36 188 1),oP 190 (oLd 3 189),oP 191 (oIx 39 185 190),oP 192 (oLd 4 191)]
def Qxm:LO:=Yb
def Qxh:Code:=oRg Qxm
theorem X8:oRQ Qxh Qxm Yb:=fun _ _=>rfl
abbrev Xa2:LO:=[oP 193 (oMv 17),oP 194 (oMv 19),oP 195 (oMv 20),oP 196 (oIx 29 194 195),oP 197 (oFa 36 196 1),oP 198 (oLd 3 197),oP 199 (oIx 39 193 198),oN (.store 4 (oTt 199) (.const (.bool true)))]
abbrev Q9l:LO:=[oP 183 (oMv 20),oP 184 (.binOp .add 3 (oTt 183) (oCi 1) 3),oP 20 (oAs 184)]
def Xbv:Code:=.loop (.seq (.seq (oRg Xb1) (.cond (.tmp 182) .skip (.exit 6))) (.seq (.block 7 (.seq (.seq (oRg Q9m) (.cond (.tmp 192) (.seq Qxh .ret) .skip)) (oRg Xa2))) (oRg Q9l)))
abbrev Xb2:LO:=[oP 174 (oMv 18),oP 175 (.binOp .add 3 (oTt 174) (oCi 1) 3),oP 18 (oAs 175)]
def Xco:Code:=.loop (.seq (.seq (oRg Xdg) (.cond (.tmp 173) .skip (.exit 4))) (.seq (.block 5 (.seq (oRg Xbx) (.seq (oRg Xaf) (.block 6 Xbv)))) (oRg Xb2)))
abbrev Q9z:LO:=[oP 21 (.assign (oCi 0))]
abbrev Xa4:LO:=[oP 200 (oMv 21),oP 201 (.binOp .lss 3 (oTt 200) (oCi 20) 3)]
abbrev Xa5:LO:=[oP 204 (oMv 6),oP 205 (oMv 21),oP 206 (oCa 8 #[(oTt 204),(oTt 205)] #[24,3])]
abbrev Q9p:LO:=[oP 202 (oMv 21),oP 203 (.binOp .add 3 (oTt 202) (oCi 1) 3),oP 21 (oAs 203)]
def Xbw:Code:=.loop (.seq (.seq (oRg Xa4) (.cond (.tmp 201) .skip (.exit 8))) (.seq (.block 9 (oRg Xa5)) (oRg Q9p)))
abbrev Qx9:Code:=.seq (oRg Q9z) (.block 8 Xbw)
abbrev Qwe:LO:=[oP 207 (oMv 6),oP 208 (oCa 6 #[(oTt 207)] #[24]),oP 209 (oMv 7),oP 210 (.binOp .eql 3 (oTt 208) (oTt 209) 3),oP 211 (oMv 210),oG 4 true 212 (oCa 12 #[] #[]),oP 213 (.pick (oTt 211) (oTt 212) (.const (.bool false))),oP 4 (oAs 213)]
def Qm6:LO:=Qwe
def Qxk:Code:=oRg Qm6
theorem X6:oRQ Qxk Qm6 Qwe:=fun _ _=>rfl
theorem Qz:nth Qm6 4=some ⟨(some 211),.move (.tmp 210),0,"",#[],none⟩:=rfl
abbrev Qxj:Code:=.seq Qxk .ret
def Qmm:Code:=.seq Qx9 Qxj
theorem Qs:oSQ Qmm Qx9 Qxj:=fun _ _=>rfl
abbrev Qxc:Code:=.seq (.seq (oRg Xc6) (.block 4 Xco)) Qmm
def Qgq:Code:=.seq Qz9 Qxc
theorem Qo:oSQ Qgq Qz9 Qxc:=fun _ _=>rfl
def Xr:Code:=(.seq Q0p (.seq (oRg Xhm) (.seq (oRg Xgx) (.seq (.seq (oRg Xhz) (.cond (.tmp 27) (.seq Q0q .ret) .skip)) (.seq (oRg Xd3) (.seq (oRg Xci) (.seq (oRg Xde) (.seq (.seq (oRg Xcs) (.block 0 Xfc)) Qgq))))))))
theorem Xki:Uu (Yg 3)=Xr:=by kernel_rfl
theorem Xdo:Qax.body=some (Yg 3):=by kernel_rfl
theorem Xlz:Qax.ntmps=214:=by kernel_rfl
theorem Y4:Qax.results.toList=[.tmp 4]:=by kernel_rfl
end Go.Proofs.YtcnhfkplgknomaaDoor
end
