/-
  Facts of the functions' code and of the types, printed by a program (ShD).
-/
import Derived.Test.YtcokebbiblnonaaDoorFactsR
import Derived.Test.YtcokebbiblnonaaDoorFactsL
set_option linter.all false
noncomputable section
namespace Go.Proofs.YtcokebbiblnonaaDoor
open Go Go.Ab
set_option maxRecDepth 100000
variable{b:Nat}{C:CallP}{D0:CallF}{rd:Option Nat}(s:St)(K:Exit→St→Prop)
noncomputable def Xtd:Func:=(Tryd.prog.funcs[29]?).getD default
theorem Qs2(b:Nat):(mkE Tryd.prog nv b).fn.get 29=some Xtd:=by kernel_rfl
noncomputable def Yaj:Func:=(Tryd.prog.funcs[14]?).getD default
theorem Ql4(b:Nat):(mkE Tryd.prog nv b).fn.get 14=some Yaj:=by kernel_rfl
noncomputable def Xdp:Func:=(Tryd.prog.funcs[47]?).getD default
theorem Yd(b:Nat):(mkE Tryd.prog nv b).fn.get 47=some Xdp:=by kernel_rfl
theorem Qb6(b bk o:Nat):Qjg (E b).toEnv 72 (.pointer (some ⟨bk,o,none⟩)) 1=some (.pointer (some ⟨bk,o+3,none⟩)):=by kernel_rfl
noncomputable def R70:TyRec:=((mkE Tryd.prog nv 0).ty.get 70).getD ⟨.invalid,0,0, .bool false,[]⟩
theorem Zfs(b:Nat):(E b).toEnv.ty.get 70=some R70:=by kernel_rfl
theorem Zl7:Q2w R70.desc=false:=by kernel_rfl
theorem Y7z:R70.size=1:=by kernel_rfl
noncomputable def R89:TyRec:=((mkE Tryd.prog nv 0).ty.get 89).getD ⟨.invalid,0,0, .bool false,[]⟩
theorem Zkl(b:Nat):(E b).toEnv.ty.get 89=some R89:=by kernel_rfl
theorem Zkd:Q2w R89.desc=true:=by kernel_rfl
theorem Yam:R89.size=69:=by kernel_rfl
theorem T70(b:Nat):SlTy (E b).toEnv 89 70 R89 R70:=⟨Zkl b,Zfs b,by kernel_rfl⟩
theorem Qnp(b:Nat)(h:Heap)(bk o:Nat):Xhb (E b).toEnv 70 (.pointer (some ⟨bk,o,none⟩)) h=Qhe h bk o:=Yw4 (Zfs b) Zl7
theorem Qwa(b:Nat)(a:Option Addr)(n c:Nat)(h:Heap):Yl8 (E b).toEnv 70 (.slice a n c) h=some (.int .i64 n):=by kernel_rfl
theorem Qnq(b:Nat){bk o n c:Nat}{k:IntKind}{i:Int}(h:0≤i∧i < n):Vo (E b).toEnv 70 (.slice (some ⟨bk,o,none⟩) n c) (.int k i)=some (.pointer (some ⟨bk,o+i.toNat*69,none⟩)):=Qyu (T70 b) Yam h
theorem Qgc(b bk o:Nat):Qjg (E b).toEnv 89 (.pointer (some ⟨bk,o,none⟩)) 0=some (.pointer (some ⟨bk,o+0,none⟩)):=by kernel_rfl
theorem Qn5(b bk o:Nat):Qjg (E b).toEnv 74 (.pointer (some ⟨bk,o,none⟩)) 1=some (.pointer (some ⟨bk,o+1,none⟩)):=by kernel_rfl
noncomputable def Qyz:Func:=(Tryd.prog.funcs[36]?).getD default
theorem Qt(b:Nat):(mkE Tryd.prog nv b).fn.get 36=some Qyz:=by kernel_rfl
theorem Yfl(b bk o:Nat):Qjg (E b).toEnv 72 (.pointer (some ⟨bk,o,none⟩)) 0=some (.pointer (some ⟨bk,o+0,none⟩)):=by kernel_rfl
theorem Q8o(b:Nat)(h:Heap)(bk o:Nat):Xhb (E b).toEnv 89 (.pointer (some ⟨bk,o,none⟩)) h=Qte h bk o 69:=Y02 (Zkl b) Zkd Yam
theorem Yq9(b:Nat)(h:Heap):Q10 (E b).toEnv 89 h=some (.pointer (some ⟨h.next,0,none⟩),h.push (.cells true 1 [(.int .i64 0),(.int .i64 0),(.int .i64 0),(.int .i64 0),(.int .u8 0),(.int .u8 0),(.int .u8 0),(.int .u8 0),(.int .u8 0),(.int .u8 0),(.int .u8 0),(.int .u8 0),(.int .u8 0),(.int .u8 0),(.int .u8 0),(.int .u8 0),(.int .u8 0),(.int .u8 0),(.int .u8 0),(.int .u8 0),(.int .u8 0),(.int .u8 0),(.int .u8 0),(.int .u8 0),(.int .u8 0),(.int .u8 0),(.int .u8 0),(.int .u8 0),(.int .u8 0),(.int .u8 0),(.int .u8 0),(.int .u8 0),(.int .u8 0),(.int .u8 0),(.int .u8 0),(.int .u8 0),(.int .i64 0),(.int .u8 0),(.int .u8 0),(.int .u8 0),(.int .u8 0),(.int .u8 0),(.int .u8 0),(.int .u8 0),(.int .u8 0),(.int .u8 0),(.int .u8 0),(.int .u8 0),(.int .u8 0),(.int .u8 0),(.int .u8 0),(.int .u8 0),(.int .u8 0),(.int .u8 0),(.int .u8 0),(.int .u8 0),(.int .u8 0),(.int .u8 0),(.int .u8 0),(.int .u8 0),(.int .u8 0),(.int .u8 0),(.int .u8 0),(.int .u8 0),(.int .u8 0),(.int .u8 0),(.int .u8 0),(.int .u8 0),(.int .u8 0)])):=by kernel_rfl
theorem Y3d(b:Nat)(h:Heap)(bk o:Nat)(l:List Value)(hl:l.length=69):Q8p (E b).toEnv 89 (.pointer (some ⟨bk,o,none⟩)) (.agg ⟨l⟩) h=Qtd h bk o l:=Y3k (Zkl b) (by rw[Yam];exact hl)
theorem Qnn(b bk o:Nat):Qjg (E b).toEnv 74 (.pointer (some ⟨bk,o,none⟩)) 0=some (.pointer (some ⟨bk,o+0,none⟩)):=by kernel_rfl
theorem Qlk(b bk o:Nat):Qjg (E b).toEnv 89 (.pointer (some ⟨bk,o,none⟩)) 1=some (.pointer (some ⟨bk,o+36,none⟩)):=by kernel_rfl
theorem Qm1(b bk o:Nat):Qjg (E b).toEnv 74 (.pointer (some ⟨bk,o,none⟩)) 2=some (.pointer (some ⟨bk,o+2,none⟩)):=by kernel_rfl
noncomputable def Qyr:Func:=(Tryd.prog.funcs[37]?).getD default
theorem Qs(b:Nat):(mkE Tryd.prog nv b).fn.get 37=some Qyr:=by kernel_rfl
noncomputable def R74:TyRec:=((mkE Tryd.prog nv 0).ty.get 74).getD ⟨.invalid,0,0, .bool false,[]⟩
theorem Zmo(b:Nat):(E b).toEnv.ty.get 74=some R74:=by kernel_rfl
theorem Zk3:Q2w R74.desc=true:=by kernel_rfl
theorem Ykl:R74.size=36:=by kernel_rfl
theorem Qqx(b:Nat)(h:Heap)(bk o:Nat):Xhb (E b).toEnv 74 (.pointer (some ⟨bk,o,none⟩)) h=Qte h bk o 36:=Y02 (Zmo b) Zk3 Ykl
noncomputable def R77:TyRec:=((mkE Tryd.prog nv 0).ty.get 77).getD ⟨.invalid,0,0, .bool false,[]⟩
theorem Zq2(b:Nat):(E b).toEnv.ty.get 77=some R77:=by kernel_rfl
theorem T77(b:Nat):SlTy (E b).toEnv 74 77 R74 R77:=⟨Zmo b,Zq2 b,by kernel_rfl⟩
noncomputable def Q6g:Func:=(Tryd.prog.funcs[38]?).getD default
theorem V8(b:Nat):(mkE Tryd.prog nv b).fn.get 38=some Q6g:=by kernel_rfl
theorem Qub(b:Nat)(a:Option Addr)(n c:Nat)(h:Heap):Yl8 (E b).toEnv 77 (.slice a n c) h=some (.int .i64 n):=by kernel_rfl
theorem Xup(b:Nat){bk o n c:Nat}{k:IntKind}{i:Int}(h:0≤i∧i < n):Vo (E b).toEnv 77 (.slice (some ⟨bk,o,none⟩) n c) (.int k i)=some (.pointer (some ⟨bk,o+i.toNat*36,none⟩)):=Qyu (T77 b) Ykl h
noncomputable def Q03:Func:=(Tryd.prog.funcs[30]?).getD default
theorem Yf(b:Nat):(mkE Tryd.prog nv b).fn.get 30=some Q03:=by kernel_rfl
theorem Qo9(b bk o:Nat):Qjg (E b).toEnv 74 (.pointer (some ⟨bk,o,none⟩)) 3=some (.pointer (some ⟨bk,o+3,none⟩)):=by kernel_rfl
theorem Zpy(b:Nat)(h:Heap)(bk o:Nat)(v:Value)(hv:Y8h v=true):Q8p (E b).toEnv 70 (.pointer (some ⟨bk,o,none⟩)) v h=Qtd h bk o [v]:=Yzv (Zfs b) Y7z hv
theorem Qp8(b:Nat)(h:Heap)(bk o:Nat)(a:Option Addr)(n c:Nat):Q8p (E b).toEnv 70 (.pointer (some ⟨bk,o,none⟩)) (.slice a n c) h=Qtd h bk o [(.slice a n c)]:=Yzv (Zfs b) Y7z rfl
noncomputable def Q0k:Func:=(Tryd.prog.funcs[32]?).getD default
theorem Yp(b:Nat):(mkE Tryd.prog nv b).fn.get 32=some Q0k:=by kernel_rfl
theorem Xqo(b bk o:Nat):Qjg (E b).toEnv 74 (.pointer (some ⟨bk,o,none⟩)) 4=some (.pointer (some ⟨bk,o+4,none⟩)):=by kernel_rfl
theorem Xd1(b bk o:Nat):Qjg (E b).toEnv 89 (.pointer (some ⟨bk,o,none⟩)) 2=some (.pointer (some ⟨bk,o+37,none⟩)):=by kernel_rfl
noncomputable def Q6j:Func:=(Tryd.prog.funcs[33]?).getD default
theorem Vl(b:Nat):(mkE Tryd.prog nv b).fn.get 33=some Q6j:=by kernel_rfl
noncomputable def Q0v:Func:=(Tryd.prog.funcs[34]?).getD default
theorem V9(b:Nat):(mkE Tryd.prog nv b).fn.get 34=some Q0v:=by kernel_rfl
noncomputable def Q9u:Func:=(Tryd.prog.funcs[39]?).getD default
theorem V7(b:Nat):(mkE Tryd.prog nv b).fn.get 39=some Q9u:=by kernel_rfl
theorem Q9q(b:Nat)(h:Heap):Q10 (E b).toEnv 74 h=some (.pointer (some ⟨h.next,0,none⟩),h.push (.cells true 1 [(.int .i64 0),(.int .i64 0),(.int .i64 0),(.int .i64 0),(.int .u8 0),(.int .u8 0),(.int .u8 0),(.int .u8 0),(.int .u8 0),(.int .u8 0),(.int .u8 0),(.int .u8 0),(.int .u8 0),(.int .u8 0),(.int .u8 0),(.int .u8 0),(.int .u8 0),(.int .u8 0),(.int .u8 0),(.int .u8 0),(.int .u8 0),(.int .u8 0),(.int .u8 0),(.int .u8 0),(.int .u8 0),(.int .u8 0),(.int .u8 0),(.int .u8 0),(.int .u8 0),(.int .u8 0),(.int .u8 0),(.int .u8 0),(.int .u8 0),(.int .u8 0),(.int .u8 0),(.int .u8 0)])):=by kernel_rfl
theorem Xot(b:Nat)(h:Heap)(bk o:Nat)(l:List Value)(hl:l.length=36):Q8p (E b).toEnv 74 (.pointer (some ⟨bk,o,none⟩)) (.agg ⟨l⟩) h=Qtd h bk o l:=Y3k (Zmo b) (by rw[Ykl];exact hl)
noncomputable def Q0h:Func:=(Tryd.prog.funcs[40]?).getD default
theorem V3(b:Nat):(mkE Tryd.prog nv b).fn.get 40=some Q0h:=by kernel_rfl
abbrev Yd3:List Oper := [oP 2 (.assign (.const (.bool false)))]
def Yk1:List Oper:=Yd3
def X11:Code := .region 0 Yk1.toArray false
theorem Xst:Q0 (E b) C D0 rd X11 s K=Qac (E b) C rd Yk1 K Yd3 s:=rfl
abbrev Ybz:List Oper := [oP 3 (.move (.tmp 0)),
  oP 4 (.binOp Go.BinOp.geq 3 (.tmp 3) (.const (.int .i64 0)) 3),
  oP 5 (.move (.tmp 4)),
  oG 2 true 6 (.move (.tmp 0)),
  oG 2 true 7 (.binOp Go.BinOp.leq 3 (.tmp 6) (.const (.int .i64 1125899906842624)) 3),
  oP 8 (.pick (.tmp 5) (.tmp 7) (.const (.bool false))),
  oP 2 (.assign (.tmp 8))]
def X4n:List Oper:=Ybz
def X56:Code := .region 0 X4n.toArray false
theorem Xsn:Q0 (E b) C D0 rd X56 s K=Qac (E b) C rd X4n K Ybz s:=rfl
theorem Xqe:nth X4n 2=some ⟨(some 5), .move (.tmp 4),0,"",#[],none⟩:=rfl
def X0n:Code := .seq X56 .ret
theorem Xsl:Q0 (E b) C D0 rd X0n s K=Q0 (E b) C D0 rd X56 s (Yg (Vr (E b) C D0 rd .ret K) K):=rfl
def Yem:Code := .seq X11 X0n
theorem Xsw:Q0 (E b) C D0 rd Yem s K=Q0 (E b) C D0 rd X11 s (Yg (Vr (E b) C D0 rd X0n K) K):=rfl
def Xhd:Code:=Yem
theorem Yxt:Quc (Qas 29)=Xhd:=by kernel_rfl
theorem Yrw:Xtd.body=some (Qas 29):=by kernel_rfl
theorem Yyd:Xtd.ntmps=9:=by kernel_rfl
theorem X3g:Xtd.results.toList = [.tmp 2]:=by kernel_rfl
abbrev Ypn:List Oper := [oP 4 (.assign (.const (.pointer none))),
  oP 5 (.assign (.const (.int .i64 0)))]
def Yud:List Oper:=Ypn
def Yke:Code := .region 0 Yud.toArray false
theorem Xbw:Q0 (E b) C D0 rd Yke s K=Qac (E b) C rd Yud K Ypn s:=rfl
abbrev Yqx:List Oper := [oP 6 (.move (.tmp 0)),
  oP 7 (.call {callee := .value (.func 29),args := #[(.tmp 6)],argTypes := #[3]}),
  oP 8 (.unOp Go.UnOp.not 4 (.tmp 7)),
  oP 9 (.move (.tmp 8)),
  oG 3 false 10 (.move (.tmp 1)),
  oG 3 false 11 (.call {callee := .value (.func 29),args := #[(.tmp 10)],argTypes := #[3]}),
  oG 3 false 12 (.unOp Go.UnOp.not 4 (.tmp 11)),
  oP 13 (.pick (.tmp 9) (.const (.bool true)) (.tmp 12)),
  oP 14 (.move (.tmp 13)),
  oG 8 false 15 (.move (.tmp 0)),
  oG 8 false 16 (.move (.tmp 1)),
  oG 8 false 17 (.binOp Go.BinOp.add 3 (.tmp 15) (.tmp 16) 3),
  oG 8 false 18 (.binOp Go.BinOp.gtr 3 (.tmp 17) (.const (.int .i64 1125899906842624)) 3),
  oP 19 (.pick (.tmp 14) (.const (.bool true)) (.tmp 18))]
def X69:List Oper:=Yqx
def Yes:Code := .region 0 X69.toArray false
theorem Xbu:Q0 (E b) C D0 rd Yes s K=Qac (E b) C rd X69 K Yqx s:=rfl
theorem Q7w:nth X69 3=some ⟨(some 9), .move (.tmp 8),0,"",#[],none⟩:=rfl
theorem Q7e:nth X69 8=some ⟨(some 14), .move (.tmp 13),0,"",#[],none⟩:=rfl
abbrev Yqi:List Oper := [oP 4 (.assign (.const (.pointer none))),
  oP 5 (.assign (.const (.int .i64 15)))]
def Ytu:List Oper:=Yqi
def Yih:Code := .region 0 Ytu.toArray false
theorem Xbp:Q0 (E b) C D0 rd Yih s K=Qac (E b) C rd Ytu K Yqi s:=rfl
def Yhw:Code := .seq Yih .ret
theorem Xc1:Q0 (E b) C D0 rd Yhw s K=Q0 (E b) C D0 rd Yih s (Yg (Vr (E b) C D0 rd .ret K) K):=rfl
def X60:Code := .cond (.tmp 19) Yhw .skip
theorem Xbr(h:aev (E b).G s.t (.tmp 19)=some (.bool true)):Q0 (E b) C D0 rd X60 s K=Q0 (E b) C D0 rd Yhw s K:=Qit h
theorem Xc3(h:aev (E b).G s.t (.tmp 19)=some (.bool false)):Q0 (E b) C D0 rd X60 s K=Q0 (E b) C D0 rd .skip s K:=Qiv h
def Yeu:Code := .seq Yes X60
theorem Xbt:Q0 (E b) C D0 rd Yeu s K=Q0 (E b) C D0 rd Yes s (Yg (Vr (E b) C D0 rd X60 K) K):=rfl
abbrev Yqh:List Oper := [oP 20 (.move (.tmp 0)),
  oP 21 (.move (.tmp 1)),
  oP 22 (.build 54 #[(0,(.const (.int .i64 0))),(1,(.tmp 20)),(2,(.tmp 21))]),
  oP 23 (.build 72 #[(0,(.tmp 22))]),
  oP 24 (.box 72 (.tmp 23)),
  oP 4 (.assign (.tmp 24)),
  oP 5 (.assign (.const (.int .i64 0)))]
def Ytg:List Oper:=Yqh
def Yhv:Code := .region 0 Ytg.toArray false
theorem Xbx:Q0 (E b) C D0 rd Yhv s K=Qac (E b) C rd Ytg K Yqh s:=rfl
def Yj0:Code := .seq Yhv .ret
theorem Xbv:Q0 (E b) C D0 rd Yj0 s K=Q0 (E b) C D0 rd Yhv s (Yg (Vr (E b) C D0 rd .ret K) K):=rfl
def Yh5:Code := .seq Yeu Yj0
theorem Xbz:Q0 (E b) C D0 rd Yh5 s K=Q0 (E b) C D0 rd Yeu s (Yg (Vr (E b) C D0 rd Yj0 K) K):=rfl
def Yuc:Code := .seq Yke Yh5
theorem Xbq:Q0 (E b) C D0 rd Yuc s K=Q0 (E b) C D0 rd Yke s (Yg (Vr (E b) C D0 rd Yh5 K) K):=rfl
def Q53:Code:=Yuc
theorem Y49:Quc (Qas 14)=Q53:=by kernel_rfl
theorem Yym:Yaj.body=some (Qas 14):=by kernel_rfl
theorem Y5y:Yaj.ntmps=25:=by kernel_rfl
theorem Xo4:Yaj.results.toList = [.tmp 4, .tmp 5]:=by kernel_rfl
abbrev Qgg:List Oper := [oP 4 (.assign (.const (.int .i64 0)))]
def Xzi:List Oper:=Qgg
def Xmt:Code := .region 0 Xzi.toArray false
theorem Q36:Q0 (E b) C D0 rd Xmt s K=Qac (E b) C rd Xzi K Qgg s:=rfl
abbrev Q6i:List Oper := [oP 5 (.assign (.const (.int .i64 0)))]
def X4g:List Oper:=Q6i
def Xmj:Code := .region 0 X4g.toArray false
theorem Q3v:Q0 (E b) C D0 rd Xmj s K=Qac (E b) C rd X4g K Q6i s:=rfl
abbrev Xx6:List Oper := [oP 6 (.move (.tmp 5)),
  oP 7 (.move (.tmp 0)),
  oP 8 (.nilCheck (.tmp 7)),
  oP 9 (.fieldAddr 72 (.tmp 8) 1),
  oP 10 (.load 70 (.tmp 9)),
  oP 11 (.call {callee := .builtin Go.Builtin.len,args := #[(.tmp 10)],argTypes := #[70]}),
  oP 12 (.binOp Go.BinOp.lss 3 (.tmp 6) (.tmp 11) 3)]
def X1u:List Oper:=Xx6
def Xmn:Code := .region 0 X1u.toArray false
theorem Q3x:Q0 (E b) C D0 rd Xmn s K=Qac (E b) C rd X1u K Xx6 s:=rfl
def Q90:Code := .cond (.tmp 12) .skip (.exit 0)
theorem Q38(h:aev (E b).G s.t (.tmp 12)=some (.bool true)):Q0 (E b) C D0 rd Q90 s K=Q0 (E b) C D0 rd .skip s K:=Qit h
theorem Q3q(h:aev (E b).G s.t (.tmp 12)=some (.bool false)):Q0 (E b) C D0 rd Q90 s K=Q0 (E b) C D0 rd (.exit 0) s K:=Qiv h
def Xmk:Code := .seq Xmn Q90
theorem Q3e:Q0 (E b) C D0 rd Xmk s K=Q0 (E b) C D0 rd Xmn s (Yg (Vr (E b) C D0 rd Q90 K) K):=rfl
abbrev Xxj:List Oper := [oP 15 (.move (.tmp 0)),
  oP 16 (.nilCheck (.tmp 15)),
  oP 17 (.fieldAddr 72 (.tmp 16) 1),
  oP 18 (.load 70 (.tmp 17)),
  oP 19 (.move (.tmp 5)),
  oP 20 (.indexAddr 70 (.tmp 18) (.tmp 19)),
  oP 21 (.fieldAddr 89 (.tmp 20) 0),
  oP 22 (.fieldAddr 74 (.tmp 21) 1),
  oP 23 (.load 3 (.tmp 22)),
  oP 24 (.move (.tmp 1)),
  oP 25 (.binOp Go.BinOp.eql 3 (.tmp 23) (.tmp 24) 3)]
def X5a:List Oper:=Xxj
def Xmm:Code := .region 0 X5a.toArray false
theorem Q33:Q0 (E b) C D0 rd Xmm s K=Qac (E b) C rd X5a K Xxj s:=rfl
abbrev Xu2:List Oper := [oP 26 (.move (.tmp 5)),
  oP 4 (.assign (.tmp 26))]
def Xx2:List Oper:=Xu2
def Xjo:Code := .region 0 Xx2.toArray false
theorem Q0r:Q0 (E b) C D0 rd Xjo s K=Qac (E b) C rd Xx2 K Xu2 s:=rfl
def Xjj:Code := .seq Xjo .ret
theorem Q0w:Q0 (E b) C D0 rd Xjj s K=Q0 (E b) C D0 rd Xjo s (Yg (Vr (E b) C D0 rd .ret K) K):=rfl
def Q6e:Code := .cond (.tmp 25) Xjj .skip
theorem Q0e(h:aev (E b).G s.t (.tmp 25)=some (.bool true)):Q0 (E b) C D0 rd Q6e s K=Q0 (E b) C D0 rd Xjj s K:=Qit h
theorem Q0x(h:aev (E b).G s.t (.tmp 25)=some (.bool false)):Q0 (E b) C D0 rd Q6e s K=Q0 (E b) C D0 rd .skip s K:=Qiv h
def Xmo:Code := .seq Xmm Q6e
theorem Q3l:Q0 (E b) C D0 rd Xmo s K=Q0 (E b) C D0 rd Xmm s (Yg (Vr (E b) C D0 rd Q6e K) K):=rfl
def Xjv:Code := .block 1 Xmo
theorem Q0g:Q0 (E b) C D0 rd Xjv s K=Q0 (E b) C D0 rd Xmo s (Ql8 1 K):=rfl
abbrev Xug:List Oper := [oP 13 (.move (.tmp 5)),
  oP 14 (.binOp Go.BinOp.add 3 (.tmp 13) (.const (.int .i64 1)) 3),
  oP 5 (.assign (.tmp 14))]
def Xwz:List Oper:=Xug
def Xjz:Code := .region 0 Xwz.toArray false
theorem Q0d:Q0 (E b) C D0 rd Xjz s K=Qac (E b) C rd Xwz K Xug s:=rfl
def Xjd:Code := .seq Xjv Xjz
theorem Q0p:Q0 (E b) C D0 rd Xjd s K=Q0 (E b) C D0 rd Xjv s (Yg (Vr (E b) C D0 rd Xjz K) K):=rfl
def X2r:Code := .seq Xmk Xjd
theorem Q40:Q0 (E b) C D0 rd X2r s K=Q0 (E b) C D0 rd Xmk s (Yg (Vr (E b) C D0 rd Xjd K) K):=rfl
def Xx1:Code := .loop X2r
def Xjg:Code := .block 0 Xx1
theorem Q0f:Q0 (E b) C D0 rd Xjg s K=Q0 (E b) C D0 rd Xx1 s (Ql8 0 K):=rfl
def Xmq:Code := .seq Xmj Xjg
theorem Q35:Q0 (E b) C D0 rd Xmq s K=Q0 (E b) C D0 rd Xmj s (Yg (Vr (E b) C D0 rd Xjg K) K):=rfl
abbrev Xvh:List Oper := [oP 4 (.assign (.const (.int .i64 (-1))))]
def Xx8:List Oper:=Xvh
def Xk2:Code := .region 0 Xx8.toArray false
theorem Q0n:Q0 (E b) C D0 rd Xk2 s K=Qac (E b) C rd Xx8 K Xvh s:=rfl
def Xk4:Code := .seq Xk2 .ret
theorem Q0q:Q0 (E b) C D0 rd Xk4 s K=Q0 (E b) C D0 rd Xk2 s (Yg (Vr (E b) C D0 rd .ret K) K):=rfl
def Xje:Code := .seq Xmq Xk4
theorem Q0m:Q0 (E b) C D0 rd Xje s K=Q0 (E b) C D0 rd Xmq s (Yg (Vr (E b) C D0 rd Xk4 K) K):=rfl
def Xz8:Code := .seq Xmt Xje
theorem Q41:Q0 (E b) C D0 rd Xz8 s K=Q0 (E b) C D0 rd Xmt s (Yg (Vr (E b) C D0 rd Xje K) K):=rfl
def Qwb:Code:=Xz8
theorem Yny:Quc (Qas 47)=Qwb:=by kernel_rfl
theorem Yhj:Xdp.body=some (Qas 47):=by kernel_rfl
theorem Ypi:Xdp.ntmps=27:=by kernel_rfl
theorem Xaw:Xdp.results.toList = [.tmp 4]:=by kernel_rfl
def Xo6:List Oper:=Qgg
def Q8j:Code := .region 0 Xo6.toArray false
theorem Qkv:Q0 (E b) C D0 rd Q8j s K=Qac (E b) C rd Xo6 K Qgg s:=rfl
abbrev Xli:List Oper := [oP 8 (.move (.tmp 1)),
  oP 9 (.binOp Go.BinOp.lss 3 (.tmp 8) (.const (.int .i64 1)) 3),
  oP 10 (.move (.tmp 9)),
  oG 2 false 11 (.move (.tmp 1)),
  oG 2 false 12 (.binOp Go.BinOp.gtr 3 (.tmp 11) (.const (.int .i64 2)) 3),
  oP 13 (.pick (.tmp 10) (.const (.bool true)) (.tmp 12))]
def Q6x:List Oper:=Xli
def Q8c:Code := .region 0 Q6x.toArray false
theorem Qkx:Q0 (E b) C D0 rd Q8c s K=Qac (E b) C rd Q6x K Xli s:=rfl
theorem Qk4:nth Q6x 2=some ⟨(some 10), .move (.tmp 9),0,"",#[],none⟩:=rfl
def Xnw:List Oper:=Qgg
def Q85:Code := .region 0 Xnw.toArray false
theorem Qkr:Q0 (E b) C D0 rd Q85 s K=Qac (E b) C rd Xnw K Qgg s:=rfl
def Q7c:Code := .seq Q85 .ret
theorem Qky:Q0 (E b) C D0 rd Q7c s K=Q0 (E b) C D0 rd Q85 s (Yg (Vr (E b) C D0 rd .ret K) K):=rfl
def Qwp:Code := .cond (.tmp 13) Q7c .skip
theorem Qkt(h:aev (E b).G s.t (.tmp 13)=some (.bool true)):Q0 (E b) C D0 rd Qwp s K=Q0 (E b) C D0 rd Q7c s K:=Qit h
theorem Qks(h:aev (E b).G s.t (.tmp 13)=some (.bool false)):Q0 (E b) C D0 rd Qwp s K=Q0 (E b) C D0 rd .skip s K:=Qiv h
def Q6t:Code := .seq Q8c Qwp
theorem Qkw:Q0 (E b) C D0 rd Q6t s K=Q0 (E b) C D0 rd Q8c s (Yg (Vr (E b) C D0 rd Qwp K) K):=rfl
abbrev Xm6:List Oper := [oP 14 (.move (.tmp 0)),
  oP 15 (.move (.tmp 1)),
  oP 16 (.nilCheck (.tmp 14)),
  oP 17 (.fieldAddr 72 (.tmp 16) 0),
  oP 18 (.indexAddr 54 (.tmp 17) (.tmp 15)),
  oP 19 (.load 3 (.tmp 18)),
  oP 5 (.assign (.tmp 19))]
def Xno:List Oper:=Xm6
def Q78:Code := .region 0 Xno.toArray false
theorem Qkz:Q0 (E b) C D0 rd Q78 s K=Qac (E b) C rd Xno K Xm6 s:=rfl
abbrev Qnu:List Oper := [oP 6 (.assign (.const (.int .i64 0)))]
def Xl9:List Oper:=Qnu
def Q4o:Code := .region 0 Xl9.toArray false
theorem Qkl:Q0 (E b) C D0 rd Q4o s K=Qac (E b) C rd Xl9 K Qnu s:=rfl
abbrev Xid:List Oper := [oP 20 (.move (.tmp 6)),
  oP 21 (.move (.tmp 0)),
  oP 22 (.nilCheck (.tmp 21)),
  oP 23 (.fieldAddr 72 (.tmp 22) 1),
  oP 24 (.load 70 (.tmp 23)),
  oP 25 (.call {callee := .builtin Go.Builtin.len,args := #[(.tmp 24)],argTypes := #[70]}),
  oP 26 (.binOp Go.BinOp.lss 3 (.tmp 20) (.tmp 25) 3)]
def Xlb:List Oper:=Xid
def Q5c:Code := .region 0 Xlb.toArray false
theorem Qjz:Q0 (E b) C D0 rd Q5c s K=Qac (E b) C rd Xlb K Xid s:=rfl
def Qvn:Code := .cond (.tmp 26) .skip (.exit 0)
theorem Qkj(h:aev (E b).G s.t (.tmp 26)=some (.bool true)):Q0 (E b) C D0 rd Qvn s K=Q0 (E b) C D0 rd .skip s K:=Qit h
theorem Qk3(h:aev (E b).G s.t (.tmp 26)=some (.bool false)):Q0 (E b) C D0 rd Qvn s K=Q0 (E b) C D0 rd (.exit 0) s K:=Qiv h
def Q68:Code := .seq Q5c Qvn
theorem Qk1:Q0 (E b) C D0 rd Q68 s K=Q0 (E b) C D0 rd Q5c s (Yg (Vr (E b) C D0 rd Qvn K) K):=rfl
abbrev Xi2:List Oper := [oP 29 (.move (.tmp 0)),
  oP 30 (.nilCheck (.tmp 29)),
  oP 31 (.fieldAddr 72 (.tmp 30) 1),
  oP 32 (.load 70 (.tmp 31)),
  oP 33 (.move (.tmp 6)),
  oP 34 (.indexAddr 70 (.tmp 32) (.tmp 33)),
  oP 35 (.load 89 (.tmp 34)),
  oP 7 (.alloc 89),
  oN (.store 89 (.tmp 7) (.tmp 35))]
def Xkv:List Oper:=Xi2
def Q5j:Code := .region 0 Xkv.toArray false
theorem Qkm:Q0 (E b) C D0 rd Q5j s K=Qac (E b) C rd Xkv K Xi2 s:=rfl
abbrev Xhl:List Oper := [oP 36 (.fieldAddr 89 (.tmp 7) 0),
  oP 37 (.fieldAddr 74 (.tmp 36) 0),
  oP 38 (.load 3 (.tmp 37)),
  oP 39 (.move (.tmp 1)),
  oP 40 (.binOp Go.BinOp.eql 3 (.tmp 38) (.tmp 39) 3),
  oP 41 (.move (.tmp 40)),
  oG 5 true 42 (.fieldAddr 89 (.tmp 7) 1),
  oG 5 true 43 (.load 3 (.tmp 42)),
  oG 5 true 44 (.binOp Go.BinOp.neq 3 (.tmp 43) (.const (.int .i64 3)) 3),
  oP 45 (.pick (.tmp 41) (.tmp 44) (.const (.bool false)))]
def Q5k:List Oper:=Xhl
def Q4i:Code := .region 0 Q5k.toArray false
theorem Qki:Q0 (E b) C D0 rd Q4i s K=Qac (E b) C rd Q5k K Xhl s:=rfl
theorem Qju:nth Q5k 5=some ⟨(some 41), .move (.tmp 40),0,"",#[],none⟩:=rfl
abbrev Xhy:List Oper := [oP 46 (.move (.tmp 5)),
  oP 47 (.fieldAddr 89 (.tmp 7) 0),
  oP 48 (.fieldAddr 74 (.tmp 47) 2),
  oP 49 (.load 3 (.tmp 48)),
  oP 50 (.binOp Go.BinOp.sub 3 (.tmp 46) (.tmp 49) 3),
  oP 5 (.assign (.tmp 50))]
def Xkn:List Oper:=Xhy
def Q5a:Code := .region 0 Xkn.toArray false
theorem Qk7:Q0 (E b) C D0 rd Q5a s K=Qac (E b) C rd Xkn K Xhy s:=rfl
def Qw4:Code := .cond (.tmp 45) Q5a .skip
theorem Qkn(h:aev (E b).G s.t (.tmp 45)=some (.bool true)):Q0 (E b) C D0 rd Qw4 s K=Q0 (E b) C D0 rd Q5a s K:=Qit h
theorem Qke(h:aev (E b).G s.t (.tmp 45)=some (.bool false)):Q0 (E b) C D0 rd Qw4 s K=Q0 (E b) C D0 rd .skip s K:=Qiv h
def Q54:Code := .seq Q4i Qw4
theorem Qk8:Q0 (E b) C D0 rd Q54 s K=Q0 (E b) C D0 rd Q4i s (Yg (Vr (E b) C D0 rd Qw4 K) K):=rfl
abbrev Xil:List Oper := [oP 51 (.fieldAddr 89 (.tmp 7) 0),
  oP 52 (.fieldAddr 74 (.tmp 51) 0),
  oP 53 (.load 3 (.tmp 52)),
  oP 54 (.move (.tmp 1)),
  oP 55 (.binOp Go.BinOp.neq 3 (.tmp 53) (.tmp 54) 3),
  oP 56 (.move (.tmp 55)),
  oG 5 true 57 (.fieldAddr 89 (.tmp 7) 1),
  oG 5 true 58 (.load 3 (.tmp 57)),
  oG 5 true 59 (.binOp Go.BinOp.eql 3 (.tmp 58) (.const (.int .i64 2)) 3),
  oP 60 (.pick (.tmp 56) (.tmp 59) (.const (.bool false)))]
def Q4l:List Oper:=Xil
def Q4g:Code := .region 0 Q4l.toArray false
theorem Qk9:Q0 (E b) C D0 rd Q4g s K=Qac (E b) C rd Q4l K Xil s:=rfl
theorem Qjt:nth Q4l 5=some ⟨(some 56), .move (.tmp 55),0,"",#[],none⟩:=rfl
abbrev Xj3:List Oper := [oP 61 (.move (.tmp 5)),
  oP 62 (.fieldAddr 89 (.tmp 7) 0),
  oP 63 (.fieldAddr 74 (.tmp 62) 2),
  oP 64 (.load 3 (.tmp 63)),
  oP 65 (.binOp Go.BinOp.add 3 (.tmp 61) (.tmp 64) 3),
  oP 5 (.assign (.tmp 65))]
def Xly:List Oper:=Xj3
def Q4w:Code := .region 0 Xly.toArray false
theorem Qk0:Q0 (E b) C D0 rd Q4w s K=Qac (E b) C rd Xly K Xj3 s:=rfl
def Qvg:Code := .cond (.tmp 60) Q4w .skip
theorem Qjy(h:aev (E b).G s.t (.tmp 60)=some (.bool true)):Q0 (E b) C D0 rd Qvg s K=Q0 (E b) C D0 rd Q4w s K:=Qit h
theorem Qko(h:aev (E b).G s.t (.tmp 60)=some (.bool false)):Q0 (E b) C D0 rd Qvg s K=Q0 (E b) C D0 rd .skip s K:=Qiv h
def Q4r:Code := .seq Q4g Qvg
theorem Qk5:Q0 (E b) C D0 rd Q4r s K=Q0 (E b) C D0 rd Q4g s (Yg (Vr (E b) C D0 rd Qvg K) K):=rfl
def Q5r:Code := .seq Q54 Q4r
theorem Qkd:Q0 (E b) C D0 rd Q5r s K=Q0 (E b) C D0 rd Q54 s (Yg (Vr (E b) C D0 rd Q4r K) K):=rfl
def Q4t:Code := .seq Q5j Q5r
theorem Qk2:Q0 (E b) C D0 rd Q4t s K=Q0 (E b) C D0 rd Q5j s (Yg (Vr (E b) C D0 rd Q5r K) K):=rfl
def Q59:Code := .block 1 Q4t
theorem Qka:Q0 (E b) C D0 rd Q59 s K=Q0 (E b) C D0 rd Q4t s (Ql8 1 K):=rfl
abbrev Xik:List Oper := [oP 27 (.move (.tmp 6)),
  oP 28 (.binOp Go.BinOp.add 3 (.tmp 27) (.const (.int .i64 1)) 3),
  oP 6 (.assign (.tmp 28))]
def Xm2:List Oper:=Xik
def Q5p:Code := .region 0 Xm2.toArray false
theorem Qjx:Q0 (E b) C D0 rd Q5p s K=Qac (E b) C rd Xm2 K Xik s:=rfl
def Q50:Code := .seq Q59 Q5p
theorem Qkk:Q0 (E b) C D0 rd Q50 s K=Q0 (E b) C D0 rd Q59 s (Yg (Vr (E b) C D0 rd Q5p K) K):=rfl
def Xkp:Code := .seq Q68 Q50
theorem Qkh:Q0 (E b) C D0 rd Xkp s K=Q0 (E b) C D0 rd Q68 s (Yg (Vr (E b) C D0 rd Q50 K) K):=rfl
def Xls:Code := .loop Xkp
def Q51:Code := .block 0 Xls
theorem Qkb:Q0 (E b) C D0 rd Q51 s K=Q0 (E b) C D0 rd Xls s (Ql8 0 K):=rfl
def Q5b:Code := .seq Q4o Q51
theorem Qkf:Q0 (E b) C D0 rd Q5b s K=Q0 (E b) C D0 rd Q4o s (Yg (Vr (E b) C D0 rd Q51 K) K):=rfl
abbrev Xi3:List Oper := [oP 66 (.move (.tmp 5)),
  oP 4 (.assign (.tmp 66))]
def Xm1:List Oper:=Xi3
def Q55:Code := .region 0 Xm1.toArray false
theorem Qkc:Q0 (E b) C D0 rd Q55 s K=Qac (E b) C rd Xm1 K Xi3 s:=rfl
def Q48:Code := .seq Q55 .ret
theorem Qkg:Q0 (E b) C D0 rd Q48 s K=Q0 (E b) C D0 rd Q55 s (Yg (Vr (E b) C D0 rd .ret K) K):=rfl
def Q52:Code := .seq Q5b Q48
theorem Qk6:Q0 (E b) C D0 rd Q52 s K=Q0 (E b) C D0 rd Q5b s (Yg (Vr (E b) C D0 rd Q48 K) K):=rfl
def Q87:Code := .seq Q78 Q52
theorem Ql0:Q0 (E b) C D0 rd Q87 s K=Q0 (E b) C D0 rd Q78 s (Yg (Vr (E b) C D0 rd Q52 K) K):=rfl
def Q7j:Code := .seq Q6t Q87
theorem Ql1:Q0 (E b) C D0 rd Q7j s K=Q0 (E b) C D0 rd Q6t s (Yg (Vr (E b) C D0 rd Q87 K) K):=rfl
def Xnb:Code := .seq Q8j Q7j
theorem Qku:Q0 (E b) C D0 rd Xnb s K=Q0 (E b) C D0 rd Q8j s (Yg (Vr (E b) C D0 rd Q7j K) K):=rfl
def Qjh:Code:=Xnb
theorem X9r:Quc (Qas 36)=Qjh:=by kernel_rfl
theorem X5p:Qyz.body=some (Qas 36):=by kernel_rfl
theorem Yal:Qyz.ntmps=67:=by kernel_rfl
theorem Qle:Qyz.results.toList = [.tmp 4]:=by kernel_rfl
abbrev Xky:List Oper := [oP 2 (.assign (.const (.slice none 0 0)))]
def Xnf:List Oper:=Xky
def Q8k:Code := .region 0 Xnf.toArray false
theorem Quw:Q0 (E b) C D0 rd Q8k s K=Qac (E b) C rd Xnf K Xky s:=rfl
abbrev Xlf:List Oper := [oP 3 (.assign (.const (.slice none 0 0)))]
def Xob:List Oper:=Xlf
def Q6m:Code := .region 0 Xob.toArray false
theorem Qum:Q0 (E b) C D0 rd Q6m s K=Qac (E b) C rd Xob K Xlf s:=rfl
def Xmw:List Oper:=Qgg
def Q8l:Code := .region 0 Xmw.toArray false
theorem Quz:Q0 (E b) C D0 rd Q8l s K=Qac (E b) C rd Xmw K Qgg s:=rfl
abbrev Xlo:List Oper := [oP 5 (.move (.tmp 4)),
  oP 6 (.move (.tmp 0)),
  oP 7 (.nilCheck (.tmp 6)),
  oP 8 (.fieldAddr 72 (.tmp 7) 1),
  oP 9 (.load 70 (.tmp 8)),
  oP 10 (.call {callee := .builtin Go.Builtin.len,args := #[(.tmp 9)],argTypes := #[70]}),
  oP 11 (.binOp Go.BinOp.lss 3 (.tmp 5) (.tmp 10) 3)]
def Xnt:List Oper:=Xlo
def Q7l:Code := .region 0 Xnt.toArray false
theorem Qut:Q0 (E b) C D0 rd Q7l s K=Qac (E b) C rd Xnt K Xlo s:=rfl
def Qws:Code := .cond (.tmp 11) .skip (.exit 0)
theorem Qus(h:aev (E b).G s.t (.tmp 11)=some (.bool true)):Q0 (E b) C D0 rd Qws s K=Q0 (E b) C D0 rd .skip s K:=Qit h
theorem Quo(h:aev (E b).G s.t (.tmp 11)=some (.bool false)):Q0 (E b) C D0 rd Qws s K=Q0 (E b) C D0 rd (.exit 0) s K:=Qiv h
def Q7p:Code := .seq Q7l Qws
theorem Qv2:Q0 (E b) C D0 rd Q7p s K=Q0 (E b) C D0 rd Q7l s (Yg (Vr (E b) C D0 rd Qws K) K):=rfl
abbrev Xia:List Oper := [oP 14 (.move (.tmp 0)),
  oP 15 (.nilCheck (.tmp 14)),
  oP 16 (.fieldAddr 72 (.tmp 15) 1),
  oP 17 (.load 70 (.tmp 16)),
  oP 18 (.move (.tmp 4)),
  oP 19 (.indexAddr 70 (.tmp 17) (.tmp 18)),
  oP 20 (.fieldAddr 89 (.tmp 19) 1),
  oP 21 (.load 3 (.tmp 20)),
  oP 22 (.binOp Go.BinOp.eql 3 (.tmp 21) (.const (.int .i64 1)) 3)]
def Xkf:List Oper:=Xia
def Q4q:Code := .region 0 Xkf.toArray false
theorem Qu1:Q0 (E b) C D0 rd Q4q s K=Qac (E b) C rd Xkf K Xia s:=rfl
abbrev Xhm:List Oper := [oP 23 (.move (.tmp 3)),
  oP 24 (.move (.tmp 0)),
  oP 25 (.nilCheck (.tmp 24)),
  oP 26 (.fieldAddr 72 (.tmp 25) 1),
  oP 27 (.load 70 (.tmp 26)),
  oP 28 (.move (.tmp 4)),
  oP 29 (.indexAddr 70 (.tmp 27) (.tmp 28)),
  oP 30 (.fieldAddr 89 (.tmp 29) 0),
  oP 31 (.load 74 (.tmp 30)),
  oP 32 (.buildSlice 77 1 #[(0,(.tmp 31))]),
  oP 33 (.call {callee := .builtin Go.Builtin.append,args := #[(.tmp 23),(.tmp 32)],argTypes := #[77,77]}),
  oP 3 (.assign (.tmp 33))]
def Xlq:List Oper:=Xhm
def Q4z:Code := .region 0 Xlq.toArray false
theorem Qtk:Q0 (E b) C D0 rd Q4z s K=Qac (E b) C rd Xlq K Xhm s:=rfl
def Qw1:Code := .cond (.tmp 22) Q4z .skip
theorem Qtp(h:aev (E b).G s.t (.tmp 22)=some (.bool true)):Q0 (E b) C D0 rd Qw1 s K=Q0 (E b) C D0 rd Q4z s K:=Qit h
theorem Qu5(h:aev (E b).G s.t (.tmp 22)=some (.bool false)):Q0 (E b) C D0 rd Qw1 s K=Q0 (E b) C D0 rd .skip s K:=Qiv h
def Q4y:Code := .seq Q4q Qw1
theorem Qto:Q0 (E b) C D0 rd Q4y s K=Q0 (E b) C D0 rd Q4q s (Yg (Vr (E b) C D0 rd Qw1 K) K):=rfl
def Q4b:Code := .block 1 Q4y
theorem Qu3:Q0 (E b) C D0 rd Q4b s K=Q0 (E b) C D0 rd Q4y s (Ql8 1 K):=rfl
abbrev Xi0:List Oper := [oP 12 (.move (.tmp 4)),
  oP 13 (.binOp Go.BinOp.add 3 (.tmp 12) (.const (.int .i64 1)) 3),
  oP 4 (.assign (.tmp 13))]
def Xkw:List Oper:=Xi0
def Q5e:Code := .region 0 Xkw.toArray false
theorem Qtj:Q0 (E b) C D0 rd Q5e s K=Qac (E b) C rd Xkw K Xi0 s:=rfl
def Q4a:Code := .seq Q4b Q5e
theorem Qu0:Q0 (E b) C D0 rd Q4a s K=Q0 (E b) C D0 rd Q4b s (Yg (Vr (E b) C D0 rd Q5e K) K):=rfl
def Xni:Code := .seq Q7p Q4a
theorem Quu:Q0 (E b) C D0 rd Xni s K=Q0 (E b) C D0 rd Q7p s (Yg (Vr (E b) C D0 rd Q4a K) K):=rfl
def Xkz:Code := .loop Xni
def Q4p:Code := .block 0 Xkz
theorem Qu6:Q0 (E b) C D0 rd Q4p s K=Q0 (E b) C D0 rd Xkz s (Ql8 0 K):=rfl
def Q86:Code := .seq Q8l Q4p
theorem Quq:Q0 (E b) C D0 rd Q86 s K=Q0 (E b) C D0 rd Q8l s (Yg (Vr (E b) C D0 rd Q4p K) K):=rfl
abbrev Xit:List Oper := [oP 34 (.move (.tmp 3)),
  oP 2 (.assign (.tmp 34))]
def Xkr:List Oper:=Xit
def Q56:Code := .region 0 Xkr.toArray false
theorem Qtn:Q0 (E b) C D0 rd Q56 s K=Qac (E b) C rd Xkr K Xit s:=rfl
def Q5o:Code := .seq Q56 .ret
theorem Qth:Q0 (E b) C D0 rd Q5o s K=Q0 (E b) C D0 rd Q56 s (Yg (Vr (E b) C D0 rd .ret K) K):=rfl
def Q66:Code := .seq Q86 Q5o
theorem Qtg:Q0 (E b) C D0 rd Q66 s K=Q0 (E b) C D0 rd Q86 s (Yg (Vr (E b) C D0 rd Q5o K) K):=rfl
def Q6q:Code := .seq Q6m Q66
theorem Qux:Q0 (E b) C D0 rd Q6q s K=Q0 (E b) C D0 rd Q6m s (Yg (Vr (E b) C D0 rd Q66 K) K):=rfl
def Xnc:Code := .seq Q8k Q6q
theorem Quj:Q0 (E b) C D0 rd Xnc s K=Q0 (E b) C D0 rd Q8k s (Yg (Vr (E b) C D0 rd Q6q K) K):=rfl
def Qqr:Code:=Xnc
theorem X9o:Quc (Qas 37)=Qqr:=by kernel_rfl
theorem X5s:Qyr.body=some (Qas 37):=by kernel_rfl
theorem Ya0:Qyr.ntmps=35:=by kernel_rfl
theorem Qx4:Qyr.results.toList = [.tmp 2]:=by kernel_rfl
abbrev Xs8:List Oper := [oP 2 (.assign (.const (.int .i64 0)))]
def Xu6:List Oper:=Xs8
def Xg9:Code := .region 0 Xu6.toArray false
theorem Qyh:Q0 (E b) C D0 rd Xg9 s K=Qac (E b) C rd Xu6 K Xs8 s:=rfl
abbrev Xrh:List Oper := [oP 6 (.move (.tmp 0)),
  oP 7 (.call {callee := .value (.func 37),args := #[(.tmp 6)],argTypes := #[40]}),
  oP 3 (.assign (.tmp 7))]
def Xuh:List Oper:=Xrh
def Xew:Code := .region 0 Xuh.toArray false
theorem Qyc:Q0 (E b) C D0 rd Xew s K=Qac (E b) C rd Xuh K Xrh s:=rfl
def Xun:List Oper:=Qgg
def Xf8:Code := .region 0 Xun.toArray false
theorem Qxe:Q0 (E b) C D0 rd Xf8 s K=Qac (E b) C rd Xun K Qgg s:=rfl
def Xv6:List Oper:=Q6i
def Xf9:Code := .region 0 Xv6.toArray false
theorem Qy2:Q0 (E b) C D0 rd Xf9 s K=Qac (E b) C rd Xv6 K Q6i s:=rfl
abbrev Xrf:List Oper := [oP 8 (.move (.tmp 5)),
  oP 9 (.move (.tmp 3)),
  oP 10 (.call {callee := .builtin Go.Builtin.len,args := #[(.tmp 9)],argTypes := #[77]}),
  oP 11 (.binOp Go.BinOp.lss 3 (.tmp 8) (.tmp 10) 3)]
def Xuq:List Oper:=Xrf
def Xf4:Code := .region 0 Xuq.toArray false
theorem Qy4:Q0 (E b) C D0 rd Xf4 s K=Qac (E b) C rd Xuq K Xrf s:=rfl
def Q0s:Code := .cond (.tmp 11) .skip (.exit 0)
theorem Qwg(h:aev (E b).G s.t (.tmp 11)=some (.bool true)):Q0 (E b) C D0 rd Q0s s K=Q0 (E b) C D0 rd .skip s K:=Qit h
theorem Qwt(h:aev (E b).G s.t (.tmp 11)=some (.bool false)):Q0 (E b) C D0 rd Q0s s K=Q0 (E b) C D0 rd (.exit 0) s K:=Qiv h
def Xfz:Code := .seq Xf4 Q0s
theorem Qxn:Q0 (E b) C D0 rd Xfz s K=Q0 (E b) C D0 rd Xf4 s (Yg (Vr (E b) C D0 rd Q0s K) K):=rfl
abbrev Xpy:List Oper := [oP 14 (.move (.tmp 4)),
  oP 15 (.move (.tmp 3)),
  oP 16 (.move (.tmp 5)),
  oP 17 (.indexAddr 77 (.tmp 15) (.tmp 16)),
  oP 18 (.fieldAddr 74 (.tmp 17) 2),
  oP 19 (.load 3 (.tmp 18)),
  oP 20 (.binOp Go.BinOp.add 3 (.tmp 14) (.tmp 19) 3),
  oP 4 (.assign (.tmp 20))]
def Xsf:List Oper:=Xpy
def Xd0:Code := .region 0 Xsf.toArray false
theorem Qwu:Q0 (E b) C D0 rd Xd0 s K=Qac (E b) C rd Xsf K Xpy s:=rfl
def Xcs:Code := .block 1 Xd0
theorem Qwn:Q0 (E b) C D0 rd Xcs s K=Q0 (E b) C D0 rd Xd0 s (Ql8 1 K):=rfl
abbrev Xp6:List Oper := [oP 12 (.move (.tmp 5)),
  oP 13 (.binOp Go.BinOp.add 3 (.tmp 12) (.const (.int .i64 1)) 3),
  oP 5 (.assign (.tmp 13))]
def Xsa:List Oper:=Xp6
def Xd4:Code := .region 0 Xsa.toArray false
theorem Qwk:Q0 (E b) C D0 rd Xd4 s K=Qac (E b) C rd Xsa K Xp6 s:=rfl
def Xcw:Code := .seq Xcs Xd4
theorem Qwx:Q0 (E b) C D0 rd Xcw s K=Q0 (E b) C D0 rd Xcs s (Yg (Vr (E b) C D0 rd Xd4 K) K):=rfl
def Xrb:Code := .seq Xfz Xcw
theorem Qwh:Q0 (E b) C D0 rd Xrb s K=Q0 (E b) C D0 rd Xfz s (Yg (Vr (E b) C D0 rd Xcw K) K):=rfl
def Xrj:Code := .loop Xrb
def Xcm:Code := .block 0 Xrj
theorem Qwj:Q0 (E b) C D0 rd Xcm s K=Q0 (E b) C D0 rd Xrj s (Ql8 0 K):=rfl
def Xdw:Code := .seq Xf9 Xcm
theorem Qyy:Q0 (E b) C D0 rd Xdw s K=Q0 (E b) C D0 rd Xf9 s (Yg (Vr (E b) C D0 rd Xcm K) K):=rfl
abbrev Xp5:List Oper := [oP 21 (.move (.tmp 4)),
  oP 2 (.assign (.tmp 21))]
def Xs2:List Oper:=Xp5
def Xcr:Code := .region 0 Xs2.toArray false
theorem Qwl:Q0 (E b) C D0 rd Xcr s K=Qac (E b) C rd Xs2 K Xp5 s:=rfl
def Xcf:Code := .seq Xcr .ret
theorem Qwv:Q0 (E b) C D0 rd Xcf s K=Q0 (E b) C D0 rd Xcr s (Yg (Vr (E b) C D0 rd .ret K) K):=rfl
def Xcx:Code := .seq Xdw Xcf
theorem Qx0:Q0 (E b) C D0 rd Xcx s K=Q0 (E b) C D0 rd Xdw s (Yg (Vr (E b) C D0 rd Xcf K) K):=rfl
def Xe1:Code := .seq Xf8 Xcx
theorem Qxh:Q0 (E b) C D0 rd Xe1 s K=Q0 (E b) C D0 rd Xf8 s (Yg (Vr (E b) C D0 rd Xcx K) K):=rfl
def Xe3:Code := .seq Xew Xe1
theorem Qy3:Q0 (E b) C D0 rd Xe3 s K=Q0 (E b) C D0 rd Xew s (Yg (Vr (E b) C D0 rd Xe1 K) K):=rfl
def Xuz:Code := .seq Xg9 Xe3
theorem Qxj:Q0 (E b) C D0 rd Xuz s K=Q0 (E b) C D0 rd Xg9 s (Yg (Vr (E b) C D0 rd Xe3 K) K):=rfl
def Qtm:Code:=Xuz
theorem Yho:Quc (Qas 38)=Qtm:=by kernel_rfl
theorem Yb3:Q6g.body=some (Qas 38):=by kernel_rfl
theorem Ylb:Q6g.ntmps=22:=by kernel_rfl
theorem Q3t:Q6g.results.toList = [.tmp 2]:=by kernel_rfl
abbrev Xvr:List Oper := [oP 3 (.box 74 (.tmp 1)),
  oP 4 (.assign (.const (.int .i64 0)))]
def Xx9:List Oper:=Xvr
def Xkb:Code := .region 0 Xx9.toArray false
theorem Jn:Q0 (E b) C D0 rd Xkb s K=Qac (E b) C rd Xx9 K Xvr s:=rfl
abbrev Xv7:List Oper := [oP 8 (.fieldAddr 74 (.tmp 3) 0),
  oP 9 (.load 3 (.tmp 8)),
  oP 10 (.binOp Go.BinOp.lss 3 (.tmp 9) (.const (.int .i64 1)) 3),
  oP 11 (.move (.tmp 10)),
  oG 3 false 12 (.fieldAddr 74 (.tmp 3) 0),
  oG 3 false 13 (.load 3 (.tmp 12)),
  oG 3 false 14 (.binOp Go.BinOp.gtr 3 (.tmp 13) (.const (.int .i64 2)) 3),
  oP 15 (.pick (.tmp 11) (.const (.bool true)) (.tmp 14)),
  oP 16 (.move (.tmp 15)),
  oG 8 false 17 (.fieldAddr 74 (.tmp 3) 1),
  oG 8 false 18 (.load 3 (.tmp 17)),
  oG 8 false 19 (.binOp Go.BinOp.lss 3 (.tmp 18) (.const (.int .i64 1)) 3),
  oP 20 (.pick (.tmp 16) (.const (.bool true)) (.tmp 19)),
  oP 21 (.move (.tmp 20)),
  oG 13 false 22 (.fieldAddr 74 (.tmp 3) 1),
  oG 13 false 23 (.load 3 (.tmp 22)),
  oG 13 false 24 (.binOp Go.BinOp.gtr 3 (.tmp 23) (.const (.int .i64 1073741824)) 3),
  oP 25 (.pick (.tmp 21) (.const (.bool true)) (.tmp 24)),
  oP 26 (.move (.tmp 25)),
  oG 18 false 27 (.fieldAddr 74 (.tmp 3) 3),
  oG 18 false 28 (.load 3 (.tmp 27)),
  oG 18 false 29 (.binOp Go.BinOp.lss 3 (.tmp 28) (.const (.int .i64 0)) 3),
  oP 30 (.pick (.tmp 26) (.const (.bool true)) (.tmp 29)),
  oP 31 (.move (.tmp 30)),
  oG 23 false 32 (.fieldAddr 74 (.tmp 3) 3),
  oG 23 false 33 (.load 3 (.tmp 32)),
  oG 23 false 34 (.binOp Go.BinOp.gtr 3 (.tmp 33) (.const (.int .i64 1073741824)) 3),
  oP 35 (.pick (.tmp 31) (.const (.bool true)) (.tmp 34))]
def Qqy:List Oper:=Xv7
def Xjs:Code := .region 0 Qqy.toArray false
theorem Js:Q0 (E b) C D0 rd Xjs s K=Qac (E b) C rd Qqy K Xv7 s:=rfl
theorem Je:nth Qqy 3=some ⟨(some 11), .move (.tmp 10),0,"",#[],none⟩:=rfl
theorem J9:nth Qqy 8=some ⟨(some 16), .move (.tmp 15),0,"",#[],none⟩:=rfl
theorem Yn:nth Qqy 13=some ⟨(some 21), .move (.tmp 20),0,"",#[],none⟩:=rfl
theorem Yo:nth Qqy 18=some ⟨(some 26), .move (.tmp 25),0,"",#[],none⟩:=rfl
theorem Ym:nth Qqy 23=some ⟨(some 31), .move (.tmp 30),0,"",#[],none⟩:=rfl
abbrev Xvq:List Oper := [oP 4 (.assign (.const (.int .i64 1)))]
def Xxh:List Oper:=Xvq
def Xk1:Code := .region 0 Xxh.toArray false
theorem Jm:Q0 (E b) C D0 rd Xk1 s K=Qac (E b) C rd Xxh K Xvq s:=rfl
def Xjm:Code := .seq Xk1 .ret
theorem Jp:Q0 (E b) C D0 rd Xjm s K=Q0 (E b) C D0 rd Xk1 s (Yg (Vr (E b) C D0 rd .ret K) K):=rfl
def Q6k:Code := .cond (.tmp 35) Xjm .skip
theorem Jr(h:aev (E b).G s.t (.tmp 35)=some (.bool true)):Q0 (E b) C D0 rd Q6k s K=Q0 (E b) C D0 rd Xjm s K:=Qit h
theorem Jk(h:aev (E b).G s.t (.tmp 35)=some (.bool false)):Q0 (E b) C D0 rd Q6k s K=Q0 (E b) C D0 rd .skip s K:=Qiv h
def Xjw:Code := .seq Xjs Q6k
theorem Jq:Q0 (E b) C D0 rd Xjw s K=Q0 (E b) C D0 rd Xjs s (Yg (Vr (E b) C D0 rd Q6k K) K):=rfl
abbrev Xux:List Oper := [oP 36 (.fieldAddr 74 (.tmp 3) 2),
  oP 37 (.load 3 (.tmp 36)),
  oP 38 (.binOp Go.BinOp.lss 3 (.tmp 37) (.const (.int .i64 1)) 3),
  oP 39 (.move (.tmp 38)),
  oG 3 false 40 (.fieldAddr 74 (.tmp 3) 2),
  oG 3 false 41 (.load 3 (.tmp 40)),
  oG 3 false 42 (.binOp Go.BinOp.gtr 3 (.tmp 41) (.const (.int .i64 1125899906842624)) 3),
  oP 43 (.pick (.tmp 39) (.const (.bool true)) (.tmp 42))]
def Xja:List Oper:=Xux
def Xk8:Code := .region 0 Xja.toArray false
theorem Jt:Q0 (E b) C D0 rd Xk8 s K=Qac (E b) C rd Xja K Xux s:=rfl
theorem Z8:nth Xja 3=some ⟨(some 39), .move (.tmp 38),0,"",#[],none⟩:=rfl
abbrev Xrp:List Oper := [oP 4 (.assign (.const (.int .i64 15)))]
def Xvc:List Oper:=Xrp
def Xgl:Code := .region 0 Xvc.toArray false
theorem Jd:Q0 (E b) C D0 rd Xgl s K=Qac (E b) C rd Xvc K Xrp s:=rfl
def Xe2:Code := .seq Xgl .ret
theorem J4:Q0 (E b) C D0 rd Xe2 s K=Q0 (E b) C D0 rd Xgl s (Yg (Vr (E b) C D0 rd .ret K) K):=rfl
def Q3u:Code := .cond (.tmp 43) Xe2 .skip
theorem Za(h:aev (E b).G s.t (.tmp 43)=some (.bool true)):Q0 (E b) C D0 rd Q3u s K=Q0 (E b) C D0 rd Xe2 s K:=Qit h
theorem Zy(h:aev (E b).G s.t (.tmp 43)=some (.bool false)):Q0 (E b) C D0 rd Q3u s K=Q0 (E b) C D0 rd .skip s K:=Qiv h
def Xjn:Code := .seq Xk8 Q3u
theorem Jl:Q0 (E b) C D0 rd Xjn s K=Q0 (E b) C D0 rd Xk8 s (Yg (Vr (E b) C D0 rd Q3u K) K):=rfl
abbrev Xr9:List Oper := [oP 44 (.move (.tmp 0)),
  oP 45 (.fieldAddr 74 (.tmp 3) 1),
  oP 46 (.load 3 (.tmp 45)),
  oP 47 (.call {callee := .value (.func 47),args := #[(.tmp 44),(.tmp 46)],argTypes := #[40,3]}),
  oP 48 (.binOp Go.BinOp.geq 3 (.tmp 47) (.const (.int .i64 0)) 3)]
def Xu5:List Oper:=Xr9
def Xfq:Code := .region 0 Xu5.toArray false
theorem Jb:Q0 (E b) C D0 rd Xfq s K=Qac (E b) C rd Xu5 K Xr9 s:=rfl
abbrev Xrr:List Oper := [oP 4 (.assign (.const (.int .i64 13)))]
def Xuw:List Oper:=Xrr
def Xdu:Code := .region 0 Xuw.toArray false
theorem Zv:Q0 (E b) C D0 rd Xdu s K=Qac (E b) C rd Xuw K Xrr s:=rfl
def Xfr:Code := .seq Xdu .ret
theorem Zh:Q0 (E b) C D0 rd Xfr s K=Q0 (E b) C D0 rd Xdu s (Yg (Vr (E b) C D0 rd .ret K) K):=rfl
def Q3b:Code := .cond (.tmp 48) Xfr .skip
theorem Zr(h:aev (E b).G s.t (.tmp 48)=some (.bool true)):Q0 (E b) C D0 rd Q3b s K=Q0 (E b) C D0 rd Xfr s K:=Qit h
theorem Ys(h:aev (E b).G s.t (.tmp 48)=some (.bool false)):Q0 (E b) C D0 rd Q3b s K=Q0 (E b) C D0 rd .skip s K:=Qiv h
def Xei:Code := .seq Xfq Q3b
theorem Z4:Q0 (E b) C D0 rd Xei s K=Q0 (E b) C D0 rd Xfq s (Yg (Vr (E b) C D0 rd Q3b K) K):=rfl
abbrev Xrx:List Oper := [oP 49 (.move (.tmp 0)),
  oP 50 (.call {callee := .value (.func 37),args := #[(.tmp 49)],argTypes := #[40]}),
  oP 51 (.call {callee := .builtin Go.Builtin.len,args := #[(.tmp 50)],argTypes := #[77]}),
  oP 52 (.binOp Go.BinOp.geq 3 (.tmp 51) (.const (.int .i64 16)) 3)]
def Xvt:List Oper:=Xrx
def Xer:Code := .region 0 Xvt.toArray false
theorem Z2:Q0 (E b) C D0 rd Xer s K=Qac (E b) C rd Xvt K Xrx s:=rfl
abbrev Xrn:List Oper := [oP 4 (.assign (.const (.int .i64 3)))]
def Xu1:List Oper:=Xrn
def Xfc:Code := .region 0 Xu1.toArray false
theorem Zt:Q0 (E b) C D0 rd Xfc s K=Qac (E b) C rd Xu1 K Xrn s:=rfl
def Xh2:Code := .seq Xfc .ret
theorem J5:Q0 (E b) C D0 rd Xh2 s K=Q0 (E b) C D0 rd Xfc s (Yg (Vr (E b) C D0 rd .ret K) K):=rfl
def Q3w:Code := .cond (.tmp 52) Xh2 .skip
theorem Yw(h:aev (E b).G s.t (.tmp 52)=some (.bool true)):Q0 (E b) C D0 rd Q3w s K=Q0 (E b) C D0 rd Xh2 s K:=Qit h
theorem J7(h:aev (E b).G s.t (.tmp 52)=some (.bool false)):Q0 (E b) C D0 rd Q3w s K=Q0 (E b) C D0 rd .skip s K:=Qiv h
def Xf0:Code := .seq Xer Q3w
theorem Zb:Q0 (E b) C D0 rd Xf0 s K=Q0 (E b) C D0 rd Xer s (Yg (Vr (E b) C D0 rd Q3w K) K):=rfl
noncomputable def Qua:Array Oper:=Xr7 (Xr6 9 (Qas 30))
def Xx0:Code := .region 9 Qua true
abbrev Xch:List Oper := [oP 53 (.move (.tmp 0)),
  oP 54 (.fieldAddr 74 (.tmp 3) 0),
  oP 55 (.load 3 (.tmp 54)),
  oP 56 (.call {callee := .value (.func 36),args := #[(.tmp 53),(.tmp 55)],argTypes := #[40,3]}),
  oP 57 (.fieldAddr 74 (.tmp 3) 2),
  oP 58 (.load 3 (.tmp 57)),
  oP 59 (.binOp Go.BinOp.lss 3 (.tmp 56) (.tmp 58) 3)]
def Qw7:List Oper:=Xch
theorem X77:Qua.toList.map bare=Xch:=by kernel_rfl
theorem Xht:Qua.toList.map bare=Qw7:=X77
def Qn3:List Nat := [0,0,2,7,0,16,63]
theorem Xlx:Xul Qua.toList []=some Qn3:=by kernel_rfl
theorem Xhn:Qlj Qua.toList Qua.toList Qn3 []=true:=by kernel_rfl
theorem Xnp(b:Nat)(L:List KE)(s:St):Ab.runT (E b) L Qw7 Qn3 Qw7 0 s=Ab.runT (E b) L Qw7 Qn3 Xch 0 s:=rfl
theorem Xol(b:Nat):Qno (E b) 3 ((nth Qn3 3).getD 0) Qw7 Qn3 0=true:=by kernel_rfl
abbrev Xrv:List Oper := [oP 4 (.assign (.const (.int .i64 22)))]
def Xvi:List Oper:=Xrv
def Xe6:Code := .region 0 Xvi.toArray false
theorem J2:Q0 (E b) C D0 rd Xe6 s K=Qac (E b) C rd Xvi K Xrv s:=rfl
def Xe8:Code := .seq Xe6 .ret
theorem Zp:Q0 (E b) C D0 rd Xe8 s K=Q0 (E b) C D0 rd Xe6 s (Yg (Vr (E b) C D0 rd .ret K) K):=rfl
def Q43:Code := .cond (.tmp 59) Xe8 .skip
theorem J6(h:aev (E b).G s.t (.tmp 59)=some (.bool true)):Q0 (E b) C D0 rd Q43 s K=Q0 (E b) C D0 rd Xe8 s K:=Qit h
theorem Yt(h:aev (E b).G s.t (.tmp 59)=some (.bool false)):Q0 (E b) C D0 rd Q43 s K=Q0 (E b) C D0 rd .skip s K:=Qiv h
def Xg5:Code := .seq Xx0 Q43
theorem Zu:Q0 (E b) C D0 rd Xg5 s K=Q0 (E b) C D0 rd Xx0 s (Yg (Vr (E b) C D0 rd Q43 K) K):=rfl
abbrev Q0i:List Oper := [oP 5 (.assign (.const (.slice none 0 0)))]
def Xvp:List Oper:=Q0i
def Xe5:Code := .region 0 Xvp.toArray false
theorem Z5:Q0 (E b) C D0 rd Xe5 s K=Qac (E b) C rd Xvp K Q0i s:=rfl
abbrev Xsc:List Oper := [oP 6 (.assign (.const (.bool false)))]
def Xvl:List Oper:=Xsc
def Xf5:Code := .region 0 Xvl.toArray false
theorem Zc:Q0 (E b) C D0 rd Xf5 s K=Qac (E b) C rd Xvl K Xsc s:=rfl
abbrev Xs5:List Oper := [oP 7 (.assign (.const (.int .i64 0)))]
def Xvf:List Oper:=Xs5
def Xfb:Code := .region 0 Xvf.toArray false
theorem Jc:Q0 (E b) C D0 rd Xfb s K=Qac (E b) C rd Xvf K Xs5 s:=rfl
abbrev Xro:List Oper := [oP 60 (.move (.tmp 7)),
  oP 61 (.move (.tmp 0)),
  oP 62 (.nilCheck (.tmp 61)),
  oP 63 (.fieldAddr 72 (.tmp 62) 1),
  oP 64 (.load 70 (.tmp 63)),
  oP 65 (.call {callee := .builtin Go.Builtin.len,args := #[(.tmp 64)],argTypes := #[70]}),
  oP 66 (.binOp Go.BinOp.lss 3 (.tmp 60) (.tmp 65) 3)]
def Xvg:List Oper:=Xro
def Xfl:Code := .region 0 Xvg.toArray false
theorem Z3:Q0 (E b) C D0 rd Xfl s K=Qac (E b) C rd Xvg K Xro s:=rfl
def Q3h:Code := .cond (.tmp 66) .skip (.exit 0)
theorem Zz(h:aev (E b).G s.t (.tmp 66)=some (.bool true)):Q0 (E b) C D0 rd Q3h s K=Q0 (E b) C D0 rd .skip s K:=Qit h
theorem Zo(h:aev (E b).G s.t (.tmp 66)=some (.bool false)):Q0 (E b) C D0 rd Q3h s K=Q0 (E b) C D0 rd (.exit 0) s K:=Qiv h
def Xgw:Code := .seq Xfl Q3h
theorem Z0:Q0 (E b) C D0 rd Xgw s K=Q0 (E b) C D0 rd Xfl s (Yg (Vr (E b) C D0 rd Q3h K) K):=rfl
noncomputable def Qwc:Array Oper:=Xr7 (Xr6 16 (Qas 30))
def Xvd:Code := .region 16 Qwc true
abbrev Ya7:List Oper := [oP 69 (.move (.tmp 6)),
  oP 70 (.unOp Go.UnOp.not 4 (.tmp 69)),
  oP 71 (.move (.tmp 70)),
  oG 2 true 72 (.move (.tmp 0)),
  oG 2 true 73 (.nilCheck (.tmp 72)),
  oG 2 true 74 (.fieldAddr 72 (.tmp 73) 1),
  oG 2 true 75 (.load 70 (.tmp 74)),
  oG 2 true 76 (.move (.tmp 7)),
  oG 2 true 77 (.indexAddr 70 (.tmp 75) (.tmp 76)),
  oG 2 true 78 (.fieldAddr 89 (.tmp 77) 0),
  oG 2 true 79 (.fieldAddr 74 (.tmp 78) 1),
  oG 2 true 80 (.load 3 (.tmp 79)),
  oG 2 true 81 (.fieldAddr 74 (.tmp 3) 1),
  oG 2 true 82 (.load 3 (.tmp 81)),
  oG 2 true 83 (.binOp Go.BinOp.gtr 3 (.tmp 80) (.tmp 82) 3),
  oP 84 (.pick (.tmp 71) (.tmp 83) (.const (.bool false)))]
theorem Q1f:Qwc.toList.map bare=Ya7:=by kernel_rfl
def Xoq:List Nat := [0,1,3,7,15,31,63,7,255,511,1023,2047,7,4103,16383,32767]
theorem Q1y:Xul Qwc.toList []=some Xoq:=by kernel_rfl
theorem Qzm:Qlj Qwc.toList Qwc.toList Xoq []=true:=by kernel_rfl
abbrev Xrt:List Oper := [oP 85 (.move (.tmp 5)),
  oP 86 (.load 74 (.tmp 3)),
  oP 87 (.build 89 #[(0,(.tmp 86)),(1,(.const (.int .i64 1)))]),
  oP 88 (.buildSlice 70 1 #[(0,(.tmp 87))]),
  oP 89 (.call {callee := .builtin Go.Builtin.append,args := #[(.tmp 85),(.tmp 88)],argTypes := #[70,70]}),
  oP 5 (.assign (.tmp 89))]
def Xv1:List Oper:=Xrt
def Xe9:Code := .region 0 Xv1.toArray false
theorem Yu:Q0 (E b) C D0 rd Xe9 s K=Qac (E b) C rd Xv1 K Xrt s:=rfl
abbrev Xsd:List Oper := [oP 6 (.assign (.const (.bool true)))]
def Xus:List Oper:=Xsd
def Xec:Code := .region 0 Xus.toArray false
theorem Zl:Q0 (E b) C D0 rd Xec s K=Qac (E b) C rd Xus K Xsd s:=rfl
def Xeg:Code := .seq Xe9 Xec
theorem Zq:Q0 (E b) C D0 rd Xeg s K=Q0 (E b) C D0 rd Xe9 s (Yg (Vr (E b) C D0 rd Xec K) K):=rfl
def Q3p:Code := .cond (.tmp 84) Xeg .skip
theorem Zi(h:aev (E b).G s.t (.tmp 84)=some (.bool true)):Q0 (E b) C D0 rd Q3p s K=Q0 (E b) C D0 rd Xeg s K:=Qit h
theorem Jf(h:aev (E b).G s.t (.tmp 84)=some (.bool false)):Q0 (E b) C D0 rd Q3p s K=Q0 (E b) C D0 rd .skip s K:=Qiv h
def Xh1:Code := .seq Xvd Q3p
theorem Yv:Q0 (E b) C D0 rd Xh1 s K=Q0 (E b) C D0 rd Xvd s (Yg (Vr (E b) C D0 rd Q3p K) K):=rfl
abbrev Xsb:List Oper := [oP 90 (.move (.tmp 5)),
  oP 91 (.move (.tmp 0)),
  oP 92 (.nilCheck (.tmp 91)),
  oP 93 (.fieldAddr 72 (.tmp 92) 1),
  oP 94 (.load 70 (.tmp 93)),
  oP 95 (.move (.tmp 7)),
  oP 96 (.indexAddr 70 (.tmp 94) (.tmp 95)),
  oP 97 (.load 89 (.tmp 96)),
  oP 98 (.buildSlice 70 1 #[(0,(.tmp 97))]),
  oP 99 (.call {callee := .builtin Go.Builtin.append,args := #[(.tmp 90),(.tmp 98)],argTypes := #[70,70]}),
  oP 5 (.assign (.tmp 99))]
def Xu8:List Oper:=Xsb
def Xgs:Code := .region 0 Xu8.toArray false
theorem Z1:Q0 (E b) C D0 rd Xgs s K=Qac (E b) C rd Xu8 K Xsb s:=rfl
def Xgx:Code := .seq Xh1 Xgs
theorem Zd:Q0 (E b) C D0 rd Xgx s K=Q0 (E b) C D0 rd Xh1 s (Yg (Vr (E b) C D0 rd Xgs K) K):=rfl
def Xgc:Code := .block 1 Xgx
theorem Ja:Q0 (E b) C D0 rd Xgc s K=Q0 (E b) C D0 rd Xgx s (Ql8 1 K):=rfl
abbrev Xrz:List Oper := [oP 67 (.move (.tmp 7)),
  oP 68 (.binOp Go.BinOp.add 3 (.tmp 67) (.const (.int .i64 1)) 3),
  oP 7 (.assign (.tmp 68))]
def Xv5:List Oper:=Xrz
def Xea:Code := .region 0 Xv5.toArray false
theorem Yz:Q0 (E b) C D0 rd Xea s K=Qac (E b) C rd Xv5 K Xrz s:=rfl
def Xgi:Code := .seq Xgc Xea
theorem Zs:Q0 (E b) C D0 rd Xgi s K=Q0 (E b) C D0 rd Xgc s (Yg (Vr (E b) C D0 rd Xea K) K):=rfl
def Xui:Code := .seq Xgw Xgi
theorem Zm:Q0 (E b) C D0 rd Xui s K=Q0 (E b) C D0 rd Xgw s (Yg (Vr (E b) C D0 rd Xgi K) K):=rfl
def Xu7:Code := .loop Xui
def Xgm:Code := .block 0 Xu7
theorem Z6:Q0 (E b) C D0 rd Xgm s K=Q0 (E b) C D0 rd Xu7 s (Ql8 0 K):=rfl
def Xh3:Code := .seq Xfb Xgm
theorem Z7:Q0 (E b) C D0 rd Xh3 s K=Q0 (E b) C D0 rd Xfb s (Yg (Vr (E b) C D0 rd Xgm K) K):=rfl
abbrev Xs9:List Oper := [oP 100 (.move (.tmp 6)),
  oP 101 (.unOp Go.UnOp.not 4 (.tmp 100))]
def Xum:List Oper:=Xs9
def Xfi:Code := .region 0 Xum.toArray false
theorem Zn:Q0 (E b) C D0 rd Xfi s K=Qac (E b) C rd Xum K Xs9 s:=rfl
abbrev Xs1:List Oper := [oP 102 (.move (.tmp 5)),
  oP 103 (.load 74 (.tmp 3)),
  oP 104 (.build 89 #[(0,(.tmp 103)),(1,(.const (.int .i64 1)))]),
  oP 105 (.buildSlice 70 1 #[(0,(.tmp 104))]),
  oP 106 (.call {callee := .builtin Go.Builtin.append,args := #[(.tmp 102),(.tmp 105)],argTypes := #[70,70]}),
  oP 5 (.assign (.tmp 106))]
def Xv9:List Oper:=Xs1
def Xfx:Code := .region 0 Xv9.toArray false
theorem Ze:Q0 (E b) C D0 rd Xfx s K=Qac (E b) C rd Xv9 K Xs1 s:=rfl
def Q45:Code := .cond (.tmp 101) Xfx .skip
theorem J3(h:aev (E b).G s.t (.tmp 101)=some (.bool true)):Q0 (E b) C D0 rd Q45 s K=Q0 (E b) C D0 rd Xfx s K:=Qit h
theorem Yx(h:aev (E b).G s.t (.tmp 101)=some (.bool false)):Q0 (E b) C D0 rd Q45 s K=Q0 (E b) C D0 rd .skip s K:=Qiv h
def Xgr:Code := .seq Xfi Q45
theorem Zj:Q0 (E b) C D0 rd Xgr s K=Q0 (E b) C D0 rd Xfi s (Yg (Vr (E b) C D0 rd Q45 K) K):=rfl
abbrev Xrk:List Oper := [oP 107 (.move (.tmp 0)),
  oP 108 (.move (.tmp 5)),
  oP 109 (.nilCheck (.tmp 107)),
  oP 110 (.fieldAddr 72 (.tmp 109) 1),
  oN (.store 70 (.tmp 110) (.tmp 108))]
def Xuj:List Oper:=Xrk
def Xeq:Code := .region 0 Xuj.toArray false
theorem Zk:Q0 (E b) C D0 rd Xeq s K=Qac (E b) C rd Xuj K Xrk s:=rfl
def Xub:List Oper:=Qgg
def Xf7:Code := .region 0 Xub.toArray false
theorem Zf:Q0 (E b) C D0 rd Xf7 s K=Qac (E b) C rd Xub K Qgg s:=rfl
def Xfj:Code := .seq Xf7 .ret
theorem Zx:Q0 (E b) C D0 rd Xfj s K=Q0 (E b) C D0 rd Xf7 s (Yg (Vr (E b) C D0 rd .ret K) K):=rfl
def Xdx:Code := .seq Xeq Xfj
theorem Yy:Q0 (E b) C D0 rd Xdx s K=Q0 (E b) C D0 rd Xeq s (Yg (Vr (E b) C D0 rd Xfj K) K):=rfl
def Xga:Code := .seq Xgr Xdx
theorem J8:Q0 (E b) C D0 rd Xga s K=Q0 (E b) C D0 rd Xgr s (Yg (Vr (E b) C D0 rd Xdx K) K):=rfl
def Xet:Code := .seq Xh3 Xga
theorem Zg:Q0 (E b) C D0 rd Xet s K=Q0 (E b) C D0 rd Xh3 s (Yg (Vr (E b) C D0 rd Xga K) K):=rfl
def Xgy:Code := .seq Xf5 Xet
theorem Yr:Q0 (E b) C D0 rd Xgy s K=Q0 (E b) C D0 rd Xf5 s (Yg (Vr (E b) C D0 rd Xet K) K):=rfl
def Q3c:Code := .seq Xe5 Xgy
theorem Yq:Q0 (E b) C D0 rd Q3c s K=Q0 (E b) C D0 rd Xe5 s (Yg (Vr (E b) C D0 rd Xgy K) K):=rfl
def Xfu:Code := .seq Xg5 Q3c
theorem J0:Q0 (E b) C D0 rd Xfu s K=Q0 (E b) C D0 rd Xg5 s (Yg (Vr (E b) C D0 rd Q3c K) K):=rfl
def Xf3:Code := .seq Xf0 Xfu
theorem Zw:Q0 (E b) C D0 rd Xf3 s K=Q0 (E b) C D0 rd Xf0 s (Yg (Vr (E b) C D0 rd Xfu K) K):=rfl
def Xgo:Code := .seq Xei Xf3
theorem J1:Q0 (E b) C D0 rd Xgo s K=Q0 (E b) C D0 rd Xei s (Yg (Vr (E b) C D0 rd Xf3 K) K):=rfl
def Xef:Code := .seq Xjn Xgo
theorem Z9:Q0 (E b) C D0 rd Xef s K=Q0 (E b) C D0 rd Xjn s (Yg (Vr (E b) C D0 rd Xgo K) K):=rfl
def Xjt:Code := .seq Xjw Xef
theorem Jj:Q0 (E b) C D0 rd Xjt s K=Q0 (E b) C D0 rd Xjw s (Yg (Vr (E b) C D0 rd Xef K) K):=rfl
def Xxe:Code := .seq Xkb Xjt
theorem Jo:Q0 (E b) C D0 rd Xxe s K=Q0 (E b) C D0 rd Xkb s (Yg (Vr (E b) C D0 rd Xjt K) K):=rfl
def Jg:Code:=Xxe
theorem Ylc:Quc (Qas 30)=Jg:=by kernel_rfl
theorem Ydv:Q03.body=some (Qas 30):=by kernel_rfl
theorem Yof:Q03.ntmps=111:=by kernel_rfl
theorem V1:Q03.results.toList = [.tmp 4]:=by kernel_rfl
abbrev Xo5:List Oper := [oP 5 (.box 30 (.tmp 2)),
  oP 6 (.assign (.const (.int .i64 0)))]
def Xq5:List Oper:=Xo5
def Q98:Code := .region 0 Xq5.toArray false
theorem Qay:Q0 (E b) C D0 rd Q98 s K=Qac (E b) C rd Xq5 K Xo5 s:=rfl
abbrev Xny:List Oper := [oP 8 (.move (.tmp 0)),
  oP 9 (.move (.tmp 1)),
  oP 10 (.call {callee := .value (.func 47),args := #[(.tmp 8),(.tmp 9)],argTypes := #[40,3]}),
  oP 7 (.assign (.tmp 10))]
def Xqy:List Oper:=Xny
def Q9z:Code := .region 0 Xqy.toArray false
theorem Qb1:Q0 (E b) C D0 rd Q9z s K=Qac (E b) C rd Xqy K Xny s:=rfl
abbrev Xo9:List Oper := [oP 11 (.move (.tmp 7)),
  oP 12 (.binOp Go.BinOp.lss 3 (.tmp 11) (.const (.int .i64 0)) 3),
  oP 13 (.move (.tmp 12)),
  oG 2 false 14 (.move (.tmp 0)),
  oG 2 false 15 (.nilCheck (.tmp 14)),
  oG 2 false 16 (.fieldAddr 72 (.tmp 15) 1),
  oG 2 false 17 (.load 70 (.tmp 16)),
  oG 2 false 18 (.move (.tmp 7)),
  oG 2 false 19 (.indexAddr 70 (.tmp 17) (.tmp 18)),
  oG 2 false 20 (.fieldAddr 89 (.tmp 19) 1),
  oG 2 false 21 (.load 3 (.tmp 20)),
  oG 2 false 22 (.binOp Go.BinOp.neq 3 (.tmp 21) (.const (.int .i64 1)) 3),
  oP 23 (.pick (.tmp 13) (.const (.bool true)) (.tmp 22))]
def Q8v:List Oper:=Xo9
def Q9j:Code := .region 0 Q8v.toArray false
theorem Qb2:Q0 (E b) C D0 rd Q9j s K=Qac (E b) C rd Q8v K Xo9 s:=rfl
theorem Qai:nth Q8v 2=some ⟨(some 13), .move (.tmp 12),0,"",#[],none⟩:=rfl
abbrev Xnn:List Oper := [oP 6 (.assign (.const (.int .i64 12)))]
def Xr2:List Oper:=Xnn
def Xaj:Code := .region 0 Xr2.toArray false
theorem Qax:Q0 (E b) C D0 rd Xaj s K=Qac (E b) C rd Xr2 K Xnn s:=rfl
def Q9b:Code := .seq Xaj .ret
theorem Qaz:Q0 (E b) C D0 rd Q9b s K=Q0 (E b) C D0 rd Xaj s (Yg (Vr (E b) C D0 rd .ret K) K):=rfl
def Qya:Code := .cond (.tmp 23) Q9b .skip
theorem Qb0(h:aev (E b).G s.t (.tmp 23)=some (.bool true)):Q0 (E b) C D0 rd Qya s K=Q0 (E b) C D0 rd Q9b s K:=Qit h
theorem Qav(h:aev (E b).G s.t (.tmp 23)=some (.bool false)):Q0 (E b) C D0 rd Qya s K=Q0 (E b) C D0 rd .skip s K:=Qiv h
def Q8r:Code := .seq Q9j Qya
theorem Qb4:Q0 (E b) C D0 rd Q8r s K=Q0 (E b) C D0 rd Q9j s (Yg (Vr (E b) C D0 rd Qya K) K):=rfl
noncomputable def Qpn:Array Oper:=Xr7 (Xr6 4 (Qas 32))
def Xq3:Code := .region 4 Qpn true
abbrev Q60:List Oper := [oP 24 (.slice 30 (.tmp 5) none none none),
  oP 25 (.call {callee := .value (.func 48),args := #[(.tmp 24)],argTypes := #[51]}),
  oP 26 (.move (.tmp 0)),
  oP 27 (.nilCheck (.tmp 26)),
  oP 28 (.fieldAddr 72 (.tmp 27) 1),
  oP 29 (.load 70 (.tmp 28)),
  oP 30 (.move (.tmp 7)),
  oP 31 (.indexAddr 70 (.tmp 29) (.tmp 30)),
  oP 32 (.fieldAddr 89 (.tmp 31) 0),
  oP 33 (.fieldAddr 74 (.tmp 32) 4),
  oP 34 (.load 30 (.tmp 33)),
  oP 35 (.binOp Go.BinOp.neq 30 (.tmp 25) (.tmp 34) 30)]
def Qsv:List Oper:=Q60
theorem Xy3:Qpn.toList.map bare=Q60:=by kernel_rfl
theorem Xb8:Qpn.toList.map bare=Qsv:=Xy3
def Ql5:List Nat := [0,1,0,4,12,28,0,124,252,508,1020,2047]
theorem Xdm:Xul Qpn.toList []=some Ql5:=by kernel_rfl
theorem Xb9:Qlj Qpn.toList Qpn.toList Ql5 []=true:=by kernel_rfl
theorem Xgh(b:Nat)(L:List KE)(s:St):Ab.runT (E b) L Qsv Ql5 Qsv 0 s=Ab.runT (E b) L Qsv Ql5 Q60 0 s:=rfl
theorem Xj6(b:Nat):Qno (E b) 1 ((nth Ql5 1).getD 0) Qsv Ql5 0=true:=by kernel_rfl
abbrev Xko:List Oper := [oP 6 (.assign (.const (.int .i64 16)))]
def Xnk:List Oper:=Xko
def Q8f:Code := .region 0 Xnk.toArray false
theorem Qao:Q0 (E b) C D0 rd Q8f s K=Qac (E b) C rd Xnk K Xko s:=rfl
def Q7r:Code := .seq Q8f .ret
theorem Qag:Q0 (E b) C D0 rd Q7r s K=Q0 (E b) C D0 rd Q8f s (Yg (Vr (E b) C D0 rd .ret K) K):=rfl
def Qww:Code := .cond (.tmp 35) Q7r .skip
theorem Qah(h:aev (E b).G s.t (.tmp 35)=some (.bool true)):Q0 (E b) C D0 rd Qww s K=Q0 (E b) C D0 rd Q7r s K:=Qit h
theorem Qan(h:aev (E b).G s.t (.tmp 35)=some (.bool false)):Q0 (E b) C D0 rd Qww s K=Q0 (E b) C D0 rd .skip s K:=Qiv h
def Q89:Code := .seq Xq3 Qww
theorem Qae:Q0 (E b) C D0 rd Q89 s K=Q0 (E b) C D0 rd Xq3 s (Yg (Vr (E b) C D0 rd Qww K) K):=rfl
abbrev Xl1:List Oper := [oP 36 (.move (.tmp 0)),
  oP 37 (.nilCheck (.tmp 36)),
  oP 38 (.fieldAddr 72 (.tmp 37) 1),
  oP 39 (.load 70 (.tmp 38)),
  oP 40 (.move (.tmp 7)),
  oP 41 (.indexAddr 70 (.tmp 39) (.tmp 40)),
  oP 42 (.fieldAddr 89 (.tmp 41) 1),
  oN (.store 3 (.tmp 42) (.const (.int .i64 2)))]
def Xnm:List Oper:=Xl1
def Q7d:Code := .region 0 Xnm.toArray false
theorem Qal:Q0 (E b) C D0 rd Q7d s K=Qac (E b) C rd Xnm K Xl1 s:=rfl
noncomputable def Qpm:Array Oper:=Xr7 (Xr6 7 (Qas 32))
def Xov:Code := .region 7 Qpm true
abbrev Q4j:List Oper := [oP 43 (.move (.tmp 0)),
  oP 44 (.nilCheck (.tmp 43)),
  oP 45 (.fieldAddr 72 (.tmp 44) 1),
  oP 46 (.load 70 (.tmp 45)),
  oP 47 (.move (.tmp 7)),
  oP 48 (.load 30 (.tmp 5)),
  oP 49 (.indexAddr 70 (.tmp 46) (.tmp 47)),
  oP 50 (.fieldAddr 89 (.tmp 49) 2),
  oN (.store 30 (.tmp 50) (.tmp 48))]
def Qst:List Oper:=Q4j
theorem Xxx:Qpm.toList.map bare=Q4j:=by kernel_rfl
theorem Xwn:Qpm.toList.map bare=Qst:=Xxx
def Qm2:List Nat := [0,1,3,7,0,0,63,127,255]
theorem Xxw:Xul Qpm.toList []=some Qm2:=by kernel_rfl
theorem Xw3:Qlj Qpm.toList Qpm.toList Qm2 []=true:=by kernel_rfl
theorem X3q(b:Nat)(L:List KE)(s:St):Ab.runT (E b) L Qst Qm2 Qst 0 s=Ab.runT (E b) L Qst Qm2 Q4j 0 s:=rfl
theorem X5m(b:Nat):Qno (E b) 8 ((nth Qm2 8).getD 0) Qst Qm2 0=true:=by kernel_rfl
def Xo0:List Oper:=Qnu
def Q6z:Code := .region 0 Xo0.toArray false
theorem Qap:Q0 (E b) C D0 rd Q6z s K=Qac (E b) C rd Xo0 K Qnu s:=rfl
def Q76:Code := .seq Q6z .ret
theorem Qaq:Q0 (E b) C D0 rd Q76 s K=Q0 (E b) C D0 rd Q6z s (Yg (Vr (E b) C D0 rd .ret K) K):=rfl
def Q7b:Code := .seq Xov Q76
theorem Qam:Q0 (E b) C D0 rd Q7b s K=Q0 (E b) C D0 rd Xov s (Yg (Vr (E b) C D0 rd Q76 K) K):=rfl
def Q7m:Code := .seq Q7d Q7b
theorem Qaj:Q0 (E b) C D0 rd Q7m s K=Q0 (E b) C D0 rd Q7d s (Yg (Vr (E b) C D0 rd Q7b K) K):=rfl
def Q75:Code := .seq Q89 Q7m
theorem Qaf:Q0 (E b) C D0 rd Q75 s K=Q0 (E b) C D0 rd Q89 s (Yg (Vr (E b) C D0 rd Q7m K) K):=rfl
def Xau:Code := .seq Q8r Q75
theorem Qb3:Q0 (E b) C D0 rd Xau s K=Q0 (E b) C D0 rd Q8r s (Yg (Vr (E b) C D0 rd Q75 K) K):=rfl
def Xa3:Code := .seq Q9z Xau
theorem Qb5:Q0 (E b) C D0 rd Xa3 s K=Q0 (E b) C D0 rd Q9z s (Yg (Vr (E b) C D0 rd Xau K) K):=rfl
def Xpw:Code := .seq Q98 Xa3
theorem Qat:Q0 (E b) C D0 rd Xpw s K=Q0 (E b) C D0 rd Q98 s (Yg (Vr (E b) C D0 rd Xa3 K) K):=rfl
def Qab:Code:=Xpw
theorem Yay:Quc (Qas 32)=Qab:=by kernel_rfl
theorem X8j:Q0k.body=some (Qas 32):=by kernel_rfl
theorem Ydz:Q0k.ntmps=51:=by kernel_rfl
theorem Qfl:Q0k.results.toList = [.tmp 6]:=by kernel_rfl
def Xvj:List Oper:=Qgg
def Xeu:Code := .region 0 Xvj.toArray false
theorem Qyl:Q0 (E b) C D0 rd Xeu s K=Qac (E b) C rd Xvj K Qgg s:=rfl
abbrev Xrs:List Oper := [oP 6 (.move (.tmp 0)),
  oP 7 (.move (.tmp 1)),
  oP 8 (.call {callee := .value (.func 47),args := #[(.tmp 6),(.tmp 7)],argTypes := #[40,3]}),
  oP 5 (.assign (.tmp 8))]
def Xuy:List Oper:=Xrs
def Xf6:Code := .region 0 Xuy.toArray false
theorem Qxu:Q0 (E b) C D0 rd Xf6 s K=Qac (E b) C rd Xuy K Xrs s:=rfl
abbrev Xse:List Oper := [oP 9 (.move (.tmp 5)),
  oP 10 (.binOp Go.BinOp.lss 3 (.tmp 9) (.const (.int .i64 0)) 3),
  oP 11 (.move (.tmp 10)),
  oG 2 false 12 (.move (.tmp 0)),
  oG 2 false 13 (.nilCheck (.tmp 12)),
  oG 2 false 14 (.fieldAddr 72 (.tmp 13) 1),
  oG 2 false 15 (.load 70 (.tmp 14)),
  oG 2 false 16 (.move (.tmp 5)),
  oG 2 false 17 (.indexAddr 70 (.tmp 15) (.tmp 16)),
  oG 2 false 18 (.fieldAddr 89 (.tmp 17) 1),
  oG 2 false 19 (.load 3 (.tmp 18)),
  oG 2 false 20 (.binOp Go.BinOp.neq 3 (.tmp 19) (.const (.int .i64 1)) 3),
  oP 21 (.pick (.tmp 11) (.const (.bool true)) (.tmp 20))]
def Xes:List Oper:=Xse
def Xgd:Code := .region 0 Xes.toArray false
theorem Qyw:Q0 (E b) C D0 rd Xgd s K=Qac (E b) C rd Xes K Xse s:=rfl
theorem Qx3:nth Xes 2=some ⟨(some 11), .move (.tmp 10),0,"",#[],none⟩:=rfl
abbrev Xrm:List Oper := [oP 4 (.assign (.const (.int .i64 12)))]
def Xu3:List Oper:=Xrm
def Xgj:Code := .region 0 Xu3.toArray false
theorem Qxy:Q0 (E b) C D0 rd Xgj s K=Qac (E b) C rd Xu3 K Xrm s:=rfl
def Xfk:Code := .seq Xgj .ret
theorem Qxq:Q0 (E b) C D0 rd Xfk s K=Q0 (E b) C D0 rd Xgj s (Yg (Vr (E b) C D0 rd .ret K) K):=rfl
def Q3a:Code := .cond (.tmp 21) Xfk .skip
theorem Qz1(h:aev (E b).G s.t (.tmp 21)=some (.bool true)):Q0 (E b) C D0 rd Q3a s K=Q0 (E b) C D0 rd Xfk s K:=Qit h
theorem Qyx(h:aev (E b).G s.t (.tmp 21)=some (.bool false)):Q0 (E b) C D0 rd Q3a s K=Q0 (E b) C D0 rd .skip s K:=Qiv h
def Xe4:Code := .seq Xgd Q3a
theorem Qyf:Q0 (E b) C D0 rd Xe4 s K=Q0 (E b) C D0 rd Xgd s (Yg (Vr (E b) C D0 rd Q3a K) K):=rfl
abbrev Xpj:List Oper := [oP 22 (.move (.tmp 0)),
  oP 23 (.nilCheck (.tmp 22)),
  oP 24 (.fieldAddr 72 (.tmp 23) 1),
  oP 25 (.load 70 (.tmp 24)),
  oP 26 (.move (.tmp 5)),
  oP 27 (.indexAddr 70 (.tmp 25) (.tmp 26)),
  oP 28 (.fieldAddr 89 (.tmp 27) 1),
  oN (.store 3 (.tmp 28) (.const (.int .i64 3)))]
def Xrw:List Oper:=Xpj
def Xci:Code := .region 0 Xrw.toArray false
theorem Qwy:Q0 (E b) C D0 rd Xci s K=Qac (E b) C rd Xrw K Xpj s:=rfl
def Xs7:List Oper:=Qgg
def Xcu:Code := .region 0 Xs7.toArray false
theorem Qwi:Q0 (E b) C D0 rd Xcu s K=Qac (E b) C rd Xs7 K Qgg s:=rfl
def Xcn:Code := .seq Xcu .ret
theorem Qwm:Q0 (E b) C D0 rd Xcn s K=Q0 (E b) C D0 rd Xcu s (Yg (Vr (E b) C D0 rd .ret K) K):=rfl
def Xco:Code := .seq Xci Xcn
theorem Qwo:Q0 (E b) C D0 rd Xco s K=Q0 (E b) C D0 rd Xci s (Yg (Vr (E b) C D0 rd Xcn K) K):=rfl
def Xe0:Code := .seq Xe4 Xco
theorem Qyq:Q0 (E b) C D0 rd Xe0 s K=Q0 (E b) C D0 rd Xe4 s (Yg (Vr (E b) C D0 rd Xco K) K):=rfl
def Xgz:Code := .seq Xf6 Xe0
theorem Qz4:Q0 (E b) C D0 rd Xgz s K=Q0 (E b) C D0 rd Xf6 s (Yg (Vr (E b) C D0 rd Xe0 K) K):=rfl
def Xuu:Code := .seq Xeu Xgz
theorem Qz3:Q0 (E b) C D0 rd Xuu s K=Q0 (E b) C D0 rd Xeu s (Yg (Vr (E b) C D0 rd Xgz K) K):=rfl
def Qu7:Code:=Xuu
theorem Yid:Quc (Qas 33)=Qu7:=by kernel_rfl
theorem Yb0:Q6j.body=some (Qas 33):=by kernel_rfl
theorem Yku:Q6j.ntmps=29:=by kernel_rfl
theorem Q3y:Q6j.results.toList = [.tmp 4]:=by kernel_rfl
abbrev Xn6:List Oper := [oP 4 (.assign (.const (.slice none 0 0)))]
def Xoy:List Oper:=Xn6
def Xaq:Code := .region 0 Xoy.toArray false
theorem Qry:Q0 (E b) C D0 rd Xaq s K=Qac (E b) C rd Xoy K Xn6 s:=rfl
def Xpr:List Oper:=Q0i
def Xa8:Code := .region 0 Xpr.toArray false
theorem Qri:Q0 (E b) C D0 rd Xa8 s K=Qac (E b) C rd Xpr K Q0i s:=rfl
def Xpm:List Oper:=Qnu
def Q8u:Code := .region 0 Xpm.toArray false
theorem Qro:Q0 (E b) C D0 rd Q8u s K=Qac (E b) C rd Xpm K Qnu s:=rfl
abbrev Xna:List Oper := [oP 7 (.move (.tmp 6)),
  oP 8 (.move (.tmp 0)),
  oP 9 (.nilCheck (.tmp 8)),
  oP 10 (.fieldAddr 72 (.tmp 9) 1),
  oP 11 (.load 70 (.tmp 10)),
  oP 12 (.call {callee := .builtin Go.Builtin.len,args := #[(.tmp 11)],argTypes := #[70]}),
  oP 13 (.binOp Go.BinOp.lss 3 (.tmp 7) (.tmp 12) 3)]
def Xqu:List Oper:=Xna
def Q9t:Code := .region 0 Xqu.toArray false
theorem Qrf:Q0 (E b) C D0 rd Q9t s K=Qac (E b) C rd Xqu K Xna s:=rfl
def Qyv:Code := .cond (.tmp 13) .skip (.exit 0)
theorem Qrv(h:aev (E b).G s.t (.tmp 13)=some (.bool true)):Q0 (E b) C D0 rd Qyv s K=Q0 (E b) C D0 rd .skip s K:=Qit h
theorem Qrp(h:aev (E b).G s.t (.tmp 13)=some (.bool false)):Q0 (E b) C D0 rd Qyv s K=Q0 (E b) C D0 rd (.exit 0) s K:=Qiv h
def Q96:Code := .seq Q9t Qyv
theorem Qrw:Q0 (E b) C D0 rd Q96 s K=Q0 (E b) C D0 rd Q9t s (Yg (Vr (E b) C D0 rd Qyv K) K):=rfl
abbrev Xkx:List Oper := [oP 16 (.move (.tmp 0)),
  oP 17 (.nilCheck (.tmp 16)),
  oP 18 (.fieldAddr 72 (.tmp 17) 1),
  oP 19 (.load 70 (.tmp 18)),
  oP 20 (.move (.tmp 6)),
  oP 21 (.indexAddr 70 (.tmp 19) (.tmp 20)),
  oP 22 (.fieldAddr 89 (.tmp 21) 1),
  oP 23 (.load 3 (.tmp 22)),
  oP 24 (.binOp Go.BinOp.eql 3 (.tmp 23) (.const (.int .i64 1)) 3),
  oP 25 (.move (.tmp 24)),
  oG 9 true 26 (.move (.tmp 0)),
  oG 9 true 27 (.nilCheck (.tmp 26)),
  oG 9 true 28 (.fieldAddr 72 (.tmp 27) 1),
  oG 9 true 29 (.load 70 (.tmp 28)),
  oG 9 true 30 (.move (.tmp 6)),
  oG 9 true 31 (.indexAddr 70 (.tmp 29) (.tmp 30)),
  oG 9 true 32 (.fieldAddr 89 (.tmp 31) 0),
  oG 9 true 33 (.fieldAddr 74 (.tmp 32) 3),
  oG 9 true 34 (.load 3 (.tmp 33)),
  oG 9 true 35 (.move (.tmp 1)),
  oG 9 true 36 (.binOp Go.BinOp.leq 3 (.tmp 34) (.tmp 35) 3),
  oP 37 (.pick (.tmp 25) (.tmp 36) (.const (.bool false)))]
def Q6l:List Oper:=Xkx
def Q88:Code := .region 0 Q6l.toArray false
theorem Qqi:Q0 (E b) C D0 rd Q88 s K=Qac (E b) C rd Q6l K Xkx s:=rfl
theorem Qol:nth Q6l 9=some ⟨(some 25), .move (.tmp 24),0,"",#[],none⟩:=rfl
abbrev Xke:List Oper := [oP 38 (.move (.tmp 0)),
  oP 39 (.nilCheck (.tmp 38)),
  oP 40 (.fieldAddr 72 (.tmp 39) 1),
  oP 41 (.load 70 (.tmp 40)),
  oP 42 (.move (.tmp 6)),
  oP 43 (.indexAddr 70 (.tmp 41) (.tmp 42)),
  oP 44 (.fieldAddr 89 (.tmp 43) 1),
  oN (.store 3 (.tmp 44) (.const (.int .i64 3)))]
def Xn3:List Oper:=Xke
def Q80:Code := .region 0 Xn3.toArray false
theorem Qqg:Q0 (E b) C D0 rd Q80 s K=Qac (E b) C rd Xn3 K Xke s:=rfl
abbrev Xlp:List Oper := [oP 45 (.move (.tmp 5)),
  oP 46 (.move (.tmp 0)),
  oP 47 (.nilCheck (.tmp 46)),
  oP 48 (.fieldAddr 72 (.tmp 47) 1),
  oP 49 (.load 70 (.tmp 48)),
  oP 50 (.move (.tmp 6)),
  oP 51 (.indexAddr 70 (.tmp 49) (.tmp 50)),
  oP 52 (.fieldAddr 89 (.tmp 51) 0),
  oP 53 (.fieldAddr 74 (.tmp 52) 1),
  oP 54 (.load 3 (.tmp 53)),
  oP 55 (.buildSlice 53 1 #[(0,(.tmp 54))]),
  oP 56 (.call {callee := .builtin Go.Builtin.append,args := #[(.tmp 45),(.tmp 55)],argTypes := #[53,53]}),
  oP 5 (.assign (.tmp 56))]
def Xn8:List Oper:=Xlp
def Q7f:Code := .region 0 Xn8.toArray false
theorem Qqt:Q0 (E b) C D0 rd Q7f s K=Qac (E b) C rd Xn8 K Xlp s:=rfl
def Q83:Code := .seq Q80 Q7f
theorem Qqw:Q0 (E b) C D0 rd Q83 s K=Q0 (E b) C D0 rd Q80 s (Yg (Vr (E b) C D0 rd Q7f K) K):=rfl
def Qwz:Code := .cond (.tmp 37) Q83 .skip
theorem Qqd(h:aev (E b).G s.t (.tmp 37)=some (.bool true)):Q0 (E b) C D0 rd Qwz s K=Q0 (E b) C D0 rd Q83 s K:=Qit h
theorem Qqm(h:aev (E b).G s.t (.tmp 37)=some (.bool false)):Q0 (E b) C D0 rd Qwz s K=Q0 (E b) C D0 rd .skip s K:=Qiv h
def Q8i:Code := .seq Q88 Qwz
theorem Qqq:Q0 (E b) C D0 rd Q8i s K=Q0 (E b) C D0 rd Q88 s (Yg (Vr (E b) C D0 rd Qwz K) K):=rfl
def Q8e:Code := .block 1 Q8i
theorem Qqu:Q0 (E b) C D0 rd Q8e s K=Q0 (E b) C D0 rd Q8i s (Ql8 1 K):=rfl
abbrev Xlj:List Oper := [oP 14 (.move (.tmp 6)),
  oP 15 (.binOp Go.BinOp.add 3 (.tmp 14) (.const (.int .i64 1)) 3),
  oP 6 (.assign (.tmp 15))]
def Xnh:List Oper:=Xlj
def Q6w:Code := .region 0 Xnh.toArray false
theorem Qqe:Q0 (E b) C D0 rd Q6w s K=Qac (E b) C rd Xnh K Xlj s:=rfl
def Q7n:Code := .seq Q8e Q6w
theorem Qqb:Q0 (E b) C D0 rd Q7n s K=Q0 (E b) C D0 rd Q8e s (Yg (Vr (E b) C D0 rd Q6w K) K):=rfl
def Xox:Code := .seq Q96 Q7n
theorem Qrm:Q0 (E b) C D0 rd Xox s K=Q0 (E b) C D0 rd Q96 s (Yg (Vr (E b) C D0 rd Q7n K) K):=rfl
def Xns:Code := .loop Xox
def Q72:Code := .block 0 Xns
theorem Qqk:Q0 (E b) C D0 rd Q72 s K=Q0 (E b) C D0 rd Xns s (Ql8 0 K):=rfl
def Xac:Code := .seq Q8u Q72
theorem Qrn:Q0 (E b) C D0 rd Xac s K=Q0 (E b) C D0 rd Q8u s (Yg (Vr (E b) C D0 rd Q72 K) K):=rfl
abbrev Xll:List Oper := [oP 57 (.move (.tmp 5)),
  oP 4 (.assign (.tmp 57))]
def Xne:List Oper:=Xll
def Q7i:Code := .region 0 Xne.toArray false
theorem Qqv:Q0 (E b) C D0 rd Q7i s K=Qac (E b) C rd Xne K Xll s:=rfl
def Q71:Code := .seq Q7i .ret
theorem Qqf:Q0 (E b) C D0 rd Q71 s K=Q0 (E b) C D0 rd Q7i s (Yg (Vr (E b) C D0 rd .ret K) K):=rfl
def Q8a:Code := .seq Xac Q71
theorem Qqh:Q0 (E b) C D0 rd Q8a s K=Q0 (E b) C D0 rd Xac s (Yg (Vr (E b) C D0 rd Q71 K) K):=rfl
def Q9m:Code := .seq Xa8 Q8a
theorem Qrt:Q0 (E b) C D0 rd Q9m s K=Q0 (E b) C D0 rd Xa8 s (Yg (Vr (E b) C D0 rd Q8a K) K):=rfl
def Xqw:Code := .seq Xaq Q9m
theorem Qrd:Q0 (E b) C D0 rd Xqw s K=Q0 (E b) C D0 rd Xaq s (Yg (Vr (E b) C D0 rd Q9m K) K):=rfl
def Qo7:Code:=Xqw
theorem Ya9:Quc (Qas 34)=Qo7:=by kernel_rfl
theorem X6r:Q0v.body=some (Qas 34):=by kernel_rfl
theorem Ye4:Q0v.ntmps=58:=by kernel_rfl
theorem Qtl:Q0v.results.toList = [.tmp 4]:=by kernel_rfl
abbrev Xv2:List Oper := [oP 4 (.alloc 74),
  oP 5 (.assign (.const (.int .i64 0)))]
def Xx7:List Oper:=Xv2
def Xk6:Code := .region 0 Xx7.toArray false
theorem Qrb:Q0 (E b) C D0 rd Xk6 s K=Qac (E b) C rd Xx7 K Xv2 s:=rfl
abbrev Q2z:List Oper := [oP 7 (.move (.tmp 0)),
  oP 8 (.move (.tmp 1)),
  oP 9 (.call {callee := .value (.func 47),args := #[(.tmp 7),(.tmp 8)],argTypes := #[40,3]}),
  oP 6 (.assign (.tmp 9))]
def Xxc:List Oper:=Q2z
def Xjc:Code := .region 0 Xxc.toArray false
theorem Qr8:Q0 (E b) C D0 rd Xjc s K=Qac (E b) C rd Xxc K Q2z s:=rfl
abbrev Xvm:List Oper := [oP 10 (.move (.tmp 6)),
  oP 11 (.binOp Go.BinOp.lss 3 (.tmp 10) (.const (.int .i64 0)) 3)]
def Xx3:List Oper:=Xvm
def Xjh:Code := .region 0 Xx3.toArray false
theorem Qr7:Q0 (E b) C D0 rd Xjh s K=Qac (E b) C rd Xx3 K Xvm s:=rfl
abbrev Xuo:List Oper := [oP 12 (.build 74 #[]),
  oN (.store 74 (.tmp 4) (.tmp 12)),
  oP 5 (.assign (.const (.int .i64 0)))]
def Xxg:List Oper:=Xuo
def Xk9:Code := .region 0 Xxg.toArray false
theorem Qr9:Q0 (E b) C D0 rd Xk9 s K=Qac (E b) C rd Xxg K Xuo s:=rfl
def Xjy:Code := .seq Xk9 .ret
theorem Qr5:Q0 (E b) C D0 rd Xjy s K=Q0 (E b) C D0 rd Xk9 s (Yg (Vr (E b) C D0 rd .ret K) K):=rfl
def Q6h:Code := .cond (.tmp 11) Xjy .skip
theorem Qrc(h:aev (E b).G s.t (.tmp 11)=some (.bool true)):Q0 (E b) C D0 rd Q6h s K=Q0 (E b) C D0 rd Xjy s K:=Qit h
theorem Qr3(h:aev (E b).G s.t (.tmp 11)=some (.bool false)):Q0 (E b) C D0 rd Q6h s K=Q0 (E b) C D0 rd .skip s K:=Qiv h
def Xjf:Code := .seq Xjh Q6h
theorem Qr0:Q0 (E b) C D0 rd Xjf s K=Q0 (E b) C D0 rd Xjh s (Yg (Vr (E b) C D0 rd Q6h K) K):=rfl
noncomputable def Qu9:Array Oper:=Xr7 (Xr6 4 (Qas 39))
def Xxd:Code := .region 4 Qu9 true
abbrev Xcq:List Oper := [oP 13 (.move (.tmp 0)),
  oP 14 (.nilCheck (.tmp 13)),
  oP 15 (.fieldAddr 72 (.tmp 14) 1),
  oP 16 (.load 70 (.tmp 15)),
  oP 17 (.move (.tmp 6)),
  oP 18 (.indexAddr 70 (.tmp 16) (.tmp 17)),
  oP 19 (.fieldAddr 89 (.tmp 18) 0),
  oP 20 (.load 74 (.tmp 19)),
  oP 21 (.move (.tmp 0)),
  oP 22 (.nilCheck (.tmp 21)),
  oP 23 (.fieldAddr 72 (.tmp 22) 1),
  oP 24 (.load 70 (.tmp 23)),
  oP 25 (.move (.tmp 6)),
  oP 26 (.indexAddr 70 (.tmp 24) (.tmp 25)),
  oP 27 (.fieldAddr 89 (.tmp 26) 1),
  oP 28 (.load 3 (.tmp 27)),
  oN (.store 74 (.tmp 4) (.tmp 20)),
  oP 5 (.assign (.tmp 28))]
def Qwd:List Oper:=Xcq
theorem X8r:Qu9.toList.map bare=Xcq:=by kernel_rfl
theorem X5j:Qu9.toList.map bare=Qwd:=X8r
def Qoa:List Nat := [0,1,3,7,0,31,63,127,0,256,768,1792,0,7936,16128,32512,255,131071]
theorem X85:Xul Qu9.toList []=some Qoa:=by kernel_rfl
theorem X5q:Qlj Qu9.toList Qu9.toList Qoa []=true:=by kernel_rfl
theorem X8s(b:Nat)(L:List KE)(s:St):Ab.runT (E b) L Qwd Qoa Qwd 0 s=Ab.runT (E b) L Qwd Qoa Xcq 0 s:=rfl
theorem X9p(b:Nat):Qno (E b) 16 ((nth Qoa 16).getD 0) Qwd Qoa 0=true:=by kernel_rfl
def Xg8:Code := .seq Xxd .ret
theorem Qpd:Q0 (E b) C D0 rd Xg8 s K=Q0 (E b) C D0 rd Xxd s (Yg (Vr (E b) C D0 rd .ret K) K):=rfl
def Xjb:Code := .seq Xjf Xg8
theorem Qr6:Q0 (E b) C D0 rd Xjb s K=Q0 (E b) C D0 rd Xjf s (Yg (Vr (E b) C D0 rd Xg8 K) K):=rfl
def Xjp:Code := .seq Xjc Xjb
theorem Qr4:Q0 (E b) C D0 rd Xjp s K=Q0 (E b) C D0 rd Xjc s (Yg (Vr (E b) C D0 rd Xjb K) K):=rfl
def Xx5:Code := .seq Xk6 Xjp
theorem Qra:Q0 (E b) C D0 rd Xx5 s K=Q0 (E b) C D0 rd Xk6 s (Yg (Vr (E b) C D0 rd Xjp K) K):=rfl
def Qob:Code:=Xx5
theorem Yks:Quc (Qas 39)=Qob:=by kernel_rfl
theorem Ye2:Q9u.body=some (Qas 39):=by kernel_rfl
theorem Yop:Q9u.ntmps=29:=by kernel_rfl
theorem Qu8:Q9u.results.toList = [.cell 4 74, .tmp 5]:=by kernel_rfl
abbrev Xnr:List Oper := [oP 4 (.alloc 30),
  oP 5 (.assign (.const (.bool false)))]
def Xq8:List Oper:=Xnr
def Xap:Code := .region 0 Xq8.toArray false
theorem Qvq:Q0 (E b) C D0 rd Xap s K=Qac (E b) C rd Xq8 K Xnr s:=rfl
def Xpz:List Oper:=Q2z
def Xa0:Code := .region 0 Xpz.toArray false
theorem Qvo:Q0 (E b) C D0 rd Xa0 s K=Qac (E b) C rd Xpz K Q2z s:=rfl
abbrev Xmu:List Oper := [oP 10 (.move (.tmp 6)),
  oP 11 (.binOp Go.BinOp.lss 3 (.tmp 10) (.const (.int .i64 0)) 3),
  oP 12 (.move (.tmp 11)),
  oG 2 false 13 (.move (.tmp 0)),
  oG 2 false 14 (.nilCheck (.tmp 13)),
  oG 2 false 15 (.fieldAddr 72 (.tmp 14) 1),
  oG 2 false 16 (.load 70 (.tmp 15)),
  oG 2 false 17 (.move (.tmp 6)),
  oG 2 false 18 (.indexAddr 70 (.tmp 16) (.tmp 17)),
  oG 2 false 19 (.fieldAddr 89 (.tmp 18) 1),
  oG 2 false 20 (.load 3 (.tmp 19)),
  oG 2 false 21 (.binOp Go.BinOp.neq 3 (.tmp 20) (.const (.int .i64 2)) 3),
  oP 22 (.pick (.tmp 12) (.const (.bool true)) (.tmp 21))]
def Xao:List Oper:=Xmu
def Q8x:Code := .region 0 Xao.toArray false
theorem Qvu:Q0 (E b) C D0 rd Q8x s K=Qac (E b) C rd Xao K Xmu s:=rfl
theorem Quk:nth Xao 2=some ⟨(some 12), .move (.tmp 11),0,"",#[],none⟩:=rfl
abbrev Xnx:List Oper := [oP 23 (.build 30 #[]),
  oN (.store 30 (.tmp 4) (.tmp 23)),
  oP 5 (.assign (.const (.bool false)))]
def Xoz:List Oper:=Xnx
def Xah:Code := .region 0 Xoz.toArray false
theorem Qvh:Q0 (E b) C D0 rd Xah s K=Qac (E b) C rd Xoz K Xnx s:=rfl
def Q9l:Code := .seq Xah .ret
theorem Qvw:Q0 (E b) C D0 rd Q9l s K=Q0 (E b) C D0 rd Xah s (Yg (Vr (E b) C D0 rd .ret K) K):=rfl
def Qxm:Code := .cond (.tmp 22) Q9l .skip
theorem Qw2(h:aev (E b).G s.t (.tmp 22)=some (.bool true)):Q0 (E b) C D0 rd Qxm s K=Q0 (E b) C D0 rd Q9l s K:=Qit h
theorem Qvf(h:aev (E b).G s.t (.tmp 22)=some (.bool false)):Q0 (E b) C D0 rd Qxm s K=Q0 (E b) C D0 rd .skip s K:=Qiv h
def Q9e:Code := .seq Q8x Qxm
theorem Qve:Q0 (E b) C D0 rd Q9e s K=Q0 (E b) C D0 rd Q8x s (Yg (Vr (E b) C D0 rd Qxm K) K):=rfl
abbrev Xks:List Oper := [oP 24 (.move (.tmp 0)),
  oP 25 (.nilCheck (.tmp 24)),
  oP 26 (.fieldAddr 72 (.tmp 25) 1),
  oP 27 (.load 70 (.tmp 26)),
  oP 28 (.move (.tmp 6)),
  oP 29 (.indexAddr 70 (.tmp 27) (.tmp 28)),
  oP 30 (.fieldAddr 89 (.tmp 29) 2),
  oP 31 (.load 30 (.tmp 30)),
  oN (.store 30 (.tmp 4) (.tmp 31)),
  oP 5 (.assign (.const (.bool true)))]
def Xn5:List Oper:=Xks
def Q8g:Code := .region 0 Xn5.toArray false
theorem Qun:Q0 (E b) C D0 rd Q8g s K=Qac (E b) C rd Xn5 K Xks s:=rfl
def Q8m:Code := .seq Q8g .ret
theorem Qup:Q0 (E b) C D0 rd Q8m s K=Q0 (E b) C D0 rd Q8g s (Yg (Vr (E b) C D0 rd .ret K) K):=rfl
def Q8y:Code := .seq Q9e Q8m
theorem Qvx:Q0 (E b) C D0 rd Q8y s K=Q0 (E b) C D0 rd Q9e s (Yg (Vr (E b) C D0 rd Q8m K) K):=rfl
def Q9a:Code := .seq Xa0 Q8y
theorem Qvz:Q0 (E b) C D0 rd Q9a s K=Q0 (E b) C D0 rd Xa0 s (Yg (Vr (E b) C D0 rd Q8y K) K):=rfl
def Xow:Code := .seq Xap Q9a
theorem Qvs:Q0 (E b) C D0 rd Xow s K=Q0 (E b) C D0 rd Xap s (Yg (Vr (E b) C D0 rd Q9a K) K):=rfl
def Qrh:Code:=Xow
theorem Yaz:Quc (Qas 40)=Qrh:=by kernel_rfl
theorem X8e:Q0h.body=some (Qas 40):=by kernel_rfl
theorem Ye3:Q0h.ntmps=32:=by kernel_rfl
theorem Qyp:Q0h.results.toList = [.cell 4 30, .tmp 5]:=by kernel_rfl
end Go.Proofs.YtcokebbiblnonaaDoor
