/-
  Facts of the functions' code and of the types, printed by a program (ShD).
-/
import Derived.Test.YtcokebbiblnonaaDoorFactsK
set_option linter.all false
noncomputable section
namespace Go.Proofs.YtcokebbiblnonaaDoor
open Go Go.Ab
set_option maxRecDepth 100000
variable{b:Nat}{C:CallP}{D0:CallF}{rd:Option Nat}(s:St)(K:Exit→St→Prop)
theorem Xce(b bk o:Nat):Qjg (E b).toEnv 34 (.pointer (some ⟨bk,o,none⟩)) 0=some (.pointer (some ⟨bk,o+0,none⟩)):=by kernel_rfl
noncomputable def Ykp:Func:=(Tryd.prog.funcs[17]?).getD default
theorem Qm7(b:Nat):(mkE Tryd.prog nv b).fn.get 17=some Ykp:=by kernel_rfl
theorem Qrz(b bk o:Nat):Qjg (E b).toEnv 34 (.pointer (some ⟨bk,o,none⟩)) 3=some (.pointer (some ⟨bk,o+3,none⟩)):=by kernel_rfl
theorem Xcz(x y:Int):Qsp (binOp .eql 24 (.int .i64 x) (.int .i64 y))=some (.bool (decide (x=y))):=by kernel_rfl
theorem Qs1(b bk o:Nat):Qjg (E b).toEnv 34 (.pointer (some ⟨bk,o,none⟩)) 1=some (.pointer (some ⟨bk,o+1,none⟩)):=by kernel_rfl
theorem Xcg(b bk o:Nat):Qjg (E b).toEnv 34 (.pointer (some ⟨bk,o,none⟩)) 4=some (.pointer (some ⟨bk,o+39,none⟩)):=by kernel_rfl
theorem Xd3(b bk o:Nat):Qjg (E b).toEnv 34 (.pointer (some ⟨bk,o,none⟩)) 2=some (.pointer (some ⟨bk,o+2,none⟩)):=by kernel_rfl
noncomputable def Xts:Func:=(Tryd.prog.funcs[21]?).getD default
theorem Qf2(b:Nat):(mkE Tryd.prog nv b).fn.get 21=some Xts:=by kernel_rfl
theorem Y1a(b:Nat)(a:Option Addr)(n c:Nat)(h:Heap):Yl8 (E b).toEnv 53 (.slice a n c) h=some (.int .i64 n):=by kernel_rfl
theorem Qxb(b:Nat){bk o n c:Nat}{k:IntKind}{i:Int}(h:0≤i∧i < n):Vo (E b).toEnv 53 (.slice (some ⟨bk,o,none⟩) n c) (.int k i)=some (.pointer (some ⟨bk,o+i.toNat*1,none⟩)):=Qyu (T53 b) Xwt h
theorem Xop(x y:Int):Qsp (binOp .neq 24 (.int .i64 x) (.int .i64 y))=some (.bool (!(decide (x=y)))):=by kernel_rfl
theorem Yor(b:Nat)(a:Option Addr)(n c:Nat)(h:Heap):Yl8 (E b).toEnv 22 (.slice a n c) h=some (.int .i64 n):=by kernel_rfl
theorem Xdt(b:Nat)(q:Bool)(a:Option Addr):Qa5 (E b).toEnv .eql 23 q (.pointer a) (.pointer none)=some (.bool (a.isNone)):=by cases a <;> kernel_rfl
theorem Xi7(b:Nat)(q x y:Bool):Qa5 (E b).toEnv .eql 4 q (.bool x) (.bool y)=some (.bool (x == y)):=by kernel_rfl
noncomputable def Y1q:Func:=(Tryd.prog.funcs[9]?).getD default
theorem Qnm(b:Nat):(mkE Tryd.prog nv b).fn.get 9=some Y1q:=by kernel_rfl
noncomputable def R22:TyRec:=((mkE Tryd.prog nv 0).ty.get 22).getD ⟨.invalid,0,0, .bool false,[]⟩
theorem Zq5(b:Nat):(E b).toEnv.ty.get 22=some R22:=by kernel_rfl
noncomputable def R34:TyRec:=((mkE Tryd.prog nv 0).ty.get 34).getD ⟨.invalid,0,0, .bool false,[]⟩
theorem Znr(b:Nat):(E b).toEnv.ty.get 34=some R34:=by kernel_rfl
theorem Zka:Q2w R34.desc=true:=by kernel_rfl
theorem Yr8:R34.size=71:=by kernel_rfl
theorem T22(b:Nat):SlTy (E b).toEnv 34 22 R34 R22:=⟨Znr b,Zq5 b,by kernel_rfl⟩
theorem Yr3(b:Nat){bk o n c:Nat}{k:IntKind}{i:Int}(h:0≤i∧i < n):Vo (E b).toEnv 22 (.slice (some ⟨bk,o,none⟩) n c) (.int k i)=some (.pointer (some ⟨bk,o+i.toNat*71,none⟩)):=Qyu (T22 b) Yr8 h
theorem Yr9(b:Nat)(h:Heap)(bk o:Nat):Xhb (E b).toEnv 34 (.pointer (some ⟨bk,o,none⟩)) h=Qte h bk o 71:=Y02 (Znr b) Zka Yr8
def L32:List Nat:=R32.leaf
theorem X5t(b:Nat)(q x y:Bool):Qa5 (E b).toEnv .neq 4 q (.bool x) (.bool y)=some (.bool (!(x == y))):=by kernel_rfl
abbrev Yfo:List Oper := [oP 4 (.assign (.const (.bool true)))]
abbrev X5w:List Oper := [oP 4 (.assign (.const (.int .i64 0)))]
def Ywa:List Oper:=X5w
def Yoc:Code := .region 0 Ywa.toArray false
theorem Yqd:Q0 (E b) C D0 rd Yoc s K=Qac (E b) C rd Ywa K X5w s:=rfl
abbrev Yu1:List Oper := [oP 5 (.move (.tmp 1)),
  oP 6 (.binOp Go.BinOp.lss 3 (.tmp 5) (.const (.int .i64 1)) 3)]
def Yw2:List Oper:=Yu1
def Yom:Code := .region 0 Yw2.toArray false
theorem Ypo:Q0 (E b) C D0 rd Yom s K=Qac (E b) C rd Yw2 K Yu1 s:=rfl
def Ywc:List Oper:=X5w
def Yod:Code := .region 0 Ywc.toArray false
theorem Yql:Q0 (E b) C D0 rd Yod s K=Qac (E b) C rd Ywc K X5w s:=rfl
def Yo0:Code := .seq Yod .ret
theorem Ypr:Q0 (E b) C D0 rd Yo0 s K=Q0 (E b) C D0 rd Yod s (Yg (Vr (E b) C D0 rd .ret K) K):=rfl
def Yad:Code := .cond (.tmp 6) Yo0 .skip
theorem Yoz(h:aev (E b).G s.t (.tmp 6)=some (.bool true)):Q0 (E b) C D0 rd Yad s K=Q0 (E b) C D0 rd Yo0 s K:=Qit h
theorem Yr7(h:aev (E b).G s.t (.tmp 6)=some (.bool false)):Q0 (E b) C D0 rd Yad s K=Q0 (E b) C D0 rd .skip s K:=Qiv h
def Yo1:Code := .seq Yom Yad
theorem Yqf:Q0 (E b) C D0 rd Yo1 s K=Q0 (E b) C D0 rd Yom s (Yg (Vr (E b) C D0 rd Yad K) K):=rfl
abbrev Yti:List Oper := [oP 7 (.move (.tmp 0)),
  oP 8 (.move (.tmp 1)),
  oP 9 (.binOp Go.BinOp.rem 3 (.tmp 7) (.tmp 8) 3),
  oP 0 (.assign (.tmp 9))]
def Yw3:List Oper:=Yti
def Ynf:Code := .region 0 Yw3.toArray false
theorem Yrf:Q0 (E b) C D0 rd Ynf s K=Qac (E b) C rd Yw3 K Yti s:=rfl
abbrev Ypz:List Oper := [oP 10 (.move (.tmp 0)),
  oP 11 (.binOp Go.BinOp.lss 3 (.tmp 10) (.const (.int .i64 0)) 3)]
def Yu6:List Oper:=Ypz
def Ygr:Code := .region 0 Yu6.toArray false
theorem Yll:Q0 (E b) C D0 rd Ygr s K=Qac (E b) C rd Yu6 K Ypz s:=rfl
abbrev Ypm:List Oper := [oP 12 (.move (.tmp 0)),
  oP 13 (.move (.tmp 1)),
  oP 14 (.binOp Go.BinOp.add 3 (.tmp 12) (.tmp 13) 3),
  oP 0 (.assign (.tmp 14))]
def Yu8:List Oper:=Ypm
def Yif:Code := .region 0 Yu8.toArray false
theorem Ym5:Q0 (E b) C D0 rd Yif s K=Qac (E b) C rd Yu8 K Ypm s:=rfl
def X5z:Code := .cond (.tmp 11) Yif .skip
theorem Ymv(h:aev (E b).G s.t (.tmp 11)=some (.bool true)):Q0 (E b) C D0 rd X5z s K=Q0 (E b) C D0 rd Yif s K:=Qit h
theorem Yn0(h:aev (E b).G s.t (.tmp 11)=some (.bool false)):Q0 (E b) C D0 rd X5z s K=Q0 (E b) C D0 rd .skip s K:=Qiv h
def Ygl:Code := .seq Ygr X5z
theorem Ylf:Q0 (E b) C D0 rd Ygl s K=Q0 (E b) C D0 rd Ygr s (Yg (Vr (E b) C D0 rd X5z K) K):=rfl
abbrev Ypp:List Oper := [oP 15 (.move (.tmp 0)),
  oP 4 (.assign (.tmp 15))]
def Ytm:List Oper:=Ypp
def Yi6:Code := .region 0 Ytm.toArray false
theorem Ymr:Q0 (E b) C D0 rd Yi6 s K=Qac (E b) C rd Ytm K Ypp s:=rfl
def Ygz:Code := .seq Yi6 .ret
theorem Ymf:Q0 (E b) C D0 rd Ygz s K=Q0 (E b) C D0 rd Yi6 s (Yg (Vr (E b) C D0 rd .ret K) K):=rfl
def Yiw:Code := .seq Ygl Ygz
theorem Ymh:Q0 (E b) C D0 rd Yiw s K=Q0 (E b) C D0 rd Ygl s (Yg (Vr (E b) C D0 rd Ygz K) K):=rfl
def Yoe:Code := .seq Ynf Yiw
theorem Yqp:Q0 (E b) C D0 rd Yoe s K=Q0 (E b) C D0 rd Ynf s (Yg (Vr (E b) C D0 rd Yiw K) K):=rfl
def Yo3:Code := .seq Yo1 Yoe
theorem Yq2:Q0 (E b) C D0 rd Yo3 s K=Q0 (E b) C D0 rd Yo1 s (Yg (Vr (E b) C D0 rd Yoe K) K):=rfl
def Yx1:Code := .seq Yoc Yo3
theorem Yrd:Q0 (E b) C D0 rd Yx1 s K=Q0 (E b) C D0 rd Yoc s (Yg (Vr (E b) C D0 rd Yo3 K) K):=rfl
def Yaq:Code:=Yx1
theorem Y6f:Quc (Qas 17)=Yaq:=by kernel_rfl
theorem Y0x:Ykp.body=some (Qas 17):=by kernel_rfl
theorem Y9e:Ykp.ntmps=16:=by kernel_rfl
theorem Yvg:Ykp.results.toList = [.tmp 4]:=by kernel_rfl
abbrev Q2r:List Oper := [oP 4 (.assign (.const (.bool false)))]
def Yhx:List Oper:=Q2r
def Xyd:Code := .region 0 Yhx.toArray false
theorem Q8d:Q0 (E b) C D0 rd Xyd s K=Qac (E b) C rd Yhx K Q2r s:=rfl
abbrev Ybk:List Oper := [oP 6 (.move (.tmp 0)),
  oP 7 (.call {callee := .builtin Go.Builtin.len,args := #[(.tmp 6)],argTypes := #[53]}),
  oP 8 (.move (.tmp 1)),
  oP 9 (.call {callee := .builtin Go.Builtin.len,args := #[(.tmp 8)],argTypes := #[53]}),
  oP 10 (.binOp Go.BinOp.neq 3 (.tmp 7) (.tmp 9) 3)]
def Yec:List Oper:=Ybk
def Xyf:Code := .region 0 Yec.toArray false
theorem Q81:Q0 (E b) C D0 rd Xyf s K=Qac (E b) C rd Yec K Ybk s:=rfl
def Ykd:List Oper:=Q2r
def X2c:Code := .region 0 Ykd.toArray false
theorem Q70:Q0 (E b) C D0 rd X2c s K=Qac (E b) C rd Ykd K Q2r s:=rfl
def X06:Code := .seq X2c .ret
theorem Q7h:Q0 (E b) C D0 rd X06 s K=Q0 (E b) C D0 rd X2c s (Yg (Vr (E b) C D0 rd .ret K) K):=rfl
def Xqz:Code := .cond (.tmp 10) X06 .skip
theorem Q7u(h:aev (E b).G s.t (.tmp 10)=some (.bool true)):Q0 (E b) C D0 rd Xqz s K=Q0 (E b) C D0 rd X06 s K:=Qit h
theorem Q6n(h:aev (E b).G s.t (.tmp 10)=some (.bool false)):Q0 (E b) C D0 rd Xqz s K=Q0 (E b) C D0 rd .skip s K:=Qiv h
def Xzt:Code := .seq Xyf Xqz
theorem Q8b:Q0 (E b) C D0 rd Xzt s K=Q0 (E b) C D0 rd Xyf s (Yg (Vr (E b) C D0 rd Xqz K) K):=rfl
abbrev Ycj:List Oper := [oP 5 (.assign (.const (.int .i64 0)))]
def Yea:List Oper:=Ycj
def Xz0:Code := .region 0 Yea.toArray false
theorem Q7a:Q0 (E b) C D0 rd Xz0 s K=Qac (E b) C rd Yea K Ycj s:=rfl
abbrev X96:List Oper := [oP 11 (.move (.tmp 5)),
  oP 12 (.move (.tmp 0)),
  oP 13 (.call {callee := .builtin Go.Builtin.len,args := #[(.tmp 12)],argTypes := #[53]}),
  oP 14 (.binOp Go.BinOp.lss 3 (.tmp 11) (.tmp 13) 3)]
def Ycy:List Oper:=X96
def Xwp:Code := .region 0 Ycy.toArray false
theorem Q3g:Q0 (E b) C D0 rd Xwp s K=Qac (E b) C rd Ycy K X96 s:=rfl
def Xmc:Code := .cond (.tmp 14) .skip (.exit 0)
theorem Q3d(h:aev (E b).G s.t (.tmp 14)=some (.bool true)):Q0 (E b) C D0 rd Xmc s K=Q0 (E b) C D0 rd .skip s K:=Qit h
theorem Q3n(h:aev (E b).G s.t (.tmp 14)=some (.bool false)):Q0 (E b) C D0 rd Xmc s K=Q0 (E b) C D0 rd (.exit 0) s K:=Qiv h
def Xwq:Code := .seq Xwp Xmc
theorem Q42:Q0 (E b) C D0 rd Xwq s K=Q0 (E b) C D0 rd Xwp s (Yg (Vr (E b) C D0 rd Xmc K) K):=rfl
noncomputable def Xfo:Array Oper:=Xr7 (Xr6 6 (Qas 21))
def Yk7:Code := .region 6 Xfo true
abbrev Ysw:List Oper := [oP 17 (.move (.tmp 0)),
  oP 18 (.move (.tmp 5)),
  oP 19 (.indexAddr 53 (.tmp 17) (.tmp 18)),
  oP 20 (.load 3 (.tmp 19)),
  oP 21 (.move (.tmp 1)),
  oP 22 (.move (.tmp 5)),
  oP 23 (.indexAddr 53 (.tmp 21) (.tmp 22)),
  oP 24 (.load 3 (.tmp 23)),
  oP 25 (.binOp Go.BinOp.eql 3 (.tmp 20) (.tmp 24) 3),
  oP 26 (.unOp Go.UnOp.not 4 (.tmp 25))]
theorem Ykw:Xfo.toList.map bare=Ysw:=by kernel_rfl
def X9g:List Nat := [0,0,3,7,0,0,48,112,255,511]
theorem Yl6:Xul Xfo.toList []=some X9g:=by kernel_rfl
theorem Yk6:Qlj Xfo.toList Xfo.toList X9g []=true:=by kernel_rfl
def Ycx:List Oper:=Q2r
def Xwx:Code := .region 0 Ycx.toArray false
theorem Q3j:Q0 (E b) C D0 rd Xwx s K=Qac (E b) C rd Ycx K Q2r s:=rfl
def Xwj:Code := .seq Xwx .ret
theorem Q3k:Q0 (E b) C D0 rd Xwj s K=Q0 (E b) C D0 rd Xwx s (Yg (Vr (E b) C D0 rd .ret K) K):=rfl
def Xmb:Code := .cond (.tmp 26) Xwj .skip
theorem Q34(h:aev (E b).G s.t (.tmp 26)=some (.bool true)):Q0 (E b) C D0 rd Xmb s K=Q0 (E b) C D0 rd Xwj s K:=Qit h
theorem Q47(h:aev (E b).G s.t (.tmp 26)=some (.bool false)):Q0 (E b) C D0 rd Xmb s K=Q0 (E b) C D0 rd .skip s K:=Qiv h
def Xvz:Code := .seq Yk7 Xmb
theorem Q2v:Q0 (E b) C D0 rd Xvz s K=Q0 (E b) C D0 rd Yk7 s (Yg (Vr (E b) C D0 rd Xmb K) K):=rfl
def Xwf:Code := .block 1 Xvz
theorem Q32:Q0 (E b) C D0 rd Xwf s K=Q0 (E b) C D0 rd Xvz s (Ql8 1 K):=rfl
abbrev X8z:List Oper := [oP 15 (.move (.tmp 5)),
  oP 16 (.binOp Go.BinOp.add 3 (.tmp 15) (.const (.int .i64 1)) 3),
  oP 5 (.assign (.tmp 16))]
def Yds:List Oper:=X8z
def Xwa:Code := .region 0 Yds.toArray false
theorem Q30:Q0 (E b) C D0 rd Xwa s K=Qac (E b) C rd Yds K X8z s:=rfl
def Xw9:Code := .seq Xwf Xwa
theorem Q3f:Q0 (E b) C D0 rd Xw9 s K=Q0 (E b) C D0 rd Xwf s (Yg (Vr (E b) C D0 rd Xwa K) K):=rfl
def Ycw:Code := .seq Xwq Xw9
theorem Q39:Q0 (E b) C D0 rd Ycw s K=Q0 (E b) C D0 rd Xwq s (Yg (Vr (E b) C D0 rd Xw9 K) K):=rfl
def Ybi:Code := .loop Ycw
def Xww:Code := .block 0 Ybi
theorem Q3o:Q0 (E b) C D0 rd Xww s K=Q0 (E b) C D0 rd Ybi s (Ql8 0 K):=rfl
def X57:Code := .seq Xz0 Xww
theorem Q6v:Q0 (E b) C D0 rd X57 s K=Q0 (E b) C D0 rd Xz0 s (Yg (Vr (E b) C D0 rd Xww K) K):=rfl
def Yc8:List Oper:=Yfo
def Xwo:Code := .region 0 Yc8.toArray false
theorem Q46:Q0 (E b) C D0 rd Xwo s K=Qac (E b) C rd Yc8 K Yfo s:=rfl
def Xvy:Code := .seq Xwo .ret
theorem Q3m:Q0 (E b) C D0 rd Xvy s K=Q0 (E b) C D0 rd Xwo s (Yg (Vr (E b) C D0 rd .ret K) K):=rfl
def Xvv:Code := .seq X57 Xvy
theorem Q3i:Q0 (E b) C D0 rd Xvv s K=Q0 (E b) C D0 rd X57 s (Yg (Vr (E b) C D0 rd Xvy K) K):=rfl
def X58:Code := .seq Xzt Xvv
theorem Q6u:Q0 (E b) C D0 rd X58 s K=Q0 (E b) C D0 rd Xzt s (Yg (Vr (E b) C D0 rd Xvv K) K):=rfl
def Yk3:Code := .seq Xyd X58
theorem Q74:Q0 (E b) C D0 rd Yk3 s K=Q0 (E b) C D0 rd Xyd s (Yg (Vr (E b) C D0 rd X58 K) K):=rfl
def Qzb:Code:=Yk3
theorem Yx8:Quc (Qas 21)=Qzb:=by kernel_rfl
theorem Ys2:Xts.body=some (Qas 21):=by kernel_rfl
theorem Yyg:Xts.ntmps=27:=by kernel_rfl
theorem Xgp:Xts.results.toList = [.tmp 4]:=by kernel_rfl
end Go.Proofs.YtcokebbiblnonaaDoor
