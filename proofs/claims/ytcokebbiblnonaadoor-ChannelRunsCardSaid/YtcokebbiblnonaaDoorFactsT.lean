/-
  Facts of the functions' code and of the types, printed by a program (ShD).
-/
import Derived.Test.YtcokebbiblnonaaDoorFactsS
set_option linter.all false
noncomputable section
namespace Go.Proofs.YtcokebbiblnonaaDoor
open Go Go.Ab
set_option maxRecDepth 100000
variable{b:Nat}{C:CallP}{D0:CallF}{rd:Option Nat}(s:St)(K:Exit→St→Prop)
noncomputable def Yau:Func:=(Tryd.prog.funcs[31]?).getD default
theorem Wr(b:Nat):(mkE Tryd.prog nv b).fn.get 31=some Yau:=by kernel_rfl
noncomputable def X5x:Func:=(Tryd.prog.funcs[15]?).getD default
theorem Qar(b:Nat):(mkE Tryd.prog nv b).fn.get 15=some X5x:=by kernel_rfl
noncomputable def Xpl:Func:=(Tryd.prog.funcs[35]?).getD default
theorem Qcp(b:Nat):(mkE Tryd.prog nv b).fn.get 35=some Xpl:=by kernel_rfl
noncomputable def Xpf:Func:=(Tryd.prog.funcs[16]?).getD default
theorem Vp(b:Nat):(mkE Tryd.prog nv b).fn.get 16=some Xpf:=by kernel_rfl
def L74:List Nat:=R74.leaf
theorem Q2h(b:Nat)(q:Bool)(x y:List Value):Qa5 (E b).toEnv .neq 74 q (.agg ⟨x⟩) (.agg ⟨y⟩)=(Ql7 L74 x y).map (fun z => .bool (!z)):=by kernel_rfl
theorem Q2e(b:Nat)(q:Bool)(x y:List Value):Qa5 (E b).toEnv .eql 74 q (.agg ⟨x⟩) (.agg ⟨y⟩)=(Ql7 L74 x y).map .bool:=by kernel_rfl
theorem Q29(b:Nat)(q:Bool)(x y:List Value):Qa5 (E b).toEnv .eql 30 q (.agg ⟨x⟩) (.agg ⟨y⟩)=(Ql7 L30 x y).map .bool:=by kernel_rfl
noncomputable def Xa5:Func:=(Tryd.prog.funcs[4]?).getD default
theorem Qhc(b:Nat):(mkE Tryd.prog nv b).fn.get 4=some Xa5:=by kernel_rfl
noncomputable def Xtm:Func:=(Tryd.prog.funcs[49]?).getD default
theorem Q6s(b:Nat):(mkE Tryd.prog nv b).fn.get 49=some Xtm:=by kernel_rfl
abbrev Yqy:List Oper := [oP 1 (.box 32 (.tmp 0)),
  oP 2 (.alloc 74)]
def Yu3:List Oper:=Yqy
def Yha:Code := .region 0 Yu3.toArray false
theorem Yy9:Q0 (E b) C D0 rd Yha s K=Qac (E b) C rd Yu3 K Yqy s:=rfl
abbrev Ypk:List Oper := [oP 3 (.fieldAddr 32 (.tmp 1) 0),
  oP 4 (.load 3 (.tmp 3)),
  oP 5 (.fieldAddr 32 (.tmp 1) 1),
  oP 6 (.load 3 (.tmp 5)),
  oP 7 (.fieldAddr 32 (.tmp 1) 2),
  oP 8 (.load 3 (.tmp 7)),
  oP 9 (.fieldAddr 32 (.tmp 1) 3),
  oP 10 (.load 3 (.tmp 9)),
  oP 11 (.fieldAddr 32 (.tmp 1) 4),
  oP 12 (.load 30 (.tmp 11)),
  oP 13 (.build 74 #[(0,(.tmp 4)),(1,(.tmp 6)),(2,(.tmp 8)),(3,(.tmp 10)),(4,(.tmp 12))]),
  oN (.store 74 (.tmp 2) (.tmp 13))]
def Yu7:List Oper:=Ypk
def Yj4:Code := .region 0 Yu7.toArray false
theorem Yyr:Q0 (E b) C D0 rd Yj4 s K=Qac (E b) C rd Yu7 K Ypk s:=rfl
def Ygb:Code := .seq Yj4 .ret
theorem Yxy:Q0 (E b) C D0 rd Ygb s K=Q0 (E b) C D0 rd Yj4 s (Yg (Vr (E b) C D0 rd .ret K) K):=rfl
def Ytn:Code := .seq Yha Ygb
theorem Yyi:Q0 (E b) C D0 rd Ytn s K=Q0 (E b) C D0 rd Yha s (Yg (Vr (E b) C D0 rd Ygb K) K):=rfl
def Ymm:Code:=Ytn
theorem Y4k:Quc (Qas 31)=Ymm:=by kernel_rfl
theorem Yy5:Yau.body=some (Qas 31):=by kernel_rfl
theorem Y5r:Yau.ntmps=14:=by kernel_rfl
theorem Y36:Yau.results.toList = [.cell 2 74]:=by kernel_rfl
abbrev Ylv:List Oper := [oP 5 (.box 34 (.tmp 2)),
  oP 6 (.assign (.const (.bool false)))]
def Ypt:List Oper:=Ylv
def Ya2:Code := .region 0 Ypt.toArray false
theorem Qjl:Q0 (E b) C D0 rd Ya2 s K=Qac (E b) C rd Ypt K Ylv s:=rfl
abbrev Ymq:List Oper := [oP 9 (.fieldAddr 34 (.tmp 5) 0),
  oP 10 (.load 3 (.tmp 9)),
  oP 11 (.call {callee := .value (.func 17),args := #[(.tmp 10),(.const (.int .i64 5))],argTypes := #[3,3]})]
def Yqn:List Oper:=Ymq
def Yav:Code := .region 0 Yqn.toArray false
theorem Qjr:Q0 (E b) C D0 rd Yav s K=Qac (E b) C rd Yqn K Ymq s:=rfl
abbrev Yn5:List Oper := [oP 13 (.binOp Go.BinOp.eql 3 (.tmp 11) (.const (.int .i64 0)) 3),
  oP 12 (.assign (.tmp 13))]
def Yr2:List Oper:=Yn5
def Ya5:Code := .region 0 Yr2.toArray false
theorem Qjn:Q0 (E b) C D0 rd Ya5 s K=Qac (E b) C rd Yr2 K Yn5 s:=rfl
abbrev Yme:List Oper := [oP 14 (.binOp Go.BinOp.eql 3 (.tmp 11) (.const (.int .i64 1)) 3),
  oP 12 (.assign (.tmp 14))]
def Yp5:List Oper:=Yme
def Yak:Code := .region 0 Yp5.toArray false
theorem Qjp:Q0 (E b) C D0 rd Yak s K=Qac (E b) C rd Yp5 K Yme s:=rfl
def Xxm:Code := .cond (.tmp 12) .skip Yak
theorem Qjk(h:aev (E b).G s.t (.tmp 12)=some (.bool true)):Q0 (E b) C D0 rd Xxm s K=Q0 (E b) C D0 rd .skip s K:=Qit h
theorem Qjs(h:aev (E b).G s.t (.tmp 12)=some (.bool false)):Q0 (E b) C D0 rd Xxm s K=Q0 (E b) C D0 rd Yak s K:=Qiv h
def Ya4:Code := .seq Ya5 Xxm
theorem Qjj:Q0 (E b) C D0 rd Ya4 s K=Q0 (E b) C D0 rd Ya5 s (Yg (Vr (E b) C D0 rd Xxm K) K):=rfl
noncomputable def Xhc:Array Oper:=Xr7 (Xr6 4 (Qas 15))
def Yq0:Code := .region 4 Xhc true
abbrev X4d:List Oper := [oP 15 (.move (.tmp 0)),
  oP 16 (.fieldAddr 34 (.tmp 5) 3),
  oP 17 (.load 32 (.tmp 16)),
  oP 18 (.call {callee := .value (.func 23),args := #[(.tmp 15),(.tmp 17)],argTypes := #[23,32]}),
  oP 19 (.move (.tmp 1)),
  oP 20 (.fieldAddr 34 (.tmp 5) 3),
  oP 21 (.load 32 (.tmp 20)),
  oP 22 (.call {callee := .value (.func 31),args := #[(.tmp 21)],argTypes := #[32]}),
  oP 23 (.call {callee := .value (.func 30),args := #[(.tmp 19),(.tmp 22)],argTypes := #[40,74]}),
  oP 24 (.binOp Go.BinOp.eql 24 (.tmp 18) (.tmp 23) 24),
  oP 6 (.assign (.tmp 24))]
def Q4s:List Oper:=X4d
theorem Yq6:Xhc.toList.map bare=X4d:=by kernel_rfl
theorem Yo5:Xhc.toList.map bare=Q4s:=Yq6
def Qoh:List Nat := [0,0,2,7,0,0,32,111,255,511,1023]
theorem Yps:Xul Xhc.toList []=some Qoh:=by kernel_rfl
theorem Ynw:Qlj Xhc.toList Xhc.toList Qoh []=true:=by kernel_rfl
theorem Ysv(b:Nat)(L:List KE)(s:St):Ab.runT (E b) L Q4s Qoh Q4s 0 s=Ab.runT (E b) L Q4s Qoh X4d 0 s:=rfl
theorem Yur(b:Nat):Qno (E b) 3 ((nth Qoh 3).getD 0) Q4s Qoh 0=true:=by kernel_rfl
theorem Yun(b:Nat):Qno (E b) 7 ((nth Qoh 7).getD 0) Q4s Qoh 0=true:=by kernel_rfl
theorem Yut(b:Nat):Qno (E b) 8 ((nth Qoh 8).getD 0) Q4s Qoh 0=true:=by kernel_rfl
def Yab:Code := .seq Yq0 .ret
theorem Qjq:Q0 (E b) C D0 rd Yab s K=Q0 (E b) C D0 rd Yq0 s (Yg (Vr (E b) C D0 rd .ret K) K):=rfl
abbrev Yh2:List Oper := [oP 26 (.binOp Go.BinOp.eql 3 (.tmp 11) (.const (.int .i64 2)) 3),
  oP 25 (.assign (.tmp 26))]
def Ylm:List Oper:=Yh2
def X7g:Code := .region 0 Ylm.toArray false
theorem Qic:Q0 (E b) C D0 rd X7g s K=Qac (E b) C rd Ylm K Yh2 s:=rfl
noncomputable def Xhi:Array Oper:=Xr7 (Xr6 6 (Qas 15))
def Yqz:Code := .region 6 Xhi true
abbrev X45:List Oper := [oP 27 (.move (.tmp 0)),
  oP 28 (.fieldAddr 34 (.tmp 5) 1),
  oP 29 (.load 3 (.tmp 28)),
  oP 30 (.fieldAddr 34 (.tmp 5) 4),
  oP 31 (.load 30 (.tmp 30)),
  oP 32 (.call {callee := .value (.func 24),args := #[(.tmp 27),(.tmp 29),(.tmp 31)],argTypes := #[23,3,30]}),
  oP 33 (.move (.tmp 1)),
  oP 34 (.fieldAddr 34 (.tmp 5) 1),
  oP 35 (.load 3 (.tmp 34)),
  oP 36 (.fieldAddr 34 (.tmp 5) 4),
  oP 37 (.load 30 (.tmp 36)),
  oP 38 (.call {callee := .value (.func 32),args := #[(.tmp 33),(.tmp 35),(.tmp 37)],argTypes := #[40,3,30]}),
  oP 39 (.binOp Go.BinOp.eql 24 (.tmp 32) (.tmp 38) 24),
  oP 6 (.assign (.tmp 39))]
def Xby:List Oper:=X45
theorem Ypx:Xhi.toList.map bare=X45:=by kernel_rfl
theorem Yoa:Xhi.toList.map bare=Xby:=Ypx
def Qtv:List Nat := [0,0,2,0,8,31,0,0,128,0,512,2047,4095,8191]
theorem Yp3:Xul Xhi.toList []=some Qtv:=by kernel_rfl
theorem Yo8:Qlj Xhi.toList Xhi.toList Qtv []=true:=by kernel_rfl
theorem Ysm(b:Nat)(L:List KE)(s:St):Ab.runT (E b) L Xby Qtv Xby 0 s=Ab.runT (E b) L Xby Qtv X45 0 s:=rfl
theorem Yuu(b:Nat):Qno (E b) 5 ((nth Qtv 5).getD 0) Xby Qtv 0=true:=by kernel_rfl
theorem Yt6(b:Nat):Qno (E b) 11 ((nth Qtv 11).getD 0) Xby Qtv 0=true:=by kernel_rfl
def X7q:Code := .seq Yqz .ret
theorem Qig:Q0 (E b) C D0 rd X7q s K=Q0 (E b) C D0 rd Yqz s (Yg (Vr (E b) C D0 rd .ret K) K):=rfl
abbrev Ygh:List Oper := [oP 41 (.binOp Go.BinOp.eql 3 (.tmp 11) (.const (.int .i64 3)) 3),
  oP 40 (.assign (.tmp 41))]
def Yms:List Oper:=Ygh
def X6d:Code := .region 0 Yms.toArray false
theorem Qim:Q0 (E b) C D0 rd X6d s K=Qac (E b) C rd Yms K Ygh s:=rfl
noncomputable def Xhg:Array Oper:=Xr7 (Xr6 8 (Qas 15))
def Yq1:Code := .region 8 Xhg true
abbrev X4j:List Oper := [oP 42 (.move (.tmp 0)),
  oP 43 (.fieldAddr 34 (.tmp 5) 1),
  oP 44 (.load 3 (.tmp 43)),
  oP 45 (.call {callee := .value (.func 25),args := #[(.tmp 42),(.tmp 44)],argTypes := #[23,3]}),
  oP 46 (.move (.tmp 1)),
  oP 47 (.fieldAddr 34 (.tmp 5) 1),
  oP 48 (.load 3 (.tmp 47)),
  oP 49 (.call {callee := .value (.func 33),args := #[(.tmp 46),(.tmp 48)],argTypes := #[40,3]}),
  oP 50 (.binOp Go.BinOp.eql 24 (.tmp 45) (.tmp 49) 24),
  oP 6 (.assign (.tmp 50))]
def Xbm:List Oper:=X4j
theorem Yqt:Xhg.toList.map bare=X4j:=by kernel_rfl
theorem Ynl:Xhg.toList.map bare=Xbm:=Yqt
def Qtu:List Nat := [0,0,2,7,0,0,32,127,255,511]
theorem Yoy:Xul Xhg.toList []=some Qtu:=by kernel_rfl
theorem Yo7:Qlj Xhg.toList Xhg.toList Qtu []=true:=by kernel_rfl
theorem Yry(b:Nat)(L:List KE)(s:St):Ab.runT (E b) L Xbm Qtu Xbm 0 s=Ab.runT (E b) L Xbm Qtu X4j 0 s:=rfl
theorem Yup(b:Nat):Qno (E b) 3 ((nth Qtu 3).getD 0) Xbm Qtu 0=true:=by kernel_rfl
theorem Yuo(b:Nat):Qno (E b) 7 ((nth Qtu 7).getD 0) Xbm Qtu 0=true:=by kernel_rfl
def X76:Code := .seq Yq1 .ret
theorem Qik:Q0 (E b) C D0 rd X76 s K=Q0 (E b) C D0 rd Yq1 s (Yg (Vr (E b) C D0 rd .ret K) K):=rfl
def Xt9:Code := .cond (.tmp 40) X76 .skip
theorem Qiq(h:aev (E b).G s.t (.tmp 40)=some (.bool true)):Q0 (E b) C D0 rd Xt9 s K=Q0 (E b) C D0 rd X76 s K:=Qit h
theorem Qio(h:aev (E b).G s.t (.tmp 40)=some (.bool false)):Q0 (E b) C D0 rd Xt9 s K=Q0 (E b) C D0 rd .skip s K:=Qiv h
def X8d:Code := .seq X6d Xt9
theorem Qih:Q0 (E b) C D0 rd X8d s K=Q0 (E b) C D0 rd X6d s (Yg (Vr (E b) C D0 rd Xt9 K) K):=rfl
def Xty:Code := .cond (.tmp 25) X7q X8d
theorem Qij(h:aev (E b).G s.t (.tmp 25)=some (.bool true)):Q0 (E b) C D0 rd Xty s K=Q0 (E b) C D0 rd X7q s K:=Qit h
theorem Qif(h:aev (E b).G s.t (.tmp 25)=some (.bool false)):Q0 (E b) C D0 rd Xty s K=Q0 (E b) C D0 rd X8d s K:=Qiv h
def X6i:Code := .seq X7g Xty
theorem Qil:Q0 (E b) C D0 rd X6i s K=Q0 (E b) C D0 rd X7g s (Yg (Vr (E b) C D0 rd Xty K) K):=rfl
def Xth:Code := .cond (.tmp 12) Yab X6i
theorem Qi6(h:aev (E b).G s.t (.tmp 12)=some (.bool true)):Q0 (E b) C D0 rd Xth s K=Q0 (E b) C D0 rd Yab s K:=Qit h
theorem Qi8(h:aev (E b).G s.t (.tmp 12)=some (.bool false)):Q0 (E b) C D0 rd Xth s K=Q0 (E b) C D0 rd X6i s K:=Qiv h
def Yan:Code := .seq Ya4 Xth
theorem Qjo:Q0 (E b) C D0 rd Yan s K=Q0 (E b) C D0 rd Ya4 s (Yg (Vr (E b) C D0 rd Xth K) K):=rfl
def X71:Code := .block 0 Yan
theorem Qii:Q0 (E b) C D0 rd X71 s K=Q0 (E b) C D0 rd Yan s (Ql8 0 K):=rfl
def Yai:Code := .seq Yav X71
theorem Qjm:Q0 (E b) C D0 rd Yai s K=Q0 (E b) C D0 rd Yav s (Yg (Vr (E b) C D0 rd X71 K) K):=rfl
abbrev Yf9:List Oper := [oP 51 (.move (.tmp 0)),
  oP 52 (.fieldAddr 34 (.tmp 5) 2),
  oP 53 (.load 3 (.tmp 52)),
  oP 54 (.call {callee := .value (.func 22),args := #[(.tmp 51),(.tmp 53)],argTypes := #[23,3]}),
  oP 7 (.assign (.tmp 54))]
def Ymk:List Oper:=Yf9
def X6a:Code := .region 0 Ymk.toArray false
theorem Qid:Q0 (E b) C D0 rd X6a s K=Qac (E b) C rd Ymk K Yf9 s:=rfl
abbrev Yi8:List Oper := [oP 55 (.move (.tmp 7)),
  oP 56 (.move (.tmp 1)),
  oP 57 (.fieldAddr 34 (.tmp 5) 2),
  oP 58 (.load 3 (.tmp 57)),
  oP 59 (.call {callee := .value (.func 34),args := #[(.tmp 56),(.tmp 58)],argTypes := #[40,3]}),
  oP 60 (.call {callee := .value (.func 21),args := #[(.tmp 55),(.tmp 59)],argTypes := #[53,53]}),
  oP 8 (.assign (.tmp 60))]
def Ymn:List Oper:=Yi8
def X8l:Code := .region 0 Ymn.toArray false
theorem Qir:Q0 (E b) C D0 rd X8l s K=Qac (E b) C rd Ymn K Yi8 s:=rfl
abbrev Yh7:List Oper := [oP 61 (.move (.tmp 7)),
  oP 62 (.call {callee := .value (.func 35),args := #[(.tmp 61)],argTypes := #[53]})]
def Ylj:List Oper:=Yh7
def X6c:Code := .region 0 Ylj.toArray false
theorem Qin:Q0 (E b) C D0 rd X6c s K=Qac (E b) C rd Ylj K Yh7 s:=rfl
abbrev Yir:List Oper := [oP 63 (.move (.tmp 8)),
  oP 6 (.assign (.tmp 63))]
def Ylr:List Oper:=Yir
def X8a:Code := .region 0 Ylr.toArray false
theorem Qi9:Q0 (E b) C D0 rd X8a s K=Qac (E b) C rd Ylr K Yir s:=rfl
def X6x:Code := .seq X8a .ret
theorem Qie:Q0 (E b) C D0 rd X6x s K=Q0 (E b) C D0 rd X8a s (Yg (Vr (E b) C D0 rd .ret K) K):=rfl
def X6y:Code := .seq X6c X6x
theorem Qia:Q0 (E b) C D0 rd X6y s K=Q0 (E b) C D0 rd X6c s (Yg (Vr (E b) C D0 rd X6x K) K):=rfl
def X7f:Code := .seq X8l X6y
theorem Qib:Q0 (E b) C D0 rd X7f s K=Q0 (E b) C D0 rd X8l s (Yg (Vr (E b) C D0 rd X6y K) K):=rfl
def X88:Code := .seq X6a X7f
theorem Qi7:Q0 (E b) C D0 rd X88 s K=Q0 (E b) C D0 rd X6a s (Yg (Vr (E b) C D0 rd X7f K) K):=rfl
def X7x:Code := .seq Yai X88
theorem Qip:Q0 (E b) C D0 rd X7x s K=Q0 (E b) C D0 rd Yai s (Yg (Vr (E b) C D0 rd X88 K) K):=rfl
def Yq3:Code := .seq Ya2 X7x
theorem Qji:Q0 (E b) C D0 rd Yq3 s K=Q0 (E b) C D0 rd Ya2 s (Yg (Vr (E b) C D0 rd X7x K) K):=rfl
def Qj9:Code:=Yq3
theorem Y1d:Quc (Qas 15)=Qj9:=by kernel_rfl
theorem Yx0:X5x.body=some (Qas 15):=by kernel_rfl
theorem Y39:X5x.ntmps=64:=by kernel_rfl
theorem Qld:X5x.results.toList = [.tmp 6]:=by kernel_rfl
abbrev Qlz:List Oper := [oP 6 (.assign (.const (.bool false)))]
def Ymg:List Oper:=Qlz
def X7u:Code := .region 0 Ymg.toArray false
theorem Qga:Q0 (E b) C D0 rd X7u s K=Qac (E b) C rd Ymg K Qlz s:=rfl
abbrev Yk2:List Oper := [oP 7 (.assign (.const (.int .i64 (-1))))]
def Ymy:List Oper:=Yk2
def X7j:Code := .region 0 Ymy.toArray false
theorem Qg7:Q0 (E b) C D0 rd X7j s K=Qac (E b) C rd Ymy K Yk2 s:=rfl
abbrev Yj9:List Oper := [oP 19 (.move (.tmp 7)),
  oP 20 (.binOp Go.BinOp.lss 3 (.tmp 19) (.const (.int .i64 4)) 3)]
def Yn4:List Oper:=Yj9
def X6e:Code := .region 0 Yn4.toArray false
theorem Qg0:Q0 (E b) C D0 rd X6e s K=Qac (E b) C rd Yn4 K Yj9 s:=rfl
def Xtn:Code := .cond (.tmp 20) .skip (.exit 0)
theorem Qg5(h:aev (E b).G s.t (.tmp 20)=some (.bool true)):Q0 (E b) C D0 rd Xtn s K=Q0 (E b) C D0 rd .skip s K:=Qit h
theorem Qgb(h:aev (E b).G s.t (.tmp 20)=some (.bool false)):Q0 (E b) C D0 rd Xtn s K=Q0 (E b) C D0 rd (.exit 0) s K:=Qiv h
def X8p:Code := .seq X6e Xtn
theorem Qg9:Q0 (E b) C D0 rd X8p s K=Q0 (E b) C D0 rd X6e s (Yg (Vr (E b) C D0 rd Xtn K) K):=rfl
abbrev Yg0:List Oper := [oP 23 (.move (.tmp 0)),
  oP 24 (.move (.tmp 7)),
  oP 25 (.call {callee := .value (.func 13),args := #[(.tmp 23),(.tmp 24)],argTypes := #[23,3]}),
  oP 26 (.move (.tmp 1)),
  oP 27 (.move (.tmp 7)),
  oP 28 (.call {callee := .value (.func 36),args := #[(.tmp 26),(.tmp 27)],argTypes := #[40,3]}),
  oP 29 (.binOp Go.BinOp.neq 3 (.tmp 25) (.tmp 28) 3)]
def Ymu:List Oper:=Yg0
def X6f:Code := .region 0 Ymu.toArray false
theorem Qg6:Q0 (E b) C D0 rd X6f s K=Qac (E b) C rd Ymu K Yg0 s:=rfl
def Yen:List Oper:=Qlz
def Xzr:Code := .region 0 Yen.toArray false
theorem Qbr:Q0 (E b) C D0 rd Xzr s K=Qac (E b) C rd Yen K Qlz s:=rfl
def X0a:Code := .seq Xzr .ret
theorem Qbn:Q0 (E b) C D0 rd X0a s K=Q0 (E b) C D0 rd Xzr s (Yg (Vr (E b) C D0 rd .ret K) K):=rfl
def Xoe:Code := .cond (.tmp 29) X0a .skip
theorem Qck(h:aev (E b).G s.t (.tmp 29)=some (.bool true)):Q0 (E b) C D0 rd Xoe s K=Q0 (E b) C D0 rd X0a s K:=Qit h
theorem Qbf(h:aev (E b).G s.t (.tmp 29)=some (.bool false)):Q0 (E b) C D0 rd Xoe s K=Q0 (E b) C D0 rd .skip s K:=Qiv h
def X6n:Code := .seq X6f Xoe
theorem Qg1:Q0 (E b) C D0 rd X6n s K=Q0 (E b) C D0 rd X6f s (Yg (Vr (E b) C D0 rd Xoe K) K):=rfl
def Xyk:Code := .block 1 X6n
theorem Qcb:Q0 (E b) C D0 rd Xyk s K=Q0 (E b) C D0 rd X6n s (Ql8 1 K):=rfl
abbrev Ydf:List Oper := [oP 21 (.move (.tmp 7)),
  oP 22 (.binOp Go.BinOp.add 3 (.tmp 21) (.const (.int .i64 1)) 3),
  oP 7 (.assign (.tmp 22))]
def Yf1:List Oper:=Ydf
def Xzf:Code := .region 0 Yf1.toArray false
theorem Qc1:Q0 (E b) C D0 rd Xzf s K=Qac (E b) C rd Yf1 K Ydf s:=rfl
def X38:Code := .seq Xyk Xzf
theorem Qc4:Q0 (E b) C D0 rd X38 s K=Q0 (E b) C D0 rd Xyk s (Yg (Vr (E b) C D0 rd Xzf K) K):=rfl
def Ymz:Code := .seq X8p X38
theorem Qg3:Q0 (E b) C D0 rd Ymz s K=Q0 (E b) C D0 rd X8p s (Yg (Vr (E b) C D0 rd X38 K) K):=rfl
def Yh6:Code := .loop Ymz
def X53:Code := .block 0 Yh6
theorem Qbw:Q0 (E b) C D0 rd X53 s K=Q0 (E b) C D0 rd Yh6 s (Ql8 0 K):=rfl
def X73:Code := .seq X7j X53
theorem Qg8:Q0 (E b) C D0 rd X73 s K=Q0 (E b) C D0 rd X7j s (Yg (Vr (E b) C D0 rd X53 K) K):=rfl
abbrev Yc1:List Oper := [oP 30 (.move (.tmp 0)),
  oP 31 (.call {callee := .value (.func 11),args := #[(.tmp 30)],argTypes := #[23]}),
  oP 8 (.assign (.tmp 31))]
def Ye9:List Oper:=Yc1
def X05:Code := .region 0 Ye9.toArray false
theorem Qbu:Q0 (E b) C D0 rd X05 s K=Qac (E b) C rd Ye9 K Yc1 s:=rfl
abbrev Ycm:List Oper := [oP 32 (.move (.tmp 1)),
  oP 33 (.call {callee := .value (.func 37),args := #[(.tmp 32)],argTypes := #[40]}),
  oP 9 (.assign (.tmp 33))]
def Yhk:List Oper:=Ycm
def X4k:Code := .region 0 Yhk.toArray false
theorem Qc6:Q0 (E b) C D0 rd X4k s K=Qac (E b) C rd Yhk K Ycm s:=rfl
abbrev Ydo:List Oper := [oP 34 (.move (.tmp 8)),
  oP 35 (.call {callee := .builtin Go.Builtin.len,args := #[(.tmp 34)],argTypes := #[35]}),
  oP 36 (.move (.tmp 9)),
  oP 37 (.call {callee := .builtin Go.Builtin.len,args := #[(.tmp 36)],argTypes := #[77]}),
  oP 38 (.binOp Go.BinOp.neq 3 (.tmp 35) (.tmp 37) 3),
  oP 39 (.move (.tmp 38)),
  oG 5 false 40 (.move (.tmp 0)),
  oG 5 false 41 (.call {callee := .value (.func 12),args := #[(.tmp 40)],argTypes := #[23]}),
  oG 5 false 42 (.move (.tmp 1)),
  oG 5 false 43 (.call {callee := .value (.func 38),args := #[(.tmp 42)],argTypes := #[40]}),
  oG 5 false 44 (.binOp Go.BinOp.neq 3 (.tmp 41) (.tmp 43) 3),
  oP 45 (.pick (.tmp 39) (.const (.bool true)) (.tmp 44))]
def X39:List Oper:=Ydo
def X2p:Code := .region 0 X39.toArray false
theorem Qbg:Q0 (E b) C D0 rd X2p s K=Qac (E b) C rd X39 K Ydo s:=rfl
theorem Qak:nth X39 5=some ⟨(some 39), .move (.tmp 38),0,"",#[],none⟩:=rfl
def Yf0:List Oper:=Qlz
def X1d:Code := .region 0 Yf0.toArray false
theorem Qbq:Q0 (E b) C D0 rd X1d s K=Qac (E b) C rd Yf0 K Qlz s:=rfl
def X2n:Code := .seq X1d .ret
theorem Qci:Q0 (E b) C D0 rd X2n s K=Q0 (E b) C D0 rd X1d s (Yg (Vr (E b) C D0 rd .ret K) K):=rfl
def Xpq:Code := .cond (.tmp 45) X2n .skip
theorem Qc8(h:aev (E b).G s.t (.tmp 45)=some (.bool true)):Q0 (E b) C D0 rd Xpq s K=Q0 (E b) C D0 rd X2n s K:=Qit h
theorem Qbt(h:aev (E b).G s.t (.tmp 45)=some (.bool false)):Q0 (E b) C D0 rd Xpq s K=Q0 (E b) C D0 rd .skip s K:=Qiv h
def X2q:Code := .seq X2p Xpq
theorem Qbi:Q0 (E b) C D0 rd X2q s K=Q0 (E b) C D0 rd X2p s (Yg (Vr (E b) C D0 rd Xpq K) K):=rfl
abbrev Ycq:List Oper := [oP 10 (.assign (.const (.int .i64 0)))]
def Yjv:List Oper:=Ycq
def Xyn:Code := .region 0 Yjv.toArray false
theorem Qba:Q0 (E b) C D0 rd Xyn s K=Qac (E b) C rd Yjv K Ycq s:=rfl
abbrev Ydb:List Oper := [oP 46 (.move (.tmp 10)),
  oP 47 (.move (.tmp 8)),
  oP 48 (.call {callee := .builtin Go.Builtin.len,args := #[(.tmp 47)],argTypes := #[35]}),
  oP 49 (.binOp Go.BinOp.lss 3 (.tmp 46) (.tmp 48) 3)]
def Yer:List Oper:=Ydb
def X3f:Code := .region 0 Yer.toArray false
theorem Qbx:Q0 (E b) C D0 rd X3f s K=Qac (E b) C rd Yer K Ydb s:=rfl
def Xph:Code := .cond (.tmp 49) .skip (.exit 2)
theorem Qc7(h:aev (E b).G s.t (.tmp 49)=some (.bool true)):Q0 (E b) C D0 rd Xph s K=Q0 (E b) C D0 rd .skip s K:=Qit h
theorem Qby(h:aev (E b).G s.t (.tmp 49)=some (.bool false)):Q0 (E b) C D0 rd Xph s K=Q0 (E b) C D0 rd (.exit 2) s K:=Qiv h
def Xza:Code := .seq X3f Xph
theorem Qbc:Q0 (E b) C D0 rd Xza s K=Q0 (E b) C D0 rd X3f s (Yg (Vr (E b) C D0 rd Xph K) K):=rfl
noncomputable def Q7k:Array Oper:=Xr7 (Xr6 13 (Qas 16))
def Yf5:Code := .region 13 Q7k true
abbrev Xsk:List Oper := [oP 52 (.move (.tmp 8)),
  oP 53 (.move (.tmp 10)),
  oP 54 (.indexAddr 35 (.tmp 52) (.tmp 53)),
  oP 55 (.load 32 (.tmp 54)),
  oP 56 (.call {callee := .value (.func 31),args := #[(.tmp 55)],argTypes := #[32]}),
  oP 57 (.move (.tmp 9)),
  oP 58 (.move (.tmp 10)),
  oP 59 (.indexAddr 77 (.tmp 57) (.tmp 58)),
  oP 60 (.load 74 (.tmp 59)),
  oP 61 (.binOp Go.BinOp.neq 74 (.tmp 56) (.tmp 60) 74)]
def Xb3:List Oper:=Xsk
theorem Yld:Q7k.toList.map bare=Xsk:=by kernel_rfl
theorem Ygn:Q7k.toList.map bare=Xb3:=Yld
def Qvb:List Nat := [0,0,3,7,15,0,0,96,224,511]
theorem Yl1:Xul Q7k.toList []=some Qvb:=by kernel_rfl
theorem Yhi:Qlj Q7k.toList Q7k.toList Qvb []=true:=by kernel_rfl
theorem Ynd(b:Nat)(L:List KE)(s:St):Ab.runT (E b) L Xb3 Qvb Xb3 0 s=Ab.runT (E b) L Xb3 Qvb Xsk 0 s:=rfl
theorem Yp9(b:Nat):Qno (E b) 4 ((nth Qvb 4).getD 0) Xb3 Qvb 0=true:=by kernel_rfl
def Yfc:List Oper:=Qlz
def X4r:Code := .region 0 Yfc.toArray false
theorem Qc2:Q0 (E b) C D0 rd X4r s K=Qac (E b) C rd Yfc K Qlz s:=rfl
def X55:Code := .seq X4r .ret
theorem Qbb:Q0 (E b) C D0 rd X55 s K=Q0 (E b) C D0 rd X4r s (Yg (Vr (E b) C D0 rd .ret K) K):=rfl
def Xok:Code := .cond (.tmp 61) X55 .skip
theorem Qbh(h:aev (E b).G s.t (.tmp 61)=some (.bool true)):Q0 (E b) C D0 rd Xok s K=Q0 (E b) C D0 rd X55 s K:=Qit h
theorem Qbj(h:aev (E b).G s.t (.tmp 61)=some (.bool false)):Q0 (E b) C D0 rd Xok s K=Q0 (E b) C D0 rd .skip s K:=Qiv h
def X2i:Code := .seq Yf5 Xok
theorem Qc3:Q0 (E b) C D0 rd X2i s K=Q0 (E b) C D0 rd Yf5 s (Yg (Vr (E b) C D0 rd Xok K) K):=rfl
abbrev Ydi:List Oper := [oP 62 (.move (.tmp 8)),
  oP 63 (.move (.tmp 10)),
  oP 64 (.indexAddr 35 (.tmp 62) (.tmp 63)),
  oP 65 (.fieldAddr 32 (.tmp 64) 2),
  oN (.store 3 (.tmp 65) (.const (.int .i64 (-1))))]
def Yfa:List Oper:=Ydi
def Xzk:Code := .region 0 Yfa.toArray false
theorem Qbs:Q0 (E b) C D0 rd Xzk s K=Qac (E b) C rd Yfa K Ydi s:=rfl
def X0b:Code := .seq X2i Xzk
theorem Qcl:Q0 (E b) C D0 rd X0b s K=Q0 (E b) C D0 rd X2i s (Yg (Vr (E b) C D0 rd Xzk K) K):=rfl
def X2z:Code := .block 3 X0b
theorem Qcf:Q0 (E b) C D0 rd X2z s K=Q0 (E b) C D0 rd X0b s (Ql8 3 K):=rfl
abbrev Ybn:List Oper := [oP 50 (.move (.tmp 10)),
  oP 51 (.binOp Go.BinOp.add 3 (.tmp 50) (.const (.int .i64 1)) 3),
  oP 10 (.assign (.tmp 51))]
def Yge:List Oper:=Ybn
def X1a:Code := .region 0 Yge.toArray false
theorem Qc9:Q0 (E b) C D0 rd X1a s K=Qac (E b) C rd Yge K Ybn s:=rfl
def X49:Code := .seq X2z X1a
theorem Qch:Q0 (E b) C D0 rd X49 s K=Q0 (E b) C D0 rd X2z s (Yg (Vr (E b) C D0 rd X1a K) K):=rfl
def Ygk:Code := .seq Xza X49
theorem Qce:Q0 (E b) C D0 rd Ygk s K=Q0 (E b) C D0 rd Xza s (Yg (Vr (E b) C D0 rd X49 K) K):=rfl
def Yjh:Code := .loop Ygk
def Xzq:Code := .block 2 Yjh
theorem Qbd:Q0 (E b) C D0 rd Xzq s K=Q0 (E b) C D0 rd Yjh s (Ql8 2 K):=rfl
def X25:Code := .seq Xyn Xzq
theorem Qc5:Q0 (E b) C D0 rd X25 s K=Q0 (E b) C D0 rd Xyn s (Yg (Vr (E b) C D0 rd Xzq K) K):=rfl
abbrev Ydr:List Oper := [oP 67 (.move (.tmp 0)),
  oP 68 (.move (.tmp 2)),
  oP 69 (.call {callee := .value (.func 18),args := #[(.tmp 67),(.tmp 68)],argTypes := #[23,3]}),
  oP 66 (.move (.tmp 69)),
  oP 70 (.extract (.tmp 66) 0),
  oP 71 (.extract (.tmp 66) 1),
  oP 11 (.alloc 32),
  oN (.store 32 (.tmp 11) (.tmp 70)),
  oP 12 (.assign (.tmp 71))]
def Yft:List Oper:=Ydr
def X2x:Code := .region 0 Yft.toArray false
theorem Qbk:Q0 (E b) C D0 rd X2x s K=Qac (E b) C rd Yft K Ydr s:=rfl
abbrev Ydh:List Oper := [oP 73 (.move (.tmp 1)),
  oP 74 (.move (.tmp 2)),
  oP 75 (.call {callee := .value (.func 39),args := #[(.tmp 73),(.tmp 74)],argTypes := #[40,3]}),
  oP 72 (.move (.tmp 75)),
  oP 76 (.extract (.tmp 72) 0),
  oP 77 (.extract (.tmp 72) 1),
  oP 13 (.alloc 74),
  oN (.store 74 (.tmp 13) (.tmp 76)),
  oP 14 (.assign (.tmp 77))]
def Yj7:List Oper:=Ydh
def X4w:Code := .region 0 Yj7.toArray false
theorem Qcg:Q0 (E b) C D0 rd X4w s K=Qac (E b) C rd Yj7 K Ydh s:=rfl
abbrev Ydg:List Oper := [oP 79 (.move (.tmp 0)),
  oP 80 (.move (.tmp 2)),
  oP 81 (.call {callee := .value (.func 19),args := #[(.tmp 79),(.tmp 80)],argTypes := #[23,3]}),
  oP 78 (.move (.tmp 81)),
  oP 82 (.extract (.tmp 78) 0),
  oP 83 (.extract (.tmp 78) 1),
  oP 15 (.alloc 30),
  oN (.store 30 (.tmp 15) (.tmp 82)),
  oP 16 (.assign (.tmp 83))]
def Yjy:List Oper:=Ydg
def X12:Code := .region 0 Yjy.toArray false
theorem Qbe:Q0 (E b) C D0 rd X12 s K=Qac (E b) C rd Yjy K Ydg s:=rfl
abbrev Ycb:List Oper := [oP 85 (.move (.tmp 1)),
  oP 86 (.move (.tmp 2)),
  oP 87 (.call {callee := .value (.func 40),args := #[(.tmp 85),(.tmp 86)],argTypes := #[40,3]}),
  oP 84 (.move (.tmp 87)),
  oP 88 (.extract (.tmp 84) 0),
  oP 89 (.extract (.tmp 84) 1),
  oP 17 (.alloc 30),
  oN (.store 30 (.tmp 17) (.tmp 88)),
  oP 18 (.assign (.tmp 89))]
def Yjc:List Oper:=Ycb
def X4x:Code := .region 0 Yjc.toArray false
theorem Qbz:Q0 (E b) C D0 rd X4x s K=Qac (E b) C rd Yjc K Ycb s:=rfl
noncomputable def Q7z:Array Oper:=Xr7 (Xr6 20 (Qas 16))
def Yff:Code := .region 20 Q7z true
abbrev Xt5:List Oper := [oP 90 (.load 32 (.tmp 11)),
  oP 91 (.call {callee := .value (.func 31),args := #[(.tmp 90)],argTypes := #[32]}),
  oP 92 (.load 74 (.tmp 13)),
  oP 93 (.binOp Go.BinOp.eql 74 (.tmp 91) (.tmp 92) 74),
  oP 94 (.move (.tmp 93)),
  oG 4 true 95 (.move (.tmp 12)),
  oG 4 true 96 (.move (.tmp 14)),
  oG 4 true 97 (.binOp Go.BinOp.eql 3 (.tmp 95) (.tmp 96) 3),
  oP 98 (.pick (.tmp 94) (.tmp 97) (.const (.bool false))),
  oP 99 (.move (.tmp 98)),
  oG 9 true 100 (.load 30 (.tmp 15)),
  oG 9 true 101 (.load 30 (.tmp 17)),
  oG 9 true 102 (.binOp Go.BinOp.eql 30 (.tmp 100) (.tmp 101) 30),
  oP 103 (.pick (.tmp 99) (.tmp 102) (.const (.bool false))),
  oP 104 (.move (.tmp 103)),
  oG 14 true 105 (.move (.tmp 16)),
  oG 14 true 106 (.move (.tmp 18)),
  oG 14 true 107 (.binOp Go.BinOp.eql 4 (.tmp 105) (.tmp 106) 4),
  oP 108 (.pick (.tmp 104) (.tmp 107) (.const (.bool false))),
  oP 6 (.assign (.tmp 108))]
def Que:List Oper:=Xt5
theorem Ykv:Q7z.toList.map bare=Xt5:=by kernel_rfl
theorem Yfk:Q7z.toList.map bare=Que:=Ykv
def Qv9:List Nat := [0,1,0,7,15,31,31,127,255,511,1023,1023,4095,8191,16383,32767,32767,131071,262143,524287]
theorem Yl5:Xul Q7z.toList []=some Qv9:=by kernel_rfl
theorem Yib:Qlj Q7z.toList Q7z.toList Qv9 []=true:=by kernel_rfl
theorem Ynz(b:Nat)(L:List KE)(s:St):Ab.runT (E b) L Que Qv9 Que 0 s=Ab.runT (E b) L Que Qv9 Xt5 0 s:=rfl
theorem Ynh:nth Que 4=some ⟨(some 94), .move (.tmp 93),0,"",#[],none⟩:=rfl
theorem Yna:nth Que 9=some ⟨(some 99), .move (.tmp 98),0,"",#[],none⟩:=rfl
theorem Ykr:nth Que 14=some ⟨(some 104), .move (.tmp 103),0,"",#[],none⟩:=rfl
theorem Ype(b:Nat):Qno (E b) 1 ((nth Qv9 1).getD 0) Que Qv9 0=true:=by kernel_rfl
def X3r:Code := .seq Yff .ret
theorem Qbl:Q0 (E b) C D0 rd X3r s K=Q0 (E b) C D0 rd Yff s (Yg (Vr (E b) C D0 rd .ret K) K):=rfl
def X0c:Code := .seq X4x X3r
theorem Qbv:Q0 (E b) C D0 rd X0c s K=Q0 (E b) C D0 rd X4x s (Yg (Vr (E b) C D0 rd X3r K) K):=rfl
def X4e:Code := .seq X12 X0c
theorem Qbm:Q0 (E b) C D0 rd X4e s K=Q0 (E b) C D0 rd X12 s (Yg (Vr (E b) C D0 rd X0c K) K):=rfl
def X4a:Code := .seq X4w X4e
theorem Qbp:Q0 (E b) C D0 rd X4a s K=Q0 (E b) C D0 rd X4w s (Yg (Vr (E b) C D0 rd X4e K) K):=rfl
def Xpt:Code := .seq X2x X4a
theorem Vj:Q0 (E b) C D0 rd Xpt s K=Q0 (E b) C D0 rd X2x s (Yg (Vr (E b) C D0 rd X4a K) K):=rfl
def X31:Code := .seq X25 Xpt
theorem Qc0:Q0 (E b) C D0 rd X31 s K=Q0 (E b) C D0 rd X25 s (Yg (Vr (E b) C D0 rd Xpt K) K):=rfl
def X0j:Code := .seq X2q X31
theorem Qca:Q0 (E b) C D0 rd X0j s K=Q0 (E b) C D0 rd X2q s (Yg (Vr (E b) C D0 rd X31 K) K):=rfl
def X4l:Code := .seq X4k X0j
theorem Qbo:Q0 (E b) C D0 rd X4l s K=Q0 (E b) C D0 rd X4k s (Yg (Vr (E b) C D0 rd X0j K) K):=rfl
def X1y:Code := .seq X05 X4l
theorem Qcj:Q0 (E b) C D0 rd X1y s K=Q0 (E b) C D0 rd X05 s (Yg (Vr (E b) C D0 rd X4l K) K):=rfl
def X35:Code := .seq X73 X1y
theorem Qcc:Q0 (E b) C D0 rd X35 s K=Q0 (E b) C D0 rd X73 s (Yg (Vr (E b) C D0 rd X1y K) K):=rfl
def Ylp:Code := .seq X7u X35
theorem Qg2:Q0 (E b) C D0 rd Ylp s K=Q0 (E b) C D0 rd X7u s (Yg (Vr (E b) C D0 rd X35 K) K):=rfl
def Qcr:Code:=Ylp
theorem Yy4:Quc (Qas 16)=Qcr:=by kernel_rfl
theorem Yuv:Xpf.body=some (Qas 16):=by kernel_rfl
theorem Y0v:Xpf.ntmps=109:=by kernel_rfl
theorem Qhs:Xpf.results.toList = [.tmp 6]:=by kernel_rfl
def Xxb:List Oper:=Qlz
def Xju:Code := .region 0 Xxb.toArray false
theorem Qgu:Q0 (E b) C D0 rd Xju s K=Qac (E b) C rd Xxb K Qlz s:=rfl
abbrev Xvu:List Oper := [oP 13 (.move (.tmp 0)),
  oP 14 (.move (.tmp 1)),
  oP 15 (.call {callee := .value (.func 8),args := #[(.tmp 13),(.tmp 14)],argTypes := #[3,3]}),
  oP 12 (.move (.tmp 15)),
  oP 16 (.extract (.tmp 12) 0),
  oP 17 (.extract (.tmp 12) 1),
  oP 7 (.assign (.tmp 16)),
  oP 8 (.assign (.tmp 17))]
def Xxa:List Oper:=Xvu
def Xjq:Code := .region 0 Xxa.toArray false
theorem Qh3:Q0 (E b) C D0 rd Xjq s K=Qac (E b) C rd Xxa K Xvu s:=rfl
abbrev Xue:List Oper := [oP 19 (.move (.tmp 0)),
  oP 20 (.move (.tmp 1)),
  oP 21 (.call {callee := .value (.func 14),args := #[(.tmp 19),(.tmp 20)],argTypes := #[3,3]}),
  oP 18 (.move (.tmp 21)),
  oP 22 (.extract (.tmp 18) 0),
  oP 23 (.extract (.tmp 18) 1),
  oP 9 (.assign (.tmp 22)),
  oP 10 (.assign (.tmp 23))]
def Xxf:List Oper:=Xue
def Xjk:Code := .region 0 Xxf.toArray false
theorem Qh0:Q0 (E b) C D0 rd Xjk s K=Qac (E b) C rd Xxf K Xue s:=rfl
abbrev Xv4:List Oper := [oP 24 (.move (.tmp 8)),
  oP 25 (.move (.tmp 10)),
  oP 26 (.binOp Go.BinOp.neq 24 (.tmp 24) (.tmp 25) 24),
  oP 27 (.move (.tmp 26)),
  oG 3 false 28 (.move (.tmp 7)),
  oG 3 false 29 (.binOp Go.BinOp.eql 23 (.tmp 28) (.const (.pointer none)) 23),
  oG 3 false 30 (.move (.tmp 8)),
  oG 3 false 31 (.binOp Go.BinOp.neq 24 (.tmp 30) (.const (.int .i64 0)) 24),
  oG 3 false 32 (.binOp Go.BinOp.neq 4 (.tmp 29) (.tmp 31) 4),
  oP 33 (.pick (.tmp 27) (.const (.bool true)) (.tmp 32))]
def Xji:List Oper:=Xv4
def Xjx:Code := .region 0 Xji.toArray false
theorem Qgw:Q0 (E b) C D0 rd Xjx s K=Qac (E b) C rd Xji K Xv4 s:=rfl
theorem Qfn:nth Xji 3=some ⟨(some 27), .move (.tmp 26),0,"",#[],none⟩:=rfl
def Xx4:List Oper:=Qlz
def Xk3:Code := .region 0 Xx4.toArray false
theorem Qgy:Q0 (E b) C D0 rd Xk3 s K=Qac (E b) C rd Xx4 K Qlz s:=rfl
def Xk7:Code := .seq Xk3 .ret
theorem Qgz:Q0 (E b) C D0 rd Xk7 s K=Q0 (E b) C D0 rd Xk3 s (Yg (Vr (E b) C D0 rd .ret K) K):=rfl
def Q31:Code := .cond (.tmp 33) Xk7 .skip
theorem Qf3(h:aev (E b).G s.t (.tmp 33)=some (.bool true)):Q0 (E b) C D0 rd Q31 s K=Q0 (E b) C D0 rd Xk7 s K:=Qit h
theorem Qff(h:aev (E b).G s.t (.tmp 33)=some (.bool false)):Q0 (E b) C D0 rd Q31 s K=Q0 (E b) C D0 rd .skip s K:=Qiv h
def Xk0:Code := .seq Xjx Q31
theorem Qh1:Q0 (E b) C D0 rd Xk0 s K=Q0 (E b) C D0 rd Xjx s (Yg (Vr (E b) C D0 rd Q31 K) K):=rfl
abbrev Xrc:List Oper := [oP 34 (.move (.tmp 8)),
  oP 35 (.binOp Go.BinOp.neq 24 (.tmp 34) (.const (.int .i64 0)) 24),
  oP 36 (.move (.tmp 35)),
  oG 2 false 37 (.move (.tmp 2)),
  oG 2 false 38 (.call {callee := .builtin Go.Builtin.len,args := #[(.tmp 37)],argTypes := #[22]}),
  oG 2 false 39 (.binOp Go.BinOp.gtr 3 (.tmp 38) (.const (.int .i64 200)) 3),
  oP 40 (.pick (.tmp 36) (.const (.bool true)) (.tmp 39))]
def Xgb:List Oper:=Xrc
def Xgv:Code := .region 0 Xgb.toArray false
theorem Qfm:Q0 (E b) C D0 rd Xgv s K=Qac (E b) C rd Xgb K Xrc s:=rfl
theorem Qcn:nth Xgb 2=some ⟨(some 36), .move (.tmp 35),0,"",#[],none⟩:=rfl
abbrev Xrl:List Oper := [oP 41 (.call {callee := .value (.func 9),args := #[],argTypes := #[]}),
  oP 6 (.assign (.tmp 41))]
def Xu9:List Oper:=Xrl
def Xfp:Code := .region 0 Xu9.toArray false
theorem Qfa:Q0 (E b) C D0 rd Xfp s K=Qac (E b) C rd Xu9 K Xrl s:=rfl
def Xem:Code := .seq Xfp .ret
theorem Qfc:Q0 (E b) C D0 rd Xem s K=Q0 (E b) C D0 rd Xfp s (Yg (Vr (E b) C D0 rd .ret K) K):=rfl
def Q2y:Code := .cond (.tmp 40) Xem .skip
theorem Qf7(h:aev (E b).G s.t (.tmp 40)=some (.bool true)):Q0 (E b) C D0 rd Q2y s K=Q0 (E b) C D0 rd Xem s K:=Qit h
theorem Qfk(h:aev (E b).G s.t (.tmp 40)=some (.bool false)):Q0 (E b) C D0 rd Q2y s K=Q0 (E b) C D0 rd .skip s K:=Qiv h
def Xdv:Code := .seq Xgv Q2y
theorem Qfr:Q0 (E b) C D0 rd Xdv s K=Q0 (E b) C D0 rd Xgv s (Yg (Vr (E b) C D0 rd Q2y K) K):=rfl
abbrev Xsi:List Oper := [oP 11 (.assign (.const (.int .i64 0)))]
def Xv8:List Oper:=Xsi
def Xel:Code := .region 0 Xv8.toArray false
theorem Qf5:Q0 (E b) C D0 rd Xel s K=Qac (E b) C rd Xv8 K Xsi s:=rfl
abbrev Xri:List Oper := [oP 42 (.move (.tmp 11)),
  oP 43 (.move (.tmp 2)),
  oP 44 (.call {callee := .builtin Go.Builtin.len,args := #[(.tmp 43)],argTypes := #[22]}),
  oP 45 (.binOp Go.BinOp.lss 3 (.tmp 42) (.tmp 44) 3)]
def Xu4:List Oper:=Xri
def Xek:Code := .region 0 Xu4.toArray false
theorem Qfd:Q0 (E b) C D0 rd Xek s K=Qac (E b) C rd Xu4 K Xri s:=rfl
def Q2u:Code := .cond (.tmp 45) .skip (.exit 0)
theorem Qfb(h:aev (E b).G s.t (.tmp 45)=some (.bool true)):Q0 (E b) C D0 rd Q2u s K=Q0 (E b) C D0 rd .skip s K:=Qit h
theorem Qfz(h:aev (E b).G s.t (.tmp 45)=some (.bool false)):Q0 (E b) C D0 rd Q2u s K=Q0 (E b) C D0 rd (.exit 0) s K:=Qiv h
def Xgk:Code := .seq Xek Q2u
theorem Qf6:Q0 (E b) C D0 rd Xgk s K=Q0 (E b) C D0 rd Xek s (Yg (Vr (E b) C D0 rd Q2u K) K):=rfl
abbrev Xr8:List Oper := [oP 48 (.move (.tmp 7)),
  oP 49 (.move (.tmp 9)),
  oP 50 (.move (.tmp 2)),
  oP 51 (.move (.tmp 11)),
  oP 52 (.indexAddr 22 (.tmp 50) (.tmp 51)),
  oP 53 (.load 34 (.tmp 52)),
  oP 54 (.call {callee := .value (.func 15),args := #[(.tmp 48),(.tmp 49),(.tmp 53)],argTypes := #[23,40,34]}),
  oP 55 (.unOp Go.UnOp.not 4 (.tmp 54)),
  oP 56 (.move (.tmp 55)),
  oG 8 false 57 (.move (.tmp 7)),
  oG 8 false 58 (.move (.tmp 9)),
  oG 8 false 59 (.move (.tmp 2)),
  oG 8 false 60 (.move (.tmp 11)),
  oG 8 false 61 (.indexAddr 22 (.tmp 59) (.tmp 60)),
  oG 8 false 62 (.fieldAddr 34 (.tmp 61) 1),
  oG 8 false 63 (.load 3 (.tmp 62)),
  oG 8 false 64 (.call {callee := .value (.func 16),args := #[(.tmp 57),(.tmp 58),(.tmp 63)],argTypes := #[23,40,3]}),
  oG 8 false 65 (.unOp Go.UnOp.not 4 (.tmp 64)),
  oP 66 (.pick (.tmp 56) (.const (.bool true)) (.tmp 65)),
  oP 67 (.move (.tmp 66)),
  oG 19 false 68 (.move (.tmp 7)),
  oG 19 false 69 (.move (.tmp 9)),
  oG 19 false 70 (.move (.tmp 2)),
  oG 19 false 71 (.move (.tmp 11)),
  oG 19 false 72 (.indexAddr 22 (.tmp 70) (.tmp 71)),
  oG 19 false 73 (.fieldAddr 34 (.tmp 72) 3),
  oG 19 false 74 (.fieldAddr 32 (.tmp 73) 1),
  oG 19 false 75 (.load 3 (.tmp 74)),
  oG 19 false 76 (.call {callee := .value (.func 16),args := #[(.tmp 68),(.tmp 69),(.tmp 75)],argTypes := #[23,40,3]}),
  oG 19 false 77 (.unOp Go.UnOp.not 4 (.tmp 76)),
  oP 78 (.pick (.tmp 67) (.const (.bool true)) (.tmp 77))]
def Q3s:List Oper:=Xr8
def Xfy:Code := .region 0 Q3s.toArray false
theorem Qf4:Q0 (E b) C D0 rd Xfy s K=Qac (E b) C rd Q3s K Xr8 s:=rfl
theorem Qco:nth Q3s 8=some ⟨(some 56), .move (.tmp 55),0,"",#[],none⟩:=rfl
theorem Qau:nth Q3s 19=some ⟨(some 67), .move (.tmp 66),0,"",#[],none⟩:=rfl
def Xut:List Oper:=Qlz
def Xge:Code := .region 0 Xut.toArray false
theorem Qfj:Q0 (E b) C D0 rd Xge s K=Qac (E b) C rd Xut K Qlz s:=rfl
def Xh6:Code := .seq Xge .ret
theorem Qfs:Q0 (E b) C D0 rd Xh6 s K=Q0 (E b) C D0 rd Xge s (Yg (Vr (E b) C D0 rd .ret K) K):=rfl
def Q3r:Code := .cond (.tmp 78) Xh6 .skip
theorem Qfo(h:aev (E b).G s.t (.tmp 78)=some (.bool true)):Q0 (E b) C D0 rd Q3r s K=Q0 (E b) C D0 rd Xh6 s K:=Qit h
theorem Qfv(h:aev (E b).G s.t (.tmp 78)=some (.bool false)):Q0 (E b) C D0 rd Q3r s K=Q0 (E b) C D0 rd .skip s K:=Qiv h
def Xev:Code := .seq Xfy Q3r
theorem Qfx:Q0 (E b) C D0 rd Xev s K=Q0 (E b) C D0 rd Xfy s (Yg (Vr (E b) C D0 rd Q3r K) K):=rfl
def Xft:Code := .block 1 Xev
theorem Qfw:Q0 (E b) C D0 rd Xft s K=Q0 (E b) C D0 rd Xev s (Ql8 1 K):=rfl
abbrev Xrd:List Oper := [oP 46 (.move (.tmp 11)),
  oP 47 (.binOp Go.BinOp.add 3 (.tmp 46) (.const (.int .i64 1)) 3),
  oP 11 (.assign (.tmp 47))]
def Xv0:List Oper:=Xrd
def Xfs:Code := .region 0 Xv0.toArray false
theorem Qfg:Q0 (E b) C D0 rd Xfs s K=Qac (E b) C rd Xv0 K Xrd s:=rfl
def Xej:Code := .seq Xft Xfs
theorem Qfi:Q0 (E b) C D0 rd Xej s K=Q0 (E b) C D0 rd Xft s (Yg (Vr (E b) C D0 rd Xfs K) K):=rfl
def Xv3:Code := .seq Xgk Xej
theorem Qfq:Q0 (E b) C D0 rd Xv3 s K=Q0 (E b) C D0 rd Xgk s (Yg (Vr (E b) C D0 rd Xej K) K):=rfl
def Xuk:Code := .loop Xv3
def Xfh:Code := .block 0 Xuk
theorem Qfh:Q0 (E b) C D0 rd Xfh s K=Q0 (E b) C D0 rd Xuk s (Ql8 0 K):=rfl
def Xfd:Code := .seq Xel Xfh
theorem Qfu:Q0 (E b) C D0 rd Xfd s K=Q0 (E b) C D0 rd Xel s (Yg (Vr (E b) C D0 rd Xfh K) K):=rfl
abbrev Xs6:List Oper := [oP 79 (.call {callee := .value (.func 9),args := #[],argTypes := #[]}),
  oP 6 (.assign (.tmp 79))]
def Xud:List Oper:=Xs6
def Xg6:Code := .region 0 Xud.toArray false
theorem Qft:Q0 (E b) C D0 rd Xg6 s K=Qac (E b) C rd Xud K Xs6 s:=rfl
def Xdy:Code := .seq Xg6 .ret
theorem Qfe:Q0 (E b) C D0 rd Xdy s K=Q0 (E b) C D0 rd Xg6 s (Yg (Vr (E b) C D0 rd .ret K) K):=rfl
def Xgn:Code := .seq Xfd Xdy
theorem Qf8:Q0 (E b) C D0 rd Xgn s K=Q0 (E b) C D0 rd Xfd s (Yg (Vr (E b) C D0 rd Xdy K) K):=rfl
def Xg4:Code := .seq Xdv Xgn
theorem Qf9:Q0 (E b) C D0 rd Xg4 s K=Q0 (E b) C D0 rd Xdv s (Yg (Vr (E b) C D0 rd Xgn K) K):=rfl
def Xg3:Code := .seq Xk0 Xg4
theorem Qfy:Q0 (E b) C D0 rd Xg3 s K=Q0 (E b) C D0 rd Xk0 s (Yg (Vr (E b) C D0 rd Xg4 K) K):=rfl
def Xj9:Code := .seq Xjk Xg3
theorem Qgv:Q0 (E b) C D0 rd Xj9 s K=Q0 (E b) C D0 rd Xjk s (Yg (Vr (E b) C D0 rd Xg3 K) K):=rfl
def Xjl:Code := .seq Xjq Xj9
theorem Qgx:Q0 (E b) C D0 rd Xjl s K=Q0 (E b) C D0 rd Xjq s (Yg (Vr (E b) C D0 rd Xj9 K) K):=rfl
def Xxi:Code := .seq Xju Xjl
theorem Qh2:Q0 (E b) C D0 rd Xxi s K=Q0 (E b) C D0 rd Xju s (Yg (Vr (E b) C D0 rd Xjl K) K):=rfl
def Qf0:Code:=Xxi
theorem Yla:Quc (Qas 4)=Qf0:=by kernel_rfl
theorem Ydu:Xa5.body=some (Qas 4):=by kernel_rfl
theorem Yn8:Xa5.ntmps=80:=by kernel_rfl
theorem Qhr:Xa5.results.toList = [.tmp 6]:=by kernel_rfl
abbrev Xha:List Oper := [oP 2 (.assign (.const (.int .i64 0)))]
def Yce:List Oper:=Xha
def Xw0:Code := .region 0 Yce.toArray false
theorem Xdj:Q0 (E b) C D0 rd Xw0 s K=Qac (E b) C rd Yce K Xha s:=rfl
abbrev X95:List Oper := [oP 3 (.move (.tmp 2)),
  oP 4 (.move (.tmp 0)),
  oP 5 (.call {callee := .builtin Go.Builtin.len,args := #[(.tmp 4)],argTypes := #[53]}),
  oP 6 (.binOp Go.BinOp.lss 3 (.tmp 3) (.tmp 5) 3)]
def Ybf:List Oper:=X95
def Xwl:Code := .region 0 Ybf.toArray false
theorem Xd8:Q0 (E b) C D0 rd Xwl s K=Qac (E b) C rd Ybf K X95 s:=rfl
def Xme:Code := .cond (.tmp 6) .skip (.exit 0)
theorem Xde(h:aev (E b).G s.t (.tmp 6)=some (.bool true)):Q0 (E b) C D0 rd Xme s K=Q0 (E b) C D0 rd .skip s K:=Qit h
theorem Xdk(h:aev (E b).G s.t (.tmp 6)=some (.bool false)):Q0 (E b) C D0 rd Xme s K=Q0 (E b) C D0 rd (.exit 0) s K:=Qiv h
def Xwb:Code := .seq Xwl Xme
theorem Xdg:Q0 (E b) C D0 rd Xwb s K=Q0 (E b) C D0 rd Xwl s (Yg (Vr (E b) C D0 rd Xme K) K):=rfl
abbrev X90:List Oper := [oP 9 (.move (.tmp 0)),
  oP 10 (.move (.tmp 2)),
  oP 11 (.move (.tmp 2)),
  oP 12 (.binOp Go.BinOp.add 3 (.tmp 11) (.const (.int .i64 7)) 3),
  oP 13 (.call {callee := .value (.func 49),args := #[(.tmp 12)],argTypes := #[3]}),
  oP 14 (.indexAddr 53 (.tmp 9) (.tmp 10)),
  oN (.store 3 (.tmp 14) (.tmp 13))]
def Ybu:List Oper:=X90
def Xwe:Code := .region 0 Ybu.toArray false
theorem Xdh:Q0 (E b) C D0 rd Xwe s K=Qac (E b) C rd Ybu K X90 s:=rfl
def Xwu:Code := .block 1 Xwe
theorem Xd7:Q0 (E b) C D0 rd Xwu s K=Q0 (E b) C D0 rd Xwe s (Ql8 1 K):=rfl
abbrev X9d:List Oper := [oP 7 (.move (.tmp 2)),
  oP 8 (.binOp Go.BinOp.add 3 (.tmp 7) (.const (.int .i64 1)) 3),
  oP 2 (.assign (.tmp 8))]
def Ybg:List Oper:=X9d
def Xw1:Code := .region 0 Ybg.toArray false
theorem Xdl:Q0 (E b) C D0 rd Xw1 s K=Qac (E b) C rd Ybg K X9d s:=rfl
def Xw8:Code := .seq Xwu Xw1
theorem Xdf:Q0 (E b) C D0 rd Xw8 s K=Q0 (E b) C D0 rd Xwu s (Yg (Vr (E b) C D0 rd Xw1 K) K):=rfl
def Ydp:Code := .seq Xwb Xw8
theorem Xdc:Q0 (E b) C D0 rd Ydp s K=Q0 (E b) C D0 rd Xwb s (Yg (Vr (E b) C D0 rd Xw8 K) K):=rfl
def X97:Code := .loop Ydp
def Xsp:Code := .block 0 X97
theorem Q92:Q0 (E b) C D0 rd Xsp s K=Q0 (E b) C D0 rd X97 s (Ql8 0 K):=rfl
def Ydm:Code := .seq Xw0 Xsp
theorem Xdr:Q0 (E b) C D0 rd Ydm s K=Q0 (E b) C D0 rd Xw0 s (Yg (Vr (E b) C D0 rd Xsp K) K):=rfl
def Q2x:Code:=Ydm
theorem Yul:Quc (Qas 35)=Q2x:=by kernel_rfl
theorem Yp0:Xpl.body=some (Qas 35):=by kernel_rfl
theorem Ywi:Xpl.ntmps=15:=by kernel_rfl
theorem Xmi:Xpl.results.toList = []:=by kernel_rfl
def Yga:List Oper:=Xha
def X02:Code := .region 0 Yga.toArray false
theorem Ysf:Q0 (E b) C D0 rd X02 s K=Qac (E b) C rd Yga K Xha s:=rfl
abbrev Ydq:List Oper := [oP 3 (.move (.tmp 0)),
  oP 4 (.binOp Go.BinOp.mul 3 (.const (.int .i64 13)) (.tmp 3) 3),
  oP 5 (.binOp Go.BinOp.add 3 (.const (.int .i64 7001)) (.tmp 4) 3),
  oP 2 (.assign (.tmp 5))]
def Yhc:List Oper:=Ydq
def X2v:Code := .region 0 Yhc.toArray false
theorem Yte:Q0 (E b) C D0 rd X2v s K=Qac (E b) C rd Yhc K Ydq s:=rfl
def X2f:Code := .seq X2v .ret
theorem Ys9:Q0 (E b) C D0 rd X2f s K=Q0 (E b) C D0 rd X2v s (Yg (Vr (E b) C D0 rd .ret K) K):=rfl
def Yjw:Code := .seq X02 X2f
theorem Ysn:Q0 (E b) C D0 rd Yjw s K=Q0 (E b) C D0 rd X02 s (Yg (Vr (E b) C D0 rd X2f K) K):=rfl
def X8w:Code:=Yjw
theorem Yxk:Quc (Qas 49)=X8w:=by kernel_rfl
theorem Ysa:Xtm.body=some (Qas 49):=by kernel_rfl
theorem Yy1:Xtm.ntmps=6:=by kernel_rfl
theorem Yxj:Xtm.results.toList = [.tmp 2]:=by kernel_rfl
end Go.Proofs.YtcokebbiblnonaaDoor
