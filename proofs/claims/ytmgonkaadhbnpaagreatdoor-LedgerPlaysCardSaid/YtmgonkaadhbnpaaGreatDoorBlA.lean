import Derived.Test.YtmgonkaadhbnpaaGreatDoorAbG
import Derived.Test.YtmgonkaadhbnpaaGreatDoorProg
set_option linter.all false
open List renaming length→L
open Option renaming some→U,none→O
open Bool renaming true→Y,false→J
open Go renaming Value→V
open Go.Value renaming int→I,slice→M
open Go.IntKind renaming i64→X
open Go.Ab.Blk renaming cells→S
noncomputable section
namespace Go.Proofs.YtmgonkaadhbnpaaGreatDoor
open Go Go.Ab
set_option maxRecDepth 100000
variable{h:N}{hA:N}(b:Nat){P:KE->Prop}{a:KE}
def nv:Nat:=3
abbrev E(b:Nat):f_ Tryz.prog:=GI Tryz.prog nv b
noncomputable def Y1(f:Nat):Code:=((Tryz.prog.funcs[f]?).bind (·.body)).getD .skip
def iI:Tryz.prog.follows .mixedOrders=Y:=kR
def D0(_:Nat):h_:=⟨fun _ _ _=>O,fun _ _ _=>O⟩
def Uc:iK Tryz.prog (E b).G (D0 b):=⟨fun _ _ _ _ _ h=>(by cases h),fun _ _ _ _ _ h=>(by cases h)⟩
def Jh:iL (D0 b):=⟨fun _ _ _ _ _ h=>(by cases h),fun _ _ _ _ _ h=>(by cases h)⟩
def DD(b:Nat):r7:=BR (E b)
def Ui:Cp Tryz.prog (E b).G (DD b):=Usj (E b)
def V3:G6 (DD b):=Upm
def kQ(h:N)(l:List V):∃ hA,hA=h.push (S Y 1 l)/\a_ h hA/\hA.A h.Q=U (S Y 1 l):=⟨_,rfl,a_.push _ _,by rw[N.F,if_pos rfl]⟩
def kE{l:List V}(e:hA=h.push (S Y 1 l)):nP (.agg ⟨l⟩) h=U (.pointer (U ⟨h.Q,0,O⟩),hA):=by rw[e];rfl
def jG{x:Blk}(e:hA=h.push x):a_ h hA:=by rw[e];exact a_.push _ _
def lT{x:Blk}(e:hA=h.push x):hA.Q=h.Q+1:=by rw[e];rfl
abbrev FF(b:Nat):=@V2 _ (E b) _ (Uc b) (Jh b) iI _ (Ui b) (V3 b)
abbrev KP:=jc->N->Prop
abbrev FK(b:Nat):=AN Tryz.prog (E b).G
def nZ{bk z k:Nat}{ow:Bool}{c:List V}(C:h.A bk=U (.cells ow z c))(T:0+k<=L c)(j:L c<=k):iy h bk 0 k=U (.agg ⟨c⟩):=by rw[V9 C T,ba,aj j]
def nK(h:P a):∀ e∈[a],P e:=by simpa using h
def tu{c:KE}(h:P a)(j:P c):∀ e∈[a,c],P e:=by simpa using ⟨h,j⟩
def Lb{c d:KE}(h:P a)(j:P c)(C:P d):∀ e∈[a,c,d],P e:=by simpa using ⟨h,j,C⟩
def zk4{c d f:KE}(h:P a)(j:P c)(C:P d)(T:P f):∀ e∈[a,c,d,f],P e:=by simpa using ⟨h,j,C,T⟩
end Go.Proofs.YtmgonkaadhbnpaaGreatDoor
end
