import Derived.Test.YtgjlmnnggnajmaaGreatDoorFA
import Derived.Test.YtgjlmnnggnajmaaGreatDoorBlA
import Derived.Test.YtgjlmnnggnajmaaGreatDoorAbF
import Derived.Test.YtgjlmnnggnajmaaGreatDoorScB
set_option linter.all false
noncomputable section
namespace Go.Proofs.YtgjlmnnggnajmaaGreatDoor
open Go Go.Ab
set_option maxRecDepth 100000
def wd(ws:List Nat)(i:Nat):Nat:=ws.getD i 0
def Xtq(ws:List Nat)(a b c d x s t:Nat):List Nat :=
 let w1:=ws.set a (Bl.w32 (wd ws a+Bl.w32 (wd ws b+x)))
 let w2:=w1.set d (Bl.rot (Bl.xr (wd w1 d) (wd w1 a)) s)
 let w3:=w2.set c (Bl.w32 (wd w2 c+wd w2 d))
 w3.set b (Bl.rot (Bl.xr (wd w3 b) (wd w3 c)) t)
set_option maxRecDepth 1000000
def hL(ws:List Nat)(m0 m1 m2 m3 m4 m5 m6 m7 m8 m9 m10 m11 m12 m13 m14 m15:Nat):List Nat:=Xtq (Xtq (Xtq (Xtq (Xtq (Xtq (Xtq (Xtq (Xtq (Xtq (Xtq (Xtq (Xtq (Xtq (Xtq (Xtq ws 0 4 8 12 m0 16 12) 0 4 8 12 m1 8 7) 1 5 9 13 m2 16 12) 1 5 9 13 m3 8 7) 2 6 10 14 m4 16 12) 2 6 10 14 m5 8 7) 3 7 11 15 m6 16 12) 3 7 11 15 m7 8 7) 0 5 10 15 m8 16 12) 0 5 10 15 m9 8 7) 1 6 11 12 m10 16 12) 1 6 11 12 m11 8 7) 2 7 8 13 m12 16 12) 2 7 8 13 m13 8 7) 3 4 9 14 m14 16 12) 3 4 9 14 m15 8 7
section
variable(p0 p1 p2 p3 p4 p5 p6 p7 p8 p9 p10 p11 p12 p13 p14 p15 m0 m1 m2 m3 m4 m5 m6 m7 m8 m9 m10 m11 m12 m13 m14 m15:Nat)
end
set_option maxRecDepth 100000
structure RAt (h:Heap) (MB:Nat->Prop) (μ:Nat) (e:Menv) (ps:List (Value × List Int)) (on had:List Bool) (sv ov dv:Value) (z:Nat):Prop where
 at':h.get μ=some (.cells true z (e.cells ++ [sv,ov,dv]))
 mb:MB μ
 st:Sl h 1 sv ps.length (ps.reverse.map (·.1))
 on:Own h 0 1 ov on.length (on.reverse.map .bool)
 hd:Own h 0 1 dv had.length (had.reverse.map .bool)
 ms:∀ c,U1 sv=some c->¬ MB c
 mo:∀ c,U1 ov=some c->MB c/\c≠μ
 md:∀ c,U1 dv=some c->MB c/\c≠μ/\U1 ov≠some c
 its:∀ p ∈ ps,SB h p.1 p.2/\Bytes p.2/\∀ c,U1 p.1=some c->¬ MB c
 low:∀ c,MB c->c < h.next
section
variable{h:Heap}{MB:Nat->Prop}{μ:Nat}{e:Menv}{ps:List (Value × List Int)}{on had:List Bool}{sv ov dv:Value}{z:Nat}
theorem RAt.c34(r:RAt h MB μ e ps on had sv ov dv z):Jl h μ 34=some sv:=by
 rw[J5 r.at',List.getElem?_append_right (by rw[e.len];omega),e.len];rfl
theorem RAt.c35(r:RAt h MB μ e ps on had sv ov dv z):Jl h μ 35=some ov:=by
 rw[J5 r.at',List.getElem?_append_right (by rw[e.len];omega),e.len];rfl
theorem RAt.c36(r:RAt h MB μ e ps on had sv ov dv z):Jl h μ 36=some dv:=by
 rw[J5 r.at',List.getElem?_append_right (by rw[e.len];omega),e.len];rfl
end
section
variable{h:Heap}{MB:Nat->Prop}{μ:Nat}{e:Menv}{ps:List (Value × List Int)}{on had:List Bool}{sv ov dv:Value}{z:Nat}
end
section
variable{h:Heap}{MB:Nat->Prop}{μ:Nat}{e:Menv}{ps:List (Value × List Int)}{x y:Bool}{on had:List Bool}{sv ov dv:Value}{z:Nat}
end
end Go.Proofs.YtgjlmnnggnajmaaGreatDoor
end
