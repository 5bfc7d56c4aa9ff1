/-
  The library's sort at the channel's rows.
-/
import Derived.Test.YtcokebbiblnonaaDoorChSort2
import Derived.Shelf.SlSortCmp.NoneTotal
set_option linter.all false
noncomputable section
namespace Go.Proofs.YtcokebbiblnonaaDoor
open Go Go.Proofs Go.Shelf Go.RowKit Go.Lib Go.Sort
set_option maxRecDepth 100000
theorem Xmz : Xgt := fun p cap fv w => AnyF.slices_SortFunc_none Xmf p cap fv w
theorem Xs2 : Xq0 := fun blk cap d w hH hb hs =>
  AnyQ.slices_SortFunc Xmf 36 Tryd.isAgg32 Tryd.sizeOf32 Q39 Xe5 Xkm Xfq Xti 27 #[] blk 0 cap d w (enters_of Tryd.func27 (by kernel_rfl) rfl) (fun _ _ _ _ x y => Xnc x y _) hH hb hs
theorem Xm3 (b : Nat) : Q6a b := Xqi b Xs2 Xmz
end Go.Proofs.YtcokebbiblnonaaDoor
