/-
  The library's sort at the channel's rows.
-/
import Derived.Test.YtcokebbiblnonaaDoorChSort2
import Derived.Shelf.SlSortCmp.NoneTotal
set_option linter.all false
noncomputable section
namespace Go.Proofs.YtcokebbiblnonaaDoor
open Go Go.Proofs Go.Shelf Go.RowKit Go.Lib Go.Sort
set_option maxRecDepth 100000
theorem Xnb : Xio := fun p cap fv w => AnyF.slices_SortFunc_none Xll p cap fv w
theorem Xta : Xrk := fun blk cap d w hH hb hs =>
  AnyQ.slices_SortFunc Xll 36 Tryd.isAgg32 Tryd.sizeOf32 Q4k Xef Xn1 Xg0 Xut 27 #[] blk 0 cap d w (enters_of Tryd.func27 (by kernel_rfl) rfl) (fun _ _ _ _ x y => Xpt x y _) hH hb hs
theorem Xop (b : Nat) : Q8q b := Xub b Xta Xnb
end Go.Proofs.YtcokebbiblnonaaDoor
