/-
  The library's sort at the channel's rows.
-/
import Derived.Test.YtcokebbiblnonaaDoorChSort2
import Derived.Shelf.SlSortCmp.NoneTotal
set_option linter.all false
noncomputable section
namespace Go.Proofs.YtcokebbiblnonaaDoor
open Go Go.Proofs Go.Shelf Go.RowKit Go.Lib Go.Sort
set_option maxRecDepth 100000
theorem Xsa : Xmt := fun p cap fv w => AnyF.slices_SortFunc_none Xqa p cap fv w
theorem Xxq : Xvg := fun blk cap d w hH hb hs =>
  AnyQ.slices_SortFunc Xqa 36 Tryd.isAgg32 Tryd.sizeOf32 Q7y Xjg Xr7 Xku Xyo 27 #[] blk 0 cap d w (enters_of Tryd.func27 (by kernel_rfl) rfl) (fun _ _ _ _ x y => Xu4 x y _) hH hb hs
theorem Xpc (b : Nat) : Q5p b := Xww b Xxq Xsa
end Go.Proofs.YtcokebbiblnonaaDoor
