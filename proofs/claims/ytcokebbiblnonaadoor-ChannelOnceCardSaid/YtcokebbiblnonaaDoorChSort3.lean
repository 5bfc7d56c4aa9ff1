/-
  The library's sort at the channel's rows.
-/
import Derived.Test.YtcokebbiblnonaaDoorChSort2
import Derived.Shelf.SlSortCmp.NoneTotal
set_option linter.all false
noncomputable section
namespace Go.Proofs.YtcokebbiblnonaaDoor
open Go Go.Proofs Go.Shelf Go.RowKit Go.Lib Go.Sort
set_option maxRecDepth 100000
theorem Xlj : Xit := fun p cap fv w => AnyF.slices_SortFunc_none Xnq p cap fv w
theorem Xss : Xro := fun blk cap d w hH hb hs =>
  AnyQ.slices_SortFunc Xnq 36 Tryd.isAgg32 Tryd.sizeOf32 Q51 Xe2 Xo7 Xgu Xur 27 #[] blk 0 cap d w (enters_of Tryd.func27 (by kernel_rfl) rfl) (fun _ _ _ _ x y => Xpz x y _) hH hb hs
theorem Xm5 (b : Nat) : Q8h b := Xsn b Xss Xlj
end Go.Proofs.YtcokebbiblnonaaDoor
