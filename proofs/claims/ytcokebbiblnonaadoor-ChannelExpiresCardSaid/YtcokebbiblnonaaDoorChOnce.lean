/-
  ChannelOnce.
-/
import Derived.Test.YtcokebbiblnonaaDoorChOnce0
set_option linter.all false
noncomputable section
namespace Go.Proofs.YtcokebbiblnonaaDoor
open Go Go.Ab
set_option maxRecDepth 100000
theorem alB (b : Nat) (h : Heap) : Qtz (E b).toEnv 32 h = some (.pointer (some ⟨h.next, 0, none⟩), h.push (.cells true 1 X0u.cells)) := Wb b h
end Go.Proofs.YtcokebbiblnonaaDoor
