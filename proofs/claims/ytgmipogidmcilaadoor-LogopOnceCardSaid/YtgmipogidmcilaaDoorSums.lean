/-
  Checksums and hashes: sums, SumOf, HashOf, with the step as a closure that captures nothing.
-/
import Derived.Test.YtgmipogidmcilaaDoorTiny
import Derived.Lib.ConvBytes
namespace Go.Proofs.YtgmipogidmcilaaDoor
set_option linter.unusedVariables false
set_option linter.unusedSimpArgs false
open Go.RowKit

theorem bytesWorld_below (w : World) (e : TypeId) (s : ByteArray) : Below w.heap.size w (Lib.bytesWorld w e s) :=
  ⟨rfl, rfl, rfl, by rw [Lib.bytesWorld_size]; omega, fun k hk => Lib.bytesWorld_at_old w e s k hk⟩

end Go.Proofs.YtgmipogidmcilaaDoor
