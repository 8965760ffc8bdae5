/- The program's constants are those that are written down. -/
import Derived.Test.YtphojlkljlnfjaaBase
import Derived.Test.YtphojlkljlnfjaaProg
namespace Go.Proofs.Ytphojlkljlnfjaa
set_option linter.unusedVariables false
set_option linter.unusedSimpArgs false
open Go.RowKit
set_option maxHeartbeats 1600000 in
theorem FnExactConstants_c (w : World) : Calls Try.prog 3 #[] w (Ret (.bool true) w) := by
  go_enter Try.func3, Try.ntmps3
  go_wp2
  go_ret
  exact ⟨rfl, Fr.refl w⟩
end Go.Proofs.Ytphojlkljlnfjaa
