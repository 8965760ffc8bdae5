/- The range of Go's ints. -/
import Derived.Test.YtapdcgjccckjeaaBase
namespace Go.Proofs.Ytapdcgjccckjeaa
set_option maxRecDepth 100000
set_option linter.unusedVariables false
set_option linter.unusedSimpArgs false
def I64 (x : Int) : Prop := -9223372036854775808 ≤ x ∧ x ≤ 9223372036854775807
end Go.Proofs.Ytapdcgjccckjeaa
