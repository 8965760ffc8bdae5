/- Small facts on the sizes of chains. -/
import Derived.Test.YtapdcgjccckjeaaCh
namespace Go.Proofs.Ytapdcgjccckjeaa
set_option maxRecDepth 100000
set_option linter.unusedVariables false
set_option linter.unusedSimpArgs false
open Go.RowKit
theorem smallCh_past {c : Ch} (h : SmallCh c) : cntMStS c.past ≤ 1000000000 := h.2.2.2.1
theorem cntCh_past {c : Ch} (h : cntCh c ≤ 1048576) : cntMStS c.past ≤ 1000000000 := by
  have := cntMStS_bd c.past
  unfold cntCh at h
  omega
end Go.Proofs.Ytapdcgjccckjeaa
