/- Bytes among the arguments. -/
import Derived.Test.YtphojlkljlnfjaaDoorOpen
import Derived.Test.YtphojlkljlnfjaaDoorDraw
namespace Go.Proofs.YtphojlkljlnfjaaDoor
set_option maxRecDepth 100000
set_option linter.unusedVariables false
set_option linter.unusedSimpArgs false
open Go.RowKit Go.Deep
theorem bcells5 : Tryd.prog.cellsOf 5 = 1 := by kernel_rfl
section
variable {H : Type} {enc : TypeId × Value → H} {w : World} {spare : Nat → Bool} {held : Bool}
theorem opens_byte : Opens enc Tryd.prog w spare held 5 tByte := by
  intro fuel cs x h
  obtain ⟨n, rfl, _, hw⟩ := DataW.trod_int Tryd.underlying5 h
  refine ⟨n, rfl, ?_⟩
  simp [Lit.wf, IntKind.min, IntKind.max, IntKind.bits, IntKind.signed] at hw
  omega
theorem opens_bytes : OpensRow enc Tryd.prog w spare held 22 tByte := opens_row Tryd.underlying22 bcells5 opens_byte
end
end Go.Proofs.YtphojlkljlnfjaaDoor
