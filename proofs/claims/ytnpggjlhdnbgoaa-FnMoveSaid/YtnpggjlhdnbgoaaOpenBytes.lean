/- Bytes among the arguments. -/
import Derived.Test.YtnpggjlhdnbgoaaOpen
import Derived.Test.YtnpggjlhdnbgoaaDraw
namespace Go.Proofs.Ytnpggjlhdnbgoaa
set_option linter.unusedVariables false
set_option linter.unusedSimpArgs false
open Go.RowKit Go.Deep
theorem bcells5 : Try.prog.cellsOf 5 = 1 := by kernel_rfl
section
variable {H : Type} {enc : TypeId × Value → H} {w : World} {spare : Nat → Bool} {held : Bool}
theorem opens_byte : Opens enc Try.prog w spare held 5 tByte := by
  intro fuel cs x h
  obtain ⟨n, rfl, _, hw⟩ := DataW.trod_int Try.underlying5 h
  refine ⟨n, rfl, ?_⟩
  simp [Lit.wf, IntKind.min, IntKind.max, IntKind.bits, IntKind.signed] at hw
  omega
theorem opens_bytes : OpensRow enc Try.prog w spare held 36 tByte := opens_row Try.underlying36 bcells5 opens_byte
end
end Go.Proofs.Ytnpggjlhdnbgoaa
