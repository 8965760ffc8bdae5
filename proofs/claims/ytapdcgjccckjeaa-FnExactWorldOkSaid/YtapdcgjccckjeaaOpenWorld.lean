/- A world among the arguments: whatever can be read as one reads as a world. -/
import Derived.Test.YtapdcgjccckjeaaOpenChain
import Derived.Test.YtapdcgjccckjeaaWd
namespace Go.Proofs.Ytapdcgjccckjeaa
set_option maxRecDepth 100000
set_option linter.unusedVariables false
set_option linter.unusedSimpArgs false
open Go.RowKit Go.Deep
theorem pcells64 : Try.prog.cellsOf 64 = 1 := by kernel_rfl
theorem pcells66 : Try.prog.cellsOf 66 = 1 := by kernel_rfl
section
variable {H : Type} {enc : TypeId × Value → H} {w : World} {spare : Nat → Bool} {held : Bool}
theorem opens_chs : OpensRow enc Try.prog w spare held 64 tCh := opens_row Try.underlying64 pcells58 opens_Ch
theorem opens_Wd : Opens enc Try.prog w spare held 66 tWd := by
  intro fuel cs x h
  obtain ⟨xs, n, _, _, hlen, hxl, hf⟩ := DataW.trod_struct Try.underlying66 h
  rw [pcells66] at hlen
  match cs, hlen with
  | [c0], _ =>
    obtain ⟨y0, h0⟩ := pfield_some hxl (by decide) (hf 0 _ rfl)
    simp only [List.getElem_toArray, List.getElem_cons_zero, List.getElem_cons_succ, pcells64, List.drop_zero, List.drop_succ_cons, List.take_succ_cons, List.take_zero] at h0
    obtain ⟨v, cs, e, r⟩ := opens_chs _ _ _ h0
    cases e
    exact ⟨⟨cs⟩, _, rfl, r⟩
end
end Go.Proofs.Ytapdcgjccckjeaa
