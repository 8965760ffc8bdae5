/- A bank among the arguments: whatever can be read as one reads as a bank. -/
import Derived.Test.YtapdcgjccckjeaaOpen
import Derived.Test.YtapdcgjccckjeaaBank
namespace Go.Proofs.Ytapdcgjccckjeaa
set_option maxRecDepth 100000
set_option linter.unusedVariables false
set_option linter.unusedSimpArgs false
open Go.RowKit Go.Deep

theorem cells3 : Try.prog.cellsOf 3 = 1 := by kernel_rfl
theorem cells24 : Try.prog.cellsOf 24 = 1 := by kernel_rfl
theorem cells52 : Try.prog.cellsOf 52 = 3 := by kernel_rfl
section
variable {H : Type} {enc : TypeId × Value → H} {w : World} {spare : Nat → Bool} {held : Bool}
theorem opens_ints : OpensRow enc Try.prog w spare held 24 tInt := opens_row Try.underlying24 cells3 (opens_int Try.underlying3)
theorem field_some {α : Type} {xs : List α} {n i : Nat} {r : Option α} (hl : xs.length = n) (hi : i < n) (h : r = xs[i]?) : ∃ y, r = some y := ⟨xs[i]'(by omega), by rw [h, List.getElem?_eq_getElem]⟩
theorem opens_Bk : Opens enc Try.prog w spare held 52 tBk := by
  intro fuel cs x h
  obtain ⟨xs, n, _, _, hlen, hxl, hf⟩ := DataW.trod_struct Try.underlying52 h
  rw [cells52] at hlen
  match cs, hlen with
  | [c0, c1, c2], _ =>
    obtain ⟨y0, h0⟩ := field_some hxl (by decide) (hf 0 _ rfl)
    obtain ⟨y1, h1⟩ := field_some hxl (by decide) (hf 1 _ rfl)
    obtain ⟨y2, h2⟩ := field_some hxl (by decide) (hf 2 _ rfl)
    simp only [List.getElem_toArray, List.getElem_cons_zero, List.getElem_cons_succ, cells3, cells24, List.drop_zero, List.drop_succ_cons, List.take_succ_cons, List.take_zero] at h0 h1 h2
    obtain ⟨v0, own, e0, r0⟩ := opens_ints _ _ _ h0
    obtain ⟨v1, notes, e1, r1⟩ := opens_ints _ _ _ h1
    obtain ⟨l, e2, l0, l1⟩ := read_int Try.underlying3 h2
    cases e0
    cases e1
    cases e2
    exact ⟨⟨own, notes, l⟩, _, _, rfl, r0, r1, l0, l1⟩
end
end Go.Proofs.Ytapdcgjccckjeaa
