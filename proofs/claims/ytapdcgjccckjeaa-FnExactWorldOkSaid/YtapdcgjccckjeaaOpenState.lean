/- A state among the arguments: whatever can be read as one reads as a state. -/
import Derived.Test.YtapdcgjccckjeaaOpenPk
import Derived.Test.YtapdcgjccckjeaaSt
namespace Go.Proofs.Ytapdcgjccckjeaa
set_option maxRecDepth 100000
set_option linter.unusedVariables false
set_option linter.unusedSimpArgs false
open Go.RowKit Go.Deep
theorem pcells4 : Try.prog.cellsOf 4 = 1 := by kernel_rfl
theorem pcells24 : Try.prog.cellsOf 24 = 1 := by kernel_rfl
theorem pcells28 : Try.prog.cellsOf 28 = 1 := by kernel_rfl
theorem pcells53 : Try.prog.cellsOf 53 = 1 := by kernel_rfl
theorem pcells55 : Try.prog.cellsOf 55 = 7 := by kernel_rfl
section
variable {H : Type} {enc : TypeId × Value → H} {w : World} {spare : Nat → Bool} {held : Bool}
theorem opens_sints : OpensRow enc Try.prog w spare held 24 tInt := opens_row Try.underlying24 pcells3 (opens_int Try.underlying3)
theorem opens_bools : OpensRow enc Try.prog w spare held 28 tBool := opens_row Try.underlying28 pcells4 (opens_bool Try.underlying4)
theorem opens_pks : OpensRow enc Try.prog w spare held 53 tPk := opens_row Try.underlying53 pcells86 opens_Pk
theorem opens_St : Opens enc Try.prog w spare held 55 tSt := by
  intro fuel cs x h
  obtain ⟨xs, n, _, _, hlen, hxl, hf⟩ := DataW.trod_struct Try.underlying55 h
  rw [pcells55] at hlen
  match cs, hlen with
  | [c0, c1, c2, c3, c4, c5, c6], _ =>
    obtain ⟨y0, h0⟩ := pfield_some hxl (by decide) (hf 0 _ rfl)
    obtain ⟨y1, h1⟩ := pfield_some hxl (by decide) (hf 1 _ rfl)
    obtain ⟨y2, h2⟩ := pfield_some hxl (by decide) (hf 2 _ rfl)
    obtain ⟨y3, h3⟩ := pfield_some hxl (by decide) (hf 3 _ rfl)
    obtain ⟨y4, h4⟩ := pfield_some hxl (by decide) (hf 4 _ rfl)
    obtain ⟨y5, h5⟩ := pfield_some hxl (by decide) (hf 5 _ rfl)
    obtain ⟨y6, h6⟩ := pfield_some hxl (by decide) (hf 6 _ rfl)
    simp only [List.getElem_toArray, List.getElem_cons_zero, List.getElem_cons_succ, pcells3, pcells24, pcells28, pcells53, List.drop_zero, List.drop_succ_cons, List.take_succ_cons, List.take_zero] at h0 h1 h2 h3 h4 h5 h6
    obtain ⟨x0, e0, l0, m0⟩ := read_int Try.underlying3 h0
    cases e0
    obtain ⟨x1, e1, l1, m1⟩ := read_int Try.underlying3 h1
    cases e1
    obtain ⟨x2, e2, l2, m2⟩ := read_int Try.underlying3 h2
    cases e2
    obtain ⟨v3, ps, e3, r3⟩ := opens_pks _ _ _ h3
    cases e3
    obtain ⟨v4, bs, e4, r4⟩ := opens_bools _ _ _ h4
    cases e4
    obtain ⟨v5, bs2, e5, r5⟩ := opens_bools _ _ _ h5
    cases e5
    obtain ⟨v6, gs, e6, r6⟩ := opens_sints _ _ _ h6
    cases e6
    exact ⟨⟨x0, x1, x2, ps, bs, bs2, gs⟩, _, _, _, _, rfl, r3, r4, r5, r6, ⟨l0, m0⟩, ⟨l1, m1⟩, l2, m2⟩
end
end Go.Proofs.Ytapdcgjccckjeaa
