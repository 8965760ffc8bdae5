/- A packet among the arguments: whatever can be read as one reads as a packet. -/
import Derived.Test.YtphojlkljlnfjaaDoorOpen
import Derived.Test.YtphojlkljlnfjaaDoorPk
namespace Go.Proofs.YtphojlkljlnfjaaDoor
set_option maxRecDepth 100000
set_option linter.unusedVariables false
set_option linter.unusedSimpArgs false
open Go.RowKit Go.Deep
theorem pcells3 : Tryd.prog.cellsOf 3 = 1 := by kernel_rfl
theorem pcells34 : Tryd.prog.cellsOf 34 = 7 := by kernel_rfl
theorem pfield_some {α : Type} {xs : List α} {n i : Nat} {r : Option α} (hl : xs.length = n) (hi : i < n) (h : r = xs[i]?) : ∃ y, r = some y := ⟨xs[i]'(by omega), by rw [h, List.getElem?_eq_getElem]⟩
section
variable {H : Type} {enc : TypeId × Value → H} {w : World} {spare : Nat → Bool} {held : Bool}
theorem opens_Pk : Opens enc Tryd.prog w spare held 34 tPk := by
  intro fuel cs x h
  obtain ⟨xs, n, _, _, hlen, hxl, hf⟩ := DataW.trod_struct Tryd.underlying34 h
  rw [pcells34] at hlen
  match cs, hlen with
  | [c0, c1, c2, c3, c4, c5, c6], _ =>
    obtain ⟨y0, h0⟩ := pfield_some hxl (by decide) (hf 0 _ rfl)
    obtain ⟨y1, h1⟩ := pfield_some hxl (by decide) (hf 1 _ rfl)
    obtain ⟨y2, h2⟩ := pfield_some hxl (by decide) (hf 2 _ rfl)
    obtain ⟨y3, h3⟩ := pfield_some hxl (by decide) (hf 3 _ rfl)
    obtain ⟨y4, h4⟩ := pfield_some hxl (by decide) (hf 4 _ rfl)
    obtain ⟨y5, h5⟩ := pfield_some hxl (by decide) (hf 5 _ rfl)
    obtain ⟨y6, h6⟩ := pfield_some hxl (by decide) (hf 6 _ rfl)
    simp only [List.getElem_toArray, List.getElem_cons_zero, List.getElem_cons_succ, pcells3, List.drop_zero, List.drop_succ_cons, List.take_succ_cons, List.take_zero] at h0 h1 h2 h3 h4 h5 h6
    obtain ⟨x0, e0, l0, m0⟩ := read_int Tryd.underlying3 h0
    cases e0
    obtain ⟨x1, e1, l1, m1⟩ := read_int Tryd.underlying3 h1
    cases e1
    obtain ⟨x2, e2, l2, m2⟩ := read_int Tryd.underlying3 h2
    cases e2
    obtain ⟨x3, e3, l3, m3⟩ := read_int Tryd.underlying3 h3
    cases e3
    obtain ⟨x4, e4, l4, m4⟩ := read_int Tryd.underlying3 h4
    cases e4
    obtain ⟨x5, e5, l5, m5⟩ := read_int Tryd.underlying3 h5
    cases e5
    obtain ⟨x6, e6, l6, m6⟩ := read_int Tryd.underlying3 h6
    cases e6
    exact ⟨⟨x0, x1, x2, x3, x4, x5, x6⟩, rfl, ⟨l0, m0⟩, ⟨l1, m1⟩, ⟨l2, m2⟩, ⟨l3, m3⟩, ⟨l4, m4⟩, ⟨l5, m5⟩, ⟨l6, m6⟩⟩
end
end Go.Proofs.YtphojlkljlnfjaaDoor
