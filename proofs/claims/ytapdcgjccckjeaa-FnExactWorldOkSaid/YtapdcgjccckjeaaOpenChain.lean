/- A chain, or a world, among the arguments: whatever can be read as one reads as a chain, a world. -/
import Derived.Test.YtapdcgjccckjeaaOpenState
import Derived.Test.YtapdcgjccckjeaaOpenBank
import Derived.Test.YtapdcgjccckjeaaCh
namespace Go.Proofs.Ytapdcgjccckjeaa
set_option maxRecDepth 100000
set_option linter.unusedVariables false
set_option linter.unusedSimpArgs false
open Go.RowKit Go.Deep
theorem pcells52 : Try.prog.cellsOf 52 = 3 := by kernel_rfl
theorem pcells56 : Try.prog.cellsOf 56 = 1 := by kernel_rfl
theorem pcells58 : Try.prog.cellsOf 58 = 13 := by kernel_rfl
section
variable {H : Type} {enc : TypeId × Value → H} {w : World} {spare : Nat → Bool} {held : Bool}
theorem opens_sts : OpensRow enc Try.prog w spare held 56 tSt := opens_row Try.underlying56 pcells55 opens_St
theorem opens_Ch : Opens enc Try.prog w spare held 58 tCh := by
  intro fuel cs x h
  obtain ⟨xs, n, _, _, hlen, hxl, hf⟩ := DataW.trod_struct Try.underlying58 h
  rw [pcells58] at hlen
  match cs, hlen with
  | [c0, c1, c2, c3, c4, c5, c6, c7, c8, c9, c10, c11, c12], _ =>
    obtain ⟨y0, h0⟩ := pfield_some hxl (by decide) (hf 0 _ rfl)
    obtain ⟨y1, h1⟩ := pfield_some hxl (by decide) (hf 1 _ rfl)
    obtain ⟨y2, h2⟩ := pfield_some hxl (by decide) (hf 2 _ rfl)
    obtain ⟨y3, h3⟩ := pfield_some hxl (by decide) (hf 3 _ rfl)
    obtain ⟨y4, h4⟩ := pfield_some hxl (by decide) (hf 4 _ rfl)
    simp only [List.getElem_toArray, List.getElem_cons_zero, List.getElem_cons_succ, pcells3, pcells24, pcells52, pcells55, pcells56, List.drop_zero, List.drop_succ_cons, List.take_succ_cons, List.take_zero] at h0 h1 h2 h3 h4
    obtain ⟨x0, e0, l0, m0⟩ := read_int Try.underlying3 h0
    cases e0
    obtain ⟨b, hb⟩ := opens_Bk _ _ _ h1
    obtain ⟨s, hs⟩ := opens_St _ _ _ h2
    obtain ⟨v3, ps, e3, r3⟩ := opens_sts _ _ _ h3
    cases e3
    obtain ⟨v4, ks, e4, r4⟩ := opens_sints _ _ _ h4
    cases e4
    have hb' := hb
    have hs' := hs
    obtain ⟨b1, b2, eb, _⟩ := hb'
    cases eb
    obtain ⟨s1, s2, s3, s4, es, _⟩ := hs'
    cases es
    exact ⟨⟨x0, b, s, ps, ks⟩, _, _, _, _, _, _, _, _, rfl, hb, hs, r3, r4, l0, m0⟩
end
end Go.Proofs.Ytapdcgjccckjeaa
