/- From the reading of an argument, as the given rows have it, to what the walks take: slices of whatever elements. -/
import Derived.Test.YtphojlkljlnfjaaDoorBase
import Derived.Deep.Slices
import Derived.ChangeArms
import Derived.Carry
namespace Go.Proofs.YtphojlkljlnfjaaDoor
set_option maxRecDepth 100000
set_option linter.unusedVariables false
set_option linter.unusedSimpArgs false
open Go.RowKit Go.Deep

theorem list_of {α : Type} {p : Nat → α → Prop} : ∀ n : Nat, (∀ i, i < n → ∃ y, p i y) → ∃ xs : List α, xs.length = n ∧ ∀ i (h : i < xs.length), p i xs[i]
  | 0, _ => ⟨[], rfl, fun i h => by simp at h⟩
  | n + 1, h => by
    obtain ⟨xs, h1, h2⟩ := list_of n (fun i hi => h i (by omega))
    obtain ⟨y, hy⟩ := h n (by omega)
    refine ⟨xs ++ [y], by simp [h1], fun i hi => ?_⟩
    by_cases hlt : i < xs.length
    · rw [List.getElem_append_left hlt]
      exact h2 i hlt
    · have e : i = xs.length := by simp at hi; omega
      subst e
      rw [List.getElem_append_right (Nat.le_refl _)]
      simp only [Nat.sub_self, List.getElem_cons_zero]
      rw [h1]
      exact hy
section
variable {α H : Type} {enc : TypeId × Value → H} {P : Program} {w : World} {spare : Nat → Bool} {held : Bool} {d : Ty α} {t e fuel : Nat} {cs : List Value} {x : DataW H × List MemPlace}
/-- A kind of data, by its type: whatever can be read reads as some datum. -/
def Opens (enc : TypeId × Value → H) (P : Program) (w : World) (spare : Nat → Bool) (held : Bool) (t : Nat) (d : Ty α) : Prop :=
  ∀ fuel cs x, DataW.trod enc P w 0 spare held fuel t cs = some x → ∃ y, d.rd w y cs
def OpensRow (enc : TypeId × Value → H) (P : Program) (w : World) (spare : Nat → Bool) (held : Bool) (t : Nat) (d : Ty α) : Prop :=
  ∀ fuel cs x, DataW.trod enc P w 0 spare held fuel t cs = some x → ∃ v xs, cs = [v] ∧ d.row w v xs
theorem opens_row (ht : P.underlying t = some (.slice e)) (hC : P.cellsOf e = d.sz) (hd : Opens enc P w spare held e d) : OpensRow enc P w spare held t d := by
  intro fuel cs x h
  rcases open_slice ht h with ⟨h0, _⟩ | ⟨a, len, cap, m, n, D, Pl, hcs, hb, hl, hm, hmm, hx, hi⟩
  · exact ⟨_, [], h0, Ty.row.nil d w⟩
  · have hlm : len ≤ m := by rw [hmm]; split <;> omega
    obtain ⟨xs, h1, h2⟩ := list_of (p := fun i y => ∃ cs', d.rd w y cs' ∧ ∀ j (hj : j < cs'.length), w.cell? (a.add (i * d.sz + j)) = some cs'[j]) len (fun i hi' => by
      obtain ⟨cs', hc, ht'⟩ := hi i (by omega)
      obtain ⟨y, hy⟩ := hd _ _ _ ht'
      rw [hC] at hc
      obtain ⟨_, hcl, hat⟩ := World.cells?_some hc
      refine ⟨y, cs', hy, fun j hj => ?_⟩
      rw [← add_add, hat j (by omega), List.getElem?_eq_getElem hj])
    subst h1
    refine ⟨_, xs, hcs, some a, cap, rfl, ⟨hl, fun h => by cases h⟩, by simp only [maxLen] at hm; omega, fun k hk => ?_⟩
    obtain ⟨cs', hy, hc⟩ := h2 k hk
    exact ⟨a, cs', rfl, hy, hc⟩
theorem opens_int (ht : P.underlying t = some (.int .i64)) : Opens enc P w spare held t tInt := by
  intro fuel cs x h
  obtain ⟨n, rfl, _⟩ := DataW.trod_int ht h
  exact ⟨n, rfl⟩
theorem opens_bool (ht : P.underlying t = some .bool) : Opens enc P w spare held t tBool := by
  intro fuel cs x h
  obtain ⟨b, rfl, _⟩ := DataW.trod_bool ht h
  exact ⟨b, rfl⟩
/-- An int's own reading, with its range. -/
theorem read_int (ht : P.underlying t = some (.int .i64)) (h : DataW.trod enc P w 0 spare held fuel t cs = some x) : ∃ n, cs = [.int .i64 n] ∧ -9223372036854775808 ≤ n ∧ n ≤ 9223372036854775807 := by
  obtain ⟨n, rfl, _, hw⟩ := DataW.trod_int ht h
  refine ⟨n, rfl, ?_⟩
  simp [Lit.wf, IntKind.min, IntKind.max, IntKind.bits, IntKind.signed] at hw
  omega
end
end Go.Proofs.YtphojlkljlnfjaaDoor
