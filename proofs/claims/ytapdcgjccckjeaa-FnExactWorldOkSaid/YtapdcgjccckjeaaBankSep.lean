/- Banks of a call's own, taken apart and put together. -/
import Derived.Test.YtapdcgjccckjeaaSep
import Derived.Test.YtapdcgjccckjeaaBankOk
namespace Go.Proofs.Ytapdcgjccckjeaa
set_option maxRecDepth 100000
set_option linter.unusedVariables false
set_option linter.unusedSimpArgs false
open Go.RowKit
section
variable {F0 : List Nat} {w0 w : World} {L : List Asrt} {b : Bk} {cs : List Value} {F : List Nat}
theorem orow_cap {α : Type} {d : Ty α} {e : Nat} {A : Option Addr} {n c : Nat} {xs : List α} {G : List Nat} (h : d.orow e w (.slice A n c) xs G) : n = xs.length ∧ n ≤ c := by
  obtain ⟨A', c', e1, h1, _⟩ := h.row
  simp only [Value.slice.injEq] at e1
  obtain ⟨rfl, rfl, rfl⟩ := e1
  exact ⟨rfl, h1.1⟩
theorem Sep.openBk (S : Sep F0 w0 (aOwn tBk b cs F :: L) w) : ∃ v1 v2 F1 F2, cs = [v1, v2, .int .i64 b.locked] ∧ F = F1 ++ F2 ∧ I64 b.locked ∧ Sep F0 w0 (aRow tInt 3 b.own v1 F1 :: aRow tInt 3 b.notes v2 F2 :: L) w := by
  have h := S.own (d := tBk) (x := b) (cs := cs) (F := F) (by simp)
  obtain ⟨v1, v2, F1, F2, rfl, rfl, h1, h2, h3⟩ := h
  refine ⟨v1, v2, F1, F2, rfl, rfl, h3, S.conv [aRow tInt 3 b.own v1 F1, aRow tInt 3 b.notes v2 F2] (by simp [fps, aRow, aOwn]) ?_⟩
  intro x hx
  simp only [List.mem_cons, List.not_mem_nil, or_false] at hx
  rcases hx with rfl | rfl
  · exact h1
  · exact h2
theorem Sep.openBk3 (S : Sep F0 w0 (aOwn tBk b cs F :: L) w) (l1 : b.own.length = 3) (l2 : b.notes.length = 3) : ∃ g1 c1 g2 c2 F1 F2, cs = [.slice (some ⟨g1, 0, none⟩) 3 c1, .slice (some ⟨g2, 0, none⟩) 3 c2, .int .i64 b.locked] ∧ F = F1 ++ F2 ∧ 3 ≤ c1 ∧ I64 b.locked ∧
    Sep F0 w0 (aRow tInt 3 b.own (.slice (some ⟨g1, 0, none⟩) 3 c1) F1 :: aRow tInt 3 b.notes (.slice (some ⟨g2, 0, none⟩) 3 c2) F2 :: L) w := by
  obtain ⟨v1, v2, F1, F2, rfl, rfl, hI, S'⟩ := S.openBk
  have h1 := S'.row (d := tInt) (xs := b.own) (v := v1) (F := F1) (e := 3) (by simp)
  have h2 := S'.row (d := tInt) (xs := b.notes) (v := v2) (F := F2) (e := 3) (by simp)
  obtain ⟨g1, c1, rfl⟩ := h1.shape (by omega)
  obtain ⟨g2, c2, rfl⟩ := h2.shape (by omega)
  have := orow_cap h1
  rw [l1, l2] at S'
  rw [l1, l2]
  exact ⟨g1, c1, g2, c2, F1, F2, rfl, rfl, by omega, hI, S'⟩
theorem Sep.shutBk {xs ys : List Int} {v1 v2 : Value} {F1 F2 : List Nat} {l : Int} (S : Sep F0 w0 (aRow tInt 3 xs v1 F1 :: aRow tInt 3 ys v2 F2 :: L) w) (hI : I64 l) : Sep F0 w0 (aOwn tBk ⟨xs, ys, l⟩ [v1, v2, .int .i64 l] (F1 ++ F2) :: L) w := by
  refine Sep.join [aRow tInt 3 xs v1 F1, aRow tInt 3 ys v2 F2] S _ (by simp [fps, aRow, aOwn]) fun h => ?_
  exact ⟨v1, v2, F1, F2, rfl, rfl, h (aRow tInt 3 xs v1 F1) (by simp), h (aRow tInt 3 ys v2 F2) (by simp), hI⟩
end
end Go.Proofs.Ytapdcgjccckjeaa
