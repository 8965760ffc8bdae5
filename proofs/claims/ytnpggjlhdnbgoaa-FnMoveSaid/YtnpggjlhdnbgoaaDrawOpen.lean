/- A reader of a code is opened. -/
import Derived.Test.YtnpggjlhdnbgoaaDraw
namespace Go.Proofs.Ytnpggjlhdnbgoaa
set_option linter.unusedVariables false
set_option linter.unusedSimpArgs false
open Go.RowKit
/-- A reader is opened. -/
def Opened (w : World) : Ending → World → Prop := fun e w' => ∃ g v bs, e = .returned (.pointer (some ⟨g, 0, none⟩)) ∧ w.heap.size ≤ g ∧ Box w' g 73 #[v, .int .i64 (0 : Nat)] ∧ tByte.row w v bs ∧ bs.length ≤ 2000 ∧ Fr w w'
theorem row_take {α : Type} {d : Ty α} {w : World} {A : Option Addr} {n c : Nat} {xs : List α} (h : d.row w (.slice A n c) xs) (k : Nat) (hk : k ≤ xs.length) : d.row w (.slice A k c) (xs.take k) := by
  obtain ⟨A', c', e, h1, h2, h3⟩ := h
  simp only [Value.slice.injEq] at e
  obtain ⟨rfl, rfl, rfl⟩ := e
  refine ⟨A, c, by rw [List.length_take]; congr 1; omega, by rw [List.length_take]; omega, by rw [List.length_take]; omega, fun i hi => ?_⟩
  have hi2 : i < xs.length := by rw [List.length_take] at hi; omega
  rw [List.getElem_take]
  exact h3 i hi2
theorem drow_le {α : Type} {d : Ty α} {w : World} {A : Option Addr} {n c : Nat} {xs : List α} (h : d.row w (.slice A n c) xs) : n = xs.length ∧ n ≤ c := by
  obtain ⟨A', c', e, h1, h2, h3⟩ := h
  simp only [Value.slice.injEq] at e
  obtain ⟨rfl, rfl, rfl⟩ := e
  exact ⟨rfl, h1⟩
set_option maxHeartbeats 1600000 in
theorem l6Open_c (w : World) (v : Value) (bs : List Int) (hr : tByte.row w v bs) : Calls Try.prog 51 #[v] w (Opened w) := by
  obtain ⟨A1, c1, rfl⟩ := hr.val
  have hm := hr.le
  have hcap := (drow_le hr).2
  by_cases h0 : 2000 < bs.length
  · obtain ⟨ad, rfl, _⟩ := row_byte_at hr 0 (by omega)
    go_enter Try.func51, Try.ntmps51
    go_wp2_with ((with_reducible refine gate_dst (N := 10) rfl ?_); refine wpList_box rfl _ _ rfl #[.slice (some ad) 2000 c1, .int .i64 (0 : Nat)] rfl ?_; intro g w9 hg k f9)
    go_ret
    exact ⟨g, _, bs.take 2000, rfl, hg, k, row_take hr 2000 (by omega), by rw [List.length_take]; omega, f9⟩
  · go_enter Try.func51, Try.ntmps51
    go_wp2_with ((with_reducible refine gate_dst (N := 10) rfl ?_); refine wpList_box rfl _ _ rfl #[.slice A1 bs.length c1, .int .i64 (0 : Nat)] rfl ?_; intro g w9 hg k f9)
    go_ret
    exact ⟨g, _, bs, rfl, hg, k, hr, by omega, f9⟩
end Go.Proofs.Ytnpggjlhdnbgoaa
