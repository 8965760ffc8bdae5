/- The marks of a slice of packets. -/
import Derived.Test.YtapdcgjccckjeaaPkToS
namespace Go.Proofs.Ytapdcgjccckjeaa
set_option maxRecDepth 100000
set_option linter.unusedVariables false
set_option linter.unusedSimpArgs false
open Go.RowKit
def markPk (q : Int) : Pk := ⟨q, q + 1, q + 2, q + 3, q + 4, q + 5, q + 6⟩
def marksP (q : Int) (n : Nat) : List Pk := (List.range n).map fun i : Nat => markPk (q + 7 * (i : Int))
theorem marksP_len (q : Int) (n : Nat) : (marksP q n).length = n := by simp [marksP]
theorem marksP_get (q : Int) (n k : Nat) (h : k < n) : (marksP q n)[k]'(by rw [marksP_len]; exact h) = markPk (q + 7 * k) := by
  simp [marksP]
theorem marksP_succ (q : Int) (xs : List Pk) (k : Nat) (h : k < xs.length) : (marksP q k ++ xs.drop k).set k (markPk (q + 7 * k)) = marksP q (k + 1) ++ xs.drop (k + 1) := by
  rw [List.set_append_right _ _ (by rw [marksP_len]; omega), marksP_len, Nat.sub_self, List.drop_eq_getElem_cons h, List.set_cons_zero]
  simp [marksP, List.range_succ]
set_option maxHeartbeats 1600000 in
theorem heldPacketS_c (w : World) (v : Value) (n : Nat) (q : Int) (h1 : tPk.row w v (marksP q n)) (hn : n ≤ 2097152) (hq0 : 0 ≤ q) (hq1 : q ≤ 1000000000000000000) :
    Calls Try.prog 100 #[v, .int .i64 q] w (Ret (.int .i64 (q + 7 * n)) w) := by
  obtain ⟨A1, c1, rfl⟩ := h1.val
  have hl := marksP_len q n
  rw [hl] at h1 ⊢
  have Hl := Lib.hid hl
  clear hl
  go_enter Try.func100, Try.ntmps100
  go_wp2
  go_loop [1, 5] (fun q' i => ∃ k : Nat, k ≤ n ∧ i = .int .i64 k ∧ q' = .int .i64 (q + 7 * k)) (fun _ i => n - (intOf i).toNat)
  case atStart => exact ⟨0, Nat.zero_le _, rfl, by simp⟩
  case round =>
    obtain ⟨k, hk, rfl, rfl⟩ := hrel
    by_cases hlt : k < n
    · obtain ⟨ad1, rfl, _, g1⟩ := row_pk_at h1 k (by rw [Hl.out]; exact hlt)
      rw [marksP_get q n k hlt] at g1
      have e0 := g1 0 (by decide)
      have e1 := g1 1 (by decide)
      have e2 := g1 2 (by decide)
      have e3 := g1 3 (by decide)
      have e4 := g1 4 (by decide)
      have e5 := g1 5 (by decide)
      have e6 := g1 6 (by decide)
      simp only [Pk.cells, markPk, List.getElem?_cons_zero, List.getElem?_cons_succ] at e0 e1 e2 e3 e4 e5 e6
      rw [Go.Deep.add_add, Nat.add_zero] at e0
      rw [Addr.add_succ'] at e1
      rw [Addr.add_succ'] at e2
      rw [Addr.add_succ'] at e3
      rw [Addr.add_succ'] at e4
      rw [Addr.add_succ'] at e5
      rw [Addr.add_succ'] at e6
      go_wp2
      go_round
      case rel => exact ⟨k + 1, by omega, by go_num, by congr 1; omega⟩
      case measure => simp [intOf]; omega
    · obtain rfl : k = n := by omega
      go_wp2
      go_ret
      exact ⟨rfl, Fr.refl w⟩
end Go.Proofs.Ytapdcgjccckjeaa
