/- What the laws' helpers for slices of bools come to (Ints.src, turned). -/
import Derived.Test.YtapdcgjccckjeaaProg
import Derived.Test.YtapdcgjccckjeaaBase
import Derived.Test.YtapdcgjccckjeaaInts
namespace Go.Proofs.Ytapdcgjccckjeaa
set_option maxRecDepth 100000
set_option linter.unusedVariables false
set_option linter.unusedSimpArgs false
open Go.RowKit

/-- The marks that a slice of ints is given. -/
def marksB (q : Int) (n : Nat) : List Bool := (List.range n).map fun i : Nat => ((q + (i : Int)) % 3 == 0)
theorem marksB_len (q : Int) (n : Nat) : (marksB q n).length = n := by simp [marksB]
theorem marksB_get (q : Int) (n k : Nat) (h : k < n) : (marksB q n)[k]'(by rw [marksB_len]; exact h) = ((q + k) % 3 == 0) := by
  simp [marksB]
theorem marksB_succ (q : Int) (xs : List Bool) (k : Nat) (h : k < xs.length) : (marksB q k ++ xs.drop k).set k ((q + k) % 3 == 0) = marksB q (k + 1) ++ xs.drop (k + 1) := by
  rw [List.set_append_right _ _ (by rw [marksB_len]; omega), marksB_len, Nat.sub_self, List.drop_eq_getElem_cons h, List.set_cons_zero]
  simp [marksB, List.range_succ]
theorem info4 : (Try.prog.info? 4).map (fun i => (i.zero, i.size, i.bytes)) = some (some (.bool false), 1, 1) := by kernel_rfl

set_option maxHeartbeats 400000 in
theorem eqBoolS_c (w : World) (v u : Value) (xs : List Bool) (h1 : tBool.row w v xs) (h2 : tBool.row w u xs) :
    Calls Try.prog 97 #[v, u] w (Ret (.bool true) w) := by
  obtain ⟨A1, c1, rfl⟩ := h1.val
  obtain ⟨A2, c2, rfl⟩ := h2.val
  have hm := h1.le
  go_enter Try.func97, Try.ntmps97
  go_wp2
  go_loopw [5] (fun i wr => ∃ k n : Nat, k ≤ xs.length ∧ i = .int .i64 k ∧ wr = w.drewN n) (fun i _ => xs.length - (intOf i).toNat)
  case atStart => exact ⟨0, 0, Nat.zero_le _, rfl, rfl⟩
  case round =>
    obtain ⟨k, n, hk, rfl, rfl⟩ := hrel
    by_cases hlt : k < xs.length
    · obtain ⟨ad1, rfl, g1⟩ := row_bool_at h1 k hlt
      obtain ⟨ad2, rfl, g2⟩ := row_bool_at h2 k hlt
      have p0 : (0 : Int) ≤ (k : Int) := Int.natCast_nonneg _
      have p1 : (k : Int) < (xs.length : Int) := by omega
      go_wp2
      go_quiet (fail)
      go_wp2
      go_roundw
      case rel => exact ⟨k + 1, _, by omega, by go_num, rfl⟩
      case measure => simp [intOf]; omega
    · go_wp2
      go_ret
      exact ⟨rfl, (Fr.refl w).drewN n⟩

set_option maxHeartbeats 400000 in
theorem heldBoolS_c (w : World) (v : Value) (n : Nat) (q : Int) (h1 : tBool.row w v (marksB q n)) (hn : n ≤ 2097152) (hq0 : 0 ≤ q) (hq1 : q ≤ 1000000000000000000) :
    Calls Try.prog 101 #[v, .int .i64 q] w (Ret (.int .i64 (q + n)) w) := by
  obtain ⟨A1, c1, rfl⟩ := h1.val
  have hl := marksB_len q n
  rw [hl] at h1 ⊢
  have Hl := Lib.hid hl
  clear hl
  go_enter Try.func101, Try.ntmps101
  go_wp2
  go_loop [1, 5] (fun q' i => ∃ k : Nat, k ≤ n ∧ i = .int .i64 k ∧ q' = .int .i64 (q + k)) (fun _ i => n - (intOf i).toNat)
  case atStart => exact ⟨0, Nat.zero_le _, rfl, by simp⟩
  case round =>
    obtain ⟨k, hk, rfl, rfl⟩ := hrel
    by_cases hlt : k < n
    · obtain ⟨ad1, rfl, g1⟩ := row_bool_at h1 k (by rw [Hl.out]; exact hlt)
      rw [marksB_get q n k hlt] at g1
      go_wp2
      go_round
      case rel => exact ⟨k + 1, by omega, by go_num, by go_num⟩
      case measure => simp [intOf]; omega
    · obtain rfl : k = n := by omega
      go_wp2
      go_ret
      exact ⟨rfl, Fr.refl w⟩

set_option maxHeartbeats 400000 in
theorem markBoolS_c (w : World) (v : Value) (xs : List Bool) (F : List Nat) (q : Int) (h1 : tBool.orow 4 w v xs F) (hq0 : 0 ≤ q) (hq1 : q ≤ 1000000000000000000) :
    Calls Try.prog 99 #[v, .int .i64 q] w (RetMkRow tBool 4 (q + xs.length) (marksB q xs.length) v F w) := by
  obtain ⟨A1, c1, rfl⟩ := h1.row.val
  have hm := h1.le
  go_enter Try.func99, Try.ntmps99
  go_wp2
  go_loopw [1, 5] (fun q' i wr => ∃ k : Nat, k ≤ xs.length ∧ i = .int .i64 k ∧ q' = .int .i64 (q + k) ∧ tBool.orow 4 wr (.slice A1 xs.length c1) (marksB q k ++ xs.drop k) F ∧ Chg F w wr) (fun _ i _ => xs.length - (intOf i).toNat)
  case atStart => exact ⟨0, Nat.zero_le _, rfl, by simp, by simpa [marksB] using h1, Chg.refl _ _⟩
  case round =>
    obtain ⟨k, hk, rfl, rfl, hr, hc⟩ := hrel
    have hl : (marksB q k ++ xs.drop k).length = xs.length := by simp [marksB_len]; omega
    by_cases hlt : k < xs.length
    · obtain ⟨g, y, rfl, h4, g1, g2, hs⟩ := orow_bool_at hr (k := k) (by omega)
      have hs2 := hs ((q + k) % 3 == 0)
      rw [marksB_succ q xs k hlt] at hs2
      clear hs hr hl
      go_wp2
      go_roundw
      case rel => exact ⟨k + 1, by omega, by go_num, by go_num, hs2, hc.set (.inl h4) _⟩
      case measure => simp [intOf]; omega
    · obtain rfl : k = xs.length := by omega
      go_wp2
      go_ret
      exact ⟨rfl, by simpa using hr, hc⟩

theorem szBoolS_c (w : World) (v : Value) (xs : List Bool) (left : Int) (h1 : tBool.row w v xs) (hl0 : 0 ≤ left) (hl1 : left ≤ 1048576) :
    Calls Try.prog 109 #[v, .int .i64 left] w (Ret (.int .i64 (szr left xs.length)) w) := by
  obtain ⟨A1, c1, rfl⟩ := h1.val
  have hm := h1.le
  unfold szr
  by_cases h : (xs.length : Int) ≤ left
  all_goals
    simp only [h, if_true, if_false]
    go_enter Try.func109, Try.ntmps109
    go_wp2
    go_ret
    exact ⟨rfl, Fr.refl w⟩


set_option maxHeartbeats 400000 in
theorem toBoolS_c (w : World) (v : Value) (xs : List Bool) (h1 : tBool.row w v xs) (hm : xs.length ≤ 1048576) :
    Calls Try.prog 112 #[v] w (RetRow tBool 4 xs w) := by
  obtain ⟨A1, c1, rfl⟩ := h1.val
  have hmk := fun W => run_make_row' (P := Try.prog) 28 4 (.bool false) 1 Try.underlying28 info4 rfl .i64 .i64 xs.length (by omega) (by omega) W
  have hmade := orow_made tBool 4 w false [.bool false] xs.length (fun _ => ⟨rfl, rfl⟩) (by omega)
  rw [show xs.length * tBool.sz = xs.length from Nat.mul_one _] at hmade
  go_enter Try.func112, Try.ntmps112
  go_wp2
  go_loopw [4] (fun i wr => ∃ k : Nat, k ≤ xs.length ∧ i = .int .i64 k ∧ tBool.orow 4 wr (.slice (some ⟨w.heap.size, 0, none⟩) xs.length xs.length) (xs.take k ++ List.replicate (xs.length - k) false) [w.heap.size] ∧ Fr w wr) (fun i _ => xs.length - (intOf i).toNat)
  case atStart => exact ⟨0, Nat.zero_le _, rfl, by simpa using hmade, (Fr.refl w).alloc _⟩
  case round =>
    clear hmade hmk
    obtain ⟨k, hk, rfl, hr, hc⟩ := hrel
    have hl : (xs.take k ++ List.replicate (xs.length - k) false).length = xs.length := by simp; omega
    by_cases hlt : k < xs.length
    · obtain ⟨g, y, e, h4, g1, g2, hs⟩ := orow_bool_at hr (k := k) (by omega)
      cases e
      obtain ⟨ad1, rfl, g3⟩ := row_bool_at (h1.fr hc) k hlt
      have hs2 := hs xs[k]
      rw [take_set_rep xs false k hlt] at hs2
      clear hs hr hl h4
      go_wp2
      go_roundw
      case rel => exact ⟨k + 1, by omega, by go_num, hs2, hc.set (Nat.le_refl _) _⟩
      case measure => simp [intOf]; omega
    · obtain rfl : k = xs.length := by omega
      go_wp2
      go_ret
      exact ⟨_, _, rfl, by simpa using hr, by simp, by simp, hc⟩
end Go.Proofs.Ytapdcgjccckjeaa
