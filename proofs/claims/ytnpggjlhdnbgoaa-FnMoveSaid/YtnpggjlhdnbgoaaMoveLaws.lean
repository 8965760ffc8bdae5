/- Plain laws of banks: what was moved, taken away or given back. No program in sight. -/
import Derived.Test.YtnpggjlhdnbgoaaBankAway
namespace Go.Proofs.Ytnpggjlhdnbgoaa
set_option linter.unusedVariables false
set_option linter.unusedSimpArgs false
theorem three {xs : List Int} (h : xs.length = 3) : ∃ a b c, xs = [a, b, c] := by
  match xs, h with
  | [a, b, c], _ => exact ⟨a, b, c, rfl⟩
/-- A bank that is ok, written out. -/
def Ok3 (b : Bk) (a0 a1 a2 n0 n1 n2 l : Int) : Prop := b = ⟨[a0, a1, a2], [n0, n1, n2], l⟩ ∧ 0 ≤ a0 ∧ a0 ≤ 30 ∧ 0 ≤ a1 ∧ a1 ≤ 30 ∧ 0 ≤ a2 ∧ a2 ≤ 30 ∧ 0 ≤ n0 ∧ n0 ≤ 30 ∧ 0 ≤ n1 ∧ n1 ≤ 30 ∧ 0 ≤ n2 ∧ n2 ≤ 30 ∧ 0 ≤ l ∧ a0 + a1 + a2 + l = 30 ∧ n0 + n1 + n2 ≤ 30
theorem ok3 {b : Bk} (h : okBk b = true) : ∃ a0 a1 a2 n0 n1 n2 l, Ok3 b a0 a1 a2 n0 n1 n2 l := by
  obtain ⟨own, notes, l⟩ := b
  simp only [okBk, Bool.and_eq_true, decide_eq_true_eq] at h
  obtain ⟨⟨⟨⟨h1, h2⟩, h3⟩, h4⟩, h5⟩ := h
  obtain ⟨a0, a1, a2, rfl⟩ := three (okL_len h1)
  obtain ⟨n0, n1, n2, rfl⟩ := three (okL_len h2)
  simp [okL, rng] at h1 h2
  simp at h4 h5
  exact ⟨a0, a1, a2, n0, n1, n2, l, rfl, by omega⟩
theorem okBk3 (a0 a1 a2 n0 n1 n2 l : Int) : okBk ⟨[a0, a1, a2], [n0, n1, n2], l⟩ = decide (0 ≤ a0 ∧ a0 ≤ 30 ∧ 0 ≤ a1 ∧ a1 ≤ 30 ∧ 0 ≤ a2 ∧ a2 ≤ 30 ∧ 0 ≤ n0 ∧ n0 ≤ 30 ∧ 0 ≤ n1 ∧ n1 ≤ 30 ∧ 0 ≤ n2 ∧ n2 ≤ 30 ∧ 0 ≤ l ∧ a0 + a1 + a2 + l = 30 ∧ n0 + n1 + n2 ≤ 30) := by
  rw [Bool.eq_iff_iff]
  simp [okBk, okL, rng]
  omega
theorem moveR3 (b : Bk) (k f t s : Int) (h : (moveR b k f t s).2 = true) : ∃ a0 a1 a2 n0 n1 n2 l, Ok3 b a0 a1 a2 n0 n1 n2 l ∧ (k = 1 ∨ k = 2) ∧ (f = 1 ∨ f = 2 ∨ f = 3) ∧ (t = 1 ∨ t = 2 ∨ t = 3) ∧ 0 ≤ s ∧ s ≤ at0 (lst b k) (f.toNat - 1) := by
  have h1 : mvOk b k f t s = true := by
    unfold moveR at h
    split at h
    · assumption
    · cases h
  simp only [mvOk, Bool.and_eq_true, decide_eq_true_eq] at h1
  obtain ⟨⟨⟨⟨⟨h1, h2⟩, h3⟩, h4⟩, h5⟩, h6⟩ := h1
  obtain ⟨a0, a1, a2, n0, n1, n2, l, ho⟩ := ok3 h1
  exact ⟨a0, a1, a2, n0, n1, n2, l, ho, by omega, by omega, by omega, h5, h6⟩
theorem awayR3 (b : Bk) (k f s : Int) (h : (awayR b k f s).2 = true) : ∃ a0 a1 a2 n0 n1 n2 l, Ok3 b a0 a1 a2 n0 n1 n2 l ∧ (k = 1 ∨ k = 2) ∧ (f = 1 ∨ f = 2 ∨ f = 3) ∧ 0 ≤ s ∧ s ≤ at0 (lst b k) (f.toNat - 1) := by
  have h1 : awOk b k f s = true := by
    unfold awayR at h
    split at h
    · assumption
    · cases h
  simp only [awOk, Bool.and_eq_true, decide_eq_true_eq] at h1
  obtain ⟨⟨⟨⟨h1, h2⟩, h3⟩, h5⟩, h6⟩ := h1
  obtain ⟨a0, a1, a2, n0, n1, n2, l, ho⟩ := ok3 h1
  exact ⟨a0, a1, a2, n0, n1, n2, l, ho, by omega, by omega, h5, h6⟩
theorem backR3 (b : Bk) (k t s : Int) (h : (backR b k t s).2 = true) : ∃ a0 a1 a2 n0 n1 n2 l, Ok3 b a0 a1 a2 n0 n1 n2 l ∧ (k = 1 ∨ k = 2) ∧ (t = 1 ∨ t = 2 ∨ t = 3) ∧ 0 ≤ s ∧ s ≤ 30 ∧ (k = 1 → s ≤ b.locked) ∧ (k = 2 → b.notes.sum + s ≤ 30) := by
  have h1 : bkOk b k t s = true := by
    unfold backR at h
    split at h
    · assumption
    · cases h
  simp only [bkOk, Bool.and_eq_true, decide_eq_true_eq] at h1
  obtain ⟨⟨⟨⟨h1, h2⟩, h3⟩, h5⟩, h6⟩ := h1
  obtain ⟨a0, a1, a2, n0, n1, n2, l, ho⟩ := ok3 h1
  refine ⟨a0, a1, a2, n0, n1, n2, l, ho, by omega, by omega, h5.1, h5.2, fun e => ?_, fun e => ?_⟩
  · subst e; simpa using h6
  · subst e; simpa using h6
theorem moveR_true {b : Bk} {k f t s : Int} (h : (moveR b k f t s).2 = true) : moveR b k f t s = (moveBk b k f t s, true) := by
  unfold moveR at *
  split at h
  · rename_i h1; rw [if_pos h1]
  · cases h
theorem mv_back {b : Bk} {k f t s : Int} (h : (moveR b k f t s).2 = true) : moveR (moveR b k f t s).1 k t f s = (b, true) := by
  rw [moveR_true h]
  obtain ⟨a0, a1, a2, n0, n1, n2, l, ⟨rfl, ho⟩, hk, hf, ht, hs, hle⟩ := moveR3 b k f t s h
  clear h
  rcases hk with rfl | rfl <;> rcases hf with rfl | rfl | rfl <;> rcases ht with rfl | rfl | rfl
  all_goals
    simp [lst, at0] at hle
    simp [moveBk, lst, setLst, addAt, at0]
    rw [moveR, if_pos (by simp [mvOk, okBk3, lst, at0]; omega)]
    simp [moveBk, lst, setLst, addAt, at0]
    try omega
theorem mv_ok {b : Bk} {k f t s : Int} (h : (moveR b k f t s).2 = true) : okBk (moveR b k f t s).1 = true := by
  rw [moveR_true h]
  obtain ⟨a0, a1, a2, n0, n1, n2, l, ⟨rfl, ho⟩, hk, hf, ht, hs, hle⟩ := moveR3 b k f t s h
  clear h
  rcases hk with rfl | rfl <;> rcases hf with rfl | rfl | rfl <;> rcases ht with rfl | rfl | rfl
  all_goals
    simp [lst, at0] at hle
    simp [moveBk, lst, setLst, addAt, at0, okBk3]
    omega
theorem aw_ok {b : Bk} {k f s : Int} (h : okBk b = true) (hk : 1 ≤ k ∧ k ≤ 2) (hf : 1 ≤ f ∧ f ≤ 3) (hs : 0 ≤ s) (hle : s ≤ at0 (lst b k) (f.toNat - 1)) : okBk (awayBk b k f s) = true := by
  obtain ⟨a0, a1, a2, n0, n1, n2, l, ⟨rfl, ho⟩⟩ := ok3 h
  clear h
  have hk : k = 1 ∨ k = 2 := by omega
  have hf : f = 1 ∨ f = 2 ∨ f = 3 := by omega
  rcases hk with rfl | rfl <;> rcases hf with rfl | rfl | rfl
  all_goals
    simp [lst, at0] at hle
    simp [awayBk, lst, setLst, addAt, at0, okBk3]
    omega
theorem bk_ok {b : Bk} {k t s : Int} (h : okBk b = true) (hk : 1 ≤ k ∧ k ≤ 2) (hf : 1 ≤ t ∧ t ≤ 3) (hs : 0 ≤ s ∧ s ≤ 30) (hm : (if k = 1 then decide (s ≤ b.locked) else decide (b.notes.sum + s ≤ 30)) = true) : okBk (backBk b k t s) = true := by
  obtain ⟨a0, a1, a2, n0, n1, n2, l, ⟨rfl, ho⟩⟩ := ok3 h
  clear h
  have hk : k = 1 ∨ k = 2 := by omega
  have hf : t = 1 ∨ t = 2 ∨ t = 3 := by omega
  rcases hk with rfl | rfl <;> rcases hf with rfl | rfl | rfl
  all_goals
    simp at hm
    simp [backBk, addAt, at0, okBk3]
    omega
theorem mv_part1 {b : Bk} {k f t s n : Int} (h : (moveR b k f t s).2 = true) (h0 : 0 ≤ n) (h1 : n ≤ s) : (moveR b k f t n).2 = true := by
  obtain ⟨a0, a1, a2, n0, n1, n2, l, ⟨rfl, ho⟩, hk, hf, ht, hs, hle⟩ := moveR3 b k f t s h
  clear h
  rcases hk with rfl | rfl <;> rcases hf with rfl | rfl | rfl <;> rcases ht with rfl | rfl | rfl
  all_goals
    simp [lst, at0] at hle
    rw [moveR, if_pos (by simp [mvOk, okBk3, lst, at0]; omega)]
theorem mv_part2 {b : Bk} {k f t s n : Int} (h : (moveR b k f t s).2 = true) (h0 : 0 ≤ n) (h1 : n ≤ s) : moveR (moveR b k f t n).1 k f t (s - n) = ((moveR b k f t s).1, true) := by
  rw [moveR_true h, moveR_true (mv_part1 h h0 h1)]
  obtain ⟨a0, a1, a2, n0, n1, n2, l, ⟨rfl, ho⟩, hk, hf, ht, hs, hle⟩ := moveR3 b k f t s h
  clear h
  rcases hk with rfl | rfl <;> rcases hf with rfl | rfl | rfl <;> rcases ht with rfl | rfl | rfl
  all_goals
    simp [lst, at0] at hle
    simp [moveBk, lst, setLst, addAt, at0]
    rw [moveR, if_pos (by simp [mvOk, okBk3, lst, at0]; omega)]
    simp [moveBk, lst, setLst, addAt, at0]
    try omega
theorem awayR_true {b : Bk} {k f s : Int} (h : (awayR b k f s).2 = true) : awayR b k f s = (awayBk b k f s, true) := by
  unfold awayR at *
  split at h
  · rename_i h1; rw [if_pos h1]
  · cases h
theorem backR_true {b : Bk} {k t s : Int} (h : (backR b k t s).2 = true) : backR b k t s = (backBk b k t s, true) := by
  unfold backR at *
  split at h
  · rename_i h1; rw [if_pos h1]
  · cases h
theorem aw_part1 {b : Bk} {k f s n : Int} (h : (awayR b k f s).2 = true) (h0 : 0 ≤ n) (h1 : n ≤ s) : (awayR b k f n).2 = true := by
  obtain ⟨a0, a1, a2, n0, n1, n2, l, ⟨rfl, ho⟩, hk, hf, hs, hle⟩ := awayR3 b k f s h
  clear h
  rcases hk with rfl | rfl <;> rcases hf with rfl | rfl | rfl
  all_goals
    simp [lst, at0] at hle
    rw [awayR, if_pos (by simp [awOk, okBk3, lst, at0]; omega)]
theorem aw_part2 {b : Bk} {k f s n : Int} (h : (awayR b k f s).2 = true) (h0 : 0 ≤ n) (h1 : n ≤ s) : awayR (awayR b k f n).1 k f (s - n) = ((awayR b k f s).1, true) := by
  rw [awayR_true h, awayR_true (aw_part1 h h0 h1)]
  obtain ⟨a0, a1, a2, n0, n1, n2, l, ⟨rfl, ho⟩, hk, hf, hs, hle⟩ := awayR3 b k f s h
  clear h
  rcases hk with rfl | rfl <;> rcases hf with rfl | rfl | rfl
  all_goals
    simp [lst, at0] at hle
    simp [awayBk, lst, setLst, addAt, at0]
    rw [awayR, if_pos (by simp [awOk, okBk3, lst, at0]; omega)]
    simp [awayBk, lst, setLst, addAt, at0]
    try omega
theorem aw_back {b : Bk} {k f s : Int} (h : (awayR b k f s).2 = true) : backR (awayR b k f s).1 k f s = (b, true) := by
  rw [awayR_true h]
  obtain ⟨a0, a1, a2, n0, n1, n2, l, ⟨rfl, ho⟩, hk, hf, hs, hle⟩ := awayR3 b k f s h
  clear h
  rcases hk with rfl | rfl <;> rcases hf with rfl | rfl | rfl
  all_goals
    simp [lst, at0] at hle
    simp [awayBk, lst, setLst, addAt, at0]
    rw [backR, if_pos (by simp [bkOk, okBk3, lst, at0]; omega)]
    simp [backBk, lst, setLst, addAt, at0]
    try omega
theorem moveR_snd (b : Bk) (k f t s : Int) : (moveR b k f t s).2 = mvOk b k f t s := by
  unfold moveR
  split
  · rename_i h; rw [h]
  · rename_i h; simp at h; rw [h]
theorem mv_two1 {b : Bk} {k f t s n : Int} (h : (moveR b k f t s).2 = true) (h0 : 0 ≤ n) : (moveR (moveR b k f t s).1 (3 - k) t f n).2 = (moveR b (3 - k) t f n).2 := by
  have hx := mv_ok h
  rw [moveR_true h] at hx ⊢
  obtain ⟨a0, a1, a2, n0, n1, n2, l, ⟨rfl, ho⟩, hk, hf, ht, hs, hle⟩ := moveR3 b k f t s h
  clear h
  rcases hk with rfl | rfl <;> rcases hf with rfl | rfl | rfl <;> rcases ht with rfl | rfl | rfl
  all_goals
    simp [lst, at0] at hle
    simp [moveBk, lst, setLst, addAt, at0] at hx ⊢
    rw [okBk3] at hx
    have hx := of_decide_eq_true hx
    rw [moveR_snd, moveR_snd, Bool.eq_iff_iff]
    simp [mvOk, okBk3, lst, at0]
    try omega
theorem mv_two2 {b : Bk} {k f t s n : Int} (h : (moveR b k f t s).2 = true) (h0 : 0 ≤ n) (h2 : (moveR b (3 - k) t f n).2 = true) : moveR (moveR b (3 - k) t f n).1 k f t s = ((moveR (moveR b k f t s).1 (3 - k) t f n).1, true) := by
  have e1 := mv_two1 (n := n) h h0
  rw [h2] at e1
  have hx := mv_ok e1
  rw [moveR_true e1] at hx ⊢
  rw [moveR_true h2]
  have hz := mv_ok h2
  rw [moveR_true h2] at hz
  rw [moveR_true h] at hx ⊢
  clear e1 h2
  obtain ⟨a0, a1, a2, n0, n1, n2, l, ⟨rfl, ho⟩, hk, hf, ht, hs, hle⟩ := moveR3 b k f t s h
  clear h
  rcases hk with rfl | rfl <;> rcases hf with rfl | rfl | rfl <;> rcases ht with rfl | rfl | rfl
  all_goals
    simp [lst, at0] at hle
    simp [moveBk, lst, setLst, addAt, at0] at hx hz ⊢
    rw [moveR, if_pos (by rw [okBk3] at hx hz; have hx := of_decide_eq_true hx; have hz := of_decide_eq_true hz; simp [mvOk, okBk3, lst, at0]; omega)]
    simp [moveBk, lst, setLst, addAt, at0]
    try omega
end Go.Proofs.Ytnpggjlhdnbgoaa
