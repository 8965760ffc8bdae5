/- Plain laws of banks: what a move, a taking away, a giving back turn, and what they leave. -/
import Derived.Test.YtnpggjlhdnbgoaaLw
namespace Go.Proofs.Ytnpggjlhdnbgoaa
set_option linter.unusedVariables false
set_option linter.unusedSimpArgs false
theorem mv_bad {b : Bk} {k f t s : Int} (h : ¬ (okBk b = true ∧ (1 ≤ k ∧ k ≤ 2) ∧ (1 ≤ f ∧ f ≤ 3))) : (moveR b k f t s).2 = false := by
  cases e : (moveR b k f t s).2 with
  | false => rfl
  | true =>
    obtain ⟨a0, a1, a2, n0, n1, n2, l, ⟨rfl, ho⟩, hk, hf, _⟩ := moveR3 b k f t s e
    exact absurd ⟨by rw [okBk3]; exact decide_eq_true (by omega), by omega, by omega⟩ h
theorem mv_few {b : Bk} {k f t s : Int} (ho : okBk b = true) (hk : 1 ≤ k ∧ k ≤ 2) (hf : 1 ≤ f ∧ f ≤ 3) (ht : 1 ≤ t ∧ t ≤ 3) (hs : 0 ≤ s) (h : (moveR b k f t s).2 = false) : hasBk b k f < s := by
  rw [moveR_snd, mvOk_eq ho hk hf ht hs] at h
  have h := of_decide_eq_false h
  obtain ⟨a0, a1, a2, n0, n1, n2, l, ⟨rfl, hb⟩⟩ := ok3 ho
  rw [hasBk, if_pos ⟨hf.1, hf.2, rfl, rfl⟩]
  omega
theorem mv_facts {b : Bk} {k f t s : Int} (h : (moveR b k f t s).2 = true) (hne : f ≠ t) : hasBk (moveR b k f t s).1 k f = hasBk b k f - s ∧ hasBk (moveR b k f t s).1 k t = hasBk b k t + s ∧ (moveR b k f t s).1.locked = b.locked ∧ hasBk (moveR b k f t s).1 (3 - k) f = hasBk b (3 - k) f ∧
    (0 ≤ hasBk b k f ∧ hasBk b k f ≤ 30) ∧ (0 ≤ hasBk b k t ∧ hasBk b k t ≤ 30) ∧ 0 ≤ s ∧ s ≤ 30 := by
  rw [moveR_true h]
  obtain ⟨a0, a1, a2, n0, n1, n2, l, ⟨rfl, ho⟩, hk, hf, ht, hs, hle⟩ := moveR3 b k f t s h
  clear h
  rcases hk with rfl | rfl <;> rcases hf with rfl | rfl | rfl <;> rcases ht with rfl | rfl | rfl
  all_goals
    first
    | exact absurd rfl hne
    | (simp [lst, at0] at hle
       simp [hasBk, moveBk, lst, setLst, addAt, at0]
       omega)
theorem mv_sums {b : Bk} {k f t s : Int} (h : (moveR b k f t s).2 = true) : b.own.sum + b.locked = 30 ∧ (moveR b k f t s).1.own.sum + (moveR b k f t s).1.locked = 30 ∧ (moveR b k f t s).1.notes.sum = b.notes.sum := by
  rw [moveR_true h]
  obtain ⟨a0, a1, a2, n0, n1, n2, l, ⟨rfl, ho⟩, hk, hf, ht, hs, hle⟩ := moveR3 b k f t s h
  clear h
  rcases hk with rfl | rfl <;> rcases hf with rfl | rfl | rfl <;> rcases ht with rfl | rfl | rfl
  all_goals
    simp [lst, at0] at hle
    simp [moveBk, lst, setLst, addAt, at0]
    omega
theorem mv_same {b : Bk} {k f s : Int} (h : (moveR b k f f s).2 = true) : moveR b k f f s = (b, true) := by
  rw [moveR_true h]
  obtain ⟨a0, a1, a2, n0, n1, n2, l, ⟨rfl, ho⟩, hk, hf, ht, hs, hle⟩ := moveR3 b k f f s h
  clear h
  rcases hk with rfl | rfl <;> rcases hf with rfl | rfl | rfl
  all_goals
    simp [lst, at0] at hle
    simp [moveBk, lst, setLst, addAt, at0]
    try omega
theorem awayR_snd (b : Bk) (k f s : Int) : (awayR b k f s).2 = awOk b k f s := by
  unfold awayR
  split
  · rename_i h; rw [h]
  · rename_i h; simp at h; rw [h]
theorem aw_bad {b : Bk} {k f s : Int} (h : ¬ (okBk b = true ∧ (1 ≤ k ∧ k ≤ 2) ∧ (1 ≤ f ∧ f ≤ 3))) : (awayR b k f s).2 = false := by
  cases e : (awayR b k f s).2 with
  | false => rfl
  | true =>
    obtain ⟨a0, a1, a2, n0, n1, n2, l, ⟨rfl, ho⟩, hk, hf, _⟩ := awayR3 b k f s e
    exact absurd ⟨by rw [okBk3]; exact decide_eq_true (by omega), by omega, by omega⟩ h
theorem aw_few {b : Bk} {k f s : Int} (ho : okBk b = true) (hk : 1 ≤ k ∧ k ≤ 2) (hf : 1 ≤ f ∧ f ≤ 3) (hs : 0 ≤ s) (h : (awayR b k f s).2 = false) : hasBk b k f < s := by
  rw [awayR_snd, awOk_eq ho hk hf hs] at h
  have h := of_decide_eq_false h
  obtain ⟨a0, a1, a2, n0, n1, n2, l, ⟨rfl, hb⟩⟩ := ok3 ho
  rw [hasBk, if_pos ⟨hf.1, hf.2, rfl, rfl⟩]
  omega
theorem aw_facts {b : Bk} {k f s : Int} (h : (awayR b k f s).2 = true) : okBk b = true ∧ okBk (awayR b k f s).1 = true ∧ hasBk (awayR b k f s).1 k f = hasBk b k f - s ∧ (0 ≤ hasBk b k f ∧ hasBk b k f ≤ 30) ∧ (0 ≤ s ∧ s ≤ 30) ∧
    (k = 1 → (awayR b k f s).1.locked = b.locked + s ∧ (awayR b k f s).1.notes = b.notes) ∧ (k = 2 → (awayR b k f s).1.locked = b.locked ∧ (awayR b k f s).1.notes.sum = b.notes.sum - s ∧ (awayR b k f s).1.own = b.own) := by
  rw [awayR_true h]
  obtain ⟨a0, a1, a2, n0, n1, n2, l, ⟨rfl, ho⟩, hk, hf, hs, hle⟩ := awayR3 b k f s h
  clear h
  rcases hk with rfl | rfl <;> rcases hf with rfl | rfl | rfl
  all_goals
    simp [lst, at0] at hle
    simp [hasBk, awayBk, lst, setLst, addAt, at0, okBk3]
    omega
theorem backR_snd (b : Bk) (k t s : Int) : (backR b k t s).2 = bkOk b k t s := by
  unfold backR
  split
  · rename_i h; rw [h]
  · rename_i h; simp at h; rw [h]
theorem bk_bad {b : Bk} {k t s : Int} (h : ¬ (okBk b = true ∧ (1 ≤ k ∧ k ≤ 2) ∧ (1 ≤ t ∧ t ≤ 3) ∧ 0 ≤ s)) : (backR b k t s).2 = false := by
  cases e : (backR b k t s).2 with
  | false => rfl
  | true =>
    obtain ⟨a0, a1, a2, n0, n1, n2, l, ⟨rfl, ho⟩, hk, hf, hs, _⟩ := backR3 b k t s e
    exact absurd ⟨by rw [okBk3]; exact decide_eq_true (by omega), by omega, by omega, hs⟩ h
theorem bk_iff {b : Bk} {k t s : Int} (ho : okBk b = true) (hk : 1 ≤ k ∧ k ≤ 2) (ht : 1 ≤ t ∧ t ≤ 3) (hs : 0 ≤ s ∧ s ≤ 30) : (backR b k t s).2 = (if k = 1 then decide (s ≤ b.locked) else decide (b.notes.sum + s ≤ 30)) := by
  rw [backR_snd, bkOk_eq ho hk ht hs]
theorem bk_facts {b : Bk} {k t s : Int} (h : (backR b k t s).2 = true) : okBk (backR b k t s).1 = true ∧ hasBk (backR b k t s).1 k t = hasBk b k t + s ∧ (0 ≤ hasBk b k t ∧ hasBk b k t ≤ 30) ∧ (0 ≤ s ∧ s ≤ 30) ∧ (k = 1 → (backR b k t s).1.locked = b.locked - s) := by
  rw [backR_true h]
  obtain ⟨a0, a1, a2, n0, n1, n2, l, ⟨rfl, ho⟩, hk, hf, hs, hs2, h1, h2⟩ := backR3 b k t s h
  clear h
  rcases hk with rfl | rfl <;> rcases hf with rfl | rfl | rfl
  all_goals
    simp at h1 h2
    simp [hasBk, backBk, lst, setLst, addAt, at0, okBk3]
    try omega
end Go.Proofs.Ytnpggjlhdnbgoaa
