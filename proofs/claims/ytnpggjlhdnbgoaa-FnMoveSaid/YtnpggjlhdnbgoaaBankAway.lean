/- Coins taken away, and given back: what comes out. -/
import Derived.Test.YtnpggjlhdnbgoaaBankMove
namespace Go.Proofs.Ytnpggjlhdnbgoaa
set_option linter.unusedVariables false
set_option linter.unusedSimpArgs false
open Go.RowKit
/-- May coins be taken away? -/
def awOk (b : Bk) (k fr s : Int) : Bool := okBk b && decide (1 ≤ k ∧ k ≤ 2) && decide (1 ≤ fr ∧ fr ≤ 3) && decide (0 ≤ s) && decide (s ≤ at0 (lst b k) (fr.toNat - 1))
def awayBk (b : Bk) (k fr s : Int) : Bk := if k = 1 then ⟨addAt b.own (fr.toNat - 1) (-s), b.notes, b.locked + s⟩ else ⟨b.own, addAt b.notes (fr.toNat - 1) (-s), b.locked⟩
def awayR (b : Bk) (k fr s : Int) : Bk × Bool := if awOk b k fr s = true then (awayBk b k fr s, true) else (nilBk, false)
theorem awOk_eq {b : Bk} {k fr s : Int} (h1 : okBk b = true) (h2 : 1 ≤ k ∧ k ≤ 2) (h3 : 1 ≤ fr ∧ fr ≤ 3) (h5 : 0 ≤ s) : awOk b k fr s = decide (s ≤ at0 (lst b k) (fr.toNat - 1)) := by
  rw [awOk, h1, decide_eq_true h2, decide_eq_true h3, decide_eq_true h5]; rfl
theorem awayR_yes {b : Bk} {k fr s : Int} (h1 : okBk b = true) (h2 : 1 ≤ k ∧ k ≤ 2) (h3 : 1 ≤ fr ∧ fr ≤ 3) (h5 : 0 ≤ s) (h6 : s ≤ at0 (lst b k) (fr.toNat - 1)) : awayR b k fr s = (awayBk b k fr s, true) := by
  rw [awayR, if_pos (by rw [awOk_eq h1 h2 h3 h5]; exact decide_eq_true h6)]
theorem awayR_no {b : Bk} {k fr s : Int} (h1 : okBk b = true) (h2 : 1 ≤ k ∧ k ≤ 2) (h3 : 1 ≤ fr ∧ fr ≤ 3) (h5 : 0 ≤ s) (h6 : ¬ s ≤ at0 (lst b k) (fr.toNat - 1)) : awayR b k fr s = (nilBk, false) := by
  rw [awayR, if_neg (by rw [awOk_eq h1 h2 h3 h5, decide_eq_false h6]; simp)]
theorem awayBk_len (b : Bk) (k fr s : Int) : (awayBk b k fr s).own.length = b.own.length ∧ (awayBk b k fr s).notes.length = b.notes.length := by
  unfold awayBk
  split <;> simp [addAt_len]
/-- May coins be given back? -/
def bkOk (b : Bk) (k ds s : Int) : Bool := okBk b && decide (1 ≤ k ∧ k ≤ 2) && decide (1 ≤ ds ∧ ds ≤ 3) && decide (0 ≤ s ∧ s ≤ 30) && (if k = 1 then decide (s ≤ b.locked) else decide (b.notes.sum + s ≤ 30))
def backBk (b : Bk) (k ds s : Int) : Bk := if k = 1 then ⟨addAt b.own (ds.toNat - 1) s, b.notes, b.locked - s⟩ else ⟨b.own, addAt b.notes (ds.toNat - 1) s, b.locked⟩
def backR (b : Bk) (k ds s : Int) : Bk × Bool := if bkOk b k ds s = true then (backBk b k ds s, true) else (nilBk, false)
theorem bkOk_eq {b : Bk} {k ds s : Int} (h1 : okBk b = true) (h2 : 1 ≤ k ∧ k ≤ 2) (h3 : 1 ≤ ds ∧ ds ≤ 3) (h5 : 0 ≤ s ∧ s ≤ 30) : bkOk b k ds s = (if k = 1 then decide (s ≤ b.locked) else decide (b.notes.sum + s ≤ 30)) := by
  rw [bkOk, h1, decide_eq_true h2, decide_eq_true h3, decide_eq_true h5]; rfl
theorem backBk_len (b : Bk) (k fr s : Int) : (backBk b k fr s).own.length = b.own.length ∧ (backBk b k fr s).notes.length = b.notes.length := by
  unfold backBk
  split <;> simp [addAt_len]
/-- A call that writes its own struct, and hands it back with a Bool. -/
def RetIn {α : Type} (d : Ty α) (x : α) (r : Bool) (F : List Nat) (w : World) : Ending → World → Prop := fun en w' => ∃ cs, en = .returned (.tuple #[.agg cs.toArray, .bool r]) ∧ d.own w' x cs F ∧ Chg F w w'
end Go.Proofs.Ytnpggjlhdnbgoaa
