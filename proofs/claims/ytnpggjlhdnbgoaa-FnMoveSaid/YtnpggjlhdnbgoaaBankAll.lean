/- The bank at the beginning, and the totals of a bank: what the program's BankNew, BankAll and the reference's come to. -/
import Derived.Test.YtnpggjlhdnbgoaaBankOk
import Derived.RegionTactic
namespace Go.Proofs.Ytnpggjlhdnbgoaa
set_option linter.unusedVariables false
set_option linter.unusedSimpArgs false
open Go.RowKit

/-- Totals. -/
def allBk (b : Bk) : Int × Int := if okBk b = true then (b.own.sum + b.locked, b.notes.sum) else (-1, -1)
theorem okBk_parts {b : Bk} (h : okBk b = true) : okL b.own = true ∧ okL b.notes = true ∧ 0 ≤ b.locked ∧ b.own.sum + b.locked = 30 ∧ b.notes.sum ≤ 30 := by
  simp only [okBk, Bool.and_eq_true, decide_eq_true_eq] at h
  exact ⟨h.1.1.1.1, h.1.1.1.2, h.1.1.2, h.1.2, h.2⟩
/-- Two numbers. -/
def Ret2 (a b : Int) (w : World) : Ending → World → Prop := fun e w' => e = .returned (.tuple #[.int .i64 a, .int .i64 b]) ∧ Fr w w'
theorem ret_int2 {a b c d : Int} (h : a = c) (k : b = d) : Ending.returned (.tuple #[.int .i64 a, .int .i64 b]) = .returned (.tuple #[.int .i64 c, .int .i64 d]) := by rw [h, k]

set_option maxHeartbeats 800000 in
theorem BankAll_c (w : World) (b : Bk) (c1 : List Value) (h1 : tBk.rd w b c1) : Calls Try.prog 28 #[.agg c1.toArray] w (Ret2 (allBk b).1 (allBk b).2 w) := by
  have hl := tBk.len h1
  have f := Fr.refl w
  cases o : okBk b with
  | false =>
    have e := Lib.hid (show allBk b = (-1, -1) by unfold allBk; rw [o]; rfl)
    have O := Lib.hid o
    clear o
    go_enter Try.func28, Try.ntmps28
    go_wp2_with (first
      | ((with_reducible refine gate_dst (N := 1) rfl ?_); refine wpList_box rfl _ _ rfl c1.toArray rfl ?_; intro g_k1 w9 hg_k1 k1 f9; have z9 := f9.size; replace f := f.trans f9; (try (replace k1 := k1.fr f9; (try clear r_k1); have r_k1 := k1.cells)))
      | ((with_reducible refine gate_dst (N := 8) rfl ?_); refine wpList_bget k1 rfl _ _ rfl rfl _ Try.underlying24 rfl size24 (size_toArray hl) ?_)
      | (go_at_call 26; (with_reducible refine (BankOk_c _ b c1 (h1.fr f)).mono ?_); rintro e w9 ⟨rfl, f9⟩; rw [O.out]; have z9 := f9.size; replace f := f.trans f9; (try (replace k1 := k1.fr f9; (try clear r_k1); have r_k1 := k1.cells))))
    go_ret2
    exact ⟨ret_int2 (by rw [e.out]) (by rw [e.out]), f⟩
  | true =>
    obtain ⟨p1, p2, p3, p4, p5⟩ := okBk_parts o
    have e := Lib.hid (show allBk b = (b.own.sum + b.locked, b.notes.sum) by unfold allBk; rw [o]; rfl)
    have t1 := Lib.hid (totL_yes p1)
    have t2 := Lib.hid (totL_yes p2)
    have O := Lib.hid o
    have P4 := Lib.hid p4
    have q4 : b.own.sum + b.locked ≤ 30 := by omega
    have q5 : 0 ≤ b.own.sum + b.locked := by omega
    clear o p4
    clear hl
    obtain ⟨v1, v2, rfl, h11, h12, h13⟩ := id h1
    go_enter Try.func28, Try.ntmps28
    go_wp2_with (first
      | ((with_reducible refine gate_dst (N := 1) rfl ?_); refine wpList_box rfl _ _ rfl #[v1, v2, .int .i64 b.locked] rfl ?_; intro g_k1 w9 hg_k1 k1 f9; have zf_k1 := f.size; have hl_k1 := k1.lt; have z9 := f9.size; replace f := f.trans f9; (try clear r_k1); have r_k1 := k1.cells)
      | ((with_reducible refine gate_dst (N := 8) rfl ?_); refine wpList_bload k1 rfl _ _ rfl 0 3 rfl _ Try.underlying24 rfl size24 (by simp) #[v1, v2, .int .i64 b.locked] rfl ?_)
      | (go_at_call 26; (with_reducible refine (BankOk_c _ b [v1, v2, .int .i64 b.locked] (h1.fr f)).mono ?_); rintro e w9 ⟨rfl, f9⟩; rw [O.out]; have z9 := f9.size; replace f := f.trans f9; (try (replace k1 := k1.fr f9; (try clear r_k1); have r_k1 := k1.cells)))
      | (go_at_call 50; (with_reducible refine (amountTotal_c _ v1 b.own (h11.fr f)).mono ?_); rintro e w9 ⟨rfl, rfl⟩; rw [t1.out])
      | (go_at_call 50; (with_reducible refine (amountTotal_c _ v2 b.notes (h12.fr f)).mono ?_); rintro e w9 ⟨rfl, rfl⟩; rw [t2.out]))
    go_ret2
    exact ⟨ret_int2 (by rw [e.out]) (by rw [e.out]), f⟩

set_option maxHeartbeats 800000 in
theorem sBankAll_c (w : World) (b : Bk) (c1 : List Value) (h1 : tBk.rd w b c1) : Calls Try.prog 27 #[.agg c1.toArray] w (Ret2 (allBk b).1 (allBk b).2 w) := by
  have hl := tBk.len h1
  have f := Fr.refl w
  cases o : okBk b with
  | false =>
    have e := Lib.hid (show allBk b = (-1, -1) by unfold allBk; rw [o]; rfl)
    have O := Lib.hid o
    clear o
    go_enter Try.func27, Try.ntmps27
    go_wp2_with (first
      | ((with_reducible refine gate_dst (N := 1) rfl ?_); refine wpList_box rfl _ _ rfl c1.toArray rfl ?_; intro g_k1 w9 hg_k1 k1 f9; have z9 := f9.size; replace f := f.trans f9; (try (replace k1 := k1.fr f9; (try clear r_k1); have r_k1 := k1.cells)))
      | ((with_reducible refine gate_dst (N := 4) rfl ?_); refine wpList_bget k1 rfl _ _ rfl rfl _ Try.underlying24 rfl size24 (size_toArray hl) ?_)
      | (go_at_call 24; (with_reducible refine (sBankOk_c _ b c1 (h1.fr f)).mono ?_); rintro e w9 ⟨rfl, f9⟩; rw [O.out]; have z9 := f9.size; replace f := f.trans f9; (try (replace k1 := k1.fr f9; (try clear r_k1); have r_k1 := k1.cells))))
    go_ret2
    exact ⟨ret_int2 (by rw [e.out]) (by rw [e.out]), f⟩
  | true =>
    obtain ⟨p1, p2, p3, p4, p5⟩ := okBk_parts o
    have e := Lib.hid (show allBk b = (b.own.sum + b.locked, b.notes.sum) by unfold allBk; rw [o]; rfl)
    have O := Lib.hid o
    have hwr : IntKind.i64.wrap (b.own.sum + b.locked) = b.own.sum + b.locked := IntWalk.i64_in _ (by omega)
    clear o p4
    clear hl
    obtain ⟨v1, v2, rfl, h11, h12, h13⟩ := id h1
    go_enter Try.func27, Try.ntmps27
    go_wp2_with (first
      | ((with_reducible refine gate_dst (N := 1) rfl ?_); refine wpList_box rfl _ _ rfl #[v1, v2, .int .i64 b.locked] rfl ?_; intro g_k1 w9 hg_k1 k1 f9; have zf_k1 := f.size; have hl_k1 := k1.lt; have z9 := f9.size; replace f := f.trans f9; (try clear r_k1); have r_k1 := k1.cells)
      | ((with_reducible refine gate_dst (N := 4) rfl ?_); refine wpList_bload k1 rfl _ _ rfl 0 3 rfl _ Try.underlying24 rfl size24 (by simp) #[v1, v2, .int .i64 b.locked] rfl ?_)
      | (go_at_call 24; (with_reducible refine (sBankOk_c _ b [v1, v2, .int .i64 b.locked] (h1.fr f)).mono ?_); rintro e w9 ⟨rfl, f9⟩; rw [O.out]; have z9 := f9.size; replace f := f.trans f9; (try (replace k1 := k1.fr f9; (try clear r_k1); have r_k1 := k1.cells))))
    go_quiet ((first | (go_at_call 48; with_reducible exact quiet_eq (l1All_c _ v1 b.own (h11.fr (f.drewN _)) p1)) | (go_at_call 48; with_reducible exact quiet_eq (l1All_c _ v2 b.notes (h12.fr (f.drewN _)) p2))))
    go_wp2
    go_ret2
    exact ⟨ret_int2 (by rw [e.out]) (by rw [e.out]), f.drewN _⟩
end Go.Proofs.Ytnpggjlhdnbgoaa
