/- The program's and the reference's StateSettled and StateGot. -/
import Derived.Test.YtapdcgjccckjeaaStOk2
namespace Go.Proofs.Ytapdcgjccckjeaa
set_option maxRecDepth 100000
set_option linter.unusedVariables false
set_option linter.unusedSimpArgs false
open Go.RowKit
theorem okSt_len {s : St} (h : okSt s = true) : s.sent.length ≤ 8 ∧ s.live.length = s.sent.length ∧ s.back.length = s.sent.length ∧ s.got.length = 8 := by
  simp only [okSt, sentOk, gotOk, Bool.and_eq_true, decide_eq_true_eq, beq_iff_eq] at h
  exact ⟨h.1.2.1.1.1, h.1.2.1.1.2, h.1.2.1.2, h.2.1⟩
theorem okSt_got {s : St} (h : okSt s = true) (k : Nat) (hk : k < s.got.length) : 0 ≤ s.got[k] ∧ s.got[k] ≤ 2 := by
  simp only [okSt, gotOk, Bool.and_eq_true, List.all_eq_true] at h
  exact of_decide_eq_true (h.2.2 _ (List.getElem_mem hk))
def settled (s : St) (n : Int) : Int := if okSt s = true ∧ 1 ≤ n ∧ n ≤ s.sent.length then (if s.live.getD (n - 1).toNat false = true then 1 else if s.back.getD (n - 1).toNat false = true then 3 else 2) else 0
def gotV (s : St) (n : Int) : Int := if okSt s = true ∧ 1 ≤ n ∧ n ≤ 8 then s.got.getD (n - 1).toNat 0 else 0
theorem sStateOk_r (w : World) (s : St) (c0 : List Value) (h1 : tSt.rd w s c0) {r : Bool} (h : okSt s = r) : Calls Try.prog 88 #[.agg c0.toArray] w (Ret (.bool r) w) := h ▸ sStateOk_c w s c0 h1
theorem StateOk_r (w : World) (s : St) (c0 : List Value) (h1 : tSt.rd w s c0) {r : Bool} (h : okSt s = r) : Calls Try.prog 68 #[.agg c0.toArray] w (Ret (.bool r) w) := h ▸ StateOk_c w s c0 h1
set_option maxHeartbeats 1600000 in
theorem StateSettled_c (w : World) (s : St) (c0 : List Value) (h1 : tSt.rd w s c0) (n : Int) : Calls Try.prog 152 #[.agg c0.toArray, .int .i64 n] w (Ret (.int .i64 (settled s n)) w) := by
  have Q := Lib.hid h1
  obtain ⟨v1, v2, v3, v4, rfl, h11, h12, h13, h14, h15⟩ := h1
  obtain ⟨A1, c1, rfl⟩ := h11.val
  obtain ⟨A2, c2, rfl⟩ := h12.val
  obtain ⟨A3, c3, rfl⟩ := h13.val
  obtain ⟨A4, c4, rfl⟩ := h14.val
  have FIN := Lib.hid (fun (W : World) (f : Fr w W) => tSt.fr f Q.out)
  have S := Sep.start w
  clear h15
  cases o1 : okSt s with
  | false =>
    have r := Lib.hid (show settled s n = 0 by unfold settled; rw [if_neg]; rintro ⟨h, _⟩; rw [o1] at h; cases h)
    have O1 := Lib.hid o1
    clear o1
    go_enter Try.func152, Try.ntmps152
    go_wp2_with (first
      | (go_at_call 68; (with_reducible refine (StateOk_r _ s _ (FIN.out _ S.frame) O1.out).mono ?_); rintro e w9 ⟨rfl, f9⟩; replace S := S.fr f9; clear f9)
      | ((with_reducible refine gate_box rfl ?_); refine aBx S ?_; clear S; intro g9 w9 z9 S) | ((with_reducible refine gate_load rfl ?_); first | refine aLd S ?_ | refine aPt S ?_ | refine aL1 S ?_))
    go_ret
    exact ⟨by rw [r.out]; rfl, S.frame⟩
  | true =>
  have LN := Lib.hid (okSt_len o1)
  by_cases hn : 1 ≤ n ∧ n ≤ s.sent.length
  case neg =>
    have r := Lib.hid (show settled s n = 0 by unfold settled; rw [if_neg]; rintro ⟨_, h⟩; exact hn h)
    have O1 := Lib.hid o1
    clear o1
    by_cases n1 : n < 1
    · have t1 : decide (n < 1) = true := decide_eq_true n1
      clear hn n1
      go_enter Try.func152, Try.ntmps152
      go_wp2_with (first
      | (go_at_call 68; (with_reducible refine (StateOk_r _ s _ (FIN.out _ S.frame) O1.out).mono ?_); rintro e w9 ⟨rfl, f9⟩; replace S := S.fr f9; clear f9)
      | ((with_reducible refine gate_box rfl ?_); refine aBx S ?_; clear S; intro g9 w9 z9 S) | ((with_reducible refine gate_load rfl ?_); first | refine aLd S ?_ | refine aPt S ?_ | refine aL1 S ?_))
      go_ret
      exact ⟨by rw [r.out]; rfl, S.frame⟩
    · have t1 : decide (n < 1) = false := decide_eq_false n1
      have t2 : decide ((s.sent.length : Int) < n) = true := decide_eq_true (by omega)
      clear hn n1
      go_enter Try.func152, Try.ntmps152
      go_wp2_with (first
      | (go_at_call 68; (with_reducible refine (StateOk_r _ s _ (FIN.out _ S.frame) O1.out).mono ?_); rintro e w9 ⟨rfl, f9⟩; replace S := S.fr f9; clear f9)
      | ((with_reducible refine gate_box rfl ?_); refine aBx S ?_; clear S; intro g9 w9 z9 S) | ((with_reducible refine gate_load rfl ?_); first | refine aLd S ?_ | refine aPt S ?_ | refine aL1 S ?_))
      go_ret
      exact ⟨by rw [r.out]; rfl, S.frame⟩
  obtain ⟨k, rfl⟩ : ∃ k : Nat, n = (k : Int) + 1 := ⟨(n - 1).toNat, by omega⟩
  have hk : k < s.sent.length := by omega
  have k2 : k < s.live.length := by rw [LN.out.2.1]; exact hk
  have k3 : k < s.back.length := by rw [LN.out.2.2.1]; exact hk
  obtain ⟨ad2, rfl, g2⟩ := row_bool_at h12 k k2
  obtain ⟨ad3, rfl, g3⟩ := row_bool_at h13 k k3
  have hs : settled s ((k : Int) + 1) = if s.live[k]'k2 = true then 1 else if s.back[k]'k3 = true then 3 else 2 := by
    unfold settled
    rw [if_pos ⟨o1, by omega, by omega⟩, show ((k : Int) + 1 - 1).toNat = k by omega]
    simp [k2, k3]
  have e2 := LN.out.2.1
  have e3 := LN.out.2.2.1
  have m8 := LN.out.1
  obtain ⟨L, hL⟩ : ∃ L, s.sent.length = L := ⟨_, rfl⟩
  have FN := Lib.hid (fun (W : World) (f : Fr w W) => FIN.out W f)
  rw [e2, e3, hL] at FN ⊢
  generalize s.live[k]'k2 = l at *
  generalize s.back[k]'k3 = b at *
  have pw : IntKind.i64.wrap ((k : Int) + 1 - 1) = k := by rw [show (k : Int) + 1 - 1 = k by omega]; exact IntWalk.i64_in _ (by omega)
  have pw2 : IntKind.i64.wrap (k : Int) = k := IntWalk.i64_in _ (by omega)
  have HS := Lib.hid hs
  have G2 := Lib.hid g2
  have G3 := Lib.hid g3
  have O1 := Lib.hid o1
  have p1 : (k : Int) < L := by omega
  have t1 : decide ((k : Int) + 1 < 1) = false := decide_eq_false (by omega)
  have t2 : decide ((L : Int) < (k : Int) + 1) = false := decide_eq_false (by omega)
  have k4 : k < L := by omega
  clear hs g2 g3 o1 e2 e3 hn hk k2 k3 hL LN
  cases l with
  | true =>
    go_enter Try.func152, Try.ntmps152
    go_wp2_with (first
      | (go_at_call 68; (with_reducible refine (StateOk_r _ s _ (FN.out _ S.frame) O1.out).mono ?_); rintro e w9 ⟨rfl, f9⟩; replace S := S.fr f9; clear f9)
        | ((with_reducible refine gate_dst (N := 25) rfl ?_); refine wpList_rowint (by rfl) 4 _ rfl rfl (S.frame.cell G2.out) _ Try.underlying4 rfl ?_)
        | ((with_reducible refine gate_dst (N := 32) rfl ?_); refine wpList_rowint (by rfl) 4 _ rfl rfl (S.frame.cell G3.out) _ Try.underlying4 rfl ?_)
      | ((with_reducible refine gate_box rfl ?_); refine aBx S ?_; clear S; intro g9 w9 z9 S) | ((with_reducible refine gate_load rfl ?_); first | refine aLd S ?_ | refine aPt S ?_ | refine aL1 S ?_))
    go_ret
    exact ⟨by rw [HS.out]; rfl, S.frame⟩
  | false =>
    cases b with
    | true =>
      go_enter Try.func152, Try.ntmps152
      go_wp2_with (first
      | (go_at_call 68; (with_reducible refine (StateOk_r _ s _ (FN.out _ S.frame) O1.out).mono ?_); rintro e w9 ⟨rfl, f9⟩; replace S := S.fr f9; clear f9)
        | ((with_reducible refine gate_dst (N := 25) rfl ?_); refine wpList_rowint (by rfl) 4 _ rfl rfl (S.frame.cell G2.out) _ Try.underlying4 rfl ?_)
        | ((with_reducible refine gate_dst (N := 32) rfl ?_); refine wpList_rowint (by rfl) 4 _ rfl rfl (S.frame.cell G3.out) _ Try.underlying4 rfl ?_)
      | ((with_reducible refine gate_box rfl ?_); refine aBx S ?_; clear S; intro g9 w9 z9 S) | ((with_reducible refine gate_load rfl ?_); first | refine aLd S ?_ | refine aPt S ?_ | refine aL1 S ?_))
      go_ret
      exact ⟨by rw [HS.out]; rfl, S.frame⟩
    | false =>
      go_enter Try.func152, Try.ntmps152
      go_wp2_with (first
      | (go_at_call 68; (with_reducible refine (StateOk_r _ s _ (FN.out _ S.frame) O1.out).mono ?_); rintro e w9 ⟨rfl, f9⟩; replace S := S.fr f9; clear f9)
        | ((with_reducible refine gate_dst (N := 25) rfl ?_); refine wpList_rowint (by rfl) 4 _ rfl rfl (S.frame.cell G2.out) _ Try.underlying4 rfl ?_)
        | ((with_reducible refine gate_dst (N := 32) rfl ?_); refine wpList_rowint (by rfl) 4 _ rfl rfl (S.frame.cell G3.out) _ Try.underlying4 rfl ?_)
      | ((with_reducible refine gate_box rfl ?_); refine aBx S ?_; clear S; intro g9 w9 z9 S) | ((with_reducible refine gate_load rfl ?_); first | refine aLd S ?_ | refine aPt S ?_ | refine aL1 S ?_))
      go_ret
      exact ⟨by rw [HS.out]; rfl, S.frame⟩
set_option maxHeartbeats 1600000 in
theorem fateAt_c (w : World) (s : St) (c0 : List Value) (h1 : tSt.rd w s c0) (k : Nat) (hk : k < s.got.length) (h8 : s.got.length = 8) : Calls Try.prog 153 #[.agg c0.toArray, .int .i64 ((k : Int) + 1)] w (Ret (fateV s.got[k]) w) := by
  obtain ⟨v1, v2, v3, v4, rfl, h11, h12, h13, h14, h15⟩ := h1
  obtain ⟨A4, c4, rfl⟩ := h14.val
  obtain ⟨ad4, rfl, g4⟩ := row_int_at h14 k hk
  have S := Sep.start w
  rw [h8]
  have k8 : k < 8 := by omega
  have pw : IntKind.i64.wrap ((k : Int) + 1 - 1) = k := by rw [show (k : Int) + 1 - 1 = k by omega]; exact IntWalk.i64_in _ (by omega)
  have pw2 : IntKind.i64.wrap (k : Int) = k := IntWalk.i64_in _ (by omega)
  have p1 : (k : Int) < 8 := by omega
  have G4 := Lib.hid g4
  clear g4 h11 h12 h13 h14 h15
  go_enter Try.func153, Try.ntmps153
  go_wp2_with (first
    | ((with_reducible refine gate_dst (N := 13) rfl ?_); refine wpList_rowint (by rfl) 3 _ rfl rfl (S.frame.cell G4.out) _ Try.underlying3 rfl ?_)
    | (go_at_call 146; (with_reducible refine (fateOf_c _ _).mono ?_); rintro e w9 ⟨rfl, rfl⟩)
    | ((with_reducible refine gate_box rfl ?_); refine aBx S ?_; clear S; intro g9 w9 z9 S) | ((with_reducible refine gate_load rfl ?_); first | refine aLd S ?_ | refine aPt S ?_ | refine aL1 S ?_))
  go_ret
  exact ⟨rfl, S.frame⟩
set_option maxHeartbeats 1600000 in
theorem StateGot_c (w : World) (s : St) (c0 : List Value) (h1 : tSt.rd w s c0) (n : Int) : Calls Try.prog 139 #[.agg c0.toArray, .int .i64 n] w (Ret (.int .i64 (gotV s n)) w) := by
  have Q := Lib.hid h1
  obtain ⟨v1, v2, v3, v4, rfl, h11, h12, h13, h14, h15⟩ := h1
  obtain ⟨A4, c4, rfl⟩ := h14.val
  have FIN := Lib.hid (fun (W : World) (f : Fr w W) => tSt.fr f Q.out)
  have S := Sep.start w
  clear h11 h12 h13 h15
  by_cases hn : 1 ≤ n ∧ n ≤ 8
  case neg =>
    have r := Lib.hid (show gotV s n = 0 by unfold gotV; rw [if_neg]; rintro ⟨_, h⟩; exact hn h)
    cases o1 : okSt s with
    | false =>
      have O1 := Lib.hid o1
      clear o1
      by_cases n1 : n < 1
      · have t1 : decide (n < 1) = true := decide_eq_true n1
        clear hn n1
        go_enter Try.func139, Try.ntmps139
        go_wp2_with (first
      | (go_at_call 68; (with_reducible refine (StateOk_r _ s _ (FIN.out _ S.frame) O1.out).mono ?_); rintro e w9 ⟨rfl, f9⟩; replace S := S.fr f9; clear f9)
      | ((with_reducible refine gate_box rfl ?_); refine aBx S ?_; clear S; intro g9 w9 z9 S) | ((with_reducible refine gate_load rfl ?_); first | refine aLd S ?_ | refine aPt S ?_ | refine aL1 S ?_))
        go_ret
        exact ⟨by rw [r.out]; rfl, S.frame⟩
      · have t1 : decide (n < 1) = false := decide_eq_false n1
        have t2 : decide (8 < n) = true := decide_eq_true (by omega)
        clear hn n1
        go_enter Try.func139, Try.ntmps139
        go_wp2_with (first
      | (go_at_call 68; (with_reducible refine (StateOk_r _ s _ (FIN.out _ S.frame) O1.out).mono ?_); rintro e w9 ⟨rfl, f9⟩; replace S := S.fr f9; clear f9)
      | ((with_reducible refine gate_box rfl ?_); refine aBx S ?_; clear S; intro g9 w9 z9 S) | ((with_reducible refine gate_load rfl ?_); first | refine aLd S ?_ | refine aPt S ?_ | refine aL1 S ?_))
        go_ret
        exact ⟨by rw [r.out]; rfl, S.frame⟩
    | true =>
      have O1 := Lib.hid o1
      clear o1
      by_cases n1 : n < 1
      · have t1 : decide (n < 1) = true := decide_eq_true n1
        clear hn n1
        go_enter Try.func139, Try.ntmps139
        go_wp2_with (first
      | (go_at_call 68; (with_reducible refine (StateOk_r _ s _ (FIN.out _ S.frame) O1.out).mono ?_); rintro e w9 ⟨rfl, f9⟩; replace S := S.fr f9; clear f9)
      | ((with_reducible refine gate_box rfl ?_); refine aBx S ?_; clear S; intro g9 w9 z9 S) | ((with_reducible refine gate_load rfl ?_); first | refine aLd S ?_ | refine aPt S ?_ | refine aL1 S ?_))
        go_ret
        exact ⟨by rw [r.out]; rfl, S.frame⟩
      · have t1 : decide (n < 1) = false := decide_eq_false n1
        have t2 : decide (8 < n) = true := decide_eq_true (by omega)
        clear hn n1
        go_enter Try.func139, Try.ntmps139
        go_wp2_with (first
      | (go_at_call 68; (with_reducible refine (StateOk_r _ s _ (FIN.out _ S.frame) O1.out).mono ?_); rintro e w9 ⟨rfl, f9⟩; replace S := S.fr f9; clear f9)
      | ((with_reducible refine gate_box rfl ?_); refine aBx S ?_; clear S; intro g9 w9 z9 S) | ((with_reducible refine gate_load rfl ?_); first | refine aLd S ?_ | refine aPt S ?_ | refine aL1 S ?_))
        go_ret
        exact ⟨by rw [r.out]; rfl, S.frame⟩
  obtain ⟨k, rfl⟩ : ∃ k : Nat, n = (k : Int) + 1 := ⟨(n - 1).toNat, by omega⟩
  have t1 : decide (((k : Int) + 1) < 1) = false := decide_eq_false (by omega)
  have t2 : decide (8 < ((k : Int) + 1)) = false := decide_eq_false (by omega)
  cases o1 : okSt s with
  | false =>
    have r := Lib.hid (show gotV s ((k : Int) + 1) = 0 by unfold gotV; rw [if_neg]; rintro ⟨h, _⟩; rw [o1] at h; cases h)
    have O1 := Lib.hid o1
    clear o1 hn
    go_enter Try.func139, Try.ntmps139
    go_wp2_with (first
      | (go_at_call 68; (with_reducible refine (StateOk_r _ s _ (FIN.out _ S.frame) O1.out).mono ?_); rintro e w9 ⟨rfl, f9⟩; replace S := S.fr f9; clear f9)
      | ((with_reducible refine gate_box rfl ?_); refine aBx S ?_; clear S; intro g9 w9 z9 S) | ((with_reducible refine gate_load rfl ?_); first | refine aLd S ?_ | refine aPt S ?_ | refine aL1 S ?_))
    go_ret
    exact ⟨by rw [r.out]; rfl, S.frame⟩
  | true =>
    have h8 := (okSt_len o1).2.2.2
    have hk : k < s.got.length := by omega
    have HK := Lib.hid hk
    have gk := okSt_got o1 k HK.out
    have r := Lib.hid (show gotV s ((k : Int) + 1) = s.got[k]'HK.out by unfold gotV; rw [if_pos ⟨o1, by omega, by omega⟩, show ((k : Int) + 1 - 1).toNat = k by omega]; simp [hk])
    have G3 := Lib.hid (show s.got[k]'HK.out = 0 ∨ s.got[k]'HK.out = 1 ∨ s.got[k]'HK.out = 2 by omega)
    have O1 := Lib.hid o1
    have H8 := Lib.hid h8
    have k8 : k < 8 := by omega
    have pw : IntKind.i64.wrap ((k : Int) + 1 - 1) = k := by rw [show (k : Int) + 1 - 1 = k by omega]; exact IntWalk.i64_in _ (by omega)
    have pw2 : IntKind.i64.wrap (k : Int) = k := IntWalk.i64_in _ (by omega)
    have p1 : (k : Int) < 8 := by omega
    clear o1 hn hk h8 gk h14
    go_enter Try.func139, Try.ntmps139
    go_wp2_with (first
      | (go_at_call 68; (with_reducible refine (StateOk_r _ s _ (FIN.out _ S.frame) O1.out).mono ?_); rintro e w9 ⟨rfl, f9⟩; replace S := S.fr f9; clear f9)
      | (go_at_call 153; (with_reducible refine (fateAt_c _ s _ (FIN.out _ S.frame) k HK.out H8.out).mono ?_); rintro e w9 ⟨rfl, f9⟩; replace S := S.fr f9; clear f9)
      | (go_at_call 154; (with_reducible refine (fateEntry_c _ (s.got[k]'HK.out) G3.out).mono ?_); rintro e w9 ⟨rfl, rfl⟩)
      | ((with_reducible refine gate_box rfl ?_); refine aBx S ?_; clear S; intro g9 w9 z9 S) | ((with_reducible refine gate_load rfl ?_); first | refine aLd S ?_ | refine aPt S ?_ | refine aL1 S ?_))
    go_ret
    exact ⟨by rw [r.out]; rfl, S.frame⟩
end Go.Proofs.Ytapdcgjccckjeaa
