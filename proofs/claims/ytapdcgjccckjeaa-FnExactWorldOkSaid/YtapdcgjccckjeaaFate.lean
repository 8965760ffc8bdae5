/- Fates: what the program's fateOf, fateEntry, stateGotOk, StateOk come to. -/
import Derived.Test.YtapdcgjccckjeaaStOk1
namespace Go.Proofs.Ytapdcgjccckjeaa
set_option maxRecDepth 100000
set_option linter.unusedVariables false
set_option linter.unusedSimpArgs false
open Go.RowKit
def fateV (n : Int) : Value := if n = 0 then .iface 173 (.agg #[]) else if n = 1 then .iface 174 (.agg #[]) else if n = 2 then .iface 175 (.agg #[]) else .nilIface
theorem fateOf_c (w : World) (n : Int) : Calls Try.prog 146 #[.int .i64 n] w fun e w' => e = .returned (.tuple #[fateV n, .bool (rng2 n)]) ∧ w = w' := by
  by_cases h0 : n = 0
  · subst h0
    go_enter Try.func146, Try.ntmps146
    go_wp2
    go_ret2
    exact ⟨by simp [fateV, rng2], rfl⟩
  by_cases h1 : n = 1
  · subst h1
    go_enter Try.func146, Try.ntmps146
    go_wp2
    go_ret2
    exact ⟨by simp [fateV, rng2], rfl⟩
  by_cases h2 : n = 2
  · subst h2
    go_enter Try.func146, Try.ntmps146
    go_wp2
    go_ret2
    exact ⟨by simp [fateV, rng2], rfl⟩
  have b0 : (n == 0) = false := by simpa using h0
  have b1 : (n == 1) = false := by simpa using h1
  have b2 : (n == 2) = false := by simpa using h2
  have r := Lib.hid (show fateV n = .nilIface ∧ rng2 n = false by simp [fateV, rng2, h0, h1, h2]; omega)
  clear h0 h1 h2
  go_enter Try.func146, Try.ntmps146
  go_wp2
  go_ret2
  exact ⟨by rw [r.out.1, r.out.2]; rfl, rfl⟩
theorem fateEntry_c (w : World) (n : Int) (hn : n = 0 ∨ n = 1 ∨ n = 2) : Calls Try.prog 154 #[fateV n] w fun e w' => e = .returned (.int .i64 n) ∧ w = w' := by
  have t11 : ∀ w, (Instr.typeAssert (.iface 174 (.agg #[])) 159 174 true).run Try.prog w = .ok (.tuple #[.agg #[], .bool true]) w := fun w => by kernel_rfl
  have t01 : ∀ w, (Instr.typeAssert (.iface 173 (.agg #[])) 159 174 true).run Try.prog w = .ok (.tuple #[.agg #[], .bool false]) w := fun w => by kernel_rfl
  have t21 : ∀ w, (Instr.typeAssert (.iface 175 (.agg #[])) 159 174 true).run Try.prog w = .ok (.tuple #[.agg #[], .bool false]) w := fun w => by kernel_rfl
  have t02 : ∀ w, (Instr.typeAssert (.iface 173 (.agg #[])) 159 175 true).run Try.prog w = .ok (.tuple #[.agg #[], .bool false]) w := fun w => by kernel_rfl
  have t22 : ∀ w, (Instr.typeAssert (.iface 175 (.agg #[])) 159 175 true).run Try.prog w = .ok (.tuple #[.agg #[], .bool true]) w := fun w => by kernel_rfl
  rcases hn with rfl | rfl | rfl
  · rw [show fateV 0 = .iface 173 (.agg #[]) from rfl]
    go_enter Try.func154, Try.ntmps154
    go_wp2
    go_ret
    exact ⟨rfl, rfl⟩
  · rw [show fateV 1 = .iface 174 (.agg #[]) from rfl]
    go_enter Try.func154, Try.ntmps154
    go_wp2
    go_ret
    exact ⟨rfl, rfl⟩
  · rw [show fateV 2 = .iface 175 (.agg #[]) from rfl]
    go_enter Try.func154, Try.ntmps154
    go_wp2
    go_ret
    exact ⟨rfl, rfl⟩
theorem fateOf_n (w : World) (n : Int) {r : Bool} (h : rng2 n = r) : Calls Try.prog 146 #[.int .i64 n] w fun e w' => e = .returned (.tuple #[fateV n, .bool r]) ∧ w = w' := h ▸ fateOf_c w n
set_option maxHeartbeats 1600000 in
theorem stateGotOk_c (w : World) (s : St) (c0 : List Value) (h1 : tSt.rd w s c0) : Calls Try.prog 122 #[.agg c0.toArray] w (Ret (.bool (gotOk s.got)) w) := by
  obtain ⟨v1, v2, v3, v4, rfl, h11, h12, h13, h14, h15⟩ := h1
  obtain ⟨A4, c4, rfl⟩ := h14.val
  have S := Sep.start w
  have m4 := h14.le
  clear h15
  by_cases e1 : s.got.length = 8
  case neg =>
    have r := Lib.hid (show gotOk s.got = false by simp [gotOk, e1])
    have t2 : ((s.got.length : Int) != 8) = true := by simp; omega
    have t2' : ((s.got.length : Int) == 8) = false := by simp; omega
    clear e1
    go_enter Try.func122, Try.ntmps122
    go_wp2_with (first | ((with_reducible refine gate_box rfl ?_); refine aBx S ?_; clear S; intro g9 w9 z9 S) | ((with_reducible refine gate_load rfl ?_); first | refine aLd S ?_ | refine aPt S ?_ | refine aL1 S ?_))
    go_ret
    exact ⟨by rw [r.out]; rfl, S.frame⟩
  have E1 := Lib.hid e1
  rw [e1]
  clear e1 m4
  go_enter Try.func122, Try.ntmps122
  go_wp2_with (first
    | ((with_reducible refine gate_dst (N := 1) rfl ?_); refine aBx S ?_; clear S; intro gS w9 z9 S)
    | ((with_reducible refine gate_box rfl ?_); refine aBx S ?_; clear S; intro g9 w9 z9 S) | ((with_reducible refine gate_load rfl ?_); first | refine aLd S ?_ | refine aPt S ?_ | refine aL1 S ?_))
  go_loopw [14] (fun i wr => ∃ k : Nat, k ≤ 8 ∧ i = .int .i64 k ∧ (s.got.take k).all rng2 = true ∧ Sep [] w [aBox gS 30 7 [.int .i64 s.way, .int .i64 s.vsn, .int .i64 s.want, v1, v2, v3, .slice A4 8 c4]] wr) (fun i _ => 8 - (intOf i).toNat)
  case atStart => exact ⟨0, Nat.zero_le _, rfl, rfl, S⟩
  case round =>
    clear S
    obtain ⟨k, hk, rfl, hall, S⟩ := hrel
    have HA := Lib.hid hall
    clear hall
    by_cases hlt : k < 8
    · have hin : k < s.got.length := by rw [E1.out]; exact hlt
      obtain ⟨ad1, rfl, g1⟩ := row_int_at h14 k hin
      have HIN := Lib.hid hin
      have G1 := Lib.hid g1
      clear g1
      have p1 : (k : Int) < 8 := by omega
      cases o1 : rng2 (s.got[k]'HIN.out) with
      | false =>
        have R := Lib.hid (gotOk_bad HIN.out o1)
        have O1 := Lib.hid o1
        clear o1
        go_wp2_with (first
          | ((with_reducible refine gate_dst (N := 17) rfl ?_); refine wpList_rowint (by rfl) 3 _ rfl rfl (S.frame.cell G1.out) _ Try.underlying3 rfl ?_)
          | (go_at_call 146; (with_reducible refine (fateOf_n _ _ O1.out).mono ?_); rintro e w9 ⟨rfl, rfl⟩)
          | ((with_reducible refine gate_box rfl ?_); refine aBx S ?_; clear S; intro g9 w9 z9 S) | ((with_reducible refine gate_load rfl ?_); first | refine aLd S ?_ | refine aPt S ?_ | refine aL1 S ?_))
        go_ret
        exact ⟨by rw [R.out]; rfl, S.frame⟩
      | true =>
        have R := Lib.hid (allr_succ HIN.out HA.out o1)
        have O1 := Lib.hid o1
        clear o1
        go_wp2_with (first
          | ((with_reducible refine gate_dst (N := 17) rfl ?_); refine wpList_rowint (by rfl) 3 _ rfl rfl (S.frame.cell G1.out) _ Try.underlying3 rfl ?_)
          | (go_at_call 146; (with_reducible refine (fateOf_n _ _ O1.out).mono ?_); rintro e w9 ⟨rfl, rfl⟩)
          | ((with_reducible refine gate_box rfl ?_); refine aBx S ?_; clear S; intro g9 w9 z9 S) | ((with_reducible refine gate_load rfl ?_); first | refine aLd S ?_ | refine aPt S ?_ | refine aL1 S ?_))
        go_roundw
        case rel => exact ⟨k + 1, by omega, by go_num, R.out, S⟩
        case measure => simp [intOf]; omega
    · obtain rfl : k = 8 := by omega
      have R := Lib.hid (show gotOk s.got = true by have h := HA.out; rw [List.take_of_length_le (by rw [E1.out]; omega)] at h; simp [gotOk, E1.out, h])
      go_wp2
      go_ret
      exact ⟨by rw [R.out]; rfl, S.frame⟩
theorem stateSentOk_r (w : World) (s : St) (c0 : List Value) (h1 : tSt.rd w s c0) {r : Bool} (h : sentOk s = r) : Calls Try.prog 121 #[.agg c0.toArray] w (Ret (.bool r) w) := h ▸ stateSentOk_c w s c0 h1
theorem stateGotOk_r (w : World) (s : St) (c0 : List Value) (h1 : tSt.rd w s c0) {r : Bool} (h : gotOk s.got = r) : Calls Try.prog 122 #[.agg c0.toArray] w (Ret (.bool r) w) := h ▸ stateGotOk_c w s c0 h1
set_option maxHeartbeats 1600000 in
theorem StateOk_c (w : World) (s : St) (c0 : List Value) (h1 : tSt.rd w s c0) : Calls Try.prog 68 #[.agg c0.toArray] w (Ret (.bool (okSt s)) w) := by
  obtain ⟨v1, v2, v3, v4, rfl, h11, h12, h13, h14, ⟨i1, i2⟩, ⟨i3, i4⟩, i5, i6⟩ := id h1
  have S := Sep.start w
  have Q := Lib.hid h1
  have r : okSt s = (decide (0 ≤ s.way ∧ s.way ≤ 4) && decide (1 ≤ s.vsn ∧ s.vsn ≤ 9) && wantOk s && sentOk s && gotOk s.got) := rfl
  have R := Lib.hid r
  clear h1 r h11 h12 h13 h14 i1 i2 i3 i4 i5 i6
  by_cases e1 : s.way < 0
  case pos =>
    have r := Lib.hid (show okSt s = false by rw [R.out, decide_eq_false (by omega)]; rfl)
    go_enter Try.func68, Try.ntmps68
    go_wp2_with (first | ((with_reducible refine gate_box rfl ?_); refine aBx S ?_; clear S; intro g9 w9 z9 S) | ((with_reducible refine gate_load rfl ?_); first | refine aLd S ?_ | refine aPt S ?_ | refine aL1 S ?_))
    go_ret
    exact ⟨by rw [r.out]; rfl, S.frame⟩
  by_cases e2 : 4 < s.way
  case pos =>
    have r := Lib.hid (show okSt s = false by rw [R.out, decide_eq_false (by omega)]; rfl)
    have t1 : decide (s.way < 0) = false := decide_eq_false (by omega)
    go_enter Try.func68, Try.ntmps68
    go_wp2_with (first | ((with_reducible refine gate_box rfl ?_); refine aBx S ?_; clear S; intro g9 w9 z9 S) | ((with_reducible refine gate_load rfl ?_); first | refine aLd S ?_ | refine aPt S ?_ | refine aL1 S ?_))
    go_ret
    exact ⟨by rw [r.out]; rfl, S.frame⟩
  by_cases e3 : s.vsn < 1
  case pos =>
    have r := Lib.hid (show okSt s = false by rw [R.out, decide_eq_false (p := 1 ≤ s.vsn ∧ s.vsn ≤ 9) (by omega)]; simp)
    have t1 : decide (s.way < 0) = false := decide_eq_false (by omega)
    have t2 : decide (4 < s.way) = false := decide_eq_false (by omega)
    go_enter Try.func68, Try.ntmps68
    go_wp2_with (first | ((with_reducible refine gate_box rfl ?_); refine aBx S ?_; clear S; intro g9 w9 z9 S) | ((with_reducible refine gate_load rfl ?_); first | refine aLd S ?_ | refine aPt S ?_ | refine aL1 S ?_))
    go_ret
    exact ⟨by rw [r.out]; rfl, S.frame⟩
  by_cases e4 : 9 < s.vsn
  case pos =>
    have r := Lib.hid (show okSt s = false by rw [R.out, decide_eq_false (p := 1 ≤ s.vsn ∧ s.vsn ≤ 9) (by omega)]; simp)
    have t1 : decide (s.way < 0) = false := decide_eq_false (by omega)
    have t2 : decide (4 < s.way) = false := decide_eq_false (by omega)
    have t3 : decide (s.vsn < 1) = false := decide_eq_false (by omega)
    go_enter Try.func68, Try.ntmps68
    go_wp2_with (first | ((with_reducible refine gate_box rfl ?_); refine aBx S ?_; clear S; intro g9 w9 z9 S) | ((with_reducible refine gate_load rfl ?_); first | refine aLd S ?_ | refine aPt S ?_ | refine aL1 S ?_))
    go_ret
    exact ⟨by rw [r.out]; rfl, S.frame⟩
  have t1 : decide (s.way < 0) = false := decide_eq_false (by omega)
  have t2 : decide (4 < s.way) = false := decide_eq_false (by omega)
  have t3 : decide (s.vsn < 1) = false := decide_eq_false (by omega)
  have t4 : decide (9 < s.vsn) = false := decide_eq_false (by omega)
  have R2 := Lib.hid (show okSt s = (wantOk s && sentOk s && gotOk s.got) by rw [R.out, decide_eq_true (p := 0 ≤ s.way ∧ s.way ≤ 4) (by omega), decide_eq_true (p := 1 ≤ s.vsn ∧ s.vsn ≤ 9) (by omega)]; rfl)
  have fin : ∀ W : World, Fr w W → tSt.rd W s [.int .i64 s.way, .int .i64 s.vsn, .int .i64 s.want, v1, v2, v3, v4] := fun W f => tSt.fr f Q.out
  have FIN := Lib.hid fin
  clear R fin
  by_cases ew : s.way = 4
  · have tw : (s.way == 4) = true := by simpa using ew
    by_cases e5 : s.want = s.vsn + 1
    case neg =>
      have r := Lib.hid (show okSt s = false by rw [R2.out]; simp [wantOk, ew, e5])
      have t5 : (s.want != s.vsn + 1) = true := by simpa using e5
      have t5' : (s.want == s.vsn + 1) = false := by simpa using e5
      clear ew e5
      go_enter Try.func68, Try.ntmps68
      go_wp2_with (first | ((with_reducible refine gate_box rfl ?_); refine aBx S ?_; clear S; intro g9 w9 z9 S) | ((with_reducible refine gate_load rfl ?_); first | refine aLd S ?_ | refine aPt S ?_ | refine aL1 S ?_))
      go_ret
      exact ⟨by rw [r.out]; rfl, S.frame⟩
    have t5 : (s.want != s.vsn + 1) = false := by simpa using e5
    by_cases e6 : s.want ≤ 9
    case neg =>
      have r := Lib.hid (show okSt s = false by rw [R2.out]; simp [wantOk, ew, e6])
      have t6 : decide (9 < s.want) = true := decide_eq_true (by omega)
      clear ew e5
      go_enter Try.func68, Try.ntmps68
      go_wp2_with (first | ((with_reducible refine gate_box rfl ?_); refine aBx S ?_; clear S; intro g9 w9 z9 S) | ((with_reducible refine gate_load rfl ?_); first | refine aLd S ?_ | refine aPt S ?_ | refine aL1 S ?_))
      go_ret
      exact ⟨by rw [r.out]; rfl, S.frame⟩
    have t6 : decide (9 < s.want) = false := decide_eq_false (by omega)
    have R3 := Lib.hid (show okSt s = (sentOk s && gotOk s.got) by rw [R2.out, show wantOk s = true by unfold wantOk; rw [if_pos ew, decide_eq_true e5, decide_eq_true e6]; rfl]; rfl)
    clear ew e5 e6 R2
    cases o1 : sentOk s with
    | false =>
      have O1 := Lib.hid o1
      clear o1
      go_enter Try.func68, Try.ntmps68
      go_wp2_with (first
        | (go_at_call 121; (with_reducible refine (stateSentOk_r _ s _ (FIN.out _ S.frame) O1.out).mono ?_); rintro e w9 ⟨rfl, f9⟩; replace S := S.fr f9; clear f9)
        | ((with_reducible refine gate_box rfl ?_); refine aBx S ?_; clear S; intro g9 w9 z9 S) | ((with_reducible refine gate_load rfl ?_); first | refine aLd S ?_ | refine aPt S ?_ | refine aL1 S ?_))
      go_ret
      exact ⟨by rw [R3.out, O1.out]; rfl, S.frame⟩
    | true =>
      have O1 := Lib.hid o1
      clear o1
      go_enter Try.func68, Try.ntmps68
      go_wp2_with (first
        | (go_at_call 121; (with_reducible refine (stateSentOk_r _ s _ (FIN.out _ S.frame) O1.out).mono ?_); rintro e w9 ⟨rfl, f9⟩; replace S := S.fr f9; clear f9)
        | (go_at_call 122; (with_reducible refine (stateGotOk_c _ s _ (FIN.out _ S.frame)).mono ?_); rintro e w9 ⟨rfl, f9⟩; replace S := S.fr f9; clear f9)
        | ((with_reducible refine gate_box rfl ?_); refine aBx S ?_; clear S; intro g9 w9 z9 S) | ((with_reducible refine gate_load rfl ?_); first | refine aLd S ?_ | refine aPt S ?_ | refine aL1 S ?_))
      go_ret
      exact ⟨by rw [R3.out, O1.out]; simp, S.frame⟩
  · have tw : (s.way == 4) = false := by simpa using ew
    by_cases e5 : s.want = 0
    case neg =>
      have r := Lib.hid (show okSt s = false by rw [R2.out]; simp [wantOk, ew, e5])
      have t5 : (s.want != 0) = true := by simpa using e5
      have t5' : (s.want == 0) = false := by simpa using e5
      clear ew e5
      go_enter Try.func68, Try.ntmps68
      go_wp2_with (first | ((with_reducible refine gate_box rfl ?_); refine aBx S ?_; clear S; intro g9 w9 z9 S) | ((with_reducible refine gate_load rfl ?_); first | refine aLd S ?_ | refine aPt S ?_ | refine aL1 S ?_))
      go_ret
      exact ⟨by rw [r.out]; rfl, S.frame⟩
    have t5 : (s.want != 0) = false := by simpa using e5
    have R3 := Lib.hid (show okSt s = (sentOk s && gotOk s.got) by rw [R2.out]; simp [wantOk, ew, e5])
    clear ew e5 R2
    cases o1 : sentOk s with
    | false =>
      have O1 := Lib.hid o1
      clear o1
      go_enter Try.func68, Try.ntmps68
      go_wp2_with (first
        | (go_at_call 121; (with_reducible refine (stateSentOk_r _ s _ (FIN.out _ S.frame) O1.out).mono ?_); rintro e w9 ⟨rfl, f9⟩; replace S := S.fr f9; clear f9)
        | ((with_reducible refine gate_box rfl ?_); refine aBx S ?_; clear S; intro g9 w9 z9 S) | ((with_reducible refine gate_load rfl ?_); first | refine aLd S ?_ | refine aPt S ?_ | refine aL1 S ?_))
      go_ret
      exact ⟨by rw [R3.out, O1.out]; rfl, S.frame⟩
    | true =>
      have O1 := Lib.hid o1
      clear o1
      go_enter Try.func68, Try.ntmps68
      go_wp2_with (first
        | (go_at_call 121; (with_reducible refine (stateSentOk_r _ s _ (FIN.out _ S.frame) O1.out).mono ?_); rintro e w9 ⟨rfl, f9⟩; replace S := S.fr f9; clear f9)
        | (go_at_call 122; (with_reducible refine (stateGotOk_c _ s _ (FIN.out _ S.frame)).mono ?_); rintro e w9 ⟨rfl, f9⟩; replace S := S.fr f9; clear f9)
        | ((with_reducible refine gate_box rfl ?_); refine aBx S ?_; clear S; intro g9 w9 z9 S) | ((with_reducible refine gate_load rfl ?_); first | refine aLd S ?_ | refine aPt S ?_ | refine aL1 S ?_))
      go_ret
      exact ⟨by rw [R3.out, O1.out]; simp, S.frame⟩
end Go.Proofs.Ytapdcgjccckjeaa
